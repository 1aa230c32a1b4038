import PyProof.Rows.All
import Wide.All
import OpenK.AllK
import Wide.FinOn
import Lean
import PySem.Challenge.RW_og0250_01
open PySem PySem.W PyProof.Rows PySem.Calls
set_option Elab.async false
set_option maxRecDepth 100000
set_option maxHeartbeats 8000000
namespace Mine
open_top hd for PySem.Challenge.rw_og0250_01
abbrev penObj (b : Addr) (k : Int) (t : Tok) (n : Nat) : Obj := W.listOf #[.ref b, .int k t] n

/-- what a call's site knows -/
structure Site (w : World) (p : Program) (loose : List Str) (mean : ExcName → Option Value) (mg mb : Str → Option Value) (dp un need : Nat) (cs : Scope) (outer : List Env) (A₀ : Around) (base h₀ : Heap) (L : Addr) (h : Heap) (m : Str → Option Value) (news : List (Addr × Obj)) : Prop where
  B : Below A₀ base outer h₀
  F : Fr h₀ L h m
  X : (hd.heap_39 w.params).In h₀
  N : News h₀ L h news
  T : Top p loose mean mg mb h₀
  hk : cs.kind = .function
  hd : dp + need < recursionLimit
  hu : un + 8 * need < cLine

/-- one entry taken out of a ledger -/
inductive Pull (x : Addr × Obj) : List (Addr × Obj) → List (Addr × Obj) → Prop
  | head {r} : Pull x (x :: r) r
  | tail {p r r'} : Pull x r r' → Pull x (p :: r) (p :: r')
theorem Pull.mem {x : Addr × Obj} : ∀ {l r : List (Addr × Obj)}, Pull x l r → ∀ q ∈ x :: r, q ∈ l
  | _, _, .head, _, h => h
  | _, _, .tail (p := p) k, q, h => by
    rcases List.mem_cons.mp h with rfl | h
    · exact List.mem_cons_of_mem _ (k.mem _ (List.mem_cons_self ..))
    · rcases List.mem_cons.mp h with rfl | h
      · exact List.mem_cons_self ..
      · exact List.mem_cons_of_mem _ (k.mem _ (List.mem_cons_of_mem _ h))

def optI : Option Int → Tok → Value
  | some i, t => .int i t
  | none, _ => .none

def hexv (o : Int) : Option Int := if 48 ≤ o ∧ o ≤ 57 then some (o - 48) else if 65 ≤ o ∧ o ≤ 70 then some (o - 55) else if 97 ≤ o ∧ o ≤ 102 then some (o - 87) else none
theorem hexv_lo {o v : Int} (h : hexv o = some v) : 0 ≤ v ∧ v < 16 := by
  unfold hexv at h
  split at h
  · cases h; omega
  · split at h
    · cases h; omega
    · split at h
      · cases h; omega
      · cases h

def figsFold : List Int → Int → Option Int
  | [], f => some f
  | o :: r, f => match hexv o with | none => none | some v => figsFold r (f * 16 + v)
def figs (l : List Int) : Option Int := if 1 ≤ l.length ∧ l.length ≤ 4 then figsFold l 0 else none

/-- all that stood stands -/
def Grow (h h' : Heap) : Prop := ∀ b o, h.get? b = some o → h'.get? b = some o
theorem News.sub {h₀ h : Heap} {L : Addr} {news led : List (Addr × Obj)} (N : News h₀ L h news) (hs : ∀ q ∈ led, q ∈ news) : News h₀ L h led := fun q hq => N q (hs q hq)
def KeptN (h₀ : Heap) (L : Addr) (h : Heap) (led : List (Addr × Obj)) : Prop := News h₀ L h led
theorem grow_led {h₀ H g h' : Heap} {L L' : Addr} {m' : Str → Option Value} {led nw : List (Addr × Obj)} (kG : GSub H g (led.map (·.1))) (kN : KeptN h₀ L H led) (F' : Fr g L' h' m') (N' : News g L' h' nw) (hs : ∀ q ∈ led, q ∈ nw) : Grow H h' := fun b o e => by
  by_cases hb : b ∈ led.map (·.1)
  · obtain ⟨q, hq, rfl⟩ := List.mem_map.mp hb
    have z := (kN q hq).1
    rw [e] at z
    rw [Option.some.inj z]
    exact (N' q (hs q hq)).1
  · exact F'.keep b o (kG b o e hb)
theorem grow_of {H g h' : Heap} {L' : Addr} {m' : Str → Option Value} (kG : GSub H g (([] : List (Addr × Obj)).map (·.1))) (F' : Fr g L' h' m') : Grow H h' :=
  fun b o e => F'.keep b o (kG b o e (fun h => nomatch h))
theorem rest_of {h₀ H g h' : Heap} {L L' pa b : Addr} {m' : Str → Option Value} {o o' ob : Obj} {news n1 rest nw : List (Addr × Obj)} (kG : GSub H g ([(pa, o), (b, ob)].map (·.1))) (F' : Fr g L' h' m') (N' : News g L' h' nw)
    (N : News h₀ L H news) (P1 : Pull (pa, o) news n1) (P2 : Pull (b, ob) n1 rest) (hne : ∀ p ∈ rest, p.1 ≠ pa) (hp : (pa, o') ∈ nw) (hb : (b, ob) ∈ nw) :
    News h₀ L h' ((pa, o') :: (b, ob) :: rest) := by
  intro p hm
  have z := fun q hq => N q (P1.mem q hq)
  have z1 := z _ (List.mem_cons_self ..)
  have y := fun q (hq : q ∈ n1) => z q (List.mem_cons_of_mem _ hq)
  have zb := y _ (P2.mem _ (List.mem_cons_self ..))
  rcases List.mem_cons.mp hm with rfl | hm
  · exact ⟨(N' _ hp).1, z1.2⟩
  · rcases List.mem_cons.mp hm with rfl | hm
    · exact ⟨(N' _ hb).1, zb.2⟩
    · have zp := y p (P2.mem p (List.mem_cons_of_mem _ hm))
      refine ⟨?_, zp.2⟩
      by_cases e : p.1 = b
      · have q := zp.1
        rw [e, zb.1] at q
        rw [e, ← Option.some.inj q]
        exact (N' _ hb).1
      · exact F'.keep _ _ (kG _ _ zp.1 (by simp only [List.map_cons, List.map_nil, List.mem_cons, List.not_mem_nil, or_false, not_or]; exact ⟨hne p hm, e⟩))
theorem off1_of {D : Addr} : ∀ {l : List (Addr × Obj)}, (∀ q ∈ l, q.1 ≠ D) → LCg.Off1 D l
  | [], _ => trivial
  | q :: _, h => ⟨h q (List.mem_cons_self ..), off1_of fun x hx => h x (List.mem_cons_of_mem _ hx)⟩
theorem fresh_of {H g h' : Heap} {L' D : Addr} {o : Obj} {led nw : List (Addr × Obj)} (kG : GSub H g (led.map (·.1))) (N' : News g L' h' nw) (hm : (D, o) ∈ nw) (hD : D ∉ led.map (·.1)) : H.get? D = none := by
  cases e : H.get? D with
  | none => rfl
  | some x =>
    have z := kG D x e hD
    rw [(N' _ hm).2.2] at z
    cases z
theorem off_of {h₀ H g h' : Heap} {L L' D : Addr} {o : Obj} {led nw news : List (Addr × Obj)} (kG : GSub H g (led.map (·.1))) (N' : News g L' h' nw) (hm : (D, o) ∈ nw) (hD : D ∉ led.map (·.1)) (N : News h₀ L H news) : LCg.Off1 D news :=
  off1_of fun q hq e => by
    have z := (N q hq).1
    rw [e, fresh_of kG N' hm hD] at z
    cases z
theorem News.one {h₀ h : Heap} {L : Addr} {q : Addr × Obj} {nw news : List (Addr × Obj)} (N : News h₀ L h nw) (hm : q ∈ nw) (M : News h₀ L h news) : News h₀ L h (q :: news) := fun x hx => by
  rcases List.mem_cons.mp hx with rfl | hx
  · exact N _ hm
  · exact M x hx
abbrev tupOf (vs : Array Value) : Obj := { cls := .type "tuple", data := .seq vs }
theorem ite_posI {c : Prop} {inst : Decidable c} {a b : Prop} (hc : c) (h : a) : @ite Prop c inst a b := by rw [if_pos hc]; exact h
theorem ite_negI {c : Prop} {inst : Decidable c} {a b : Prop} (hc : ¬ c) (h : b) : @ite Prop c inst a b := by rw [if_neg hc]; exact h

local macro_rules | `(tactic| walk_at "my site") => `(tactic| (refine' Site.mk ?s1 ?s2 ?s3 ?s4 ?s5 ?s6 ?s7 ?s8; (case s1 => first | k_asm | fail "site: below"); (case s2 => first | k_asm | fail "site: frame"); (case s3 => first | k_asm | fail "site: part"); (case s4 => first | k_asm | fail "site: ledger"); (case s5 => first | k_asm | fail "site: top"); (case s6 => first | exact rfl | assumption | fail "site: kind"); (case s7 => first | ktr_room | fail "site: room"); (case s8 => first | ktr_units | fail "site: units")))
-- a def of the text's own, entered: what stood (but the ledger's) is told to stand in the ground
local macro_rules | `(tactic| walk_at "my enter") => `(tactic| (refine wpAny_call ?_; k_dflt (refine' code_defG ?k1 ?k2 ?k3 ?k4 ?k5 ?kA ?kF ?kK ?k6 ?k7 ?k8 ?k9 ?kB ?_ ?c2 ?c3 ?c4 ?c5; (case kA => exact rfl); (case kF => exact rfl); (case kK => assumption); (case k1 => k_asm); (case k2 => k_asm); (case k3 => k_asm); (case k4 => k_asm); (case k5 => k_asm); (case k6 => k_is); (case k7 => k_is); (case k8 => ktr_room); (case k9 => exact BindsTo.of_eq rfl); (case c5 => decide); (case kB => exact locs rfl); (case c2 => exact rfl); (case c3 => exact rfl); (case c4 => exact rfl); k_whole)))
-- any other def of the text's: entered where it is called
local macro_rules | `(tactic| walk_at "call ref") => `(tactic| (k_here; (try dsimp only [List.nil_append, List.append_nil]); refine wpAny_call ?_; k_dflt (refine' code_def ?k1 ?k2 ?k3 ?k4 ?k5 ?kA ?kF ?kK ?k6 ?k7 ?k8 ?k9 ?kB ?_ ?c2 ?c3 ?c4 ?c5; (case kA => exact rfl); (case kF => exact rfl); (case kK => first | exact rfl | assumption); (case k1 => k_asm); (case k2 => k_asm); (case k3 => k_asm); (case k4 => k_asm); (case k5 => k_asm); (case k6 => k_is); (case k7 => k_is); (case k8 => ktr_room); (case k9 => exact BindsTo.of_eq rfl); (case c5 => decide); (case kB => exact locs rfl); (case c2 => exact rfl); (case c3 => exact rfl); (case c4 => exact rfl); k_whole; intro g' L' h' FG' F' N' B' X' T'; (try dsimp only); (try k_lift B'); (try k_fold))))
-- the turn's own addresses stand apart from the ledger's: read off the turn's fact in one go
local macro_rules | `(tactic| lcg_off) => `(tactic| ((rename (_ ≠ _ ∧ _ ≠ _ ∧ _ ≠ _) ∧ _ => off9); (simp only [ne_eq] at off9); (simp only [LCg.Off3, and_true, ne_eq, off9, not_false_eq_true, and_self, true_and]); (first | done | ((repeat' (refine And.intro ?_ ?_)); all_goals exact neN (by omega)))))

-- a test whose outcome is there by reckoning alone is decided at once (its instance is not looked at)
local macro_rules | `(tactic| walk_at "ite") => `(tactic| (k_here; first
  | (refine' ite_posI ?hc ?_; (case hc => k_dflt (exact of_decide_eq_true (by exact rfl))))
  | (refine' ite_negI ?hc ?_; (case hc => k_dflt (exact of_decide_eq_false (by exact rfl))))))

theorem hexv_c {prog : Program} {w : World} {p : Program} {loose : List Str} {mean : ExcName → Option Value} {mg mb : Str → Option Value} {dp un : Nat} {gd : Option (List Code)} {cn : Str} {cs : Scope} {a : Addr} {ccd : Value} {cl : List (Str × Addr)} {outer : List Env} {A₀ : Around} {base h₀ : Heap} {L : Addr} {m : Str → Option Value} {s : Shared} {Q E : Value → Shared → Prop} {news : List (Addr × Obj)}
    {o : Int} {to : Tok} (S : Site w p loose mean mg mb dp un 1 cs outer A₀ base h₀ L s.heap m news)
    (hN : hexv o = none → ∀ h' tk', Fr h₀ L h' m → News h₀ L h' news → Q .none { s with heap := h', toks := tk' })
    (hS : ∀ v t, hexv o = some v → ∀ h' tk', Fr h₀ L h' m → News h₀ L h' news → Q (.int v t) { s with heap := h', toks := tk' }) :
    wpAny (model prog w) (ktrTop dp un gd cn cs L a ccd cl outer) (call (.ref 22) [.int o to]) Q E s := by
  obtain ⟨B, F, X, N, T, hk, hd, hu⟩ := S
  have N0 : News h₀ L s.heap [] := News.nil
  (walk_at "my enter"; intro g9 L9 h9 FG9 F9 N9 B9 X9 T9 kG9; clear N0; (try dsimp only); (try k_lift B9); (try k_fold); k_steps)
  all_goals first
    | (refine hS _ _ ?_ _ _ (by assumption) (N.grown (grow_of (g := g9) (L' := L9) kG9 (by assumption))); unfold hexv; (repeat' split) <;> first | rfl | omega)
    | (refine hN ?_ _ _ (by assumption) (N.grown (grow_of (g := g9) (L' := L9) kG9 (by assumption))); unfold hexv; (repeat' split) <;> first | rfl | omega)

local macro_rules | `(tactic| walk_at "call ref") => `(tactic| (k_here; k_dflt (refine' hexv_c ?kS (fun hv9 h9 tk9 F9 N9 => ?_) (fun v9 t9 hv9 h9 tk9 F9 N9 => ?_); (case kS => walk_at "my site")); all_goals ((try dsimp only); (try k_fold))))

theorem figs_c {prog : Program} {w : World} {p : Program} {loose : List Str} {mean : ExcName → Option Value} {mg mb : Str → Option Value} {dp un : Nat} {gd : Option (List Code)} {cn : Str} {cs : Scope} {a : Addr} {ccd : Value} {cl : List (Str × Addr)} {outer : List Env} {A₀ : Around} {base h₀ : Heap} {L : Addr} {m : Str → Option Value} {s : Shared} {Q E : Value → Shared → Prop} {news : List (Addr × Obj)}
    {b : Array UInt8} {ks : List Int} {to : Tok} (hb : KBw.bInts b = ks) (hl : ks.length ≤ 100) (S : Site w p loose mean mg mb dp un 2 cs outer A₀ base h₀ L s.heap m news)
    (hN : figs ks = none → ∀ h' tk', Fr h₀ L h' m → News h₀ L h' news → Q .none { s with heap := h', toks := tk' })
    (hS : ∀ v t, figs ks = some v → ∀ h' tk', Fr h₀ L h' m → News h₀ L h' news → Q (.int v t) { s with heap := h', toks := tk' }) :
    wpAny (model prog w) (ktrTop dp un gd cn cs L a ccd cl outer) (call (.ref 122) [.bytes b to]) Q E s := by
  obtain ⟨B, F, X, N, T, hk, hd, hu⟩ := S
  have N0 : News h₀ L s.heap [] := News.nil
  have hcase : ks = [] ∨ (∃ x, ks = [x]) ∨ (∃ x y, ks = [x, y]) ∨ (∃ x y z, ks = [x, y, z]) ∨ (∃ x y z u, ks = [x, y, z, u]) ∨ 4 < ks.length := by
    rcases ks with _ | ⟨x, _ | ⟨y, _ | ⟨z, _ | ⟨u, _ | ⟨v, r⟩⟩⟩⟩⟩ <;> simp
  rcases hcase with rfl | ⟨x, rfl⟩ | ⟨x, y, rfl⟩ | ⟨x, y, z, rfl⟩ | ⟨x, y, z, u, rfl⟩ | hlong
  all_goals (walk_at "my enter"; intro g9 L9 h9 FG9 F9 N9 B9 X9 T9 kG9; clear N0; (try dsimp only); (try k_lift B9); (try k_fold); k_steps)
  all_goals first
    | (refine hN ?_ _ _ (by assumption) (N.grown (grow_of (g := g9) (L' := L9) kG9 (by assumption))); unfold figs; exact if_neg (by omega))
    | (refine hN ?_ _ _ (by assumption) (N.grown (grow_of (g := g9) (L' := L9) kG9 (by assumption))); simp only [figs, figsFold, *]; decide)
    | (refine hS _ _ ?_ _ _ (by assumption) (N.grown (grow_of (g := g9) (L' := L9) kG9 (by assumption))); simp only [figs, figsFold, *]; (try simp); done)
    | (refine hN ?_ _ _ (by assumption) (N.grown (grow_of (g := g9) (L' := L9) kG9 (by assumption))); simp_all [figs, figsFold]; done)
    | (refine hS _ _ ?_ _ _ (by assumption) (N.grown (grow_of (g := g9) (L' := L9) kG9 (by assumption))); simp_all [figs, figsFold]; done)

local macro_rules | `(tactic| walk_at "call ref") => `(tactic| (k_here; k_dflt (refine' figs_c ?kb ?kl ?kS (fun hv9 h9 tk9 F9 N9 => ?_) (fun v9 t9 hv9 h9 tk9 F9 N9 => ?_); (case kb => kba_ints2); (case kl => kba_size); (case kS => walk_at "my site")); all_goals ((try dsimp only); (try k_fold))))

section
variable {prog : Program} {w : World} {A : Around} {E : Value → Shared → Prop} {s : Shared} {env : Env} {h₀ : Heap} {L : Addr} {m : Str → Option Value} {x : Str} {body : List Stmt}
/-- a comprehension with one test over bytes -/
def SrcB (prog : Program) (w : World) (A : Around) (h₀ : Heap) (L : Addr) (m : Str → Option Value) (env : Env) (ct elt : Expr) (x : Str) (scope : Scope) (cl : List (Str × Addr)) (Fin : Shared → List Value → List (Addr × Obj) → Prop) (xv : Value) (s₁ : Shared) : Prop :=
  ∃ b t news, xv = .bytes b t ∧ A.handled = none ∧ Fr h₀ L s₁.heap m ∧ News h₀ L s₁.heap news ∧ b.size ≤ sizeLine ∧
    ∀ s₂ : Shared, (∃ h, s₂ = { s₁ with heap := h }) → LCt.CompRestT prog w A h₀ L m env ct elt x scope cl s₂ (fun _ => True) (fun i v => ∃ c u, b[i]? = some c ∧ v = .int ((c.toNat : Nat) : Int) u) (Fin s₂) b.size 0 [] news
theorem SrcB.mk' {ct elt : Expr} {scope : Scope} {cl : List (Str × Addr)} {Fin : Shared → List Value → List (Addr × Obj) → Prop} {b : Array UInt8} {t : Tok} {news : List (Addr × Obj)} {s₁ : Shared}
    (hh : A.handled = none) (F : Fr h₀ L s₁.heap m) (N : News h₀ L s₁.heap news) (hsz : b.size ≤ sizeLine)
    (h : ∀ g, LCt.CompRestT prog w A h₀ L m env ct elt x scope cl { s₁ with heap := g } (fun _ => True) (fun i v => ∃ c u, b[i]? = some c ∧ v = .int ((c.toNat : Nat) : Int) u) (Fin { s₁ with heap := g }) b.size 0 [] news) :
    SrcB prog w A h₀ L m env ct elt x scope cl Fin (.bytes b t) s₁ := ⟨b, t, news, rfl, hh, F, N, hsz, fun _ ⟨g, e⟩ => e ▸ h g⟩
theorem ListComp_B {ct elt iter : Expr} {px : Pos} {scope : Scope} {cl : List (Str × Addr)} {pos : Pos} {Q : Value → Shared → Prop} (_F₀ : Fr h₀ L s.heap m)
    (hclos : closureFor scope env = pure cl) (hcell : ∀ y ∈ scope.names, y.2 ≠ .cell) (hkind : scope.kind = .function)
    (hnames : ∀ y ∈ scope.names, y.2 = .local → scope.names.lookup y.1 = some .local) (hx : scope.names.lookup x = some .local)
    (h : wpAny (model prog w) A (eval iter env) (SrcB prog w A h₀ L m env ct elt x scope cl (fun s₂ => LCg.FinE h₀ L m s₂ Q)) E s)
    (hs : ∀ x, foldedSetIterable iter env x = pure x := by intro _; rfl) :
    wpAny (model prog w) A (eval (.ListComp elt [⟨.Name x px, iter, [ct], 0⟩] scope pos) env) Q E s := by
  rw [eval_ListComp]
  refine wpAny_comprehension_free (use := none) rfl hs hclos hkind hnames (wpAny_mono h (fun xv s₁ h₁ => ?_) fun _ _ e => e)
  obtain ⟨b, t, news, rfl, hh, F, N, hsz, R⟩ := h₁
  refine KBw.pyIter_bytes ?_
  refine LCt.block_T (KBw.walks hh s₁.heap.objs.size b t) hsz (fun i h st => by obtain ⟨o, e, _⟩ := st; exact ⟨o, e⟩) (fun i h h' o nw st e e' _ _ _ => by
      obtain ⟨o', q, r⟩ := st
      rw [e] at q
      cases q
      exact ⟨o, e', r⟩) hcell hkind hx ⟨_, Heap.get?_push_size _ rfl, rfl, rfl⟩ (fun b hb => ?_)
    (F.keeps fun _ _ e => Heap.get?_push_of_some _ e) (N.grown fun _ _ e => Heap.get?_push_of_some _ e) (Nat.ne_of_lt F.ns.lt) (next_is_new F) (fun p hp => Nat.ne_of_lt (Heap.lt_size (N p hp).1)) trivial (R _ ⟨_, rfl⟩) ?_
  · rw [List.mem_singleton.mp hb]
    show s₁.heap.objs.size < (s₁.heap.push _).objs.size
    rw [Heap.size_push]; exact Nat.lt_succ_self _
  · intro D C h tk m' ys news' F' N' o1 hn hC₀ hD₀ hCL hDL hCD offC fin
    refine ⟨m', hn, fun h'' hs'' => fin D h'' tk (F'.change hs'' hCL hC₀) (fun p hp => ?_) o1⟩
    refine ⟨hs''.extBut _ _ ?_ (N' p hp).1, (N' p hp).2⟩
    rcases List.mem_cons.mp hp with rfl | hp
    · exact Ne.symm hCD
    · exact offC p hp

/-- a for over a made tuple, turn by turn -/
def TupRest (prog : Program) (w : World) (A : Around) (E : Value → Shared → Prop) (h₀ : Heap) (env : Env) (x : Str) (body : List Stmt) (Q : Flow → Shared → Prop) (s : Shared) (I : Addr) (lp : Addr × Obj) : List Value → (Str → Option Value) → List (Addr × Obj) → Prop
  | [], m, news => ∀ h tk, Fr h₀ env.locals h m → News h₀ env.locals h news → Q .next { s with heap := h, toks := tk }
  | v :: r, m, news => ∀ (it : Obj) h tk, it.cls = .type "tuple_iterator" → Fr h₀ env.locals h (fun y => if y = x then some v else m y) → News h₀ env.locals h ((I, it) :: news) →
      wpAny (model prog w) A (execs body env) (UnrPost h₀ env.locals { s with heap := h, toks := tk } I it (fun m' n' => lp ∈ n' ∧ TupRest prog w A E h₀ env x body Q s I lp r m' n') Q) E { s with heap := h, toks := tk }
theorem TupRest.zero {Q : Flow → Shared → Prop} {I : Addr} {lp : Addr × Obj} {news : List (Addr × Obj)} (h : ∀ h tk, Fr h₀ env.locals h m → News h₀ env.locals h news → Q .next { s with heap := h, toks := tk }) :
    TupRest prog w A E h₀ env x body Q s I lp [] m news := h
theorem TupRest.succ {Q : Flow → Shared → Prop} {I : Addr} {lp : Addr × Obj} {v : Value} {r : List Value} {news : List (Addr × Obj)}
    (h : ∀ (it : Obj) h tk, it.cls = .type "tuple_iterator" → Fr h₀ env.locals h (fun y => if y = x then some v else m y) → News h₀ env.locals h ((I, it) :: news) →
      wpAny (model prog w) A (execs body env) (UnrPost h₀ env.locals { s with heap := h, toks := tk } I it (fun m' n' => lp ∈ n' ∧ TupRest prog w A E h₀ env x body Q s I lp r m' n') Q) E { s with heap := h, toks := tk }) :
    TupRest prog w A E h₀ env x body Q s I lp (v :: r) m news := h

theorem iter_tupleUnr {Q : Flow → Shared → Prop} {ax : Addr} {vs : List Value} {n : Nat} {m₀ : Str → Option Value} {news : List (Addr × Obj)}
    (hh : A.handled = none) (F : Fr h₀ env.locals s.heap m₀) (N : News h₀ env.locals s.heap news) (hm : (ax, ({ cls := .type "tuple", data := .seq vs.toArray n } : Obj)) ∈ news)
    (rest₀ : ∀ I : Addr, (∀ p ∈ news, p.1 < I) → TupRest prog w A E h₀ env x body Q s I (ax, ({ cls := .type "tuple", data := .seq vs.toArray n } : Obj)) vs m₀ news) :
    wpAny (model prog w) A (pyIter (.ref ax)) (fun it s₂ => LoopAtV prog w A h₀ env x body Q E it s₂) E s := by
  generalize hlo : ({ cls := .type "tuple", data := .seq vs.toArray n } : Obj) = lo at hm rest₀
  have hc : lo.cls = .type "tuple" := by rw [← hlo]
  have hd : lo.data = .seq vs.toArray n := by rw [← hlo]
  have hax := N _ hm
  have hl : s.heap.IsTuple ax vs.toArray := ⟨lo, hax.1, hc, n, hd⟩
  have hlt : ax < s.heap.objs.size := Heap.lt_size hax.1
  have hne : ax ≠ s.heap.objs.size := Nat.ne_of_lt hlt
  refine wpAny_pyIter_tuple hl ?_
  have rest := rest₀ s.heap.objs.size fun p hp => Heap.lt_size (N p hp).1
  have W := Walks.tuple (prog := prog) (w := w) hh s.heap.objs.size ax hne vs.toArray
  have hnew := next_is_new F
  have hlen : vs.toArray.size = vs.length := by simp
  rw [hlen] at W
  let J : Nat → (Str → Option Value) → List (Addr × Obj) → Prop := fun i m₁ news₁ => (ax, lo) ∈ news₁ ∧ TupRest prog w A E h₀ env x body Q s s.heap.objs.size (ax, lo) (vs.drop i) m₁ news₁
  refine ⟨_, _, _, vs.length, _, _, m₀, news, J, rfl, W, ?_, ?_, ?_, ⟨⟨_, Heap.get?_push_size _ rfl, rfl, rfl⟩, hl.push _⟩, F.push _, (fun p hp => ⟨Heap.get?_push_of_some _ (N p hp).1, (N p hp).2⟩), ⟨hm, by rw [List.drop_zero]; exact rest⟩, ?_, ?_⟩
  · intro hmm
    rcases List.mem_cons.mp hmm with e | hmm
    · exact absurd F.ns.lt (e ▸ Nat.lt_irrefl _)
    · exact hax.2.1 (List.mem_singleton.mp hmm).symm
  · intro b hb
    rw [List.mem_singleton.mp hb]
    exact hnew
  · intro p hp hI
    exact absurd (Heap.lt_size (N p hp).1) ((List.mem_singleton.mp hI) ▸ Nat.lt_irrefl _)
  · rintro i v m₁ news₁ s₁ own ⟨hh', tk', rfl⟩ hin hP ⟨hmem₁, hJ⟩ hoff hown hget hall hst F₁ N₁
    obtain ⟨it, hit, hic, hid⟩ := hst.1
    have hmemI := hall s.heap.objs.size (List.mem_cons_self ..) hnew _ hit
    have hdrop : vs.drop i = v :: vs.drop (i + 1) := by
      have hlt' : i < vs.length := hin
      have hv : vs[i]? = some v := by simpa using hP
      rw [List.drop_eq_getElem_cons hlt']
      congr 1
      exact Option.some.inj ((List.getElem?_eq_getElem hlt').symm.trans hv)
    rw [hdrop] at hJ
    have N₂ : News h₀ env.locals hh' ((s.heap.objs.size, it) :: news₁) := fun p hp => by
      rcases List.mem_cons.mp hp with rfl | hp
      · exact N₁ _ (List.mem_append_left _ hmemI)
      · exact N₁ _ (List.mem_append_right _ hp)
    refine wpAny_mono (hJ it hh' tk' hic F₁ N₂) (fun f s₂ p => ?_) fun _ _ e => e
    have fin : UnrEnd h₀ env.locals { s with heap := hh', toks := tk' } s.heap.objs.size it (fun m' n' => (ax, lo) ∈ n' ∧ TupRest prog w A E h₀ env x body Q s s.heap.objs.size (ax, lo) (vs.drop (i + 1)) m' n') s₂ →
        LoopStepU h₀ env.locals [s.heap.objs.size] own (J (i + 1)) { s with heap := hh', toks := tk' } .next s₂ := by
      rintro ⟨h', tk, m', news', e, F', N', ho, hmm, r⟩
      refine ⟨rfl, h', tk, m', news', e, F', fun p hp => ?_, fun p hp hI => ho p hp (List.mem_singleton.mp hI), hmm, r⟩
      rcases List.mem_append.mp hp with hp | hp
      · have h2 : hh'.get? p.1 = some p.2 := hget p hp
        rcases List.mem_cons.mp (hown p hp) with h1 | h1
        · have h3 : p = (s.heap.objs.size, it) := by
            rw [h1, hit] at h2
            exact Prod.ext h1 (Option.some.inj h2).symm
          rw [h3]; exact N' _ (List.mem_cons_self ..)
        · have h1' : p.1 = ax := List.mem_singleton.mp h1
          have h3 : p = (ax, lo) := by
            rw [h1', (N₁ _ (List.mem_append_right _ hmem₁)).1] at h2
            exact Prod.ext h1' (Option.some.inj h2).symm
          rw [h3]; exact N' _ (List.mem_cons_of_mem _ hmm)
      · exact N' _ (List.mem_cons_of_mem _ hp)
    cases f with
    | ret v => exact .ret p
    | brk => exact .brk p
    | next => exact .next (fin p)
    | cont => exact .cont (fin p)
  · rintro h' tk m' news' F' N' _ ⟨_, hJ⟩
    have z : vs.drop vs.length = [] := List.drop_length
    rw [z] at hJ
    exact hJ h' tk F' N'
end

local macro_rules | `(tactic| walk_at "pyIter ref") => `(tactic| ((with_reducible show wpAny _ _ (pyIter (Value.ref _)) (fun it s₂ => LoopAtV _ _ _ _ _ _ _ _ _ it s₂) _ _); (rename Fr _ _ _ _ => lF'); (rename News _ _ _ _ => lN'); (with_unfolding_all refine iter_tupleUnr (by rfl) lF' lN' (by k_mem) ?_); clear lF' lN'; intro i' l1; (try k_lt l1)))
local macro_rules | `(tactic| walk_at "TupRest") => `(tactic| (with_unfolding_all first | (refine TupRest.succ (fun it' h' tk' hit' F' N' => ?_)) | (refine TupRest.zero (fun h' tk' F' N' => ?_))))

theorem rgb_c {prog : Program} {w : World} {p : Program} {loose : List Str} {mean : ExcName → Option Value} {mg mb : Str → Option Value} {dp un : Nat} {gd : Option (List Code)} {cn : Str} {cs : Scope} {a : Addr} {ccd : Value} {cl : List (Str × Addr)} {outer : List Env} {A₀ : Around} {base h₀ : Heap} {L : Addr} {m : Str → Option Value} {s : Shared} {Q E : Value → Shared → Prop} {news : List (Addr × Obj)}
    {q r g b c : Int} {to : Tok} (hc : c = 16777216 * q + 65536 * r + 256 * g + b) (hq : 0 ≤ q ∧ q < 2) (hr : 0 ≤ r ∧ r < 256) (hg : 0 ≤ g ∧ g < 256) (hb : 0 ≤ b ∧ b < 256)
    (hS : ∀ D t1 t2 t3 h' tk', LCg.Off1 D news → Fr h₀ L h' m → News h₀ L h' ((D, tupOf #[.int r t1, .int g t2, .int b t3]) :: news) → Q (.ref D) { s with heap := h', toks := tk' })
    (S : Site w p loose mean mg mb dp un 1 cs outer A₀ base h₀ L s.heap m news) :
    wpAny (model prog w) (ktrTop dp un gd cn cs L a ccd cl outer) (call (.ref 50) [.int c to]) Q E s := by
  obtain ⟨B, F, X, N, T, hk, hd, hu⟩ := S
  have N0 : News h₀ L s.heap [] := News.sub N (by exact fun _ h => nomatch h)
  have kN0 : KeptN h₀ L s.heap [] := N0
  (walk_at "my enter"; intro g9 L9 h9 FG9 F9 N9 B9 X9 T9 kG9; clear N0; (try dsimp only); (try k_lift B9); (try k_fold); k_steps)
  have e1 : Builtin.bitAnd (c.fdiv (2 ^ Int.toNat 16)) 255 = r := by
    rw [bitAnd_m8, show ((2 : Int) ^ Int.toNat 16) = 65536 from rfl, Int.fdiv_eq_ediv_of_nonneg _ (by decide)]; omega
  have e2 : Builtin.bitAnd (c.fdiv (2 ^ Int.toNat 8)) 255 = g := by
    rw [bitAnd_m8, show ((2 : Int) ^ Int.toNat 8) = 256 from rfl, Int.fdiv_eq_ediv_of_nonneg _ (by decide)]; omega
  have e3 : Builtin.bitAnd c 255 = b := by rw [bitAnd_m8]; omega
  (rename News g9 _ _ _ => N'); (rename Fr g9 _ _ _ => F'); (rename Fr h₀ _ _ _ => kF); (rename News h₀ _ _ _ => kN)
  rw [e1, e2, e3] at N' kN
  exact hS _ _ _ _ _ _ (off_of (led := []) kG9 N' (by k_mem) (by simp) N) kF (News.one kN (by k_mem) (N.grown (grow_led kG9 kN0 F' N' (fun _ h => nomatch h))))

section
open PySem.Builtin PySem.Builtin.Bytes
theorem self_one (id : String) (a b : Value) : selfAndOne id ⟨[a, b], []⟩ = pure (a, b) := rfl
theorem buffer_full {id : String} {full : Bool} {b : Array UInt8} {t : Tok} : Bytes.buffer? id (.bytes b t) full = pure (some b) := by
  unfold Bytes.buffer?
  rw [KBy.special_eq KBy.look_buffer, KBy.own_buffer, KBy.own_release]
  kernel_rfl
theorem take_eq {id : String} {n : Int} {b : Array UInt8} {t : Tok} : Bytes.takeBufferQuiet? id (.bytes b t) n = pure (some (b, none)) := by
  unfold Bytes.takeBufferQuiet? Bytes.takeBuffer?
  rw [KBy.special_eq KBy.look_buffer, KBy.own_buffer, buffer_full]
  kernel_rfl
def bvals (l : List (Array UInt8 × Tok)) : List Value := l.map fun q => .bytes q.1 q.2
theorem wpAny_joinLetGo {M : Model} {A : Around} {E : Value → Shared → Prop} {s : Shared} {Q : Unit → Shared → Prop} {keep : List Value} (h : Q () s) : ∀ l : List (Array UInt8 × Tok), wpAny M A (Bytes.joinLetGo (l.map fun q => (Value.bytes q.1 q.2, none)) keep) Q E s
  | [] => by
    show wpAny M A (Bytes.joinLetGo [] keep) Q E s
    unfold Bytes.joinLetGo
    exact wpAny_pure h
  | q :: r => by
    show wpAny M A (Bytes.joinLetGo ((Value.bytes q.1 q.2, none) :: r.map fun q => (Value.bytes q.1 q.2, none)) keep) Q E s
    unfold Bytes.joinLetGo
    exact wpAny_bind (wpAny_letGo (wpAny_joinLetGo h r))
theorem meets_join (sep : Array UInt8) (t : Tok) (D : Addr) (q1 q2 : Array UInt8 × Tok) (l' : List (Array UInt8 × Tok)) :
    Meets («bytes.join» ⟨[.bytes sep t, .ref D], []⟩) (fun _ R s => s.heap.IsList D (bvals (q1 :: q2 :: l')).toArray ∧ tooLong (((q1 :: q2 :: l').map (·.1)).toArray.foldl (fun x y => x + y.size) (sep.size * (((q1 :: q2 :: l').map (·.1)).toArray.size - 1))) = false ∧ (joined sep ((q1 :: q2 :: l').map (·.1))).size ≤ sizeLine ∧
      ∀ t' k, R (.ok (.ret (.bytes (joined sep ((q1 :: q2 :: l').map (·.1))) t'))) { s with toks := k }) := by
  refine .of_wp fun prog w A R s hS => ?_
  obtain ⟨hl, hsz, hsz2, h⟩ := hS
  have hT := hl.typeIs
  obtain ⟨o, ho, hc, n, hd⟩ := id hl
  have hseq : ∀ {Q : Option (Array Value) → Shared → Prop} {E : Value → Shared → Prop}, Q (some (bvals (q1 :: q2 :: l')).toArray) s → wpAny (model prog w) A.in1 (seqItems? (.ref D)) Q E s := fun hq => by
    unfold seqItems?
    refine wpAny_bind (wpAny_load ho ?_)
    rw [hd]
    exact wpAny_pure hq
  show wpAny _ _ (selfAndOne _ _ >>= _) _ _ s
  refine wpAny_bind (wpAny_of_eq (self_one _ _ _) ?_)
  dsimp only
  refine wpAny_ite ?_
  rw [if_pos (by rfl)]
  refine wpAny_bind ?_
  unfold joinItems
  refine wpAny_bind (wpAny_typeOf hT ?_)
  refine wpAny_ite ?_
  rw [if_pos (by rfl)]
  refine wpAny_pure ?_
  refine wpAny_bind (hseq ?_)
  dsimp only
  refine wpAny_ite ?_
  rw [if_pos (by rfl)]
  refine wpAny_bind (m := forIn [:(bvals (q1 :: q2 :: l')).toArray.size] (#[], []) _) ?_
  generalize hL : (q1 :: q2 :: l') = L at *
  have hsize : (bvals L).toArray.size = L.length := by simp [bvals]
  rw [Std.Legacy.Range.forIn_eq_forIn_range']
  refine wpAny_forIn_list _ (fun rest r s' => ∃ i, rest = List.range' i (L.length - i) ∧ i ≤ L.length ∧ s' = s ∧ r.1 = ((L.take i).map (·.1)).toArray ∧ r.2 = (L.take i).map (fun q => (Value.bytes q.1 q.2, none))) _ ?_ ?_ _ _ ⟨0, by simp [Std.Legacy.Range.size, hsize], Nat.zero_le _, rfl, by simp, by simp⟩
  · rintro x rest ⟨r1, r2⟩ s' ⟨i, hr, hi, rfl, h1, h2⟩
    dsimp only at h1 h2
    have hlt : i < L.length := by
      rcases Nat.lt_or_ge i L.length with h | h
      · exact h
      · rw [Nat.sub_eq_zero_of_le h] at hr
        cases hr
    obtain ⟨j, hj⟩ : ∃ j, L.length - i = j + 1 := ⟨L.length - i - 1, by omega⟩
    rw [hj, List.range'_succ] at hr
    obtain ⟨rfl, rfl⟩ := List.cons.inj hr
    have hitem : (bvals L).toArray.getD x Value.none = Value.bytes (L[x].1) (L[x].2) := by
      simp [bvals, hlt]
    have hheap : (r2.any fun y => y.1.onHeap) = false := by
      rw [h2, List.any_eq_false]
      intro y hy
      obtain ⟨q, _, rfl⟩ := List.mem_map.mp hy
      simp [Value.onHeap]
    refine wpAny_bind (hseq ?_)
    dsimp only
    rw [hitem, hheap]
    refine wpAny_ite ?_
    rw [if_neg (by decide)]
    refine wpAny_bind (wpAny_holding (wpAny_of_eq take_eq ?_))
    dsimp only
    refine wpAny_bind (hseq ?_)
    dsimp only
    refine wpAny_ite ?_
    rw [if_neg (by simp)]
    refine wpAny_pure ⟨x + 1, ?_, hlt, rfl, ?_, ?_⟩
    · rw [show L.length - (x + 1) = j by omega]
    · dsimp only
      rw [h1, List.take_add_one, List.getElem?_eq_getElem hlt, Option.toList_some, List.map_append, List.map_cons, List.map_nil, List.push_toArray]
    · dsimp only
      rw [h2, List.take_add_one, List.getElem?_eq_getElem hlt, Option.toList_some, List.map_append, List.map_cons, List.map_nil]
  · rintro ⟨r1, r2⟩ s' ⟨i, hr, hi, rfl, h1, h2⟩
    dsimp only at h1 h2
    have hil : i = L.length := by
      rcases Nat.lt_or_ge i L.length with h | h
      · obtain ⟨j, hj⟩ : ∃ j, L.length - i = j + 1 := ⟨L.length - i - 1, by omega⟩
        rw [hj, List.range'_succ] at hr
        cases hr
      · omega
    rw [hil, List.take_length] at h1 h2
    rw [h1, h2]
    refine wpAny_bind (wpAny_of_eq (a := sep) rfl ?_)
    dsimp only
    refine wpAny_ite ?_
    rw [if_neg (by rw [hsz]; decide)]
    refine wpAny_bind (wpAny_mkBytes ?_ (by simpa using hsz2))
    refine wpAny_bind (wpAny_holding (wpAny_point ?_))
    refine wpAny_bind (wpAny_joinLetGo ?_ L)
    exact wpAny_pure ⟨_, rfl, by simpa using h _ _⟩

def joinI (sep : List Int) : List (List Int) → List Int
  | [] => []
  | [x] => x
  | x :: y :: r => x ++ sep ++ joinI sep (y :: r)
theorem joined_tail (sep : Array UInt8) : ∀ (r : List (Array UInt8)) (k : Nat) (out : Array UInt8), (r.zipIdx (k + 1)).foldl (fun out (q : Array UInt8 × Nat) => (if q.2 > 0 then out ++ sep else out) ++ q.1) out = r.foldl (fun out p => out ++ sep ++ p) out
  | [], _, _ => rfl
  | p :: r, k, out => by
    rw [List.zipIdx_cons, List.foldl_cons, List.foldl_cons]
    dsimp only
    rw [if_pos (Nat.succ_pos k)]
    exact joined_tail sep r (k + 1) _
theorem bInts_app (a b : Array UInt8) : KBw.bInts (a ++ b) = KBw.bInts a ++ KBw.bInts b := KBw.ints_app rfl rfl
theorem joined_ints (sep : Array UInt8) : ∀ (r : List (Array UInt8)) (p : Array UInt8), KBw.bInts (r.foldl (fun out p => out ++ sep ++ p) p) = joinI (KBw.bInts sep) ((p :: r).map KBw.bInts)
  | [], p => rfl
  | q :: r, p => by
    rw [List.foldl_cons]
    have key : ∀ (r : List (Array UInt8)) (a b : Array UInt8), KBw.bInts (r.foldl (fun out p => out ++ sep ++ p) (a ++ b)) = KBw.bInts a ++ KBw.bInts (r.foldl (fun out p => out ++ sep ++ p) b) := by
      intro r
      induction r with
      | nil => intro a b; exact bInts_app a b
      | cons x r ih =>
        intro a b
        rw [List.foldl_cons, List.foldl_cons, show a ++ b ++ sep ++ x = a ++ (b ++ sep ++ x) by simp [Array.append_assoc]]
        exact ih a _
    rw [key, joined_ints sep r q, bInts_app]
    rfl
theorem joined_eq (sep : Array UInt8) (p : Array UInt8) (r : List (Array UInt8)) : KBw.bInts (Bytes.joined sep (p :: r)) = joinI (KBw.bInts sep) ((p :: r).map KBw.bInts) := by
  unfold Bytes.joined
  rw [List.zipIdx_cons, List.foldl_cons]
  dsimp only
  rw [if_neg (by decide)]
  have e := joined_tail sep r 0 (#[] ++ p)
  rw [Nat.zero_add] at e ⊢
  have e2 := joined_ints sep r p
  rw [Array.empty_append] at e
  rw [Array.empty_append]
  exact (congrArg KBw.bInts e).trans e2
theorem joinI_length (sep : List Int) : ∀ l : List (List Int), (joinI sep l).length ≤ (l.map List.length).sum + sep.length * l.length
  | [] => by simp [joinI]
  | [x] => by simp [joinI]
  | x :: y :: r => by
    have h := joinI_length sep (y :: r)
    simp only [joinI, List.length_append, List.map_cons, List.sum_cons, List.length_cons] at h ⊢
    rw [Nat.mul_add sep.length, Nat.mul_one]
    omega

theorem slot_bytes_join : Slot "bytes" "join" "bytes.join" :=
  .of (owner := "bytes") (n := "join") (by rw [typeLookup_type, builtinLookup_eq_fast]; kernel_rfl) (by decide +kernel) (by decide +kernel) (by decide +kernel)
    (by first | exact .inl (by decide +kernel) | exact .inr (by decide +kernel)) (by rw [isSubtype_type]; kernel_rfl)
theorem type_bytes_join : typeOf (.builtin "bytes.join") = pure (.type "method_descriptor") := by show builtinType _ = _; rw [builtinType_eq_fast]; kernel_rfl
theorem entry_bytes_join : entryFor table "bytes.join" = some Builtin.«bytes.join» := entryFor_of_tree (by kernel_rfl)
theorem args_bytes_join_2 (a b : Value) : argsOk "bytes.join" ⟨[a, b], []⟩ := by
  unfold argsOk; rw [signature?_of (id := "bytes.join") (n := ['n', 'i', 'o', 'j']) (o := ['s', 'e', 't', 'y', 'b']) (by kernel_rfl) FB.owner_bytes]; kernel_rfl
section
variable {prog : Program} {w : World} {M : Model} {A : Around} {E : Value → Shared → Prop} {s : Shared}
theorem method_join {b : Array UInt8} {t : Tok} {pl : Sem Bool} {Q : Value × List Value → Shared → Prop} (h : Q (.builtin "bytes.join", [.bytes b t]) s) : wpAny M A (getMethod (.bytes b t) "join" pl) Q E s := by
  with_reducible exact KBd.method_of (.bytes b t) (typeIs_bytes _ _ _) slot_bytes_join type_bytes_join KBd.noRef h
theorem join_call {sep : Array UInt8} {t : Tok} {D : Addr} {q1 q2 : Array UInt8 × Tok} {l' : List (Array UInt8 × Tok)} {vs : List Value} {sk : List Int} {ks : List (List Int)} {Q : Value → Shared → Prop}
    (hl : s.heap.IsList D vs.toArray) (hv : vs = bvals (q1 :: q2 :: l')) (hs : KBw.bInts sep = sk) (hk : (q1 :: q2 :: l').map (fun q => KBw.bInts q.1) = ks) (hz : (ks.map List.length).sum + (sk.length + 1) * (ks.length + 1) ≤ 16777216)
    (h : ∀ B t' k, KBw.bInts B = joinI sk ks → Q (.bytes B t') { s with toks := k }) : wpAny (model prog w) A (call (.builtin "bytes.join") [.bytes sep t, .ref D]) Q E s := by
  subst hv hs hk
  have e := joined_eq sep q1.1 ((q2 :: l').map (·.1))
  have e' : (q1.1 :: (q2 :: l').map (·.1)).map KBw.bInts = (q1 :: q2 :: l').map (fun q => KBw.bInts q.1) := by simp
  rw [e'] at e
  have hlen : (Bytes.joined sep ((q1 :: q2 :: l').map (·.1))).size ≤ sizeLine := by
    have h1 := joinI_length (KBw.bInts sep) ((q1 :: q2 :: l').map (fun q => KBw.bInts q.1))
    rw [← e, KBw.ints_length] at h1
    rw [sizeLine_eq]
    have h2 : (KBw.bInts sep).length * ((q1 :: q2 :: l').map (fun q => KBw.bInts q.1)).length ≤ ((KBw.bInts sep).length + 1) * (((q1 :: q2 :: l').map (fun q => KBw.bInts q.1)).length + 1) := Nat.mul_le_mul (Nat.le_succ _) (Nat.le_succ _)
    show (Bytes.joined sep (q1.1 :: (q2 :: l').map (·.1))).size ≤ _
    omega
  refine call_meets slot_bytes_join (typeIs_bytes _ _ _) entry_bytes_join (args_bytes_join_2 _ _) (meets_join sep t D q1 q2 l') ⟨hl, ?_, hlen, fun t' k => h _ t' k e⟩
  refine KBy.tooLong_not ?_
  have hfold : ∀ (l : List (Array UInt8)) (n : Nat), l.foldl (fun x y => x + y.size) n = n + (l.map fun b => (KBw.bInts b).length).sum := by
    intro l
    induction l with
    | nil => intro n; simp
    | cons a r ih => intro n; rw [List.foldl_cons, ih, List.map_cons, List.sum_cons, KBw.ints_length]; omega
  have hg : ((q1 :: q2 :: l').map (·.1)).toArray.foldl (fun x y => x + y.size) (sep.size * (((q1 :: q2 :: l').map (·.1)).toArray.size - 1)) = ((q1 :: q2 :: l').map (·.1)).foldl (fun x y => x + y.size) (sep.size * (((q1 :: q2 :: l').map (·.1)).toArray.size - 1)) := by
    rw [List.foldl_toArray]
  rw [hg, hfold]
  have h3 : sep.size * (((q1 :: q2 :: l').map (·.1)).toArray.size - 1) ≤ ((KBw.bInts sep).length + 1) * (((q1 :: q2 :: l').map (fun q => KBw.bInts q.1)).length + 1) := by
    rw [← KBw.ints_length sep]
    refine Nat.mul_le_mul (Nat.le_succ _) ?_
    simp
  have h4 : (((q1 :: q2 :: l').map (·.1)).map fun b => (KBw.bInts b).length).sum = (((q1 :: q2 :: l').map (fun q => KBw.bInts q.1)).map List.length).sum := by simp [Function.comp_def]
  omega
end

end

section
open PySem.Builtin PySem.Builtin.Bytes
/-- the runs between the bytes that are c -/
def segs {α : Type} [DecidableEq α] (c : α) : List α → List α → List (List α)
  | acc, [] => [acc]
  | acc, x :: r => if x = c then acc :: segs c [] r else segs c (acc ++ [x]) r
theorem segs_free {α : Type} [DecidableEq α] (c : α) : ∀ (q acc r : List α), c ∉ q → segs c acc (q ++ c :: r) = (acc ++ q) :: segs c [] r
  | [], acc, r, _ => by simp [segs]
  | x :: q, acc, r, h => by
    have hx : ¬ x = c := fun e => h (by rw [e]; exact List.mem_cons_self ..)
    rw [List.cons_append, segs, if_neg hx, segs_free c q (acc ++ [x]) r fun m => h (List.mem_cons_of_mem _ m)]
    simp
theorem segs_last {α : Type} [DecidableEq α] (c : α) : ∀ (q acc : List α), c ∉ q → segs c acc q = [acc ++ q]
  | [], acc, _ => by simp [segs]
  | x :: q, acc, h => by
    have hx : ¬ x = c := fun e => h (by rw [e]; exact List.mem_cons_self ..)
    rw [segs, if_neg hx, segs_last c q (acc ++ [x]) fun m => h (List.mem_cons_of_mem _ m)]
    simp
theorem segs_map {α β : Type} [DecidableEq α] [DecidableEq β] (f : α → β) (hf : ∀ a b, f a = f b → a = b) (c : α) : ∀ (q acc : List α), (segs c acc q).map (List.map f) = segs (f c) (acc.map f) (q.map f)
  | [], acc => by simp [segs]
  | x :: q, acc => by
    rw [List.map_cons, segs, segs]
    by_cases h : x = c
    · rw [if_pos h, if_pos (congrArg f h), List.map_cons, segs_map f hf c q []]; rfl
    · rw [if_neg h, if_neg fun e => h (hf _ _ e), segs_map f hf c q (acc ++ [x])]; simp
theorem segs_sizes {α : Type} [DecidableEq α] (c : α) : ∀ (q acc : List α), ∀ x ∈ segs c acc q, x.length ≤ acc.length + q.length
  | [], acc, x, h => by
    rw [List.mem_singleton.mp h]; simp
  | y :: q, acc, x, h => by
    rw [segs] at h
    by_cases e : y = c
    · rw [if_pos e] at h
      rcases List.mem_cons.mp h with rfl | h
      · simp
      · have := segs_sizes c q [] x h
        simp at this ⊢
        omega
    · rw [if_neg e] at h
      have := segs_sizes c q _ x h
      simp at this ⊢
      omega
theorem segs_len {α : Type} [DecidableEq α] (c : α) : ∀ (q acc : List α), (segs c acc q).length ≤ q.length + 1
  | [], acc => by simp [segs]
  | y :: q, acc => by
    rw [segs]
    by_cases e : y = c
    · rw [if_pos e]; have := segs_len c q []; simp; omega
    · rw [if_neg e]; have := segs_len c q (acc ++ [y]); simp; omega

theorem extract_one (b : Array UInt8) (c : UInt8) (i : Nat) (hi : i < b.size) : (b.extract i (i + 1) == #[c]) = decide (b.toList[i]'(by simpa using hi) = c) := by
  have e : b.extract i (i + 1) = #[b[i]] := by
    apply Array.ext
    · simp; omega
    · intro j h1 h2
      simp at h1 h2
      have : j = 0 := by omega
      subst this
      simp
  rw [e]
  by_cases h : b[i] = c
  · simp [h]
  · simp [h]

theorem occ_one (b : Array UInt8) (c : UInt8) : occurrences b #[c] 0 b.size = (List.range b.size).filter fun i => b.toList[i]? = some c := by
  unfold occurrences
  have e : (List.range (b.size + 1 - (0 + (#[c] : Array UInt8).size))).map (· + 0) = List.range b.size := by simp
  rw [e]
  have key : ∀ (k i : Nat) (acc : List Nat) (lo : Nat), i + k = b.size → lo ≤ i →
      ((List.range' i k).foldl (fun (acc : List Nat × Nat) (i : Nat) => if (decide (i ≥ acc.2) && b.extract i (i + (#[c] : Array UInt8).size) == #[c]) = true then (i :: acc.1, i + (#[c] : Array UInt8).size) else acc) (acc, lo)).1.reverse = acc.reverse ++ (List.range' i k).filter fun i => b.toList[i]? = some c := by
    intro k
    induction k with
    | zero => intro i acc lo _ _; simp
    | succ k ih =>
      intro i acc lo hi hlo
      rw [List.range'_succ, List.foldl_cons]
      have hlt : i < b.size := by omega
      have hx := extract_one b c i hlt
      have hg : b.toList[i]? = some (b.toList[i]'(by simpa using hlt)) := List.getElem?_eq_getElem _
      by_cases h : b.toList[i]'(by simpa using hlt) = c
      · have hc : (decide (i ≥ (acc, lo).2) && b.extract i (i + (#[c] : Array UInt8).size) == #[c]) = true := by
          show (decide (i ≥ lo) && b.extract i (i + 1) == #[c]) = true
          rw [hx, decide_eq_true h]
          simp [hlo]
        rw [if_pos hc]
        refine Eq.trans (ih (i + 1) (i :: acc) (i + 1) (by omega) (Nat.le_refl _)) ?_
        rw [List.filter_cons, hg, if_pos (by rw [h]; simp)]
        simp
      · have hc : ¬ (decide (i ≥ (acc, lo).2) && b.extract i (i + (#[c] : Array UInt8).size) == #[c]) = true := by
          show ¬ (decide (i ≥ lo) && b.extract i (i + 1) == #[c]) = true
          rw [hx, decide_eq_false h]
          simp
        rw [if_neg hc]
        refine Eq.trans (ih (i + 1) acc lo (by omega) (by omega)) ?_
        rw [List.filter_cons, hg, if_neg (fun e => h (Option.some.inj (of_decide_eq_true e)))]
  have := key b.size 0 [] 0 (by omega) (Nat.le_refl _)
  rw [← List.range_eq_range'] at this
  simpa using this

theorem ext_list (b : Array UInt8) (lo i : Nat) : (b.extract lo i).toList = (b.toList.drop lo).take (i - lo) := by
  rw [Array.toList_extract, List.extract_eq_take_drop]
theorem between_segs (b : Array UInt8) (c : UInt8) : (between b 1 ((List.range b.size).filter fun i => b.toList[i]? = some c)).map (·.toList) = segs c [] b.toList := by
  unfold between
  have key : ∀ (k i : Nat) (parts : Array (Array UInt8)) (lo : Nat), i + k = b.size → lo ≤ i →
      ((((List.range' i k).filter fun i => b.toList[i]? = some c).foldl (fun (x : Array (Array UInt8) × Nat) p => (x.1.push (b.extract x.2 p), p + 1)) (parts, lo)).1.push
        (b.extract (((List.range' i k).filter fun i => b.toList[i]? = some c).foldl (fun (x : Array (Array UInt8) × Nat) p => (x.1.push (b.extract x.2 p), p + 1)) (parts, lo)).2 b.size)).toList.map (·.toList) =
      parts.toList.map (·.toList) ++ segs c ((b.toList.drop lo).take (i - lo)) (b.toList.drop i) := by
    intro k
    induction k with
    | zero =>
      intro i parts lo hi hlo
      have hn : b.toList.drop i = [] := List.drop_of_length_le (by simp; omega)
      rw [hn, show i = b.size by omega]
      simp [segs, ext_list]
    | succ k ih =>
      intro i parts lo hi hlo
      have hlt : i < b.size := by omega
      have hg : b.toList[i]? = some (b.toList[i]'(by simpa using hlt)) := List.getElem?_eq_getElem _
      have hd : b.toList.drop i = b.toList[i]'(by simpa using hlt) :: b.toList.drop (i + 1) := List.drop_eq_getElem_cons _
      rw [List.range'_succ, List.filter_cons, hg, hd, segs]
      by_cases h : b.toList[i]'(by simpa using hlt) = c
      · rw [if_pos (by rw [h]; simp), if_pos h, List.foldl_cons]
        refine Eq.trans (ih (i + 1) _ (i + 1) (by omega) (Nat.le_refl _)) ?_
        simp [ext_list]
      · rw [if_neg (fun e => h (Option.some.inj (of_decide_eq_true e))), if_neg h]
        refine Eq.trans (ih (i + 1) parts lo (by omega) (by omega)) ?_
        congr 2
        rw [show i + 1 - lo = (i - lo) + 1 by omega, List.take_add_one]
        congr 1
        rw [List.getElem?_drop, show lo + (i - lo) = i by omega, hg]
        rfl
  have := key b.size 0 #[] 0 (by omega) (Nat.le_refl _)
  rw [← List.range_eq_range'] at this
  simpa using this
end

section
open PySem.Builtin PySem.Builtin.Bytes
theorem wpAny_mapM_new {M : Model} {A : Around} {E : Value → Shared → Prop} : ∀ (l : List (Array UInt8)) {s : Shared} {Q : List Value → Shared → Prop}, (∀ x ∈ l, x.size ≤ sizeLine) →
    (∀ (r : List (Array UInt8 × Tok)) (k : Nat), r.map (·.1) = l → Q (bvals r) { s with toks := k }) → wpAny M A (l.mapM Kind.bytes.new) Q E s
  | [], s, Q, _, h => by
    rw [List.mapM_nil]
    exact wpAny_pure (h [] s.toks rfl)
  | x :: l, s, Q, hz, h => by
    rw [List.mapM_cons]
    refine wpAny_bind (wpAny_mkBytes ?_ (hz x (List.mem_cons_self ..)))
    refine wpAny_bind (wpAny_mapM_new l (fun y hy => hz y (List.mem_cons_of_mem _ hy)) fun r k hr => ?_)
    exact wpAny_pure (h ((x, s.toks) :: r) k (by rw [List.map_cons, hr]))
theorem split_opt (id : String) (a : Value) : bindOptional id "split" ["sep", "maxsplit"] [a] [] = pure [some a, none] := by rfl
theorem meets_split (b : Array UInt8) (c : UInt8) (t u : Tok) : Meets («bytes.split» ⟨[.bytes b t, .bytes #[c] u], []⟩) (fun _ R s => b.size + 1 ≤ sizeLine ∧
      ∀ (l : List (Array UInt8 × Tok)) (k : Nat), l.map (fun q => q.1.toList) = segs c [] b.toList → R (.ok (.ret (.ref s.heap.objs.size))) { s with heap := s.heap.push { cls := .type "list", data := .seq (bvals l).toArray }, toks := k }) := by
  refine .of_wp fun prog w A R s hS => ?_
  obtain ⟨hz, h⟩ := hS
  show wpAny _ _ (bindOptional _ _ _ _ _ >>= _) _ _ s
  refine wpAny_bind (wpAny_of_eq (split_opt _ _) ?_)
  (try dsimp only)
  refine wpAny_bind (wpAny_pure ?_)
  refine wpAny_bind (wpAny_of_eq (a := b) rfl ?_)
  (try dsimp only)
  refine wpAny_bind (wpAny_of_eq KBd.like_eq ?_)
  refine wpAny_ite ?_
  rw [if_neg (by simp)]
  rw [occ_one, show (if (-1 : Int) < 0 then b.size + 1 else (-1 : Int).toNat) = b.size + 1 from rfl]
  simp only [Bool.false_eq_true, if_false]
  have hlen : ((List.range b.size).filter fun i => b.toList[i]? = some c).length ≤ b.size + 1 := by
    have := List.length_filter_le (fun i => decide (b.toList[i]? = some c)) (List.range b.size)
    rw [List.length_range] at this
    omega
  rw [List.take_of_length_le hlen]
  have hbs := between_segs b c
  generalize hP : ((List.range b.size).filter fun i => b.toList[i]? = some c) = P at *
  refine wpAny_ite ?_
  cases hp : P.isEmpty with
  | true =>
    rw [if_pos rfl]
    obtain rfl : P = [] := List.isEmpty_iff.mp hp
    refine wpAny_bind (wpAny_rule ?_)
    refine wpAny_bind (wpAny_bind ?_)
    refine wpAny_typeOf (typeIs_bytes _ b t) ?_
    refine wpAny_ite ?_
    rw [if_pos (by rfl)]
    refine wpAny_pure ?_
    refine wpAny_bind (wpAny_newObj_type (wpAny_pure ⟨_, rfl, h [(b, t)] _ ?_⟩) (show 1 ≤ sizeLine by rw [sizeLine_eq]; decide))
    rw [← hbs]
    simp [between]
  | false =>
    rw [if_neg (by decide)]
    have hsz : ∀ x ∈ between b (#[c] : Array UInt8).size P, x.size ≤ sizeLine := by
      intro x hx
      have hm : x.toList ∈ segs c [] b.toList := by
        rw [← hbs]
        exact List.mem_map_of_mem hx
      have := segs_sizes c _ _ _ hm
      simp at this
      omega
    refine wpAny_bind (wpAny_mapM_new _ hsz fun r k hr => ?_)
    have hrl : r.map (fun q => q.1.toList) = segs c [] b.toList := by
      rw [← hbs, show between b 1 P = r.map (·.1) from hr.symm, List.map_map]
      rfl
    have hn : (bvals r).toArray.size ≤ sizeLine := by
      have h1 := congrArg List.length hrl
      have h2 := segs_len c b.toList []
      simp [bvals] at h1 h2 ⊢
      omega
    exact wpAny_bind (wpAny_newObj_type (wpAny_pure ⟨_, rfl, h r _ hrl⟩) hn)

theorem slot_bytes_split : Slot "bytes" "split" "bytes.split" :=
  .of (owner := "bytes") (n := "split") (by rw [typeLookup_type, builtinLookup_eq_fast]; kernel_rfl) (by decide +kernel) (by decide +kernel) (by decide +kernel)
    (by first | exact .inl (by decide +kernel) | exact .inr (by decide +kernel)) (by rw [isSubtype_type]; kernel_rfl)
theorem type_bytes_split : typeOf (.builtin "bytes.split") = pure (.type "method_descriptor") := by show builtinType _ = _; rw [builtinType_eq_fast]; kernel_rfl
theorem entry_bytes_split : entryFor table "bytes.split" = some Builtin.«bytes.split» := entryFor_of_tree (by kernel_rfl)
theorem args_bytes_split_2 (a b : Value) : argsOk "bytes.split" ⟨[a, b], []⟩ := by
  unfold argsOk; rw [signature?_of (id := "bytes.split") (n := ['t', 'i', 'l', 'p', 's']) (o := ['s', 'e', 't', 'y', 'b']) (by kernel_rfl) FB.owner_bytes]; kernel_rfl
theorem u8_inj : ∀ a b : UInt8, ((a.toNat : Nat) : Int) = ((b.toNat : Nat) : Int) → a = b := fun a b h => UInt8.toNat_inj.mp (Int.ofNat.inj h)
theorem segs_ints (c : UInt8) (b : Array UInt8) : (segs c [] b.toList).map (List.map fun u => ((u.toNat : Nat) : Int)) = segs ((c.toNat : Nat) : Int) [] (KBw.bInts b) := segs_map (fun u : UInt8 => ((u.toNat : Nat) : Int)) u8_inj c b.toList []
section
variable {prog : Program} {w : World} {M : Model} {A : Around} {E : Value → Shared → Prop} {s : Shared} {h₀ : Heap} {L : Addr} {m : Str → Option Value} {news : List (Addr × Obj)}
theorem method_split {b : Array UInt8} {t : Tok} {pl : Sem Bool} {Q : Value × List Value → Shared → Prop} (h : Q (.builtin "bytes.split", [.bytes b t]) s) : wpAny M A (getMethod (.bytes b t) "split" pl) Q E s := by
  with_reducible exact KBd.method_of (.bytes b t) (typeIs_bytes _ _ _) slot_bytes_split type_bytes_split KBd.noRef h
theorem split_call {b : Array UInt8} {t u : Tok} {ks : List Int} {Q : Value → Shared → Prop} (F : Fr h₀ L s.heap m) (N : News h₀ L s.heap news) (hb : KBw.bInts b = ks) (hz : ks.length ≤ 1000000)
    (h3 : ∀ D b1 b2 b3 t1 t2 t3 k1 k2 k3 h' k, segs (47 : Int) [] ks = [k1, k2, k3] → KBw.bInts b1 = k1 → KBw.bInts b2 = k2 → KBw.bInts b3 = k3 → k1.length ≤ ks.length → k2.length ≤ ks.length → k3.length ≤ ks.length → Fr h₀ L h' m → News h₀ L h' ((D, W.listOf #[.bytes b1 t1, .bytes b2 t2, .bytes b3 t3] 0) :: news) → (∀ q ∈ news, q.1 < D) → Q (.ref D) { s with heap := h', toks := k })
    (hx : ∀ D (vs : List Value) h' k, (segs (47 : Int) [] ks).length ≠ 3 → vs.length = (segs (47 : Int) [] ks).length → vs.length ≤ 1000001 → Fr h₀ L h' m → News h₀ L h' ((D, W.listOf vs.toArray 0) :: news) → (∀ q ∈ news, q.1 < D) → Q (.ref D) { s with heap := h', toks := k }) :
    wpAny (model prog w) A (call (.builtin "bytes.split") [.bytes b t, .bytes #[47] u]) Q E s := by
  refine call_meets slot_bytes_split (typeIs_bytes _ _ _) entry_bytes_split (args_bytes_split_2 _ _) (meets_split b 47 t u) ⟨by rw [sizeLine_eq, ← KBw.ints_length b, hb]; omega, fun l k hl => ?_⟩
  have e := segs_ints 47 b
  rw [← hl, hb] at e
  have e2 : l.map (fun q => KBw.bInts q.1) = segs (47 : Int) [] ks := by
    rw [← show ((((47 : UInt8).toNat : Nat)) : Int) = 47 from rfl, ← e, List.map_map]
    rfl
  have hlen : l.length = (segs (47 : Int) [] ks).length := by rw [← e2, List.length_map]
  have hfit : l.length ≤ 1000001 := by
    have := segs_len (47 : Int) ks []
    omega
  have F' := F.push { cls := .type "list", data := .seq (bvals l).toArray }
  have N' := N.push F { cls := .type "list", data := .seq (bvals l).toArray }
  have lt : ∀ q ∈ news, q.1 < s.heap.objs.size := fun q hq => Heap.lt_size (N q hq).1
  by_cases h : (segs (47 : Int) [] ks).length = 3
  · rw [h] at hlen
    obtain ⟨q1, q2, q3, rfl⟩ : ∃ q1 q2 q3, l = [q1, q2, q3] := by
      rcases l with _ | ⟨q1, _ | ⟨q2, _ | ⟨q3, _ | ⟨q4, r⟩⟩⟩⟩ <;> simp at hlen
      exact ⟨_, _, _, rfl⟩
    have hs := segs_sizes (47 : Int) ks []
    rw [← e2] at hs
    simp only [List.map_cons, List.map_nil, List.mem_cons, List.not_mem_nil, or_false, List.length_nil, Nat.zero_add] at hs
    exact h3 _ q1.1 q2.1 q3.1 q1.2 q2.2 q3.2 _ _ _ _ k (by rw [← e2]; rfl) rfl rfl rfl (hs _ (.inl rfl)) (hs _ (.inr (.inl rfl))) (hs _ (.inr (.inr rfl))) F' N' lt
  · exact hx _ (bvals l) _ k h (by simp [bvals, hlen]) (by simpa [bvals] using hfit) F' N' lt
end
end

section
variable {prog : Program} {w : World} {M : Model} {A : Around} {E : Value → Shared → Prop} {s : Shared} {sep b1 b2 b3 b4 : Array UInt8} {t t1 t2 t3 t4 : Tok} {D : Addr} {sk k1 k2 k3 k4 : List Int} {Q : Value → Shared → Prop}
theorem join2 (hl : s.heap.IsList D #[.bytes b1 t1, .bytes b2 t2]) (hs : KBw.bInts sep = sk) (h1 : KBw.bInts b1 = k1) (h2 : KBw.bInts b2 = k2) (hz : k1.length + k2.length + 3 * sk.length ≤ 1000000)
    (h : ∀ B t' k, KBw.bInts B = k1 ++ (sk ++ k2) → Q (.bytes B t') { s with toks := k }) : wpAny (model prog w) A (call (.builtin "bytes.join") [.bytes sep t, .ref D]) Q E s :=
  join_call (q1 := (b1, t1)) (q2 := (b2, t2)) (l' := []) (ks := [k1, k2]) hl rfl hs (by rw [← h1, ← h2]; rfl) (by simp only [List.map_cons, List.map_nil, List.sum_cons, List.sum_nil, List.length_cons, List.length_nil]; omega)
    fun B t' k hB => h B t' k (by rw [hB]; simp [joinI])
theorem join3 (hl : s.heap.IsList D #[.bytes b1 t1, .bytes b2 t2, .bytes b3 t3]) (hs : KBw.bInts sep = sk) (h1 : KBw.bInts b1 = k1) (h2 : KBw.bInts b2 = k2) (h3 : KBw.bInts b3 = k3) (hz : k1.length + k2.length + k3.length + 3 * sk.length ≤ 1000000)
    (h : ∀ B t' k, KBw.bInts B = k1 ++ (sk ++ (k2 ++ (sk ++ k3))) → Q (.bytes B t') { s with toks := k }) : wpAny (model prog w) A (call (.builtin "bytes.join") [.bytes sep t, .ref D]) Q E s :=
  join_call (q1 := (b1, t1)) (q2 := (b2, t2)) (l' := [(b3, t3)]) (ks := [k1, k2, k3]) hl rfl hs (by rw [← h1, ← h2, ← h3]; rfl) (by simp only [List.map_cons, List.map_nil, List.sum_cons, List.sum_nil, List.length_cons, List.length_nil]; omega)
    fun B t' k hB => h B t' k (by rw [hB]; simp [joinI])
theorem join4 (hl : s.heap.IsList D #[.bytes b1 t1, .bytes b2 t2, .bytes b3 t3, .bytes b4 t4]) (hs : KBw.bInts sep = sk) (h1 : KBw.bInts b1 = k1) (h2 : KBw.bInts b2 = k2) (h3 : KBw.bInts b3 = k3) (h4 : KBw.bInts b4 = k4) (hz : k1.length + k2.length + k3.length + k4.length + 3 * sk.length ≤ 1000000)
    (h : ∀ B t' k, KBw.bInts B = k1 ++ (sk ++ (k2 ++ (sk ++ (k3 ++ (sk ++ k4))))) → Q (.bytes B t') { s with toks := k }) : wpAny (model prog w) A (call (.builtin "bytes.join") [.bytes sep t, .ref D]) Q E s :=
  join_call (q1 := (b1, t1)) (q2 := (b2, t2)) (l' := [(b3, t3), (b4, t4)]) (ks := [k1, k2, k3, k4]) hl rfl hs (by rw [← h1, ← h2, ← h3, ← h4]; rfl) (by simp only [List.map_cons, List.map_nil, List.sum_cons, List.sum_nil, List.length_cons, List.length_nil]; omega)
    fun B t' k hB => h B t' k (by rw [hB]; simp [joinI])
end
/-- a hex figure's byte -/
def hexfig (d : Int) : Int := [48, 49, 50, 51, 52, 53, 54, 55, 56, 57, 97, 98, 99, 100, 101, 102].getD d.toNat 0
theorem hexfig_cases {d : Int} (h0 : 0 ≤ d) (h1 : d < 16) : (d ≤ 9 ∧ hexfig d = 48 + d) ∨ (10 ≤ d ∧ hexfig d = 87 + d) := by
  obtain ⟨n, rfl⟩ : ∃ n : Nat, d = n := ⟨d.toNat, by omega⟩
  have hn : n < 16 := by omega
  have : ∀ n : Nat, n < 16 → ((n : Int) ≤ 9 ∧ hexfig n = 48 + n) ∨ (10 ≤ (n : Int) ∧ hexfig n = 87 + n) := by decide
  exact this n hn
theorem hexv_hexfig {d : Int} (h0 : 0 ≤ d) (h1 : d < 16) : hexv (hexfig d) = some d := by
  unfold hexv
  rcases hexfig_cases h0 h1 with ⟨h, e⟩ | ⟨h, e⟩
  · rw [if_pos (by omega)]; congr 1; omega
  · rw [if_neg (by omega), if_neg (by omega), if_pos (by omega)]; congr 1; omega
theorem hexfig_range {d : Int} (h0 : 0 ≤ d) (h1 : d < 16) : 48 ≤ hexfig d ∧ hexfig d ≤ 102 ∧ ¬ (58 ≤ hexfig d ∧ hexfig d ≤ 96) := by
  rcases hexfig_cases h0 h1 with ⟨h, e⟩ | ⟨h, e⟩ <;> omega
section
variable {prog : Program} {w : World} {M : Model} {A : Around} {E : Value → Shared → Prop} {s : Shared} {value slice : Expr} {t ui : Tok} {Q : Value → Shared → Prop}
theorem figs_item {i d : Int} (hi : i = d) (h0 : 0 ≤ d) (h1 : d < 16) (h : ∀ t' k, Q (.int (hexfig d) t') { s with toks := k })
    (hs : subscripted slice false (.bytes #[48, 49, 50, 51, 52, 53, 54, 55, 56, 57, 97, 98, 99, 100, 101, 102] t) (.int i ui) = operate [.bytes #[48, 49, 50, 51, 52, 53, 54, 55, 56, 57, 97, 98, 99, 100, 101, 102] t, .int i ui] (getItem (.bytes #[48, 49, 50, 51, 52, 53, 54, 55, 56, 57, 97, 98, 99, 100, 101, 102] t) (.int i ui)) := by with_unfolding_all rfl)
    (ht : ∀ r, letTemporaryGo value (.bytes #[48, 49, 50, 51, 52, 53, 54, 55, 56, 57, 97, 98, 99, 100, 101, 102] t) r = pure () := by intro _; with_unfolding_all rfl) :
    wpAny (model prog w) A (subscriptTail value slice (.bytes #[48, 49, 50, 51, 52, 53, 54, 55, 56, 57, 97, 98, 99, 100, 101, 102] t) (.int i ui)) Q E s := by
  subst hi
  exact KBw.item_K (ks := [48, 49, 50, 51, 52, 53, 54, 55, 56, 57, 97, 98, 99, 100, 101, 102]) (by decide) (by decide) h0 (by simpa using h1) (fun t' k _ _ => h t' k) hs ht
theorem nib_hi {x a b : Int} (h : x = 16 * a + b) (h0 : 0 ≤ b) (h1 : b < 16) : x.fdiv (2 ^ Int.toNat 4) = a := by
  rw [show ((2 : Int) ^ Int.toNat 4) = 16 from rfl, Int.fdiv_eq_ediv_of_nonneg _ (by decide)]; omega
theorem nib_lo {x a b : Int} (h : x = 16 * a + b) (h0 : 0 ≤ b) (h1 : b < 16) : Builtin.bitAnd x 15 = b := by rw [bitAnd_m4]; omega
end
theorem in_two {a b : Int} (ha : 0 ≤ a ∧ a < 16) (hb : 0 ≤ b ∧ b < 16) : ∀ n ∈ [hexfig a, hexfig b], 0 ≤ n ∧ n < 256 := by
  intro n hn
  have h1 := hexfig_range ha.1 ha.2
  have h2 := hexfig_range hb.1 hb.2
  rcases List.mem_cons.mp hn with rfl | hn
  · omega
  · rw [List.mem_singleton.mp hn]; omega
theorem in_one {a : Int} (h0 : 0 ≤ a) (h1 : a < 256) : ∀ n ∈ [a], 0 ≤ n ∧ n < 256 := by
  intro n hn
  rw [List.mem_singleton.mp hn]
  exact ⟨h0, h1⟩

local macro_rules | `(tactic| walk_at "getMethod bytes") => `(tactic| (k_here; (with_reducible refine method_join ?_)))
local macro_rules | `(tactic| walk_at "getMethod bytes") => `(tactic| (k_here; (with_reducible refine method_split ?_)))
local macro_rules | `(tactic| walk_at "my ints") => `(tactic| first | kba_ints | exact (rfl : KBw.bInts _ = ([47] : List Int)) | exact (rfl : KBw.bInts _ = ([] : List Int)) | kba_ints2)
local macro_rules | `(tactic| walk_at "my list") => `(tactic| first | exact News.isList (by k_asm) (by k_mem) | is_list)
local macro_rules | `(tactic| walk_at "call builtin:bytes.join") => `(tactic| (k_here; k_dflt (first
  | (refine' join3 ?l ?hs ?h1 ?h2 ?h3 ?hz ?_; (case l => walk_at "my list"); (case hs => walk_at "my ints"); (case h1 => walk_at "my ints"); (case h2 => walk_at "my ints"); (case h3 => walk_at "my ints"); (case hz => kba_size))
  | (refine' join2 ?l ?hs ?h1 ?h2 ?hz ?_; (case l => walk_at "my list"); (case hs => walk_at "my ints"); (case h1 => walk_at "my ints"); (case h2 => walk_at "my ints"); (case hz => kba_size))
  | (refine' join4 ?l ?hs ?h1 ?h2 ?h3 ?h4 ?hz ?_; (case l => walk_at "my list"); (case hs => walk_at "my ints"); (case h1 => walk_at "my ints"); (case h2 => walk_at "my ints"); (case h3 => walk_at "my ints"); (case h4 => walk_at "my ints"); (case hz => kba_size))); intro B9 t9 k9 hB9; (try simp only [List.nil_append, List.cons_append, List.append_assoc] at hB9)))
local macro_rules | `(tactic| walk_at "call ref") => `(tactic| (k_here; k_dflt (refine' rgb_c ?h1 ?h2 ?h3 ?h4 ?h5 (fun D9 t9 u9 v9 h9 tk9 o9 F9 N9 => ?_) ?kS; (case h1 => assumption); (case h2 => first | assumption | decide | omega); (case h3 => first | assumption | omega); (case h4 => first | assumption | omega); (case h5 => first | assumption | omega); (case kS => walk_at "my site")); (try simp only [LCg.Off1, and_true] at o9); (try dsimp only); (try k_fold)))
local macro_rules | `(tactic| walk_at "call builtin:bytes.split") => `(tactic| (k_here; k_dflt (refine' split_call ?h1 ?h2 ?h3 ?h4 (fun D9 b1 b2 b3 t1 t2 t3 k1 k2 k3 h9 tk9 hsg e1 e2 e3 z1 z2 z3 F9 N9 l9 => ?_) (fun D9 vs9 h9 tk9 hsg e1 z1 F9 N9 l9 => ?_); (case h1 => k_asm); (case h2 => k_asm); (case h3 => walk_at "my ints"); (case h4 => kba_size)); all_goals ((try k_lt l9); (try simp only [List.length_take, List.length_drop] at z1 z2 z3))))
local macro_rules | `(tactic| walk_at "subscriptTail") => `(tactic| (k_here; (with_reducible show wpAny _ _ (subscriptTail _ _ (Value.bytes _ _) (Value.int _ _)) _ _ _); (first
  | (refine' figs_item (nib_hi ?h1 ?h2 ?h3) ?h4 ?h5 (fun t9 k9 => ?_); (case h1 => assumption); (case h2 => omega); (case h3 => omega); (case h4 => omega); (case h5 => omega))
  | (refine' figs_item (nib_lo ?h1 ?h2 ?h3) ?h4 ?h5 (fun t9 k9 => ?_); (case h1 => assumption); (case h2 => omega); (case h3 => omega); (case h4 => omega); (case h5 => omega)))))
local macro_rules | `(tactic| kba_in) => `(tactic| exact in_two (by omega) (by omega))
local macro_rules | `(tactic| kba_in) => `(tactic| exact in_one (by omega) (by omega))

def rgbOct (a b c d e f : Int) : List Int := [114, 103, 98, 58, hexfig a, hexfig b, hexfig a, hexfig b, 47, hexfig c, hexfig d, hexfig c, hexfig d, 47, hexfig e, hexfig f, hexfig e, hexfig f]
theorem colo_c {prog : Program} {w : World} {p : Program} {loose : List Str} {mean : ExcName → Option Value} {mg mb : Str → Option Value} {dp un : Nat} {gd : Option (List Code)} {cn : Str} {cs : Scope} {a : Addr} {ccd : Value} {cl : List (Str × Addr)} {outer : List Env} {A₀ : Around} {base h₀ : Heap} {L : Addr} {m : Str → Option Value} {s : Shared} {Q E : Value → Shared → Prop} {news : List (Addr × Obj)}
    {r g b c r1 r0 g1 g0 b1 b0 : Int} {t : Tok} (hc : c = 16777216 * 0 + 65536 * r + 256 * g + b) (hr : r = 16 * r1 + r0) (hg : g = 16 * g1 + g0) (hb : b = 16 * b1 + b0) (hn1 : 0 ≤ r1 ∧ r1 < 16) (hn2 : 0 ≤ r0 ∧ r0 < 16) (hn3 : 0 ≤ g1 ∧ g1 < 16) (hn4 : 0 ≤ g0 ∧ g0 < 16) (hn5 : 0 ≤ b1 ∧ b1 < 16) (hn6 : 0 ≤ b0 ∧ b0 < 16)
    (hS : ∀ B t' h' tk', KBw.bInts B = rgbOct r1 r0 g1 g0 b1 b0 → Fr h₀ L h' m → News h₀ L h' news → Q (.bytes B t') { s with heap := h', toks := tk' })
    (S : Site w p loose mean mg mb dp un 3 cs outer A₀ base h₀ L s.heap m news) :
    wpAny (model prog w) (ktrTop dp un gd cn cs L a ccd cl outer) (call (.ref 150) [.int c t]) Q E s := by
  obtain ⟨B, F, X, N, T, hk, hd, hu⟩ := S
  have N0 : News h₀ L s.heap [] := News.sub N (by exact fun _ h => nomatch h)
  have kN0 : KeptN h₀ L s.heap [] := N0
  (walk_at "my enter"; intro g9 L9 h9 FG9 F9 N9 B9 X9 T9 kG9; clear N0; (try dsimp only); (try k_lift B9); (try k_fold); k_steps)
  (rename News g9 _ _ _ => N'); (rename Fr g9 _ _ _ => F'); (rename Fr h₀ _ _ _ => kF); (rename News h₀ _ _ _ => kN)
  refine hS _ _ _ _ ?_ kF (N.grown (grow_led kG9 kN0 F' N' (by first | exact (fun _ h => nomatch h) | (intro q hq; rw [List.mem_singleton.mp hq]; k_mem))))
  first | assumption | (simp only [bInts_app, *]; rfl)

def sixteen (i : Int) : Int := [0, 13434880, 52480, 13487360, 238, 13435085, 52685, 15066597, 8355711, 16711680, 65280, 16776960, 6053119, 16711935, 65535, 16777215].getD i.toNat 0
theorem pal_c {prog : Program} {w : World} {p : Program} {loose : List Str} {mean : ExcName → Option Value} {mg mb : Str → Option Value} {dp un : Nat} {gd : Option (List Code)} {cn : Str} {cs : Scope} {a : Addr} {ccd : Value} {cl : List (Str × Addr)} {outer : List Env} {A₀ : Around} {base h₀ : Heap} {L : Addr} {m : Str → Option Value} {s : Shared} {Q E : Value → Shared → Prop} {news : List (Addr × Obj)}
    {c : Int} {t : Tok} (h0 : 0 ≤ c) (h1 : c < 16)
    (hS : ∀ t' h' tk', Fr h₀ L h' m → News h₀ L h' news → Q (.int (sixteen c) t') { s with heap := h', toks := tk' })
    (S : Site w p loose mean mg mb dp un 3 cs outer A₀ base h₀ L s.heap m news) :
    wpAny (model prog w) (ktrTop dp un gd cn cs L a ccd cl outer) (call (.ref 171) [.int c t]) Q E s := by
  obtain ⟨B, F, X, N, T, hk, hd, hu⟩ := S
  have N0 : News h₀ L s.heap [] := News.sub N (by exact fun _ h => nomatch h)
  have kN0 : KeptN h₀ L s.heap [] := N0
  (walk_at "my enter"; intro g9 L9 h9 FG9 F9 N9 B9 X9 T9 kG9; clear N0; (try dsimp only); (try k_lift B9); (try k_fold); k_steps)
  all_goals ((rename News g9 _ _ _ => N'); (rename Fr g9 _ _ _ => F'); (rename Fr h₀ _ _ _ => kF); (rename News h₀ _ _ _ => kN); exact hS _ _ _ kF (N.grown (grow_led kG9 kN0 F' N' (by first | exact (fun _ h => nomatch h) | (intro q hq; rw [List.mem_singleton.mp hq]; k_mem)))))

theorem figs_bound {ks : List Int} {v : Int} (h : figs ks = some v) : 1 ≤ ks.length ∧ ks.length ≤ 4 ∧ 0 ≤ v ∧ v < 16 ^ ks.length := by
  unfold figs at h
  have step : ∀ {o : Int} {r : List Int} {f w : Int}, figsFold (o :: r) f = some w → ∃ d, 0 ≤ d ∧ d < 16 ∧ figsFold r (f * 16 + d) = some w := by
    intro o r f w h
    unfold figsFold at h
    cases e : hexv o with
    | none => rw [e] at h; cases h
    | some d => rw [e] at h; exact ⟨d, (hexv_lo e).1, (hexv_lo e).2, h⟩
  have fin : ∀ {f w : Int}, figsFold [] f = some w → f = w := fun h => by unfold figsFold at h; exact Option.some.inj h
  split at h
  · rename_i hl
    refine ⟨hl.1, hl.2, ?_⟩
    rcases ks with _ | ⟨x, _ | ⟨y, _ | ⟨z, _ | ⟨u, _ | ⟨q, r⟩⟩⟩⟩⟩
    · simp at hl
    · obtain ⟨d1, a1, b1, h⟩ := step h
      have := fin h
      exact ⟨by omega, by rw [show (16 : Int) ^ ([x] : List Int).length = 16 by simp]; omega⟩
    · obtain ⟨d1, a1, b1, h⟩ := step h
      obtain ⟨d2, a2, b2, h⟩ := step h
      have := fin h
      exact ⟨by omega, by rw [show (16 : Int) ^ ([x, y] : List Int).length = 256 by simp]; omega⟩
    · obtain ⟨d1, a1, b1, h⟩ := step h
      obtain ⟨d2, a2, b2, h⟩ := step h
      obtain ⟨d3, a3, b3, h⟩ := step h
      have := fin h
      exact ⟨by omega, by rw [show (16 : Int) ^ ([x, y, z] : List Int).length = 4096 by simp]; omega⟩
    · obtain ⟨d1, a1, b1, h⟩ := step h
      obtain ⟨d2, a2, b2, h⟩ := step h
      obtain ⟨d3, a3, b3, h⟩ := step h
      obtain ⟨d4, a4, b4, h⟩ := step h
      have := fin h
      exact ⟨by omega, by rw [show (16 : Int) ^ ([x, y, z, u] : List Int).length = 65536 by simp]; omega⟩
    · simp at hl
  · cases h
theorem pow_cases {n : Nat} (h1 : 1 ≤ n) (h2 : n ≤ 4) : (n = 1 ∧ (16 : Int) ^ n = 16) ∨ (n = 2 ∧ (16 : Int) ^ n = 256) ∨ (n = 3 ∧ (16 : Int) ^ n = 4096) ∨ (n = 4 ∧ (16 : Int) ^ n = 65536) := by
  have : n = 1 ∨ n = 2 ∨ n = 3 ∨ n = 4 := by omega
  rcases this with rfl | rfl | rfl | rfl <;> simp
def partV (ks : List Int) : Option Int := match figs ks with | none => none | some v => some (((v * 65535).fdiv (16 ^ ks.length - 1)).fdiv 256)
def partsV (k1 k2 k3 : List Int) : Option Int := match partV k1, partV k2, partV k3 with
  | some a, some b, some c => some ((a * 256 + b) * 256 + c)
  | _, _, _ => none
theorem partV_none {ks : List Int} (h : figs ks = none) : partV ks = none := by unfold partV; rw [h]
theorem partV_some {ks : List Int} {v q : Int} (h : figs ks = some v) (hq : q = ((v * 65535).fdiv (16 ^ ks.length - 1)).fdiv 256) : partV ks = some q := by unfold partV; rw [h, hq]
section
variable {prog : Program} {w : World} {A : Around} {E : Value → Shared → Prop} {s : Shared} {Q : Value → Shared → Prop}
theorem parts_div {v : Int} {ks : List Int} {tv tn : Tok} (hf : figs ks = some v) (h : ∀ q t k, partV ks = some (q.fdiv 256) → 0 ≤ q → q < 65536 → Q (.int q t) { s with toks := k }) :
    wpAny (model prog w) A (binaryOp .FloorDiv (.int (v * 65535) tv) (.int (16 ^ ((ks.length : Nat) : Int).toNat - 1) tn)) Q E s := by
  obtain ⟨l1, l2, v0, v1⟩ := figs_bound hf
  rw [Int.toNat_natCast]
  have key : ∀ m : Int, 15 ≤ m → m ≤ 65535 → v ≤ m → 0 ≤ (v * 65535).fdiv m ∧ (v * 65535).fdiv m < 65536 := by
    intro m h1 h2 h3
    rw [Int.fdiv_eq_ediv_of_nonneg _ (by omega)]
    have hx : ∃ x, v * 65535 = x := ⟨_, rfl⟩
    obtain ⟨x, hx⟩ := hx
    rw [hx]
    have h4 : ∃ B : Int, B = 65536 := ⟨_, rfl⟩
    obtain ⟨B, hB⟩ := h4
    rw [← hB]
    have h5 : x < B * m := by rw [hB]; omega
    exact ⟨Int.ediv_nonneg (by omega) (by omega), Int.ediv_lt_of_lt_mul (by omega) h5⟩
  have hm : 15 ≤ (16 : Int) ^ ks.length - 1 ∧ (16 : Int) ^ ks.length - 1 ≤ 65535 := by rcases pow_cases l1 l2 with ⟨_, e⟩ | ⟨_, e⟩ | ⟨_, e⟩ | ⟨_, e⟩ <;> rw [e] <;> decide
  have hb := key _ hm.1 hm.2 (by omega)
  exact floordiv_int (by omega) (h _ _ _ (by unfold partV; rw [hf]) hb.1 hb.2) (Or.inl (PyProof.noPylong_small (by omega)))
end

section
local macro_rules | `(tactic| walk_at "binaryOp FloorDiv int int") => `(tactic| (k_here; k_dflt (refine' parts_div ?h1 (fun q9 t9 k9 hp9 l9 u9 => ?_); (case h1 => assumption))))

theorem parts_c {prog : Program} {w : World} {p : Program} {loose : List Str} {mean : ExcName → Option Value} {mg mb : Str → Option Value} {dp un : Nat} {gd : Option (List Code)} {cn : Str} {cs : Scope} {a : Addr} {ccd : Value} {cl : List (Str × Addr)} {outer : List Env} {A₀ : Around} {base h₀ : Heap} {L : Addr} {m : Str → Option Value} {s : Shared} {Q E : Value → Shared → Prop} {news : List (Addr × Obj)}
    {D : Addr} {nD : Nat} {b1 b2 b3 : Array UInt8} {t1 t2 t3 : Tok} {k1 k2 k3 : List Int} (hb1 : KBw.bInts b1 = k1) (hb2 : KBw.bInts b2 = k2) (hb3 : KBw.bInts b3 = k3) (hl1 : k1.length ≤ 100) (hl2 : k2.length ≤ 100) (hl3 : k3.length ≤ 100) (hD : (D, W.listOf #[.bytes b1 t1, .bytes b2 t2, .bytes b3 t3] nD) ∈ news)
    (hN : partsV k1 k2 k3 = none → ∀ h' tk', Fr h₀ L h' m → News h₀ L h' news → Q .none { s with heap := h', toks := tk' })
    (hS : ∀ v t, partsV k1 k2 k3 = some v → ∀ h' tk', Fr h₀ L h' m → News h₀ L h' news → Q (.int v t) { s with heap := h', toks := tk' })
    (S : Site w p loose mean mg mb dp un 3 cs outer A₀ base h₀ L s.heap m news) :
    wpAny (model prog w) (ktrTop dp un gd cn cs L a ccd cl outer) (call (.ref 129) [.ref D]) Q E s := by
  obtain ⟨B, F, X, N, T, hk, hd, hu⟩ := S
  have N0 : News h₀ L s.heap [(D, W.listOf #[.bytes b1 t1, .bytes b2 t2, .bytes b3 t3] nD)] := News.sub N (by intro q hq; rw [List.mem_singleton.mp hq]; exact hD)
  have kN0 : KeptN h₀ L s.heap [(D, W.listOf #[.bytes b1 t1, .bytes b2 t2, .bytes b3 t3] nD)] := N0
  (walk_at "my enter"; intro g9 L9 h9 FG9 F9 N9 B9 X9 T9 kG9; clear N0; (try dsimp only); (try k_lift B9); (try k_fold); k_steps)
  all_goals ((rename News g9 _ _ _ => N'); (rename Fr g9 _ _ _ => F'); (rename Fr h₀ _ _ _ => kF); (rename News h₀ _ _ _ => kN))
  all_goals first
    | (refine hN ?_ _ _ kF (N.grown (grow_led kG9 kN0 F' N' (by intro q hq; (cases hq with | head => k_mem | tail _ hq => cases hq)))); have e := partV_none (ks := k1) (by assumption); simp only [partsV, e]; done)
    | (refine hN ?_ _ _ kF (N.grown (grow_led kG9 kN0 F' N' (by intro q hq; (cases hq with | head => k_mem | tail _ hq => cases hq)))); have e := partV_none (ks := k2) (by assumption); simp only [partsV, e, *]; done)
    | (refine hN ?_ _ _ kF (N.grown (grow_led kG9 kN0 F' N' (by intro q hq; (cases hq with | head => k_mem | tail _ hq => cases hq)))); have e := partV_none (ks := k3) (by assumption); simp only [partsV, e, *]; done)
    | (refine hS _ _ ?_ _ _ kF (N.grown (grow_led kG9 kN0 F' N' (by intro q hq; (cases hq with | head => k_mem | tail _ hq => cases hq)))); rw [Int.zero_mul, Int.zero_add]; simp only [partsV, *]; rfl)

end
def triV (a b c : Option Int) : Option Int := match a, b, c with
  | some a, some b, some c => some ((a * 256 + b) * 256 + c)
  | _, _, _ => none
def digV (m : Nat) (ks : List Int) : Option Int := match figs ks with | none => none | some v => some ((v * 2 ^ (16 - 4 * m)).fdiv 256)
def digsV (ks : List Int) : Option Int := if ks.length = 3 ∨ ks.length = 6 ∨ ks.length = 9 ∨ ks.length = 12 then triV (digV (ks.length / 3) (ks.take (ks.length / 3))) (digV (ks.length / 3) ((ks.drop (ks.length / 3)).take (ks.length / 3))) (digV (ks.length / 3) ((ks.drop (2 * (ks.length / 3))).take (ks.length / 3))) else none
theorem digV_none {m : Nat} {ks : List Int} (h : figs ks = none) : digV m ks = none := by unfold digV; rw [h]
section
variable {prog : Program} {w : World} {A : Around} {E : Value → Shared → Prop} {s : Shared} {Q : Value → Shared → Prop} {b : Array UInt8} {t : Tok}
theorem len_lit {ks : List Int} {n : Int} (hk : KBw.bInts b = ks) (hn : ((ks.length : Nat) : Int) = n) (hfit : ks.length ≤ 1000000) (h : ∀ t' k, Q (.int n t') { s with toks := k }) : wpAny (model prog w) A (call (.builtin "len") [.bytes b t]) Q E s := by
  subst hn
  exact KBw.len_K hk (by omega) (h _ _)
end
theorem figs_small {ks : List Int} {v : Int} (h : figs ks = some v) : 0 ≤ v ∧ v < 65536 := by
  obtain ⟨l1, l2, v0, v1⟩ := figs_bound h
  refine ⟨v0, ?_⟩
  rcases pow_cases l1 l2 with ⟨_, e⟩ | ⟨_, e⟩ | ⟨_, e⟩ | ⟨_, e⟩ <;> omega
theorem figs_cb {prog : Program} {w : World} {p : Program} {loose : List Str} {mean : ExcName → Option Value} {mg mb : Str → Option Value} {dp un : Nat} {gd : Option (List Code)} {cn : Str} {cs : Scope} {a : Addr} {ccd : Value} {cl : List (Str × Addr)} {outer : List Env} {A₀ : Around} {base h₀ : Heap} {L : Addr} {m : Str → Option Value} {s : Shared} {Q E : Value → Shared → Prop} {news : List (Addr × Obj)}
    {b : Array UInt8} {ks : List Int} {to : Tok} (hb : KBw.bInts b = ks) (hl : ks.length ≤ 100) (S : Site w p loose mean mg mb dp un 2 cs outer A₀ base h₀ L s.heap m news)
    (hN : figs ks = none → ∀ h' tk', Fr h₀ L h' m → News h₀ L h' news → Q .none { s with heap := h', toks := tk' })
    (hS : ∀ v t, figs ks = some v → 0 ≤ v → v < 65536 → ∀ h' tk', Fr h₀ L h' m → News h₀ L h' news → Q (.int v t) { s with heap := h', toks := tk' }) :
    wpAny (model prog w) (ktrTop dp un gd cn cs L a ccd cl outer) (call (.ref 122) [.bytes b to]) Q E s :=
  figs_c hb hl S hN fun v t h => hS v t h (figs_small h).1 (figs_small h).2
theorem list_len3 {ks : List Int} (h : ks.length = 3) : ∃ x1 x2 x3 : Int, ks = [x1, x2, x3] := by
  rcases ks with _ | ⟨x1, _ | ⟨x2, _ | ⟨x3, _ | ⟨y, r⟩⟩⟩⟩ <;> first | (exfalso; simp at h; done) | (exfalso; simp only [List.length_cons, List.length_nil] at h; omega) | exact ⟨_, _, _, rfl⟩
theorem list_len6 {ks : List Int} (h : ks.length = 6) : ∃ x1 x2 x3 x4 x5 x6 : Int, ks = [x1, x2, x3, x4, x5, x6] := by
  rcases ks with _ | ⟨x1, _ | ⟨x2, _ | ⟨x3, _ | ⟨x4, _ | ⟨x5, _ | ⟨x6, _ | ⟨y, r⟩⟩⟩⟩⟩⟩⟩ <;> first | (exfalso; simp at h; done) | (exfalso; simp only [List.length_cons, List.length_nil] at h; omega) | exact ⟨_, _, _, _, _, _, rfl⟩
theorem list_len9 {ks : List Int} (h : ks.length = 9) : ∃ x1 x2 x3 x4 x5 x6 x7 x8 x9 : Int, ks = [x1, x2, x3, x4, x5, x6, x7, x8, x9] := by
  rcases ks with _ | ⟨x1, _ | ⟨x2, _ | ⟨x3, _ | ⟨x4, _ | ⟨x5, _ | ⟨x6, _ | ⟨x7, _ | ⟨x8, _ | ⟨x9, _ | ⟨y, r⟩⟩⟩⟩⟩⟩⟩⟩⟩⟩ <;> first | (exfalso; simp at h; done) | (exfalso; simp only [List.length_cons, List.length_nil] at h; omega) | exact ⟨_, _, _, _, _, _, _, _, _, rfl⟩
theorem list_len12 {ks : List Int} (h : ks.length = 12) : ∃ x1 x2 x3 x4 x5 x6 x7 x8 x9 x10 x11 x12 : Int, ks = [x1, x2, x3, x4, x5, x6, x7, x8, x9, x10, x11, x12] := by
  rcases ks with _ | ⟨x1, _ | ⟨x2, _ | ⟨x3, _ | ⟨x4, _ | ⟨x5, _ | ⟨x6, _ | ⟨x7, _ | ⟨x8, _ | ⟨x9, _ | ⟨x10, _ | ⟨x11, _ | ⟨x12, _ | ⟨y, r⟩⟩⟩⟩⟩⟩⟩⟩⟩⟩⟩⟩⟩ <;> first | (exfalso; simp at h; done) | (exfalso; simp only [List.length_cons, List.length_nil] at h; omega) | exact ⟨_, _, _, _, _, _, _, _, _, _, _, _, rfl⟩
theorem digsV_3 {x1 x2 x3 : Int} : digsV [x1, x2, x3] = triV (digV 1 [x1]) (digV 1 [x2]) (digV 1 [x3]) := by
  simp [digsV]
theorem digsV_6 {x1 x2 x3 x4 x5 x6 : Int} : digsV [x1, x2, x3, x4, x5, x6] = triV (digV 2 [x1, x2]) (digV 2 [x3, x4]) (digV 2 [x5, x6]) := by
  simp [digsV]
theorem digsV_9 {x1 x2 x3 x4 x5 x6 x7 x8 x9 : Int} : digsV [x1, x2, x3, x4, x5, x6, x7, x8, x9] = triV (digV 3 [x1, x2, x3]) (digV 3 [x4, x5, x6]) (digV 3 [x7, x8, x9]) := by
  simp [digsV]
theorem digsV_12 {x1 x2 x3 x4 x5 x6 x7 x8 x9 x10 x11 x12 : Int} : digsV [x1, x2, x3, x4, x5, x6, x7, x8, x9, x10, x11, x12] = triV (digV 4 [x1, x2, x3, x4]) (digV 4 [x5, x6, x7, x8]) (digV 4 [x9, x10, x11, x12]) := by
  simp [digsV]
theorem digs_no {m : Nat} {A B C ks l : List Int} (hk : digsV ks = triV (digV m A) (digV m B) (digV m C)) (h : figs l = none) (e : l = A ∨ l = B ∨ l = C) : digsV ks = none := by
  rw [hk]
  rcases e with rfl | rfl | rfl
  · rw [digV_none h]; rfl
  · rw [digV_none h]; cases digV m A <;> rfl
  · rw [digV_none h]; cases digV m A <;> cases digV m B <;> rfl
theorem digs_so {m c : Nat} {A B C ks l1 l2 l3 : List Int} {v1 v2 v3 : Int} (hk : digsV ks = triV (digV m A) (digV m B) (digV m C)) (h1 : figs l1 = some v1) (h2 : figs l2 = some v2) (h3 : figs l3 = some v3) (e1 : l1 = A) (e2 : l2 = B) (e3 : l3 = C) (hc : c = 16 - 4 * m) :
    digsV ks = some (((0 * 256 + (v1 * 2 ^ c).fdiv (2 ^ Int.toNat 8)) * 256 + (v2 * 2 ^ c).fdiv (2 ^ Int.toNat 8)) * 256 + (v3 * 2 ^ c).fdiv (2 ^ Int.toNat 8)) := by
  subst e1 e2 e3 hc
  rw [hk, digV, digV, digV, h1, h2, h3, show ((2 : Int) ^ Int.toNat 8) = 256 from rfl, Int.zero_mul, Int.zero_add]
  rfl

local macro_rules | `(tactic| walk_at "call builtin:len") => `(tactic| (k_here; (with_reducible show wpAny _ _ (call (Value.builtin "len") [Value.bytes _ _]) _ _ _); (first
  | (refine' len_lit (n := 3) ?h1 ?h2 ?h3 (fun t9 k9 => ?_); (case h1 => kba_ints); (case h2 => with_unfolding_all rfl); (case h3 => kba_size))
  | (refine' len_lit (n := 6) ?h1 ?h2 ?h3 (fun t9 k9 => ?_); (case h1 => kba_ints); (case h2 => with_unfolding_all rfl); (case h3 => kba_size))
  | (refine' len_lit (n := 9) ?h1 ?h2 ?h3 (fun t9 k9 => ?_); (case h1 => kba_ints); (case h2 => with_unfolding_all rfl); (case h3 => kba_size))
  | (refine' len_lit (n := 12) ?h1 ?h2 ?h3 (fun t9 k9 => ?_); (case h1 => kba_ints); (case h2 => with_unfolding_all rfl); (case h3 => kba_size)))))
local macro_rules | `(tactic| walk_at "call ref") => `(tactic| (k_here; k_dflt (refine' figs_cb ?kb ?kl ?kS (fun hv9 h9 tk9 F9 N9 => ?_) (fun v9 t9 hv9 lo9 hi9 h9 tk9 F9 N9 => ?_); (case kb => kba_ints2); (case kl => kba_size); (case kS => walk_at "my site")); all_goals ((try dsimp only); (try k_fold))))

theorem digs_c {prog : Program} {w : World} {p : Program} {loose : List Str} {mean : ExcName → Option Value} {mg mb : Str → Option Value} {dp un : Nat} {gd : Option (List Code)} {cn : Str} {cs : Scope} {a : Addr} {ccd : Value} {cl : List (Str × Addr)} {outer : List Env} {A₀ : Around} {base h₀ : Heap} {L : Addr} {m : Str → Option Value} {s : Shared} {Q E : Value → Shared → Prop} {news : List (Addr × Obj)}
    {b : Array UInt8} {ks : List Int} {to : Tok} (hb : KBw.bInts b = ks) (hl : ks.length ≤ 100)
    (hN : digsV ks = none → ∀ h' tk', Fr h₀ L h' m → News h₀ L h' news → Q .none { s with heap := h', toks := tk' })
    (hS : ∀ v t, digsV ks = some v → ∀ h' tk', Fr h₀ L h' m → News h₀ L h' news → Q (.int v t) { s with heap := h', toks := tk' })
    (S : Site w p loose mean mg mb dp un 3 cs outer A₀ base h₀ L s.heap m news) :
    wpAny (model prog w) (ktrTop dp un gd cn cs L a ccd cl outer) (call (.ref 136) [.bytes b to]) Q E s := by
  obtain ⟨B, F, X, N, T, hk, hd, hu⟩ := S
  have N0 : News h₀ L s.heap [] := News.sub N (by exact fun _ h => nomatch h)
  have kN0 : KeptN h₀ L s.heap [] := N0
  have hcase : (∃ x1 x2 x3 : Int, ks = [x1, x2, x3]) ∨ (∃ x1 x2 x3 x4 x5 x6 : Int, ks = [x1, x2, x3, x4, x5, x6]) ∨ (∃ x1 x2 x3 x4 x5 x6 x7 x8 x9 : Int, ks = [x1, x2, x3, x4, x5, x6, x7, x8, x9]) ∨ (∃ x1 x2 x3 x4 x5 x6 x7 x8 x9 x10 x11 x12 : Int, ks = [x1, x2, x3, x4, x5, x6, x7, x8, x9, x10, x11, x12]) ∨ (ks.length ≠ 3 ∧ ks.length ≠ 6 ∧ ks.length ≠ 9 ∧ ks.length ≠ 12) := by
    by_cases h3 : ks.length = 3
    · exact .inl (list_len3 h3)
    by_cases h6 : ks.length = 6
    · exact .inr (.inl (list_len6 h6))
    by_cases h9 : ks.length = 9
    · exact .inr (.inr (.inl (list_len9 h9)))
    by_cases h12 : ks.length = 12
    · exact .inr (.inr (.inr (.inl (list_len12 h12))))
    exact .inr (.inr (.inr (.inr ⟨h3, h6, h9, h12⟩)))
  rcases hcase with ⟨x1, x2, x3, rfl⟩ | ⟨x1, x2, x3, x4, x5, x6, rfl⟩ | ⟨x1, x2, x3, x4, x5, x6, x7, x8, x9, rfl⟩ | ⟨x1, x2, x3, x4, x5, x6, x7, x8, x9, x10, x11, x12, rfl⟩ | ⟨l3, l6, l9, l12⟩
  · (walk_at "my enter"; intro g9 L9 h9 FG9 F9 N9 B9 X9 T9 kG9; clear N0; (try dsimp only); (try k_lift B9); (try k_fold); k_steps)
    all_goals ((rename News g9 _ _ _ => N'); (rename Fr g9 _ _ _ => F'); (rename Fr h₀ _ _ _ => kF); (rename News h₀ _ _ _ => kN))
    all_goals first
      | (refine hN (digs_no digsV_3 (by assumption) ?_) _ _ kF (N.grown (grow_led kG9 kN0 F' N' (fun _ h => nomatch h))); first | exact .inl rfl | exact .inr (.inl rfl) | exact .inr (.inr rfl))
      | (refine hS _ _ (digs_so digsV_3 (by assumption) (by assumption) (by assumption) ?_ ?_ ?_ ?_) _ _ kF (N.grown (grow_led kG9 kN0 F' N' (fun _ h => nomatch h))) <;> rfl)
  · (walk_at "my enter"; intro g9 L9 h9 FG9 F9 N9 B9 X9 T9 kG9; clear N0; (try dsimp only); (try k_lift B9); (try k_fold); k_steps)
    all_goals ((rename News g9 _ _ _ => N'); (rename Fr g9 _ _ _ => F'); (rename Fr h₀ _ _ _ => kF); (rename News h₀ _ _ _ => kN))
    all_goals first
      | (refine hN (digs_no digsV_6 (by assumption) ?_) _ _ kF (N.grown (grow_led kG9 kN0 F' N' (fun _ h => nomatch h))); first | exact .inl rfl | exact .inr (.inl rfl) | exact .inr (.inr rfl))
      | (refine hS _ _ (digs_so digsV_6 (by assumption) (by assumption) (by assumption) ?_ ?_ ?_ ?_) _ _ kF (N.grown (grow_led kG9 kN0 F' N' (fun _ h => nomatch h))) <;> rfl)
  · (walk_at "my enter"; intro g9 L9 h9 FG9 F9 N9 B9 X9 T9 kG9; clear N0; (try dsimp only); (try k_lift B9); (try k_fold); k_steps)
    all_goals ((rename News g9 _ _ _ => N'); (rename Fr g9 _ _ _ => F'); (rename Fr h₀ _ _ _ => kF); (rename News h₀ _ _ _ => kN))
    all_goals first
      | (refine hN (digs_no digsV_9 (by assumption) ?_) _ _ kF (N.grown (grow_led kG9 kN0 F' N' (fun _ h => nomatch h))); first | exact .inl rfl | exact .inr (.inl rfl) | exact .inr (.inr rfl))
      | (refine hS _ _ (digs_so digsV_9 (by assumption) (by assumption) (by assumption) ?_ ?_ ?_ ?_) _ _ kF (N.grown (grow_led kG9 kN0 F' N' (fun _ h => nomatch h))) <;> rfl)
  · (walk_at "my enter"; intro g9 L9 h9 FG9 F9 N9 B9 X9 T9 kG9; clear N0; (try dsimp only); (try k_lift B9); (try k_fold); k_steps)
    all_goals ((rename News g9 _ _ _ => N'); (rename Fr g9 _ _ _ => F'); (rename Fr h₀ _ _ _ => kF); (rename News h₀ _ _ _ => kN))
    all_goals first
      | (refine hN (digs_no digsV_12 (by assumption) ?_) _ _ kF (N.grown (grow_led kG9 kN0 F' N' (fun _ h => nomatch h))); first | exact .inl rfl | exact .inr (.inl rfl) | exact .inr (.inr rfl))
      | (refine hS _ _ (digs_so digsV_12 (by assumption) (by assumption) (by assumption) ?_ ?_ ?_ ?_) _ _ kF (N.grown (grow_led kG9 kN0 F' N' (fun _ h => nomatch h))) <;> rfl)
  · (walk_at "my enter"; intro g9 L9 h9 FG9 F9 N9 B9 X9 T9 kG9; clear N0; (try dsimp only); (try k_lift B9); (try k_fold); k_steps)
    all_goals ((rename News g9 _ _ _ => N'); (rename Fr g9 _ _ _ => F'); (rename Fr h₀ _ _ _ => kF); (rename News h₀ _ _ _ => kN))
    all_goals first
      | (exfalso; (rename (List.any _ _ = true) => ha); simp at ha; omega)
      | (refine hN (if_neg (by omega)) _ _ kF (N.grown (grow_led kG9 kN0 F' N' (fun _ h => nomatch h))))

def bytesPairs : List (Value × Value) → List (List UInt8 × Value)
  | (.bytes x _, v) :: r => (x.toList, v) :: bytesPairs r
  | _ => []
def allBytesKeys : List (Value × Value) → Bool
  | (.bytes _ _, _) :: r => allBytesKeys r
  | [] => true
  | _ => false
theorem carries_bytesPairs (prog : Program) (w : World) : ∀ vs : List (Value × Value), allBytesKeys vs = true → Carries (bytesKind prog w) vs (bytesPairs vs)
  | [], _ => trivial
  | (.bytes x t, v) :: r, h => ⟨by simp [bytesKind, isBytes], rfl, carries_bytesPairs prog w r h⟩
  | (.none, _) :: _, h | (.ellipsis, _) :: _, h | (.notImplemented, _) :: _, h | (.bool _, _) :: _, h | (.int _ _, _) :: _, h | (.float _ _, _) :: _, h | (.str _ _, _) :: _, h | (.type _, _) :: _, h
  | (.builtin _, _) :: _, h | (.ref _, _) :: _, h => by simp [allBytesKeys] at h
theorem made_bytes {prog : Program} {w : World} {h₀ h : Heap} {L : Addr} {m : Str → Option Value} {news : List (Addr × Obj)} {vs : List (Value × Value)} {P : Heap → Prop} (F : Fr h₀ L h m) (N : News h₀ L h news) (hbig : h₀.NoLimit) (hk : allBytesKeys vs = true) (hn : ((bytesPairs vs).map (·.1)).Nodup)
    (k : ∀ h' o, Fr h₀ L h' m → News h₀ L h' ((h.objs.size, o) :: news) → (∀ p ∈ news, p.1 < h.objs.size) → (h.objs.size == sysModules) = false → o.IsDictOf (bytesKind prog w) (bytesPairs vs) → P h') :
    ∃ kvs, Carries (bytesKind prog w) vs kvs ∧ (h.push { cls := .type "dict", data := .dict #[] }).DictOf (bytesKind prog w) h.objs.size [] ∧
      ∀ h', h'.DictOf (bytesKind prog w) h.objs.size (merged [] kvs) → Heap.SameBut h.objs.size (h.push { cls := .type "dict", data := .dict #[] }) h' → P h' :=
  ⟨bytesPairs vs, carries_bytesPairs prog w vs hk, Heap.DictOf.new h, fun h' hm hs => by
    rw [merged_nil_of_nodup _ hn] at hm
    obtain ⟨o, ho, hd⟩ := Heap.dictOf_iff.mp hm
    exact k h' o (F.filled hs) (N.filled F hs ho) (fun p hp => Heap.lt_size (N p hp).1) (F.notModules (modules_low hbig)) hd⟩
/-- what a dict of ints by bytes tells -/
inductive IntTabB : List (List UInt8 × Value) → List (List Int × Int) → Prop
  | nil : IntTabB [] []
  | cons {k v t r kl r'} : (k.map fun c => (c.toNat : Int)) = kl → IntTabB r r' → IntTabB ((k, .int v t) :: r) ((kl, v) :: r')
def lookB (k : List Int) : List (List Int × Int) → Option Int
  | [] => none
  | (x, v) :: r => if x = k then some v else lookB k r
def bytesLits : List (Option Expr) → Bool
  | some (.Constant (.bytes _) _ _) :: r => bytesLits r
  | [] => true
  | _ => false
theorem Dict_made_bytes {prog : Program} {w : World} {A : Around} {E : Value → Shared → Prop} {s : Shared} {env : Env} {h₀ : Heap} {L : Addr} {m : Str → Option Value} {keys : List (Option Expr)} {values : List Expr} {pos : Pos} {Q : Value → Shared → Prop} (_ : bytesLits keys = true) (F : Fr h₀ L s.heap m)
    (hall : keys.all (·.isSome) = true) (hl : keys.length = values.length) (h0 : keys ≠ []) (hlen : keys.length ≤ 15)
    (h : Fr h₀ L (s.heap.push { cls := .type "dict", data := .dict #[] }) m →
      wpAny (model prog w) A (evalPairs (pairTrees keys values env pos)) (fun vs s₁ => ∃ kvs, Carries (bytesKind prog w) vs kvs ∧ s₁.heap.DictOf (bytesKind prog w) s.heap.objs.size [] ∧
        ∀ h', h'.DictOf (bytesKind prog w) s.heap.objs.size (merged [] kvs) → Heap.SameBut s.heap.objs.size s₁.heap h' → Q (.ref s.heap.objs.size) { s₁ with heap := h', toks := s₁.toks + vs.length }) E
        { s with heap := s.heap.push { cls := .type "dict", data := .dict #[] } }) :
    wpAny (model prog w) A (eval (.Dict keys values pos) env) Q E s := Dict_made F hall hl h0 hlen h

local macro_rules | `(tactic| walk_at "Exists") => `(tactic| (k_here; (refine made_bytes (by k_asm) (by first | k_asm | exact News.nil) (Top.nolimit (by k_asm)) (by rfl) (of_decide_eq_true (by rfl)) ?_; intro h' o' F' N' l1 lo' hd'; (try k_lt l1))))
local macro_rules | `(tactic| walk_at "eval Dict") => `(tactic| (k_here; (with_reducible refine Dict_made_bytes (by with_unfolding_all rfl) (by with_unfolding_all assumption) (by with_unfolding_all rfl) (by with_unfolding_all rfl) (List.cons_ne_nil _ _) (by with_unfolding_all decide) ?_; intro _)))

def namesTab : List (List Int × Int) := [([98, 108, 97, 99, 107], 0), ([114, 101, 100], 16711680), ([103, 114, 101, 101, 110], 65280), ([121, 101, 108, 108, 111, 119], 16776960), ([98, 108, 117, 101], 255), ([109, 97, 103, 101, 110, 116, 97], 16711935), ([99, 121, 97, 110], 65535), ([119, 104, 105, 116, 101], 16777215), ([103, 114, 97, 121], 12500670), ([103, 114, 101, 121], 12500670), ([111, 114, 97, 110, 103, 101], 16753920), ([98, 114, 111, 119, 110], 10824234), ([112, 105, 110, 107], 16761035), ([112, 117, 114, 112, 108, 101], 10494192), ([110, 97, 118, 121], 128)]
theorem names_c {prog : Program} {w : World} {p : Program} {loose : List Str} {mean : ExcName → Option Value} {mg mb : Str → Option Value} {dp un : Nat} {gd : Option (List Code)} {cn : Str} {cs : Scope} {a : Addr} {ccd : Value} {cl : List (Str × Addr)} {outer : List Env} {A₀ : Around} {base h₀ : Heap} {L : Addr} {m : Str → Option Value} {s : Shared} {Q E : Value → Shared → Prop} {news : List (Addr × Obj)}
    (hS : ∀ D o kvs h' tk', LCg.Off1 D news → (D == sysModules) = false → o.IsDictOf (bytesKind prog w) kvs → IntTabB kvs namesTab → Fr h₀ L h' m → News h₀ L h' ((D, o) :: news) → Q (.ref D) { s with heap := h', toks := tk' })
    (S : Site w p loose mean mg mb dp un 1 cs outer A₀ base h₀ L s.heap m news) :
    wpAny (model prog w) (ktrTop dp un gd cn cs L a ccd cl outer) (call (.ref 110) []) Q E s := by
  obtain ⟨B, F, X, N, T, hk, hd, hu⟩ := S
  have N0 : News h₀ L s.heap [] := News.sub N (by exact fun _ h => nomatch h)
  have kN0 : KeptN h₀ L s.heap [] := N0
  (walk_at "my enter"; intro g9 L9 h9 FG9 F9 N9 B9 X9 T9 kG9; clear N0; (try dsimp only); (try k_lift B9); (try k_fold); k_steps)
  (rename News g9 _ _ _ => N'); (rename Fr g9 _ _ _ => F'); (rename Fr h₀ _ _ _ => kF); (rename News h₀ _ _ _ => kN); (rename Obj.IsDictOf _ _ _ => hD); (rename ((_ == sysModules) = false) => hL)
  refine hS _ _ _ _ _ (off_of (led := []) kG9 N' (by k_mem) (by simp) N) hL hD (by repeat (first | exact IntTabB.nil | refine IntTabB.cons (by rfl) ?_)) kF (News.one kN (by k_mem) (N.grown (grow_led kG9 kN0 F' N' (fun _ h => nomatch h))))
theorem lnames_c {prog : Program} {w : World} {p : Program} {loose : List Str} {mean : ExcName → Option Value} {mg mb : Str → Option Value} {dp un : Nat} {gd : Option (List Code)} {cn : Str} {cs : Scope} {a : Addr} {ccd : Value} {cl : List (Str × Addr)} {outer : List Env} {A₀ : Around} {base h₀ : Heap} {L : Addr} {m : Str → Option Value} {s : Shared} {Q E : Value → Shared → Prop} {news : List (Addr × Obj)}
    (hS : ∀ D o kvs h' tk', LCg.Off1 D news → (D == sysModules) = false → o.IsDictOf (bytesKind prog w) kvs → IntTabB kvs namesTab → Fr h₀ L h' m → News h₀ L h' ((D, o) :: news) → Q (.ref D) { s with heap := h', toks := tk' })
    (S : Site w p loose mean mg mb dp un 1 cs outer A₀ base h₀ L s.heap m news) :
    wpAny (model prog w) (ktrTop dp un gd cn cs L a ccd cl outer) (call (.ref 178) []) Q E s := by
  obtain ⟨B, F, X, N, T, hk, hd, hu⟩ := S
  have N0 : News h₀ L s.heap [] := News.sub N (by exact fun _ h => nomatch h)
  have kN0 : KeptN h₀ L s.heap [] := N0
  (walk_at "my enter"; intro g9 L9 h9 FG9 F9 N9 B9 X9 T9 kG9; clear N0; (try dsimp only); (try k_lift B9); (try k_fold); k_steps)
  (rename News g9 _ _ _ => N'); (rename Fr g9 _ _ _ => F'); (rename Fr h₀ _ _ _ => kF); (rename News h₀ _ _ _ => kN); (rename Obj.IsDictOf _ _ _ => hD); (rename ((_ == sysModules) = false) => hL)
  refine hS _ _ _ _ _ (off_of (led := []) kG9 N' (by k_mem) (by simp) N) hL hD (by repeat (first | exact IntTabB.nil | refine IntTabB.cons (by rfl) ?_)) kF (News.one kN (by k_mem) (N.grown (grow_led kG9 kN0 F' N' (fun _ h => nomatch h))))

/-- a def that keeps names in cells, entered: what stood (but the ledger's) stands in the ground -/
theorem code_defCG {prog : Program} {w : World} {A₀ A : Around} {s : Shared} {base h₀ : Heap} {outer : List Env} {L : Addr} {m : Str → Option Value} {env : Env} {news : List (Addr × Obj)}
    {K : Frag} {p : Program} {loose : List Str} {mean : ExcName → Option Value} {mg mb : Str → Option Value} {R : Result → Shared → Prop} {name qual : Str} {params : Arguments} {body : List Stmt} {scope : Scope} {dV kV doc pm cdv ct oc : Value} {an od : Option Addr} {osl : Array (Option Value)} {f : Addr} {args : Args} {binds : List (Str × Value)}
    (B : Below A₀ base outer h₀) (F : Fr h₀ L s.heap m) (X₀ : K.In h₀) (N : News h₀ L s.heap news) (T : Top p loose mean mg mb h₀) (hA : A.frames = some (env :: outer)) (hf : env.frame = some L) (hke : env.scope.kind = .function)
    (ho : K.lookup f = some ⟨oc, od, .func (fnOf name qual params body scope dV kV doc pm an cdv ct), osl⟩) (hcd : codeIn K cdv qual = true) (hroom : A.depth < recursionLimit)
    (hbind : BindsTo s (fnOf name qual params body scope dV kV doc pm an cdv ct) args binds) (hkind : (binds.all fun y => scope.names.lookup y.1 == some .local || scope.names.lookup y.1 == some .cell) = true)
    (hnd : ((cellsFrom 0 scope.names []).map (·.1)).Nodup)
    (h : ∀ g L' h₁ tk cells, Fr h₀ L g m → Fr g L' h₁ (bindL (envOfC qual scope L' f cdv).kindOf binds fun _ => none) → News g L' h₁ (cells ++ news) →
      CellsAre (bindC (envOfC qual scope L' f cdv).kindOf binds fun _ => none) (cellsFrom (L' + 1) scope.names []) cells → Below A base (env :: outer) g → K.In g → Top p loose mean mg mb g → (∀ p ∈ news, p.1 < L') → GSub s.heap g (news.map (·.1)) →
      wpAny (model prog w) (A.deeper (envOfC qual scope L' f cdv)) (execs body (envOfC qual scope L' f cdv))
        (fun fl s' => LeaveK h₀ L m g R (match fl with | .ret v => v | _ => .none) s')
        (fun e s' => wpAny (model prog w) (A.deeper (envOfC qual scope L' f cdv)) (leaving (envOfC qual scope L' f cdv) e) (fun _ s'' => R (.error e) s'') (fun e' s'' => R (.error e') s'') s')
        { s with heap := h₁, toks := tk })
    (hco : scope.isCoroutine = false) (hgen : scope.isGenerator = false) (hk : scope.kind = .function) : codeAny (model prog w) A (.call (.ref f) args) R s := by
  obtain ⟨FG, BG, st, lv⟩ := groundX (R := R) B F N hA hf hke
  refine codeAny_call_function (fd := fnX name qual params body scope [] dV kV doc pm an cdv ct) hroom ((X₀.keeps F.keep) _ _ ho) rfl hco hgen rfl (codeRec_of (X₀.keeps F.keep) hcd) (hbind _ _ _ _ ?_)
  refine wpAny_newFunctionEnv_cells hk (kindsX hkind _) fun env' he s' x => ?_
  subst he
  refine ⟨(T.nolimit.keeps F.keep).keeps x.toInCall.keep, codeAny_func ?_⟩
  obtain ⟨h₁, tk, rfl, _⟩ := x.done
  have hk₁ := x.toInCall.keep
  obtain ⟨cells, NC, Y⟩ := Cl.news (h₀ := s.heap) (Nat.le_refl _) fun n c hm => ⟨x.cell n c (lookup_of_mem_nodup (cellsFrom_names scope.names 0 (s.heap.objs.size + 1) [] [] rfl ▸ hnd) hm), x.above n c hm⟩
  refine wpAny_mono (h _ s.heap.objs.size h₁ tk cells FG ⟨x.toInCall.ns, fun b o e => hk₁ b o (of_hideAll _ e), Nat.le_of_eq (hideAll_size _ _)⟩ (fun p hp => ?_) Y BG (X₀.keeps st) (T.keeps st) (fun p hp => Heap.lt_size (N p hp).1) (fun b o e n => hideAll_get _ e n)) (fun fl s' hl => lv _ _ hl) fun _ _ y => y
  rcases List.mem_append.mp hp with hp | hp
  · refine ⟨(NC p hp).1, (NC p hp).2.1, ?_⟩
    cases q : (hideAll s.heap (news.map (·.1))).get? p.1 with
    | none => rfl
    | some o => have := of_hideAll _ q; rw [(NC p hp).2.2] at this; cases this
  · exact ⟨hk₁ _ _ (N p hp).1, Nat.ne_of_lt (Heap.lt_size (N p hp).1), hideAll_none _ (List.mem_map_of_mem hp)⟩

local macro_rules | `(tactic| walk_at "my enterC") => `(tactic| (refine wpAny_call ?_; k_dflt (refine' code_defCG ?k1 ?k2 ?k3 ?k4 ?k5 ?kA ?kF ?kK ?k6 ?k7 ?k8 ?k9 ?kB ?kD ?_ ?c2 ?c3 ?c4; (case kA => exact rfl); (case kF => exact rfl); (case kK => assumption); (case k1 => k_asm); (case k2 => k_asm); (case k3 => k_asm); (case k4 => k_asm); (case k5 => k_asm); (case k6 => k_is); (case k7 => k_is); (case k8 => ktr_room); (case k9 => exact BindsTo.of_eq rfl); (case kB => exact rfl); (case kD => decide +kernel); (case c2 => exact rfl); (case c3 => exact rfl); (case c4 => exact rfl); k_whole)))

theorem off1_mem {D : Addr} : ∀ {l : List (Addr × Obj)}, LCg.Off1 D l → ∀ q ∈ l, q.1 ≠ D
  | [], _, _, h => nomatch h
  | _ :: _, h, q, hq => by
    rcases List.mem_cons.mp hq with rfl | hq
    · exact h.1
    · exact off1_mem h.2 q hq
/-- what the draw at k, of c, is -/
def drawV (ns : List Int) (k c : Int) : Int := if k < (ns.length : Int) then (ns.getD k.toNat 0).fmod c else (43 * k + 19).fmod c
theorem draw_c {prog : Program} {w : World} {p : Program} {loose : List Str} {mean : ExcName → Option Value} {mg mb : Str → Option Value} {dp un : Nat} {gd : Option (List Code)} {cn : Str} {cs : Scope} {a : Addr} {ccd : Value} {cl : List (Str × Addr)} {outer : List Env} {A₀ : Around} {base h₀ : Heap} {L : Addr} {m : Str → Option Value} {s : Shared} {Q E : Value → Shared → Prop} {news : List (Addr × Obj)}
    {pa b : Addr} {k c : Int} {t tc : Tok} {n nb : Nat} {vs : List Value} {ns : List Int} {n1 rest : List (Addr × Obj)}
    (P1 : Pull (pa, W.listOf #[.ref b, .int k t] n) news n1) (P2 : Pull (b, W.listOf vs.toArray nb) n1 rest) (hI : IntsAre vs ns) (hlen : ns.length ≤ 63) (hk0 : 0 ≤ k) (hk1 : k ≤ 100000) (hc0 : 0 < c) (hc1 : c ≤ 4503599627370496) (hpb : @Ne Nat pa b) (hne : LCg.Off1 pa rest)
    (hS : ∀ k' v t t' h' tk', k' = k + 1 → 0 ≤ v → v < c → v = drawV ns k c → Fr h₀ L h' m → News h₀ L h' ((pa, W.listOf #[.ref b, .int k' t'] n) :: (b, W.listOf vs.toArray nb) :: rest) → Q (.int v t) { s with heap := h', toks := tk' })
    (S : Site w p loose mean mg mb dp un 1 cs outer A₀ base h₀ L s.heap m news) :
    wpAny (model prog w) (ktrTop dp un gd cn cs L a ccd cl outer) (call (.ref 187) [.ref pa, .int c tc]) Q E s := by
  obtain ⟨B, F, X, N, T, hk, hd, hu⟩ := S
  have N0 : News h₀ L s.heap [(pa, W.listOf #[.ref b, .int k t] n), (b, W.listOf vs.toArray nb)] := fun q hq => N q (by
    rcases List.mem_cons.mp hq with rfl | hq
    · exact P1.mem _ (List.mem_cons_self ..)
    · rw [List.mem_singleton.mp hq]; exact P1.mem _ (List.mem_cons_of_mem _ (P2.mem _ (List.mem_cons_self ..))))
  have kN0 : KeptN h₀ L s.heap [(pa, W.listOf #[.ref b, .int k t] n), (b, W.listOf vs.toArray nb)] := N0
  (walk_at "my enter"; intro g9 L9 h9 FG9 F9 N9 B9 X9 T9 kG9; clear N0; (try dsimp only); (try k_lift B9); (try k_fold); k_steps)
  all_goals ((rename News g9 _ _ _ => N'); (rename Fr g9 _ _ _ => F'); (rename Fr h₀ _ _ _ => kF); (rename News h₀ _ _ _ => kN))
  all_goals exact hS _ _ _ _ _ _ rfl (Int.fmod_nonneg_of_pos _ hc0) (Int.fmod_lt_of_pos _ hc0) (by unfold drawV; first | rw [if_pos (by omega)] | rw [if_neg (by omega)]) kF (rest_of kG9 F' N' N P1 P2 (off1_mem hne) (by k_mem) (by k_mem))
theorem pow16_pos (n : Nat) : (0 : Int) < 16 ^ n := Int.pow_pos (by decide)
theorem pow16_le {n : Nat} (h : n ≤ 13) : (16 : Int) ^ n ≤ 4503599627370496 := by
  have : ∀ n : Nat, n < 14 → (16 : Int) ^ n ≤ 4503599627370496 := by decide
  exact this n (by omega)
theorem pow16_log {n : Nat} (h : n ≤ 13) : ((16 : Int) ^ n).natAbs.log2 < 9000 := by
  have : ∀ n : Nat, n < 14 → ((16 : Int) ^ n).natAbs.log2 < 9000 := by decide +kernel
  exact this n (by omega)
theorem pow_div {prog : Program} {w : World} {A : Around} {E : Value → Shared → Prop} {s : Shared} {Q : Value → Shared → Prop} {v : Int} {e : Nat} {tv tn : Tok} (he : e ≤ 13) (h : ∀ t k, Q (.int (v.fdiv (16 ^ e)) t) { s with toks := k }) :
    wpAny (model prog w) A (binaryOp .FloorDiv (.int v tv) (.int (16 ^ e) tn)) Q E s :=
  floordiv_int (Int.ne_of_gt (pow16_pos e)) (h _ _) (Or.inl (PyProof.noPylong_of_log2 (pow16_log he)))
theorem figU (i : Int) : ((([48, 49, 50, 51, 52, 53, 54, 55, 56, 57, 97, 98, 99, 100, 101, 102] : List UInt8).getD i.toNat 0).toNat : Int) = hexfig i := by
  unfold hexfig
  by_cases h : i.toNat < 16
  · have : ∀ n : Nat, n < 16 → ((([48, 49, 50, 51, 52, 53, 54, 55, 56, 57, 97, 98, 99, 100, 101, 102] : List UInt8).getD n 0).toNat : Int) = ([48, 49, 50, 51, 52, 53, 54, 55, 56, 57, 97, 98, 99, 100, 101, 102] : List Int).getD n 0 := by decide +kernel
    exact this _ h
  · rw [List.getD_eq_getElem?_getD, List.getD_eq_getElem?_getD, List.getElem?_eq_none (by simp; omega), List.getElem?_eq_none (by simp; omega)]
    rfl
/-- the figures of v, n of them -/
def figList (v c : Int) : List Int := (rangeKs 0 (c - 0).toNat).map fun k => (v.fdiv (16 ^ (c - 1 - k).toNat)).fmod 16
theorem figList_in {v c : Int} : ∀ d ∈ figList v c, 0 ≤ d ∧ d < 16 := by
  intro d hd
  obtain ⟨k, _, rfl⟩ := List.mem_map.mp hd
  exact ⟨Int.fmod_nonneg_of_pos _ (by decide), Int.fmod_lt_of_pos _ (by decide)⟩
theorem figList_len {v c : Int} (h : 0 ≤ c) : ((figList v c).length : Int) = c := by
  unfold figList
  rw [List.length_map, rangeKs_length]
  omega
theorem figList_bytes {v c : Int} {f : Int → Int} (hf : ∀ k, f k = ((([48, 49, 50, 51, 52, 53, 54, 55, 56, 57, 97, 98, 99, 100, 101, 102] : List UInt8).getD ((v.fdiv (16 ^ (c - 1 - k).toNat)).fmod 16).toNat 0).toNat : Int)) (hr : KBa.In (List.map f (rangeKs 0 (c - 0).toNat))) :
    KBw.bInts (byteArr (List.map f (rangeKs 0 (c - 0).toNat))) = (figList v c).map hexfig := by
  rw [KBa.ints_make hr]
  unfold figList
  rw [List.map_map]
  refine List.map_congr_left fun k _ => ?_
  rw [hf, figU]
  rfl
theorem u8_in {f : Int → UInt8} {l : List Int} : KBa.In (l.map fun k => ((f k).toNat : Int)) := by
  intro n hn
  obtain ⟨j, _, rfl⟩ := List.mem_map.1 hn
  have := (f j).toNat_lt
  exact ⟨Int.natCast_nonneg _, by omega⟩

local macro_rules | `(tactic| walk_at "my pull") => `(tactic| first | exact Pull.head | (refine' Pull.tail ?ptl; (case ptl => walk_at "my pull")))
local macro_rules | `(tactic| walk_at "my off") => `(tactic| ((try simp only [LCg.Off1, and_true]); (repeat' (refine And.intro ?_ ?_)); all_goals first | exact trivial | omega))
local macro_rules | `(tactic| walk_at "my pow") => `(tactic| first | omega | exact pow16_pos _ | exact pow16_le (by omega) | decide)
local macro_rules | `(tactic| walk_at "call ref") => `(tactic| (k_here; k_dflt (refine' draw_c ?P1 ?P2 ?hI ?h1 ?h2 ?h3 ?h4 ?h5 ?h6 ?h7 (fun k9 v9 t9 u9 h9 tk9 hk9 lo9 hi9 dv9 F9 N9 => ?_) ?kS; (case kS => walk_at "my site"); (case P1 => walk_at "my pull"); (case P2 => walk_at "my pull"); (case hI => l_ints); (case h1 => first | assumption | omega); (case h2 => omega); (case h3 => omega); (case h4 => walk_at "my pow"); (case h5 => walk_at "my pow"); (case h6 => omega); (case h7 => walk_at "my off")); (try dsimp only); (try k_fold)))

section
local macro_rules | `(tactic| walk_at "binaryOp FloorDiv int int") => `(tactic| (k_here; (with_reducible show wpAny _ _ (binaryOp Operator.FloorDiv (Value.int _ _) (Value.int (16 ^ _) _)) _ _ _); (with_reducible refine pow_div ?kbp (fun t9 k9 => ?_)); (case kbp => omega)))
local macro_rules | `(tactic| kba_in) => `(tactic| exact u8_in)

theorem hex_c {prog : Program} {w : World} {p : Program} {loose : List Str} {mean : ExcName → Option Value} {mg mb : Str → Option Value} {dp un : Nat} {gd : Option (List Code)} {cn : Str} {cs : Scope} {a : Addr} {ccd : Value} {cl : List (Str × Addr)} {outer : List Env} {A₀ : Around} {base h₀ : Heap} {L : Addr} {m : Str → Option Value} {s : Shared} {Q E : Value → Shared → Prop} {news : List (Addr × Obj)}
    {pa b : Addr} {k c : Int} {t tc : Tok} {n nb : Nat} {vs : List Value} {ns : List Int} {n1 rest : List (Addr × Obj)}
    (P1 : Pull (pa, W.listOf #[.ref b, .int k t] n) news n1) (P2 : Pull (b, W.listOf vs.toArray nb) n1 rest) (hI : IntsAre vs ns) (hlen : ns.length ≤ 63) (hk0 : 0 ≤ k) (hk1 : k ≤ 90000) (hc0 : 0 ≤ c) (hc1 : c ≤ 13) (hpb : @Ne Nat pa b) (hne : LCg.Off1 pa rest)
    (hS : ∀ (k' : Int) (B : Array UInt8) (ds : List Int) (t t' : Tok) (h' : Heap) (tk' : Nat), k ≤ k' → k' ≤ k + 1 → (∀ d ∈ ds, 0 ≤ d ∧ d < 16) → (ds.length : Int) = c → KBw.bInts B = ds.map hexfig → Fr h₀ L h' m → News h₀ L h' ((pa, W.listOf #[.ref b, .int k' t'] n) :: (b, W.listOf vs.toArray nb) :: rest) → Q (.bytes B t) { s with heap := h', toks := tk' })
    (S : Site w p loose mean mg mb dp un 2 cs outer A₀ base h₀ L s.heap m news) :
    wpAny (model prog w) (ktrTop dp un gd cn cs L a ccd cl outer) (call (.ref 192) [.ref pa, .int c tc]) Q E s := by
  obtain ⟨B, F, X, N, T, hk, hd, hu⟩ := S
  have N0 : News h₀ L s.heap [(pa, W.listOf #[.ref b, .int k t] n), (b, W.listOf vs.toArray nb)] := fun q hq => N q (by
    rcases List.mem_cons.mp hq with rfl | hq
    · exact P1.mem _ (List.mem_cons_self ..)
    · rw [List.mem_singleton.mp hq]; exact P1.mem _ (List.mem_cons_of_mem _ (P2.mem _ (List.mem_cons_self ..))))
  have kN0 : KeptN h₀ L s.heap [(pa, W.listOf #[.ref b, .int k t] n), (b, W.listOf vs.toArray nb)] := N0
  (walk_at "my enterC"; intro g9 L9 h9 tk9 cells9 FG9 F9 N9 Y9 B9 X9 T9 l9 kG9; clear N0; (try k_lt l9); k_cells Y9; (try simp only [List.cons_append, List.nil_append] at N9); (try dsimp only); (try k_lift B9); (try k_fold); k_steps)
  all_goals ((rename News g9 _ _ _ => N'); (rename Fr g9 _ _ _ => F'); (rename Fr h₀ _ _ _ => kF); (rename News h₀ _ _ _ => kN))
  all_goals (rename KBa.In _ => hr)
  all_goals (have hb := figList_bytes (fun _ => rfl) hr)
  all_goals (refine' hS _ _ (figList _ _) _ _ _ _ ?pa1 ?pa2 figList_in (figList_len hc0) hb kF (rest_of kG9 F' N' N P1 P2 (off1_mem hne) ?pa3 ?pa4); (case pa3 => k_mem); (case pa4 => k_mem); (case pa1 => omega); (case pa2 => omega))

end
section
open PySem.Builtin PySem.Builtin.Bytes
theorem meets_index (b sub : Array UInt8) (t u : Tok) (i : Nat) (hf : find? b sub 0 b.size = some i) (hs : sub.size ≤ b.size) : Meets («bytes.index» ⟨[.bytes b t, .bytes sub u], []⟩) (fun _ R s => ∀ t' k, R (.ok (.ret (.int (i : Nat) t'))) { s with toks := k }) := by
  refine .of_wp fun prog w A R s h => ?_
  show wpAny _ _ (searchArgs .bytes "index" _ >>= _) _ _ s
  refine wpAny_bind ?_
  unfold searchArgs
  refine wpAny_bind (wpAny_of_eq (a := (Value.bytes b t, [Value.bytes sub u])) rfl ?_)
  dsimp only
  refine wpAny_bind (wpAny_of_eq (a := (none : Option Int)) rfl ?_)
  refine wpAny_bind (wpAny_of_eq (a := (none : Option Int)) rfl ?_)
  refine wpAny_bind (wpAny_of_eq (a := some sub) buffer_full ?_)
  dsimp only
  refine wpAny_bind (wpAny_pure ?_)
  refine wpAny_bind (wpAny_of_eq (a := b) rfl ?_)
  have hw : window b.size none none = (0, (b.size : Int)) := by
    unfold window
    simp only [Option.getD_none]
    rw [if_neg (by omega), if_neg (by omega)]
    simp
  rw [hw]
  dsimp only
  rw [if_neg (by omega)]
  refine wpAny_pure ?_
  dsimp only [Option.bind_some]
  rw [show (Int.toNat 0) = 0 from rfl, Int.toNat_natCast]
  simp only [Bool.false_eq_true, if_false]
  rw [hf]
  dsimp only
  exact wpAny_bind (wpAny_mkInt (wpAny_pure ⟨_, rfl, h _ _⟩))
theorem slot_bytes_index : Slot "bytes" "index" "bytes.index" :=
  .of (owner := "bytes") (n := "index") (by rw [typeLookup_type, builtinLookup_eq_fast]; kernel_rfl) (by decide +kernel) (by decide +kernel) (by decide +kernel)
    (by first | exact .inl (by decide +kernel) | exact .inr (by decide +kernel)) (by rw [isSubtype_type]; kernel_rfl)
theorem type_bytes_index : typeOf (.builtin "bytes.index") = pure (.type "method_descriptor") := by show builtinType _ = _; rw [builtinType_eq_fast]; kernel_rfl
theorem entry_bytes_index : entryFor table "bytes.index" = some Builtin.«bytes.index» := entryFor_of_tree (by kernel_rfl)
theorem args_bytes_index_2 (a b : Value) : argsOk "bytes.index" ⟨[a, b], []⟩ := by
  unfold argsOk; rw [signature?_of (id := "bytes.index") (n := ['x', 'e', 'd', 'n', 'i']) (o := ['s', 'e', 't', 'y', 'b']) (by kernel_rfl) FB.owner_bytes]; kernel_rfl
section
variable {prog : Program} {w : World} {M : Model} {A : Around} {E : Value → Shared → Prop} {s : Shared}
theorem method_index {b : Array UInt8} {t : Tok} {pl : Sem Bool} {Q : Value × List Value → Shared → Prop} (h : Q (.builtin "bytes.index", [.bytes b t]) s) : wpAny M A (getMethod (.bytes b t) "index" pl) Q E s := by
  with_reducible exact KBd.method_of (.bytes b t) (typeIs_bytes _ _ _) slot_bytes_index type_bytes_index KBd.noRef h
theorem find_fig {d : Int} {sub : Array UInt8} (h0 : 0 ≤ d) (h1 : d < 16) (hs : KBw.bInts sub = [hexfig d]) : find? #[48, 49, 50, 51, 52, 53, 54, 55, 56, 57, 97, 98, 99, 100, 101, 102] sub 0 16 = some d.toNat := by
  have hl : sub.size = 1 := by rw [← KBw.ints_length, hs]; rfl
  obtain ⟨c, rfl⟩ : ∃ c, sub = #[c] := by
    rcases sub with ⟨l⟩
    rcases l with _ | ⟨c, _ | ⟨x, r⟩⟩ <;> simp at hl
    exact ⟨c, rfl⟩
  have hc : (c.toNat : Int) = hexfig d := by
    have := hs
    simpa [KBw.bInts] using this
  have key : ∀ n : Nat, n < 16 → find? #[48, 49, 50, 51, 52, 53, 54, 55, 56, 57, 97, 98, 99, 100, 101, 102] #[(hexfig n).toNat.toUInt8] 0 16 = some n := by decide +kernel
  obtain ⟨n, rfl⟩ : ∃ n : Nat, d = n := ⟨d.toNat, by omega⟩
  have hcc : c = (hexfig n).toNat.toUInt8 := by
    rw [← hc, Int.toNat_natCast]
    simp
  rw [hcc, Int.toNat_natCast]
  exact key n (by omega)
theorem index_fig {sub : Array UInt8} {t u : Tok} {d : Int} {Q : Value → Shared → Prop} (hs : KBw.bInts sub = [hexfig d]) (h0 : 0 ≤ d) (h1 : d < 16) (h : ∀ t' k, Q (.int d t') { s with toks := k }) :
    wpAny (model prog w) A (call (.builtin "bytes.index") [.bytes #[48, 49, 50, 51, 52, 53, 54, 55, 56, 57, 97, 98, 99, 100, 101, 102] t, .bytes sub u]) Q E s := by
  refine call_meets slot_bytes_index (typeIs_bytes _ _ _) entry_bytes_index (args_bytes_index_2 _ _) (meets_index _ sub t u d.toNat (find_fig h0 h1 hs) ?_) fun t' k => ?_
  · have hl : sub.size = 1 := by rw [← KBw.ints_length, hs]; rfl
    rw [hl]; decide
  · have e : ((d.toNat : Nat) : Int) = d := by omega
    rw [e]
    exact h t' k
end
end

section
local macro_rules | `(tactic| walk_at "getMethod bytes") => `(tactic| (k_here; (with_reducible refine method_index ?_)))
local macro_rules | `(tactic| walk_at "call builtin:bytes.index") => `(tactic| (k_here; k_dflt (refine' index_fig ?h1 ?h2 ?h3 (fun t9 k9 => ?_); (case h1 => kba_ints); (case h2 => omega); (case h3 => omega))))
local macro_rules | `(tactic| walk_at "pyIter bytes") => `(tactic| (k_here; k_bytesUnr))

theorem num_c {prog : Program} {w : World} {p : Program} {loose : List Str} {mean : ExcName → Option Value} {mg mb : Str → Option Value} {dp un : Nat} {gd : Option (List Code)} {cn : Str} {cs : Scope} {a : Addr} {ccd : Value} {cl : List (Str × Addr)} {outer : List Env} {A₀ : Around} {base h₀ : Heap} {L : Addr} {m : Str → Option Value} {s : Shared} {Q E : Value → Shared → Prop} {news : List (Addr × Obj)}
    {b : Array UInt8} {t : Tok} {d1 d2 d3 d4 d5 d6 : Int} (hb : KBw.bInts b = [hexfig d1, hexfig d2, hexfig d3, hexfig d4, hexfig d5, hexfig d6])
    (r1 : 0 ≤ d1 ∧ d1 < 16) (r2 : 0 ≤ d2 ∧ d2 < 16) (r3 : 0 ≤ d3 ∧ d3 < 16) (r4 : 0 ≤ d4 ∧ d4 < 16) (r5 : 0 ≤ d5 ∧ d5 < 16) (r6 : 0 ≤ d6 ∧ d6 < 16)
    (hS : ∀ (v : Int) (t : Tok) (h' : Heap) (tk' : Nat), v = 1048576 * d1 + 65536 * d2 + 4096 * d3 + 256 * d4 + 16 * d5 + d6 → Fr h₀ L h' m → News h₀ L h' news → Q (.int v t) { s with heap := h', toks := tk' })
    (S : Site w p loose mean mg mb dp un 1 cs outer A₀ base h₀ L s.heap m news) :
    wpAny (model prog w) (ktrTop dp un gd cn cs L a ccd cl outer) (call (.ref 199) [.bytes b t]) Q E s := by
  obtain ⟨B, F, X, N, T, hk, hd, hu⟩ := S
  have N0 : News h₀ L s.heap [] := News.sub N (by exact fun _ h => nomatch h)
  have kN0 : KeptN h₀ L s.heap [] := N0
  have q1 := hexfig_range r1.1 r1.2
  have q2 := hexfig_range r2.1 r2.2
  have q3 := hexfig_range r3.1 r3.2
  have q4 := hexfig_range r4.1 r4.2
  have q5 := hexfig_range r5.1 r5.2
  have q6 := hexfig_range r6.1 r6.2
  (walk_at "my enter"; intro g9 L9 h9 FG9 F9 N9 B9 X9 T9 kG9; clear N0; (try dsimp only); (try k_lift B9); (try k_fold); k_steps)
  all_goals ((rename News g9 _ _ _ => N'); (rename Fr g9 _ _ _ => F'); (rename Fr h₀ _ _ _ => kF); (rename News h₀ _ _ _ => kN))
  all_goals exact hS _ _ _ _ (by omega) kF (N.grown (grow_led kG9 kN0 F' N' (fun _ h => nomatch h)))

end
def smallG (l : List Int) (k : Int) : List Int := if k = 32 then l else if 65 ≤ k ∧ k ≤ 90 then l ++ [k + 32] else l ++ [k]
theorem smallG_up {l : List Int} {k : Int} (h : 65 ≤ k ∧ k ≤ 90) : smallG l k = l ++ [k + 32] := by unfold smallG; rw [if_neg (by omega), if_pos h]
theorem smallG_id {l : List Int} {k : Int} (h : k ≠ 32) (h' : ¬ (65 ≤ k ∧ k ≤ 90)) : smallG l k = l ++ [k] := by unfold smallG; rw [if_neg h, if_neg h']
theorem smallG_no {l : List Int} {k : Int} (h : k = 32) : smallG l k = l := by unfold smallG; rw [if_pos h]
theorem smallG_len : KPfGrows smallG := by
  intro l k
  unfold smallG
  split
  · omega
  · split <;> simp
theorem small_in_of : ∀ (ks l : List Int), (∀ n ∈ ks, 0 ≤ n ∧ n < 256) → (∀ n ∈ l, 0 ≤ n ∧ n < 256) → ∀ n ∈ ks.foldl smallG l, 0 ≤ n ∧ n < 256
  | [], _, _, hl => hl
  | k :: ks, l, hk, hl => by
    rw [List.foldl_cons]
    refine small_in_of ks _ (fun n hn => hk n (List.mem_cons_of_mem _ hn)) ?_
    have h0 := hk k (List.mem_cons_self ..)
    unfold smallG
    split
    · exact hl
    · split
      · intro n hn
        rcases List.mem_append.mp hn with hn | hn
        · exact hl n hn
        · rw [List.mem_singleton.mp hn]; omega
      · intro n hn
        rcases List.mem_append.mp hn with hn | hn
        · exact hl n hn
        · rw [List.mem_singleton.mp hn]; omega
theorem small_in {b : Array UInt8} {ks : List Int} (hb : KBw.bInts b = ks) : KBa.In (ks.foldl smallG []) :=
  small_in_of ks [] (fun _ hn => KBw.ints_in (hb ▸ hn)) fun _ h => nomatch h
theorem small_len : ∀ (ks l : List Int), (ks.foldl smallG l).length ≤ l.length + ks.length
  | [], l => by simp
  | k :: ks, l => by
    rw [List.foldl_cons]
    have h1 := small_len ks (smallG l k)
    have h2 := smallG_len l k
    simp only [List.length_cons]
    omega
theorem kci_bytes {prog : Program} {w : World} {A : Around} {h₀ : Heap} {L : Addr} {m : Str → Option Value} {env : Env} {ct elt : Expr} {x : Str} {scope : Scope} {cl : List (Str × Addr)} {s : Shared} {S : List (Addr × Obj) → Prop} {Fin : List Value → List (Addr × Obj) → Prop} {news : List (Addr × Obj)} {b : Array UInt8} {ks : List Int} (G : List Int → Int → List Int) (hb : KBw.bInts b = ks)
    (turn : ∀ k t I oI C oC D m₂ ys l h tk (E' : Value → Shared → Prop), k ∈ ks → IntsAre ys l → LCg.NsObj oC m₂ → m₂ x = some (.int k t) → Fr h₀ L h m → News h₀ L h ((I, oI) :: (C, oC) :: (D, LCg.lst ys) :: news) → LCg.Off3 I C D news → ((@Ne Nat I C) ∧ (@Ne Nat I D) ∧ (@Ne Nat C D)) → KPfMark →
      wpAny (model prog w) A (isTrue ct (compEnvC scope cl C env) (eval ct (compEnvC scope cl C env))) (fun b s' => if b = true then wpAny (model prog w) A (eval elt (compEnvC scope cl C env)) (LCg.CompEnd h₀ L m { s with heap := h, toks := tk } I oI C oC D (LCg.lst ys) S (fun y news' => KCiEl news l (G l k) y news')) E' s'
        else LCg.CompEnd h₀ L m { s with heap := h, toks := tk } I oI C oC D (LCg.lst ys) S (fun _ news' => KCiNo news l (G l k) news') Value.none s') E' { s with heap := h, toks := tk })
    (fin : KPfDone (∀ ys, IntsAre ys (ks.foldl G []) → ys.length ≤ b.size → Fin ys news)) (hg : KPfGrows G) : LCt.CompRestT prog w A h₀ L m env ct elt x scope cl s S (fun i v => ∃ c u, b[i]? = some c ∧ v = .int ((c.toNat : Nat) : Int) u) Fin b.size 0 [] news :=
  kci_rest (ks := ks) G (by rw [← hb, KBw.ints_length]) (fun i v _ hv => by
    obtain ⟨c, u, hc, rfl⟩ := hv
    exact ⟨_, u, hb ▸ KBw.ints_get hc, rfl⟩) turn fin hg
theorem lookB_of {b : Array UInt8} {k : List Int} (hk : KBw.bInts b = k) : ∀ {kvs : List (List UInt8 × Value)} {tab : List (List Int × Int)}, IntTabB kvs tab →
    (valueAt kvs b.toList = none ∧ lookB k tab = none) ∨ (∃ v t, valueAt kvs b.toList = some (.int v t) ∧ lookB k tab = some v)
  | _, _, .nil => .inl ⟨rfl, rfl⟩
  | _, _, .cons (k := x) (v := v) (t := t) (r := r) (kl := kl) (r' := r') he hr => by
    have hiff : x = b.toList ↔ kl = k := by
      rw [← he, ← hk]
      constructor
      · rintro rfl; rfl
      · intro h
        have inj : ∀ l l' : List UInt8, (l.map fun c => ((c.toNat : Nat) : Int)) = l'.map (fun c => ((c.toNat : Nat) : Int)) → l = l' := by
          intro l
          induction l with
          | nil => intro l' h; cases l' with | nil => rfl | cons _ _ => cases h
          | cons c r ih =>
            intro l' h
            cases l' with
            | nil => cases h
            | cons c' r' =>
              simp only [List.map_cons, List.cons.injEq] at h
              rw [u8_inj _ _ h.1, ih _ h.2]
        exact inj _ _ h
    have hv : valueAt ((x, Value.int v t) :: r) b.toList = if x = b.toList then some (Value.int v t) else valueAt r b.toList := by
      unfold valueAt
      rw [List.find?_cons]
      by_cases h : x = b.toList
      · rw [if_pos h]; simp [h]
      · rw [if_neg h]; simp [h]
    rw [hv, lookB]
    by_cases h : x = b.toList
    · rw [if_pos h, if_pos (hiff.mp h)]
      exact .inr ⟨v, t, rfl, rfl⟩
    · rw [if_neg h, if_neg (fun e => h (hiff.mpr e))]
      exact lookB_of hk hr
section
variable {prog : Program} {w : World} {A : Around} {E : Value → Shared → Prop} {s : Shared} {h₀ : Heap} {L d : Addr} {news : List (Addr × Obj)} {o : Obj} {kvs : List (List UInt8 × Value)} {tab : List (List Int × Int)} {b : Array UInt8} {t : Tok} {k : List Int}
theorem get_names {Q : Value → Shared → Prop} (N : News h₀ L s.heap news) (hp : (d, o) ∈ news) (hd : o.IsDictOf (bytesKind prog w) kvs) (lo : (d == sysModules) = false) (ht : IntTabB kvs tab) (hk : KBw.bInts b = k)
    (hN : lookB k tab = none → ∀ tk, Q .none { s with toks := tk }) (hS : ∀ v t tk, lookB k tab = some v → Q (.int v t) { s with toks := tk }) :
    wpAny (model prog w) A (call (.builtin "dict.get") [.ref d, .bytes b t]) Q E s := by
  have hkey : (bytesKind prog w).is b.toList (.bytes b t) = true := by simp [bytesKind, isBytes]
  rcases lookB_of hk ht with ⟨h1, h2⟩ | ⟨v, t', h1, h2⟩
  · exact kdg_get1 N hp hd lo hkey _ h1 (hN h2 _)
  · exact kdg_get1 N hp hd lo hkey _ h1 (hS v t' _ h2)
end
def octP (told : List Int) : Option Int := match segs (47 : Int) [] (told.drop 4) with
  | [k1, k2, k3] => partsV k1 k2 k3
  | _ => none
def octV (told : List Int) : Option Int := if told.take 4 = [114, 103, 98, 58] then octP told else if told.take 1 = [35] then digsV (told.drop 1) else lookB told namesTab
theorem suf_eq {told : List Int} (n : Nat) : List.take (told.length - clipAt told.length (n : Int)) (List.drop (clipAt told.length (n : Int)) told) = told.drop n := by
  rw [clipAt_nat, List.take_of_length_le (by rw [List.length_drop]; omega)]
  by_cases h : n ≤ told.length
  · rw [Nat.min_eq_left h]
  · rw [Nat.min_eq_right (by omega), List.drop_of_length_le (by omega), List.drop_of_length_le (by omega)]
theorem pre_eq {told : List Int} (n : Nat) : List.take (clipAt told.length (n : Int)) told = told.take n := by
  rw [clipAt_nat]
  by_cases h : n ≤ told.length
  · rw [Nat.min_eq_left h]
  · rw [Nat.min_eq_right (by omega), List.take_of_length_le (Nat.le_refl _), List.take_of_length_le (by omega)]
theorem bytes_beq {P c : Array UInt8} {ls : List Int} (hl : KBw.bInts P = ls) (h : (P.toList == c.toList) = true) : ls = KBw.bInts c := by
  rw [← hl]
  have e : P.toList = c.toList := by simpa using h
  unfold KBw.bInts
  rw [e]
theorem bytes_bne {P c : Array UInt8} {ls : List Int} (hl : KBw.bInts P = ls) (h : (P.toList == c.toList) = false) : ls ≠ KBw.bInts c := by
  rw [← hl]
  intro e
  have inj : ∀ l l' : List UInt8, (l.map fun c => ((c.toNat : Nat) : Int)) = l'.map (fun c => ((c.toNat : Nat) : Int)) → l = l' := by
    intro l
    induction l with
    | nil => intro l' h; cases l' with | nil => rfl | cons _ _ => cases h
    | cons c r ih =>
      intro l' h
      cases l' with
      | nil => cases h
      | cons c' r' =>
        simp only [List.map_cons, List.cons.injEq] at h
        rw [u8_inj _ _ h.1, ih _ h.2]
  have e2 := inj _ _ e
  rw [e2] at h
  simp at h
theorem oct_rgb {P4 : Array UInt8} {told : List Int} (hB : KBw.bInts P4 = List.take (clipAt told.length 4) told) (h : (P4.toList == (#[114, 103, 98, 58] : Array UInt8).toList) = true) :
    octV told = match segs (47 : Int) [] (List.take (told.length - clipAt told.length 4) (List.drop (clipAt told.length 4) told)) with
      | [k1, k2, k3] => partsV k1 k2 k3
      | _ => none := by
  have h4 := bytes_beq hB h
  rw [show (4 : Int) = ((4 : Nat) : Int) from rfl, pre_eq 4, show KBw.bInts #[114, 103, 98, 58] = [114, 103, 98, 58] from rfl] at h4
  have e := suf_eq (told := told) 4
  rw [show ((4 : Nat) : Int) = 4 from rfl] at e
  unfold octV
  rw [if_pos h4, e]
  rfl
theorem oct_rgb3 {P4 : Array UInt8} {told k1 k2 k3 : List Int} (hB : KBw.bInts P4 = List.take (clipAt told.length 4) told) (h : (P4.toList == (#[114, 103, 98, 58] : Array UInt8).toList) = true)
    (hs : segs (47 : Int) [] (List.take (told.length - clipAt told.length 4) (List.drop (clipAt told.length 4) told)) = [k1, k2, k3]) : octV told = partsV k1 k2 k3 := by
  rw [oct_rgb hB h, hs]
theorem oct_rgbx {P4 : Array UInt8} {told : List Int} (hB : KBw.bInts P4 = List.take (clipAt told.length 4) told) (h : (P4.toList == (#[114, 103, 98, 58] : Array UInt8).toList) = true)
    (hs : (segs (47 : Int) [] (List.take (told.length - clipAt told.length 4) (List.drop (clipAt told.length 4) told))).length ≠ 3) : octV told = none := by
  rw [oct_rgb hB h]
  split
  · rename_i e; rw [e] at hs; exact absurd rfl hs
  · rfl
theorem oct_not {P4 : Array UInt8} {told : List Int} (hB : KBw.bInts P4 = List.take (clipAt told.length 4) told) (h : (P4.toList == (#[114, 103, 98, 58] : Array UInt8).toList) = false) : ¬ told.take 4 = [114, 103, 98, 58] := by
  have h4 := bytes_bne hB h
  rw [show (4 : Int) = ((4 : Nat) : Int) from rfl, pre_eq 4, show KBw.bInts #[114, 103, 98, 58] = [114, 103, 98, 58] from rfl] at h4
  exact h4
theorem oct_hash {P4 P1 : Array UInt8} {told : List Int} (hB : KBw.bInts P4 = List.take (clipAt told.length 4) told) (h : (P4.toList == (#[114, 103, 98, 58] : Array UInt8).toList) = false)
    (hB1 : KBw.bInts P1 = List.take (clipAt told.length 1) told) (h1 : (P1.toList == (#[35] : Array UInt8).toList) = true) : octV told = digsV (List.take (told.length - clipAt told.length 1) (List.drop (clipAt told.length 1) told)) := by
  have q := bytes_beq hB1 h1
  rw [show (1 : Int) = ((1 : Nat) : Int) from rfl, pre_eq 1, show KBw.bInts #[35] = [35] from rfl] at q
  have e := suf_eq (told := told) 1
  rw [show ((1 : Nat) : Int) = 1 from rfl] at e
  unfold octV
  rw [if_neg (oct_not hB h), if_pos q, e]
theorem oct_name {P4 P1 : Array UInt8} {told : List Int} (hB : KBw.bInts P4 = List.take (clipAt told.length 4) told) (h : (P4.toList == (#[114, 103, 98, 58] : Array UInt8).toList) = false)
    (hB1 : KBw.bInts P1 = List.take (clipAt told.length 1) told) (h1 : (P1.toList == (#[35] : Array UInt8).toList) = false) : octV told = lookB told namesTab := by
  have q := bytes_bne hB1 h1
  rw [show (1 : Int) = ((1 : Nat) : Int) from rfl, pre_eq 1, show KBw.bInts #[35] = [35] from rfl] at q
  unfold octV
  rw [if_neg (oct_not hB h), if_neg q]
theorem len_gen {prog : Program} {w : World} {A : Around} {E : Value → Shared → Prop} {s : Shared} {h₀ : Heap} {L D : Addr} {news : List (Addr × Obj)} {vs : List Value} {n : Nat} {Q : Value → Shared → Prop} (N : News h₀ L s.heap news) (hm : (D, W.listOf vs.toArray n) ∈ news) (hz : vs.length ≤ 1000001)
    (h : ∀ t k, Q (.int ((vs.length : Nat) : Int) t) { s with toks := k }) : wpAny (model prog w) A (call (.builtin "len") [.ref D]) Q E s := by
  refine PyProof.Rows.len_list (PySem.IsL.isList (n := n) (N _ hm).1) (by rw [List.size_toArray]; omega) ?_
  rw [List.size_toArray]
  exact h _ _

section
local macro_rules | `(tactic| walk_at "eval ListComp") => `(tactic| (k_here; lct_look; k_dflt (refine ListComp_B (by k_asm) (by with_unfolding_all rfl) (by decide) (by rfl) (by decide) (by rfl) ?_)))
local macro_rules | `(tactic| walk_at "SrcB") => `(tactic| (k_here; k_dflt (refine SrcB.mk' (by rfl) (by k_asm) (by k_asm) ?bsz ?_; (case bsz => rw [sizeLine_eq, ← KBw.ints_length]; (rename KBw.bInts _ = _ => hbI); rw [hbI]; omega); intro g'; (refine' kci_bytes smallG (by assumption) (fun k' t' I' oI' C' oC' D' m' ys' l' h' tk' E' hk' hI' hC' hx' F' N' off' ne' hMark' => ?_) ?_ smallG_len); (all_goals (try (simp only [LCg.Off3, and_true] at off'))))))
local macro_rules | `(tactic| walk_at "KCiEl") => `(tactic| ((refine kci_el ?kce (by with_unfolding_all rfl) (by with_unfolding_all rfl)); (case kce => first | exact smallG_up (by omega) | exact smallG_id (by omega) (by omega))))
local macro_rules | `(tactic| walk_at "KCiNo") => `(tactic| ((refine kci_no ?kce (by with_unfolding_all rfl)); (case kce => exact smallG_no (by omega))))
local macro_rules | `(tactic| kba_in) => `(tactic| exact small_in (by assumption))

theorem small_c {prog : Program} {w : World} {p : Program} {loose : List Str} {mean : ExcName → Option Value} {mg mb : Str → Option Value} {dp un : Nat} {gd : Option (List Code)} {cn : Str} {cs : Scope} {a : Addr} {ccd : Value} {cl : List (Str × Addr)} {outer : List Env} {A₀ : Around} {base h₀ : Heap} {L : Addr} {m : Str → Option Value} {s : Shared} {Q E : Value → Shared → Prop} {news : List (Addr × Obj)}
    {b : Array UInt8} {t : Tok} {ks : List Int} (hb : KBw.bInts b = ks) (hl : ks.length ≤ 100)
    (hS : ∀ (B : Array UInt8) (t : Tok) (h' : Heap) (tk' : Nat), KBw.bInts B = ks.foldl smallG [] → Fr h₀ L h' m → News h₀ L h' news → Q (.bytes B t) { s with heap := h', toks := tk' })
    (S : Site w p loose mean mg mb dp un 1 cs outer A₀ base h₀ L s.heap m news) :
    wpAny (model prog w) (ktrTop dp un gd cn cs L a ccd cl outer) (call (.ref 115) [.bytes b t]) Q E s := by
  obtain ⟨B, F, X, N, T, hk, hd, hu⟩ := S
  have N0 : News h₀ L s.heap [] := News.sub N (by exact fun _ h => nomatch h)
  have kN0 : KeptN h₀ L s.heap [] := N0
  have hsm := small_len ks []
  simp only [List.length_nil, Nat.zero_add] at hsm
  (walk_at "my enter"; intro g9 L9 h9 FG9 F9 N9 B9 X9 T9 kG9; clear N0; (try dsimp only); (try k_lift B9); (try k_fold); k_steps)
  all_goals ((rename News g9 _ _ _ => N'); (rename Fr g9 _ _ _ => F'); (rename Fr h₀ _ _ _ => kF); (rename News h₀ _ _ _ => kN))
  all_goals exact hS _ _ _ _ (KBa.ints_make (small_in hb)) kF (N.grown (grow_led kG9 kN0 F' N' (fun _ h => nomatch h)))

end
local macro_rules | `(tactic| walk_at "call ref") => `(tactic| (k_here; k_dflt (refine' small_c ?kb ?kl (fun B9 t9 h9 tk9 hB9 F9 N9 => ?_) ?kS; (case kS => walk_at "my site"); (case kb => walk_at "my ints"); (case kl => first | assumption | kba_size)); (try dsimp only); (try k_fold)))
local macro_rules | `(tactic| walk_at "call ref") => `(tactic| (k_here; k_dflt (refine' digs_c ?kb ?kl (fun hv9 h9 tk9 F9 N9 => ?_) (fun v9 t9 hv9 h9 tk9 F9 N9 => ?_) ?kS; (case kS => walk_at "my site"); (case kb => walk_at "my ints"); (case kl => first | assumption | kba_size)); all_goals ((try dsimp only); (try k_fold))))
local macro_rules | `(tactic| walk_at "call ref") => `(tactic| (k_here; k_dflt (refine' parts_c ?kb1 ?kb2 ?kb3 ?kl1 ?kl2 ?kl3 ?kD (fun hv9 h9 tk9 F9 N9 => ?_) (fun v9 t9 hv9 h9 tk9 F9 N9 => ?_) ?kS; (case kS => walk_at "my site"); (case kD => k_mem); (case kb1 => assumption); (case kb2 => assumption); (case kb3 => assumption); (case kl1 => first | assumption | omega); (case kl2 => first | assumption | omega); (case kl3 => first | assumption | omega)); all_goals ((try dsimp only); (try k_fold))))
local macro_rules | `(tactic| walk_at "call ref") => `(tactic| (k_here; k_dflt (refine' names_c (fun D9 o9 kvs9 h9 tk9 off9 lo9 hd9 ht9 F9 N9 => ?_) ?kS; (case kS => walk_at "my site")); (try simp only [LCg.Off1, and_true] at off9); (try dsimp only); (try k_fold)))
local macro_rules | `(tactic| walk_at "call ref") => `(tactic| (k_here; k_dflt (refine' lnames_c (fun D9 o9 kvs9 h9 tk9 off9 lo9 hd9 ht9 F9 N9 => ?_) ?kS; (case kS => walk_at "my site")); (try simp only [LCg.Off1, and_true] at off9); (try dsimp only); (try k_fold)))
local macro_rules | `(tactic| walk_at "getMethod ref") => `(tactic| (k_here; kda_here; (with_reducible show wpAny _ _ (getMethod (Value.ref _) (Str.ofString "get") _) _ _ _); k_dflt (refine kdg_method (knd := bytesKind _ _) (by k_asm) (by k_mem) (by k_asm) ?_)))
local macro_rules | `(tactic| walk_at "call builtin:dict.get") => `(tactic| (k_here; kda_here; k_dflt (refine' get_names ?n1 ?n2 ?n3 ?n4 ?n5 ?n6 (fun hv9 t9 => ?_) (fun v9 t9 k9 hv9 => ?_); (case n1 => k_asm); (case n2 => k_mem); (case n3 => k_asm); (case n4 => k_asm); (case n5 => assumption); (case n6 => walk_at "my ints")); all_goals (try dsimp only)))
local macro_rules | `(tactic| walk_at "call builtin:len") => `(tactic| (k_here; (with_reducible show wpAny _ _ (call (Value.builtin "len") [Value.ref _]) _ _ _); k_dflt (refine' len_gen ?n1 ?n2 ?n3 (fun t9 k9 => ?_); (case n1 => k_asm); (case n2 => k_mem); (case n3 => assumption))))

theorem octs_c {prog : Program} {w : World} {p : Program} {loose : List Str} {mean : ExcName → Option Value} {mg mb : Str → Option Value} {dp un : Nat} {gd : Option (List Code)} {cn : Str} {cs : Scope} {a : Addr} {ccd : Value} {cl : List (Str × Addr)} {outer : List Env} {A₀ : Around} {base h₀ : Heap} {L : Addr} {m : Str → Option Value} {s : Shared} {Q E : Value → Shared → Prop} {news : List (Addr × Obj)}
    {b : Array UInt8} {t : Tok} {ks : List Int} (hb : KBw.bInts b = ks) (hl : ks.length ≤ 100)
    (hN : octV (ks.foldl smallG []) = none → ∀ h' tk', Fr h₀ L h' m → News h₀ L h' news → Q .none { s with heap := h', toks := tk' })
    (hS : ∀ v t, octV (ks.foldl smallG []) = some v → ∀ h' tk', Fr h₀ L h' m → News h₀ L h' news → Q (.int v t) { s with heap := h', toks := tk' })
    (S : Site w p loose mean mg mb dp un 4 cs outer A₀ base h₀ L s.heap m news) :
    wpAny (model prog w) (ktrTop dp un gd cn cs L a ccd cl outer) (call (.ref 143) [.bytes b t]) Q E s := by
  obtain ⟨B, F, X, N, T, hk, hd, hu⟩ := S
  have N0 : News h₀ L s.heap [] := News.sub N (by exact fun _ h => nomatch h)
  have kN0 : KeptN h₀ L s.heap [] := N0
  have hsm := small_len ks []
  simp only [List.length_nil, Nat.zero_add] at hsm
  have hlt : (ks.foldl smallG []).length ≤ 100 := by omega
  (walk_at "my enter"; intro g9 L9 h9 FG9 F9 N9 B9 X9 T9 kG9; clear N0; (try dsimp only); (try k_lift B9); (try k_fold); k_steps)
  all_goals ((rename News g9 _ _ _ => N'); (rename Fr g9 _ _ _ => F'); (rename Fr h₀ _ _ _ => kF); (rename News h₀ _ _ _ => kN))
  all_goals first
    | exact hN ((oct_hash (by assumption) (by assumption) (by assumption) (by assumption)).trans (by assumption)) _ _ kF (N.grown (grow_led kG9 kN0 F' N' (fun _ h => nomatch h)))
    | exact hS _ _ ((oct_hash (by assumption) (by assumption) (by assumption) (by assumption)).trans (by assumption)) _ _ kF (N.grown (grow_led kG9 kN0 F' N' (fun _ h => nomatch h)))
    | exact hN ((oct_name (by assumption) (by assumption) (by assumption) (by assumption)).trans (by assumption)) _ _ kF (N.grown (grow_led kG9 kN0 F' N' (fun _ h => nomatch h)))
    | exact hS _ _ ((oct_name (by assumption) (by assumption) (by assumption) (by assumption)).trans (by assumption)) _ _ kF (N.grown (grow_led kG9 kN0 F' N' (fun _ h => nomatch h)))
    | exact hN ((oct_rgb3 (by assumption) (by assumption) (by assumption)).trans (by assumption)) _ _ kF (N.grown (grow_led kG9 kN0 F' N' (fun _ h => nomatch h)))
    | exact hS _ _ ((oct_rgb3 (by assumption) (by assumption) (by assumption)).trans (by assumption)) _ _ kF (N.grown (grow_led kG9 kN0 F' N' (fun _ h => nomatch h)))
    | exact hN (oct_rgbx (by assumption) (by assumption) (by assumption)) _ _ kF (N.grown (grow_led kG9 kN0 F' N' (fun _ h => nomatch h)))
    | (exfalso; omega)
    | trace_state

section
open PySem.Builtin
theorem order_lt : ∀ a b : List UInt8, (Bytes.order a b == .lt) = decide (a.map UInt8.toNat < b.map UInt8.toNat)
  | [], [] => by decide
  | [], _ :: _ => by simp [Bytes.order]
  | _ :: _, [] => by simp [Bytes.order]
  | x :: a, y :: b => by
    simp only [Bytes.order, List.map_cons, List.cons_lt_cons_iff]
    by_cases h1 : x < y
    · have : x.toNat < y.toNat := UInt8.lt_iff_toNat_lt.mp h1
      simp [h1, this]
    · have h1' : ¬ x.toNat < y.toNat := fun h => h1 (UInt8.lt_iff_toNat_lt.mpr h)
      by_cases h2 : x > y
      · have : y.toNat < x.toNat := UInt8.lt_iff_toNat_lt.mp h2
        have hne : ¬ x.toNat = y.toNat := by omega
        simp [h1, h2, h1', hne]
      · have h2' : ¬ y.toNat < x.toNat := fun h => h2 (UInt8.lt_iff_toNat_lt.mpr h)
        have he : x.toNat = y.toNat := by omega
        have hi := order_lt a b
        simp only [h1, h2, if_false, he, Nat.lt_irrefl, false_or, true_and]
        exact hi
theorem gives_bytes_lt (b c : Array UInt8) (t u : Tok) : Gives («bytes.__lt__» ⟨[.bytes b t, .bytes c u], []⟩) (.val (.bool (decide (b.toList.map UInt8.toNat < c.toList.map UInt8.toNat)))) := by
  refine .of_wp fun M A E s Q hq => ?_
  show wpAny M A (isInstance (.bytes c u) (.type "bytes") >>= fun r => _) _ E s
  refine wpAny_bind (wpAny_isInstance (typeIs_bytes s c u) F.sub_bytes_bytes ?_)
  exact wpAny_pure ⟨_, rfl, by rw [← order_lt] at hq; exact hq⟩
theorem slot_bytes_lt : Slot "bytes" (cmpInfo .Lt).2.1 "bytes.__lt__" :=
  .of (owner := "bytes") (n := "__lt__") (by rw [typeLookup_type, builtinLookup_eq_fast]; kernel_rfl) (by decide +kernel) (by decide +kernel) (by decide +kernel)
    (by first | exact .inl (by decide +kernel) | exact .inr (by decide +kernel)) (by rw [isSubtype_type]; kernel_rfl)
theorem entry_bytes_lt : entryFor table "bytes.__lt__" = some Builtin.«bytes.__lt__» := entryFor_of_tree (by kernel_rfl)
theorem args_bytes_lt (a b : Value) : argsOk "bytes.__lt__" ⟨[a, b], []⟩ := by unfold argsOk; kernel_rfl
section
variable {prog : Program} {w : World} {A : Around} {E : Value → Shared → Prop} {s : Shared}
theorem call_bytes_lt {b c : Array UInt8} {t u : Tok} {Q : Value → Shared → Prop} (h : Q (.bool (decide (b.toList.map UInt8.toNat < c.toList.map UInt8.toNat))) s) :
    wpAny (model prog w) A (call (.builtin "bytes.__lt__") [.bytes b t, .bytes c u]) Q E s := by
  refine wpAny_call_entry slot_bytes_lt (typeIs_bytes s b t) entry_bytes_lt ?_ (args_bytes_lt _ _)
  show wpAny _ _ (isInstance (.bytes c u) (.type "bytes") >>= fun r => _) _ _ s
  refine wpAny_bind (wpAny_isInstance (typeIs_bytes s c u) F.sub_bytes_bytes ?_)
  exact wpAny_pure ⟨_, rfl, by rw [← order_lt] at h; exact h⟩
theorem oneLt_bytes {b c : Array UInt8} {t u : Tok} {Q : Bool → Shared → Prop} (h : Q (decide (b.toList.map UInt8.toNat < c.toList.map UInt8.toNat)) s) : wpAny (model prog w) A (oneLt' true (.bytes b t) (.bytes c u)) Q E s := by
  rw [oneLt'_eq]
  simp only [if_true]
  refine wpAny_bind (wpAny_cRoomFor_byValue rfl ?_)
  refine wpAny_bind (wpAny_callSpecialIfBound?_slot (typeIs_bytes s b t) slot_bytes_lt (call_bytes_lt ?_))
  exact wpAny_truthy_bool h
end
def bytesOrd : PyProof.Rows.KeyKind :=
  { toKeyOrd := PyProof.Rows.strKind.toKeyOrd, keyOf := fun v => match v with | .bytes b _ => some (b.toList.map UInt8.toNat) | _ => none, dflt := [] }
theorem bytesOrd_oneLt : bytesOrd.OneLt := by
  intro prog w A E s x y a b Q ha hb h
  cases x <;> simp only [bytesOrd, reduceCtorEq, Option.some.injEq] at ha
  cases y <;> simp only [bytesOrd, reduceCtorEq, Option.some.injEq] at hb
  cases ha; cases hb
  exact oneLt_bytes h
def AllBytes (vs : List Value) : Prop := ∀ v ∈ vs, ∃ b t, v = .bytes b t
theorem allBytes_keysOf {vs : List Value} (h : AllBytes vs) : KeysOf bytesOrd (pairsOf vs) := by
  intro p hp
  rw [pairsOf_toList] at hp
  obtain ⟨b, t, e⟩ := h _ (mem_zip_self hp).2
  exact ⟨b.toList.map UInt8.toNat, by rw [e]; rfl⟩
theorem firstOfTuple'_bytes (x : Array UInt8) (t : Tok) : firstOfTuple' (.bytes x t) = pure none := rfl
theorem mapM_first_bytes : ∀ {vs : List Value}, AllBytes vs → vs.mapM firstOfTuple' = pure (vs.map fun _ => none)
  | [], _ => by simp
  | v :: vs, h => by
    obtain ⟨b, t, rfl⟩ := h v (List.mem_cons_self ..)
    rw [List.mapM_cons, firstOfTuple'_bytes, mapM_first_bytes fun u hu => h u (List.mem_cons_of_mem _ hu)]; simp
theorem mapM_typeOf_bytes : ∀ {vs : List Value}, AllBytes vs → vs.mapM typeOf = pure (vs.map fun _ => Value.type "bytes")
  | [], _ => by simp
  | v :: vs, h => by
    obtain ⟨b, t, rfl⟩ := h v (List.mem_cons_self ..)
    rw [List.mapM_cons, mapM_typeOf_bytes fun u hu => h u (List.mem_cons_of_mem _ hu)]
    show (pure (Value.type "bytes") >>= fun b => pure _ >>= fun bs => pure (b :: bs)) = _
    simp
theorem keyKind_bytes {v₁ v₂ : Value} {vs : List Value} (hS : AllBytes (v₁ :: v₂ :: vs)) : keyKind' (v₁ :: v₂ :: vs).toArray = pure oneType' := by
  rw [keyKind'_eq, List.mapM_toArray, mapM_first_bytes hS]
  simp only [map_pure, pure_bind]
  rw [if_neg (by simp), if_neg (by simp)]
  rw [oneTypeOnly'_eq, List.mapM_toArray, mapM_typeOf_bytes hS]
  simp only [map_pure, pure_bind]
  have hall : ((List.map (fun _ => Value.type "bytes") (v₁ :: v₂ :: vs)).toArray.all fun x => x == Value.type "bytes") = true := by
    simp only [List.all_toArray, List.all_map, List.all_eq_true]
    intro _ _
    rfl
  have h0 : (List.map (fun _ => Value.type "bytes") (v₁ :: v₂ :: vs)).toArray[0]? = some (Value.type "bytes") := by simp
  rw [h0]
  simp only [hall, if_true, pure_bind, Option.isSome_some]
theorem intTab_mem : ∀ {kvs : List (List UInt8 × Value)} {tab : List (List Int × Int)}, IntTabB kvs tab → ∀ {i : Nat} {k : List UInt8} {x : Value}, kvs[i]? = some (k, x) → (k.map fun c => (c.toNat : Int)) ∈ tab.map (·.1)
  | _, _, .nil, i, k, x, h => by simp at h
  | _, _, .cons he hr, 0, k, x, h => by
    simp only [List.getElem?_cons_zero, Option.some.injEq, Prod.mk.injEq] at h
    rw [← h.1, he]
    exact List.mem_cons_self ..
  | _, _, .cons he hr, i + 1, k, x, h => by
    rw [List.getElem?_cons_succ] at h
    exact List.mem_cons_of_mem _ (intTab_mem hr h)
theorem intTab_len : ∀ {kvs : List (List UInt8 × Value)} {tab : List (List Int × Int)}, IntTabB kvs tab → kvs.length = tab.length
  | _, _, .nil => rfl
  | _, _, .cons _ hr => by rw [List.length_cons, List.length_cons, intTab_len hr]
section
variable {prog : Program} {w : World} {A : Around} {E : Value → Shared → Prop} {s : Shared} {h₀ : Heap} {L d : Addr} {m : Str → Option Value} {news : List (Addr × Obj)} {o : Obj} {kvs : List (List UInt8 × Value)} {tab : List (List Int × Int)}
theorem sorted_names {Q : Value → Shared → Prop} (hh : A.handled = none) (F : Fr h₀ L s.heap m) (N : News h₀ L s.heap news) (hp : (d, o) ∈ news) (hd : o.IsDictOf (bytesKind prog w) kvs) (lo : (d == sysModules) = false) (ht : IntTabB kvs tab) (hn : tab.length < 64)
    (h : ∀ (B : Addr) (vs : List Value) (e : Nat) (h' : Heap) (tk : Nat), vs.length = tab.length → (∀ v ∈ vs, ∃ b t, v = .bytes b t ∧ KBw.bInts b ∈ tab.map (·.1)) → Fr h₀ L h' m → News h₀ L h' ((B, W.listOf vs.toArray e) :: news) → (∀ q ∈ news, q.1 < B) → Q (.ref B) { s with heap := h', toks := tk }) :
    wpAny (model prog w) A (call (.builtin "sorted") [.ref d]) Q E s := by
  have hD := kda_dict N hp hd
  obtain ⟨ep, hat⟩ := hD.dictAt
  have hlen := intTab_len ht
  refine kdu_sorted (kdl_dict (knd := bytesKind prog w) (kvs := kvs) (ep := ep) lo) hh F N hat (by rw [sizeLine_eq]; omega) fun B h' tk vs F' N' l1 hl hv => ?_
  have hall : ∀ v ∈ vs, ∃ b t, v = .bytes b t ∧ KBw.bInts b ∈ tab.map (·.1) := by
    intro v hvm
    obtain ⟨j, hj⟩ := List.getElem?_of_mem hvm
    obtain ⟨k, x, hx, hk⟩ := hv j v hj
    obtain ⟨t, rfl⟩ := isBytes_shape hk
    exact ⟨_, t, rfl, intTab_mem ht hx⟩
  have hab : AllBytes vs := fun v hvm => let ⟨b, t, e, _⟩ := hall v hvm; ⟨b, t, e⟩
  have hB := N' (B, W.listOf vs.toArray 0) (List.mem_cons_self ..)
  have hoL : h'.get? B = some (seqObj "list" vs.toArray 0) := hB.1
  refine wpAny_call_entry slot_list_sort ⟨_, hoL, rfl⟩ entry_list_sort (list_sort_treeK bytesOrd_oneLt hoL (allBytes_keysOf hab) (fun v₁ v₂ rest e => keyKind_bytes (by rw [← e]; exact hab)) (by omega) fun st' hpm _ => ⟨_, rfl, ?_⟩) (args_list_sort _)
  have hll : (arrOf st').toList.Perm (vs.zip vs) := by rw [← pairsOf_toList]; exact Array.perm_iff_toList_perm.mp hpm
  obtain ⟨e, he⟩ := sortedHeap_at (vs := vs) (out := (arrOf st').map (·.2)) hoL
  have hold : ∀ b, b ≠ B → b < h'.objs.size → (sortedHeap h' B vs ((arrOf st').map (·.2))).get? b = h'.get? b := fun b hb hlt => sortedHeap_old hb hlt
  have hBL : B ≠ L := hB.2.1
  refine h B ((arrOf st').map (·.2)).toList e _ _ ?_ ?_ ?_ ?_ l1
  · rw [Array.toList_map, List.length_map, hll.length_eq, List.length_zip, Nat.min_self, hl, hlen]
  · intro v hvm
    rw [Array.toList_map] at hvm
    obtain ⟨p, hpm', rfl⟩ := List.mem_map.mp hvm
    have hz := mem_zip_self (hll.mem_iff.mp hpm')
    exact hall _ (hz.1 ▸ hz.2)
  · obtain ⟨oL, es, epp, hL, hLd, hLk, hLf⟩ := F'.ns
    refine ⟨⟨oL, es, epp, (hold L (Ne.symm hBL) (Heap.lt_size hL)).trans hL, hLd, hLk, hLf⟩, fun b ob eb => ?_, F'.above⟩
    have hb := F'.keep b ob eb
    refine (hold b (fun q => ?_) (Heap.lt_size hb)).trans hb
    have hz := hB.2.2
    rw [← q] at hz
    rw [eb] at hz
    cases hz
  · intro q hq
    rcases List.mem_cons.mp hq with rfl | hq
    · refine ⟨?_, hB.2⟩
      rw [he]
    · have y := N' q (List.mem_cons_of_mem _ hq)
      exact ⟨(hold q.1 (Nat.ne_of_lt (l1 q hq)) (Heap.lt_size y.1)).trans y.1, y.2⟩
end
end

section
variable {prog : Program} {w : World} {A : Around} {E : Value → Shared → Prop} {s : Shared}
theorem nextOf_bytes_item {it : Addr} {b : Array UInt8} {t : Tok} {i : Nat} {c : UInt8} {Q : Value → Shared → Prop} (hit : KBw.IsBytesIter s.heap it b t i) (hx : b[i]? = some c)
    (hQ : ∀ h', KBw.IsBytesIter h' it b t (i + 1) → Heap.SameBut it s.heap h' → Q (.int (c.toNat : Int) s.toks) { s with heap := h', toks := s.toks + 1 }) : wpAny (model prog w) A (Builtin.SmallTypes.nextOf (.ref it)) Q E s := by
  obtain ⟨o, ho, hc, hd⟩ := id hit
  unfold Builtin.SmallTypes.nextOf
  refine wpAny_bind (wpAny_callSpecial?_slot (name := PySem.Str.ofString "__next__") (KBw.iter_typeIs hit) KBw.slot_next
    (wpAny_call_entry KBw.slot_next (KBw.iter_typeIs hit) KBw.entry_next ?_ (KBw.args_next _)))
  show wpAny _ _ (field (.ref it) 0 >>= _) _ _ s
  refine wpAny_bind (wpAny_field ho hd (x := .bytes b t) rfl ?_)
  show wpAny _ _ (if (Value.bytes b t == Value.none) = true then _ else _) _ _ s
  rw [if_neg (show ¬ ((Value.bytes b t == Value.none) = true) from Bool.false_ne_true)]
  show wpAny _ _ (field (.ref it) 1 >>= _) _ _ s
  refine wpAny_bind (wpAny_field ho hd (x := .int i 0) rfl ?_)
  refine wpAny_bind (wpAny_of_eq (a := b) rfl ?_)
  simp only [Int.toNat_natCast, hx]
  refine wpAny_bind (wpAny_setField ho hd (by simp) (wpAny_bind (wpAny_mkInt (wpAny_pure ⟨_, rfl, wpAny_pure (hQ _ ?_ (Heap.SameBut.update ..))⟩))))
  exact ⟨_, Heap.get?_update_self _ ho (Obj.isFreed_of_fields (Obj.data_mapFields hd _)), (Obj.cls_mapFields ..).trans hc, by
    rw [Obj.data_mapFields hd]; simp [rawInt]⟩
theorem nextOf_bytes_end {it : Addr} {b : Array UInt8} {t : Tok} {i : Nat} {Q : Value → Shared → Prop} (hh : A.handled = none) (hit : KBw.IsBytesIter s.heap it b t i) (hx : b[i]? = none)
    (hE : ∀ h' e, Heap.ExtBut it s.heap h' → (∃ o, h'.get? e = some o ∧ o.cls = .type "StopIteration") → E (.ref e) { s with heap := h' }) : wpAny (model prog w) A (Builtin.SmallTypes.nextOf (.ref it)) Q E s := by
  obtain ⟨o, ho, hc, hd⟩ := id hit
  unfold Builtin.SmallTypes.nextOf
  refine wpAny_bind (wpAny_callSpecial?_slot (name := PySem.Str.ofString "__next__") (KBw.iter_typeIs hit) KBw.slot_next
    (wpAny_call_entry KBw.slot_next (KBw.iter_typeIs hit) KBw.entry_next ?_ (KBw.args_next _)))
  show wpAny _ _ (field (.ref it) 0 >>= _) _ _ s
  refine wpAny_bind (wpAny_field ho hd (x := .bytes b t) rfl ?_)
  show wpAny _ _ (if (Value.bytes b t == Value.none) = true then _ else _) _ _ s
  rw [if_neg (show ¬ ((Value.bytes b t == Value.none) = true) from Bool.false_ne_true)]
  show wpAny _ _ (field (.ref it) 1 >>= _) _ _ s
  refine wpAny_bind (wpAny_field ho hd (x := .int i 0) rfl ?_)
  refine wpAny_bind (wpAny_of_eq (a := b) rfl ?_)
  simp only [Int.toNat_natCast, hx]
  refine wpAny_bind (wpAny_rule (wpAny_bind (wpAny_setField ho hd (by simp) ?_)))
  show wpAny _ _ (newExc (.type "StopIteration") [] >>= _) _ _ _
  refine wpAny_bind ?_
  simp only [newExc, newTuple]
  refine wpAny_bind (wpAny_newObj_type ?_ (by size_fits))
  refine wpAny_bind (m := firstArgMember _ _) (wpAny_of_eq (a := Value.none) (by first | rfl | (simp only [firstArgMember]; rfl)) ?_)
  refine wpAny_newObj_type ?_ (by size_fits)
  simp only [raiseNew]
  refine wpAny_bind (wpAny_handled ?_)
  first | rw [show A.in1.handled = none from hh] | rw [hh]
  refine wpAny_bind (wpAny_pure (wpAny_throw ?_))
  exact hE _ _ (((Heap.SameBut.update ..).extBut.push _).push _) ⟨_, Heap.get?_push_size _ rfl, rfl⟩
end
theorem draws_bytes {prog : Program} {w : World} {A : Around} (hh : A.handled = none) (it : Addr) (b : Array UInt8) (t : Tok) :
    Draws prog w A it [it] b.size (fun i v => ∃ c u, b[i]? = some c ∧ v = .int (c.toNat : Int) u) (fun i h => KBw.IsBytesIter h it b t i) where
  live := fun _ _ st => let ⟨o, ho, _⟩ := st; ⟨o, ho⟩
  frame := fun _ _ _ st hk => let ⟨o, ho, r⟩ := st; ⟨o, hk it (by simp) o ho, r⟩
  item := fun i s Q E hi st hQ => by
    refine nextOf_bytes_item st (c := b[i]) (by simp [hi]) fun h' hit' hs' => ?_
    exact hQ _ h' (s.toks + 1) ⟨_, _, by simp [hi], rfl⟩ hit' hs'
  done := fun s Q E st hE => nextOf_bytes_end hh st (by simp) hE
set_option maxHeartbeats 1000000 in
theorem meets_enumerate_newB (b : Array UInt8) (t : Tok) :
    Meets (Builtin.«enumerate.__new__» ⟨[.type "enumerate", .bytes b t], []⟩) (fun _ R s =>
      R (.ok (.ret (.ref (s.heap.push { cls := .type "bytes_iterator", data := .fields #[.bytes b t, .int 0 0] }).objs.size)))
        { s with heap := (s.heap.push { cls := .type "bytes_iterator", data := .fields #[.bytes b t, .int 0 0] }).push { cls := .type "enumerate", data := .fields #[.none, .bool false, .ref s.heap.objs.size, rawInt 0, .none, .none] } }) :=
  .of_wp fun prog w A R s h => by
    obtain ⟨hp, g, d, tk, os⟩ := s
    have hsub := sub_enumerate
    wp_walk
    refine wpAny_stack_any fun st => wpAny_pure ?_
    split
    · rename_i c _ _ _ _ _
      cases (c == Value.type "enumerate")
      · wp_walk using KBw.pyIter_bytes
        exact ⟨_, rfl, h⟩
      · wp_walk using KBw.pyIter_bytes
        exact ⟨_, rfl, h⟩
    · wp_walk using KBw.pyIter_bytes
      exact ⟨_, rfl, h⟩
section
variable {prog : Program} {w : World} {A : Around} {E : Value → Shared → Prop} {s : Shared}
theorem call_enumerate_bytes {b : Array UInt8} {t : Tok} {Q : Value → Shared → Prop}
    (h : ∀ h', IsEnum h' (s.heap.objs.size + 1) s.heap.objs.size 0 .none → KBw.IsBytesIter h' s.heap.objs.size b t 0 → h'.objs.size = s.heap.objs.size + 2 →
      (∀ b o, s.heap.get? b = some o → h'.get? b = some o) → Q (.ref (s.heap.objs.size + 1)) { s with heap := h' }) :
    wpAny (model prog w) A (call (.type "enumerate") [.bytes b t]) Q E s := by
  refine callType_new F.called_enumerate (by decide) (F.typeCall_enumerate_1 _) (F.newCall_enumerate_1 _) (fun obj => F.args_object_init_2 obj _) F.entry_enumerate_new
    (meets_enumerate_newB b t) ?_
  have hz : (s.heap.push { cls := .type "bytes_iterator", data := .fields #[.bytes b t, .int 0 0] }).objs.size = s.heap.objs.size + 1 := Heap.size_push ..
  show _ ∧ _
  rw [hz]
  have he : IsEnum ((s.heap.push { cls := .type "bytes_iterator", data := .fields #[.bytes b t, .int 0 0] }).push
      { cls := .type "enumerate", data := .fields #[.none, .bool false, .ref s.heap.objs.size, rawInt 0, .none, .none] }) (s.heap.objs.size + 1) s.heap.objs.size 0 .none := by
    have := Heap.get?_push_size (s.heap.push { cls := .type "bytes_iterator", data := .fields #[.bytes b t, .int 0 0] })
      (o := { cls := .type "enumerate", data := .fields #[.none, .bool false, .ref s.heap.objs.size, rawInt 0, .none, .none] }) rfl
    rw [hz] at this; exact this
  refine ⟨⟨_, he, rfl⟩, h _ he ⟨_, Heap.get?_push_of_some _ (Heap.get?_push_size _ rfl), rfl, rfl⟩ (by rw [Heap.size_push, hz]) fun b o y => Heap.get?_push_of_some _ (Heap.get?_push_of_some _ y)⟩
end
def enumB : Nat → List Int → List Itm
  | _, [] => []
  | i, k :: r => .pairF (fun t => .int (i : Int) t) (.int k) :: enumB (i + 1) r
theorem enumB_length : ∀ (ks : List Int) (a : Nat), (enumB a ks).length = ks.length
  | [], _ => rfl
  | _ :: r, a => congrArg (· + 1) (enumB_length r (a + 1))
theorem enumB_get : ∀ (ks : List Int) (a i : Nat) {k : Int}, ks[i]? = some k → (enumB a ks)[i]? = some (.pairF (fun t => .int ((a + i : Nat) : Int) t) (.int k))
  | [], _, _, _, h => by simp at h
  | x :: r, a, 0, k, h => by
    have e : x = k := by simpa using h
    subst e
    rfl
  | x :: r, a, i + 1, k, h => by
    have h' : r[i]? = some k := by simpa using h
    have q := enumB_get r (a + 1) i h'
    have e : a + 1 + i = a + (i + 1) := by omega
    rw [e] at q
    simpa [enumB] using q
section
variable {prog : Program} {w : World} {A : Around} {E : Value → Shared → Prop} {s : Shared} {env : Env} {h₀ : Heap} {target : Expr} {body : List Stmt} {Q : Flow → Shared → Prop}
theorem ktu_enumB {elts : List Expr} {k : Nat} {pos : Pos} {b : Array UInt8} {t : Tok} {ks : List Int} {m₀ : Str → Option Value} {news : List (Addr × Obj)}
    (hh : A.handled = none) (F : Fr h₀ env.locals s.heap m₀) (N : News h₀ env.locals s.heap news) (hb : KBw.bInts b = ks)
    (rest₀ : ∀ I : Addr, (∀ p ∈ news, p.1 < I) → ItemsRest prog w A E h₀ env (.Tuple elts k pos) body Q s [(I + 1, "enumerate"), (I, "bytes_iterator")] [] (enumB 0 ks) m₀ news) :
    wpAny (model prog w) A (call (.type "enumerate") [.bytes b t]) (fun xv s₁ => wpAny (model prog w) A (pyIter xv) (fun it s₂ => TurnsAt prog w A h₀ env (.Tuple elts k pos) body Q E it s₂) E s₁) E s := by
  have hLs : env.locals < s.heap.objs.size := F.ns.lt
  have hsz : ks.length = b.size := by rw [← hb, KBw.ints_length]
  refine call_enumerate_bytes fun h' hE hI hsz' hk => ?_
  refine wpAny_pyIter_enum hE ?_
  refine ktu_core (tk0 := s.toks) (keep := []) (KTurns.ofWalksU (WalksT.enumerateD (draws_bytes (A := A.in1) hh s.heap.objs.size b t) (s.heap.objs.size + 1) (Nat.succ_ne_self _) (by simp) (by simp)).toU) (by rw [enumB_length, hsz]) ?_ ?_ ?_ ?_ ?_ ?_ ?_ ?_ (F.keeps hk) (N.grown hk) trivial (rest₀ _ fun p hp => Heap.lt_size (N p hp).1)
  · rintro i v h ⟨T, vals, rfl, ⟨tt, x, ⟨c, u, hx, rfl⟩, rfl⟩, hT⟩
    refine ⟨_, enumB_get ks 0 i (k := (c.toNat : Int)) (hb ▸ KBw.ints_get hx), T, tt, .int (c.toNat : Int) u, rfl, PyProof.V.Flat.int _ _, ?_⟩
    show IsTup h T #[.int ((0 + i : Nat) : Int) tt, .int (c.toNat : Int) u]
    rw [Nat.zero_add]
    exact hT
  · rintro i h ⟨⟨old, he⟩, ⟨oi, hoi, hic, _⟩⟩
    have he' : ∃ oe : Obj, h.get? (s.heap.objs.size + 1) = some oe ∧ oe.cls = .type "enumerate" := ⟨_, he, rfl⟩
    obtain ⟨oe, h1, h2⟩ := he'
    refine ⟨[(s.heap.objs.size + 1, oe), (s.heap.objs.size, oi)], ⟨⟨rfl, h2⟩, ⟨rfl, hic⟩, trivial⟩, fun p hp => ?_⟩
    rcases List.mem_cons.mp hp with rfl | hp
    · exact h1
    · rw [List.mem_singleton.mp hp]; exact hoi
  · intro b hb
    have hb' : b = s.heap.objs.size + 1 ∨ b = s.heap.objs.size := by simpa using hb
    rcases hb' with rfl | rfl
    · exact ⟨by simp, ktu_new F (Nat.le_add_right _ _)⟩
    · exact ⟨by simp, ktu_new F (Nat.le_refl _)⟩
  · intro b hb
    simpa using hb
  · intro b hb
    exact .inl (by simpa using hb)
  · intro hI'
    have hb' : env.locals = s.heap.objs.size + 1 ∨ env.locals = s.heap.objs.size := by simpa using hI'
    rcases hb' with e | e
    · exact ktu_ne 1 hLs e
    · exact Nat.ne_of_lt hLs e
  · intro p hp hI'
    have hb' : p.1 = s.heap.objs.size + 1 ∨ p.1 = s.heap.objs.size := by simpa using hI'
    have hlp := Heap.lt_size (N p hp).1
    rcases hb' with e | e
    · exact ktu_ne 1 hlp e
    · exact Nat.ne_of_lt hlp e
  · exact ⟨⟨.none, hE⟩, hI⟩
theorem allObj_mono {k k' : List (Addr × Obj) → Prop} (h : ∀ its, k its → k' its) : ∀ {ws : List (Addr × String)}, AllObj ws k → AllObj ws k'
  | [], a => h _ a
  | w :: r, a => fun o hc => allObj_mono (ws := r) (k := fun its => k ((w.1, o) :: its)) (k' := fun its => k' ((w.1, o) :: its)) (fun its => h _) (a o hc)
theorem items_made {ws : List (Addr × String)} {ks : List Int} {y : Str} {stored : List Str} {B₀ : Array UInt8} {t₀ : Tok} {m₀ : Str → Option Value} {news : List (Addr × Obj)} (I : Nat → List Int → Prop) (hy : m₀ y = some (.bytes B₀ t₀)) (hI : I 0 (KBw.bInts B₀))
    (turn : ∀ i k t u T B tb (uu : Str → Option Value) h tk, ks[i]? = some k → I i (KBw.bInts B) → IsTup h T #[.int (i : Nat) t, .int k u] → Fr h₀ env.locals h (fun z => if z = y then some (.bytes B tb) else if stored.contains z then uu z else m₀ z) →
      AllObj ws (fun its => News h₀ env.locals h (its ++ news) → wpAny (model prog w) A (assign target env (.ref T)) (fun _ s₂ => wpAny (model prog w) A (execs body env) (UnrPostW h₀ env.locals { s with heap := h, toks := tk } its (fun m' n' => n' = news ∧ (∃ B' t', m' y = some (.bytes B' t') ∧ I (i + 1) (KBw.bInts B')) ∧ ∀ z, z ≠ y → stored.contains z = false → m' z = m₀ z) Q) E s₂) E { s with heap := h, toks := tk }))
    (done : ∀ B tb (uu : Str → Option Value) h tk, I ks.length (KBw.bInts B) → Fr h₀ env.locals h (fun z => if z = y then some (.bytes B tb) else if stored.contains z then uu z else m₀ z) → News h₀ env.locals h news → Q .next { s with heap := h, toks := tk }) :
    ItemsRest prog w A E h₀ env target body Q s ws [] (enumB 0 ks) m₀ news := by
  have shape : ∀ (m₁ : Str → Option Value) (B : Array UInt8) (tb : Tok), m₁ y = some (.bytes B tb) → (∀ z, z ≠ y → stored.contains z = false → m₁ z = m₀ z) → m₁ = fun z => if z = y then some (.bytes B tb) else if stored.contains z then m₁ z else m₀ z := by
    intro m₁ B tb h1 h2
    funext z
    by_cases hz : z = y
    · rw [if_pos hz, hz, h1]
    · rw [if_neg hz]
      cases hc : stored.contains z with
      | true => rw [if_pos rfl]
      | false => rw [if_neg (by decide)]; exact h2 z hz hc
  have key : ∀ (rest : List Int) (i : Nat) (m₁ : Str → Option Value) (B : Array UInt8) (tb : Tok), ks.drop i = rest → i ≤ ks.length → m₁ y = some (.bytes B tb) → I i (KBw.bInts B) → (∀ z, z ≠ y → stored.contains z = false → m₁ z = m₀ z) →
      ItemsRest prog w A E h₀ env target body Q s ws [] (enumB i rest) m₁ news := by
    intro rest
    induction rest with
    | nil =>
      intro i m₁ B tb hr hi h1 h2 h3
      refine ItemsRest.zero fun h tk F N => ?_
      rw [shape m₁ B tb h1 h3] at F
      have hil : i = ks.length := by
        have := congrArg List.length hr
        rw [List.length_drop, List.length_nil] at this
        omega
      exact done B tb m₁ h tk (hil ▸ h2) F N
    | cons k rest ih =>
      intro i m₁ B tb hr hi h1 h2 h3
      have hk : ks[i]? = some k := by
        have := congrArg (fun l => l[0]?) hr
        simpa using this
      have hlt : i < ks.length := by
        have := congrArg List.length hr
        rw [List.length_drop, List.length_cons] at this
        omega
      refine ItemsRest.pairF fun T t x h tk hx hT F => ?_
      obtain ⟨u, rfl⟩ := PyProof.V.Flat.int_inv hx
      rw [shape m₁ B tb h1 h3] at F
      refine allObj_mono (fun its g N => ?_) (turn i k t u T B tb m₁ h tk hk h2 hT F)
      refine wpAny_mono (g N) (fun _ s₂ g2 => wpAny_mono g2 (fun f s₃ p => ?_) fun _ _ e => e) fun _ _ e => e
      have fin : ∀ {s₃}, UnrEndW h₀ env.locals { s with heap := h, toks := tk } its (fun m' n' => n' = news ∧ (∃ B' t', m' y = some (.bytes B' t') ∧ I (i + 1) (KBw.bInts B')) ∧ ∀ z, z ≠ y → stored.contains z = false → m' z = m₀ z) s₃ →
          UnrEndW h₀ env.locals { s with heap := h, toks := tk } its (fun m' n' => SubL [] n' ∧ ItemsRest prog w A E h₀ env target body Q s ws [] (enumB (i + 1) rest) m' n') s₃ := by
        rintro s₃ ⟨h', tk', m', n', e, F', N', off, rfl, ⟨B', t', e1, e2⟩, e3⟩
        exact ⟨h', tk', m', _, e, F', N', off, trivial, ih (i + 1) m' B' t' (by rw [← List.drop_drop, hr]; rfl) hlt e1 e2 e3⟩
      cases f with
      | ret v => exact p
      | brk => exact p
      | next => exact fin p
      | cont => exact fin p
  exact key ks 0 m₀ B₀ t₀ (by rw [List.drop_zero]) (Nat.zero_le _) hy hI fun _ _ _ => rfl
end

def dressI (ks : List Int) (i : Nat) (ms : List Int) : Prop := ms.foldl smallG [] = ks.take i ∧ ms.length = i ∧ ms.length ≤ ks.length
theorem dressI_zero {ks : List Int} : dressI ks 0 [] := ⟨rfl, rfl, Nat.zero_le _⟩
theorem dressI_step {ks ms : List Int} {i : Nat} {k x : Int} (h : dressI ks i ms) (hk : ks[i]? = some k) (hx : ∀ l, smallG l x = l ++ [k]) : dressI ks (i + 1) (ms ++ [x]) := by
  obtain ⟨h1, h2, h3⟩ := h
  have hlt : i < ks.length := by
    rcases Nat.lt_or_ge i ks.length with h | h
    · exact h
    · rw [List.getElem?_eq_none h] at hk; cases hk
  refine ⟨?_, by rw [List.length_append, h2]; rfl, by rw [List.length_append, h2]; exact hlt⟩
  rw [List.foldl_append, h1, List.foldl_cons, List.foldl_nil, hx, List.take_add_one, hk]
  rfl
theorem dress_great {ks ms : List Int} {i : Nat} {k : Int} (h : dressI ks i ms) (hk : ks[i]? = some k) (h1 : 97 ≤ k) (h2 : k ≤ 122) : dressI ks (i + 1) (ms ++ [k - 32]) :=
  dressI_step h hk fun l => by rw [smallG_up (by omega), show k - 32 + 32 = k by omega]
theorem dress_same {ks ms : List Int} {i : Nat} {k : Int} (h : dressI ks i ms) (hk : ks[i]? = some k) (hs : ∀ x ∈ ks, x ≠ 32 ∧ ¬ (65 ≤ x ∧ x ≤ 90)) : dressI ks (i + 1) (ms ++ [k]) :=
  have q := hs k (List.mem_of_getElem? hk)
  dressI_step h hk fun l => smallG_id q.1 q.2
theorem dress_end {ks ms : List Int} (h : dressI ks ks.length ms) : ms.foldl smallG [] = ks := by
  have := h.1
  rwa [List.take_length] at this
theorem dress_cut (ms : List Int) (c : Nat) : (ms.take c ++ [32] ++ ms.drop c).foldl smallG [] = ms.foldl smallG [] := by
  rw [List.foldl_append, List.foldl_append, List.foldl_cons, List.foldl_nil, smallG_no rfl, ← List.foldl_append, List.take_append_drop]
theorem pow2_div {prog : Program} {w : World} {A : Around} {E : Value → Shared → Prop} {s : Shared} {Q : Value → Shared → Prop} {v : Int} {e : Nat} {tv tn : Tok} (he : e < 12) (h : ∀ t k, Q (.int (v.fdiv (2 ^ e)) t) { s with toks := k }) :
    wpAny (model prog w) A (binaryOp .FloorDiv (.int v tv) (.int (2 ^ e) tn)) Q E s := by
  have h1 : ∀ n : Nat, n < 12 → ((2 : Int) ^ n).natAbs < 1073741824 := by decide
  exact floordiv_int (Int.ne_of_gt (Int.pow_pos (by decide))) (h _ _) (Or.inl (PyProof.noPylong_small (h1 e he)))
theorem enum_in {ks : List Int} {i : Nat} {k : Int} {b : Array UInt8} (hb : KBw.bInts b = ks) (hk : ks[i]? = some k) : 0 ≤ k ∧ k < 256 ∧ i < ks.length := by
  have := KBw.ints_in (b := b) (k := k) (hb ▸ List.mem_of_getElem? hk)
  refine ⟨this.1, this.2, ?_⟩
  rcases Nat.lt_or_ge i ks.length with h | h
  · exact h
  · rw [List.getElem?_eq_none h] at hk; cases hk
theorem items_dress {prog : Program} {w : World} {A : Around} {E : Value → Shared → Prop} {s : Shared} {env : Env} {h₀ : Heap} {target : Expr} {body : List Stmt} {Q : Flow → Shared → Prop} {ws : List (Addr × String)} {ks : List Int} {y : Str} {stored : List Str} {t₀ : Tok} {m₀ : Str → Option Value} {news : List (Addr × Obj)} (hy : m₀ y = some (.bytes #[] t₀))
    (turn : ∀ i k t u T B tb (uu : Str → Option Value) h tk, ks[i]? = some k → (ms : List Int) → KBw.bInts B = ms → dressI ks i ms → IsTup h T #[.int (i : Nat) t, .int k u] → Fr h₀ env.locals h (fun z => if z = y then some (.bytes B tb) else if stored.contains z then uu z else m₀ z) →
      AllObj ws (fun its => News h₀ env.locals h (its ++ news) → wpAny (model prog w) A (assign target env (.ref T)) (fun _ s₂ => wpAny (model prog w) A (execs body env) (UnrPostW h₀ env.locals { s with heap := h, toks := tk } its (fun m' n' => n' = news ∧ (∃ B' t', m' y = some (.bytes B' t') ∧ ∃ ms', KBw.bInts B' = ms' ∧ dressI ks (i + 1) ms') ∧ ∀ z, z ≠ y → stored.contains z = false → m' z = m₀ z) Q) E s₂) E { s with heap := h, toks := tk }))
    (done : ∀ B tb (uu : Str → Option Value) h tk, (ms : List Int) → KBw.bInts B = ms → dressI ks ks.length ms → Fr h₀ env.locals h (fun z => if z = y then some (.bytes B tb) else if stored.contains z then uu z else m₀ z) → News h₀ env.locals h news → Q .next { s with heap := h, toks := tk }) :
    ItemsRest prog w A E h₀ env target body Q s ws [] (enumB 0 ks) m₀ news :=
  items_made (dressI ks) hy dressI_zero (fun i k t u T B tb uu h tk hk hI hT F => allObj_mono (fun its g N => wpAny_mono (g N) (fun _ s₂ g2 => wpAny_mono g2 (fun f s₃ p => by
      have fin : ∀ {s₃}, UnrEndW h₀ env.locals { s with heap := h, toks := tk } its (fun m' n' => n' = news ∧ (∃ B' t', m' y = some (.bytes B' t') ∧ ∃ ms', KBw.bInts B' = ms' ∧ dressI ks (i + 1) ms') ∧ ∀ z, z ≠ y → stored.contains z = false → m' z = m₀ z) s₃ →
          UnrEndW h₀ env.locals { s with heap := h, toks := tk } its (fun m' n' => n' = news ∧ (∃ B' t', m' y = some (.bytes B' t') ∧ dressI ks (i + 1) (KBw.bInts B')) ∧ ∀ z, z ≠ y → stored.contains z = false → m' z = m₀ z) s₃ := by
        rintro s₃ ⟨h', tk', m', n', e, F', N', off, e0, ⟨B', t', e1, ms', e2, e3⟩, e4⟩
        exact ⟨h', tk', m', n', e, F', N', off, e0, ⟨B', t', e1, e2 ▸ e3⟩, e4⟩
      cases f with
      | ret v => exact p
      | brk => exact p
      | next => exact fin p
      | cont => exact fin p) fun _ _ e => e) fun _ _ e => e) (turn i k t u T B tb uu h tk hk _ rfl hI hT F)) (fun B tb uu h tk hI F N => done B tb uu h tk _ rfl hI F N)
theorem noI_bytes_add : typeLookup (.type "bytes") (dunderI "add") = pure none := by rw [typeLookup_type, builtinLookup_eq_fast]; kernel_rfl
theorem iadd_bytes {prog : Program} {w : World} {A : Around} {E : Value → Shared → Prop} {s : Shared} {b c : Array UInt8} {t u : Tok} {Q : Value → Shared → Prop} {ks ls : List Int} (hb : KBw.bInts b = ks) (hc : KBw.bInts c = ls) (hsz : ks.length + ls.length ≤ 16777216) (h : ∀ t' k, Q (.bytes (b ++ c) t') { s with toks := k }) :
    wpAny (model prog w) A (inplaceOp .Add (.bytes b t) (.bytes c u)) Q E s := by
  have hsz' : b.size + c.size ≤ 16777216 := by rw [← KBw.ints_length b, ← KBw.ints_length c, hb, hc]; exact hsz
  refine iconcat_gives (typeIs_bytes s b t) (typeIs_bytes s c u) noI_bytes_add KBy.noFill_bytes_add KBy.seq_bytes_add FB.slot_bytes_add FB.entry_bytes_add (FB.args_bytes_add_2 _ _) (KBy.gives_bytes_add (KBy.tooLong_not hsz')) ?_
  by_cases hb : b.isEmpty = true
  · rw [if_pos hb]
    have e : b = #[] := Array.isEmpty_iff.1 hb
    have h' := h u s.toks
    rw [e, Array.empty_append] at h'
    exact h'
  · rw [if_neg hb]
    by_cases hc : c.isEmpty = true
    · rw [if_pos hc]
      have e : c = #[] := Array.isEmpty_iff.1 hc
      have h' := h t s.toks
      rw [e, Array.append_empty] at h'
      exact h'
    · rw [if_neg hc]
      exact ⟨by rw [Array.size_append, sizeLine_eq]; exact hsz', h s.toks (s.toks + 1)⟩
theorem dress_cut' {ms : List Int} {v : Int} (h0 : 0 ≤ v) : (List.take (clipAt ms.length v) ms ++ List.map (fun c : UInt8 => ((c.toNat : Nat) : Int)) [32] ++ List.take (ms.length - clipAt ms.length v) (List.drop (clipAt ms.length v) ms)).foldl smallG [] = ms.foldl smallG [] := by
  have e : List.take (ms.length - clipAt ms.length v) (List.drop (clipAt ms.length v) ms) = List.drop (clipAt ms.length v) ms := by
    rw [List.take_of_length_le (by rw [List.length_drop]; omega)]
  rw [e]
  exact dress_cut ms _

section
local macro_rules | `(tactic| walk_at "exec For Tuple Call cons nil") => `(tactic| (k_here; (rename Fr _ _ _ _ => lF'); (with_unfolding_all refine' For_turns lF' ?_; k_whole)))
local macro_rules | `(tactic| walk_at "call type:enumerate") => `(tactic| (k_here; (with_reducible show wpAny _ _ (call (Value.type _) [Value.bytes _ _]) (fun xv s₁ => wpAny _ _ (pyIter xv) (fun it s₂ => TurnsAt _ _ _ _ _ _ _ _ _ it s₂) _ s₁) _ _); (rename Fr _ _ _ _ => lF'); (rename News _ _ _ _ => lN'); (with_unfolding_all refine ktu_enumB (by rfl) lF' lN' (by assumption) ?_); clear lF' lN'; intro i' l1; (try k_lt l1)))
local macro_rules | `(tactic| walk_at "ItemsRest") => `(tactic| ((refine' items_dress (y := Str.ofString "made") (stored := [Str.ofString "at", Str.ofString "octet", Str.ofString "is_great"]) ?iy (fun ei9 ek9 et9 eu9 eT9 eB9 etb9 euu9 h9 tk9 hek9 ems9 hms9 hI9 hT9 F9 => ?_) (fun eB9 etb9 euu9 h9 tk9 ems9 hms9 hI9 F9 N9 => ?_)); (case iy => rfl); (all_goals first | ((have hin9 := enum_in (by assumption) hek9); (have hln9 := hI9.2.2); ktu_objs) | ((have hln9 := hI9.2.2)))))
local macro_rules | `(tactic| walk_at "UnrEndW") => `(tactic| ((refine' UnrEndW.intro ?uF ?uN _ ?uI ?uS ?uO ?ur); (case uF => assumption); (case uN => k_asm); (case ur => ((refine' ⟨rfl, ⟨_, _, rfl, _, KBw.ints_app (by assumption) (KBa.ints_make (by assumption)), ?uv⟩, ?uf⟩); (case uf => (intro z h1 h2; (try dsimp only); repeat (first | rfl | rw [if_neg (show ¬ List.contains _ z = true from fun e => by rw [h2] at e; cases e)] | rw [if_neg (show ¬ z = _ from fun e => by subst e; first | exact h1 rfl | exact absurd h2 (by decide))]))); (case uv => walk_at "my dress"))); (case uI => k_subL); (case uS => k_subL); (case uO => ktu_offL)))
local macro_rules | `(tactic| walk_at "my dress") => `(tactic| first
  | (first | exact dress_great (by assumption) (by assumption) (by omega) (by omega) | exact dress_same (by assumption) (by assumption) (by assumption))
  | skip)
local macro_rules | `(tactic| walk_at "binaryOp FloorDiv int int") => `(tactic| (k_here; (with_reducible show wpAny _ _ (binaryOp Operator.FloorDiv (Value.int _ _) (Value.int (2 ^ _) _)) _ _ _); (with_reducible refine pow2_div ?kbp (fun t9 k9 => ?_)); (case kbp => (have := Int.fmod_lt_of_pos (ei9 : Int) (show (0 : Int) < 12 by decide)); omega)))
local macro_rules | `(tactic| walk_at "inplaceOp Add bytes bytes") => `(tactic| (k_here; k_dflt (refine' iadd_bytes ?ib ?ic ?iz (fun t9 k9 => ?_); (case ib => assumption); (case ic => exact KBa.ints_make (by assumption)); (case iz => (simp only [List.length_cons, List.length_nil]; omega)))))

theorem dress_c {prog : Program} {w : World} {p : Program} {loose : List Str} {mean : ExcName → Option Value} {mg mb : Str → Option Value} {dp un : Nat} {gd : Option (List Code)} {cn : Str} {cs : Scope} {a : Addr} {ccd : Value} {cl : List (Str × Addr)} {outer : List Env} {A₀ : Around} {base h₀ : Heap} {L : Addr} {m : Str → Option Value} {s : Shared} {Q E : Value → Shared → Prop} {news : List (Addr × Obj)}
    {pa b : Addr} {k : Int} {t : Tok} {n nb : Nat} {vs : List Value} {ns : List Int} {n1 rest : List (Addr × Obj)} {ob : Array UInt8} {to : Tok} {ks : List Int}
    (P1 : Pull (pa, W.listOf #[.ref b, .int k t] n) news n1) (P2 : Pull (b, W.listOf vs.toArray nb) n1 rest) (hI : IntsAre vs ns) (hlen : ns.length ≤ 63) (hk0 : 0 ≤ k) (hk1 : k ≤ 90000) (hpb : @Ne Nat pa b) (hne : LCg.Off1 pa rest)
    (hob : KBw.bInts ob = ks) (hks : ks.length ≤ 40) (hsafe : ∀ x ∈ ks, x ≠ 32 ∧ ¬ (65 ≤ x ∧ x ≤ 90))
    (hS : ∀ (k' : Int) (B : Array UInt8) (rs : List Int) (t t' : Tok) (h' : Heap) (tk' : Nat), k ≤ k' → k' ≤ k + 2 → KBw.bInts B = rs → rs.length ≤ 41 → rs.foldl smallG [] = ks → Fr h₀ L h' m → News h₀ L h' ((pa, W.listOf #[.ref b, .int k' t'] n) :: (b, W.listOf vs.toArray nb) :: rest) → Q (.bytes B t) { s with heap := h', toks := tk' })
    (S : Site w p loose mean mg mb dp un 2 cs outer A₀ base h₀ L s.heap m news) :
    wpAny (model prog w) (ktrTop dp un gd cn cs L a ccd cl outer) (call (.ref 211) [.ref pa, .bytes ob to]) Q E s := by
  obtain ⟨B, F, X, N, T, hk, hd, hu⟩ := S
  have N0 : News h₀ L s.heap [(pa, W.listOf #[.ref b, .int k t] n), (b, W.listOf vs.toArray nb)] := fun q hq => N q (by
    rcases List.mem_cons.mp hq with rfl | hq
    · exact P1.mem _ (List.mem_cons_self ..)
    · rw [List.mem_singleton.mp hq]; exact P1.mem _ (List.mem_cons_of_mem _ (P2.mem _ (List.mem_cons_self ..))))
  have kN0 : KeptN h₀ L s.heap [(pa, W.listOf #[.ref b, .int k t] n), (b, W.listOf vs.toArray nb)] := N0
  (walk_at "my enter"; intro g9 L9 h9 FG9 F9 N9 B9 X9 T9 kG9; clear N0; (try dsimp only); (try k_lift B9); (try k_fold); k_steps)
  all_goals ((rename News g9 _ _ _ => N'); (rename Fr g9 _ _ _ => F'); (rename Fr h₀ _ _ _ => kF); (rename News h₀ _ _ _ => kN); (rename dressI _ _ _ => hI9))
  · refine' hS _ _ _ _ _ _ _ ?pa1 ?pa2 (by assumption) ?pa5 (dress_end hI9) kF (rest_of kG9 F' N' N P1 P2 (off1_mem hne) ?pa3 ?pa4)
    (case pa3 => k_mem); (case pa4 => k_mem); (case pa1 => omega); (case pa2 => omega)
    case pa5 => (have := hI9.2.2); omega
  · refine' hS _ _ _ _ _ _ _ ?pa1 ?pa2 (by assumption) ?pa5 ((dress_cut' (by assumption)).trans (dress_end hI9)) kF (rest_of kG9 F' N' N P1 P2 (off1_mem hne) ?pa3 ?pa4)
    (case pa3 => k_mem); (case pa4 => k_mem); (case pa1 => omega); (case pa2 => omega)
    case pa5 => ((have := hI9.2.2); simp only [List.length_append, List.length_map, List.length_cons, List.length_nil, List.length_take, List.length_drop]; omega)

end
/-- the two figures that stand for a part -/
def pairV : List Int → Int
  | [a] => 16 * a + a
  | a :: b :: _ => 16 * a + b
  | [] => 0
def Dig (d : Int) : Prop := 0 ≤ d ∧ d < 16
theorem figs1 {a : Int} (ha : Dig a) : figs [hexfig a] = some a := by
  simp only [figs, figsFold, hexv_hexfig ha.1 ha.2, List.length_cons, List.length_nil]
  simp
theorem figs2 {a b : Int} (ha : Dig a) (hb : Dig b) : figs [hexfig a, hexfig b] = some (a * 16 + b) := by
  simp only [figs, figsFold, hexv_hexfig ha.1 ha.2, hexv_hexfig hb.1 hb.2, List.length_cons, List.length_nil]
  simp
theorem figs3 {a b c : Int} (ha : Dig a) (hb : Dig b) (hc : Dig c) : figs [hexfig a, hexfig b, hexfig c] = some ((a * 16 + b) * 16 + c) := by
  simp only [figs, figsFold, hexv_hexfig ha.1 ha.2, hexv_hexfig hb.1 hb.2, hexv_hexfig hc.1 hc.2, List.length_cons, List.length_nil]
  simp
theorem figs4 {a b c d : Int} (ha : Dig a) (hb : Dig b) (hc : Dig c) (hd : Dig d) : figs [hexfig a, hexfig b, hexfig c, hexfig d] = some (((a * 16 + b) * 16 + c) * 16 + d) := by
  simp only [figs, figsFold, hexv_hexfig ha.1 ha.2, hexv_hexfig hb.1 hb.2, hexv_hexfig hc.1 hc.2, hexv_hexfig hd.1 hd.2, List.length_cons, List.length_nil]
  simp
theorem partV_of {ks : List Int} {v n : Int} (h : figs ks = some v) (hn : (16 : Int) ^ ks.length - 1 = n) (hp : 0 ≤ n) : partV ks = some (v * 65535 / n / 256) := by
  unfold partV
  rw [h]
  dsimp only
  rw [hn, Int.fdiv_eq_ediv_of_nonneg _ (show (0 : Int) ≤ 256 by decide), Int.fdiv_eq_ediv_of_nonneg _ hp]
theorem pairV_bnd : ∀ {ds : List Int}, (∀ d ∈ ds, Dig d) → 0 ≤ pairV ds ∧ pairV ds < 256
  | [], _ => by decide
  | [a], h => by have := h a (by simp); unfold Dig at this; simp only [pairV]; omega
  | a :: b :: _, h => by have := h a (by simp); have := h b (by simp); unfold Dig at *; simp only [pairV]; omega
theorem partV_figs {ds : List Int} (hd : ∀ d ∈ ds, Dig d) (h1 : 1 ≤ ds.length) (h4 : ds.length ≤ 4) : partV (ds.map hexfig) = some (pairV ds) := by
  rcases ds with _ | ⟨a, _ | ⟨b, _ | ⟨c, _ | ⟨e, _ | ⟨f, r⟩⟩⟩⟩⟩
  · simp at h1
  · have ha := hd a (by simp)
    rw [List.map_cons, List.map_nil, partV_of (figs1 ha) (n := 15) (by simp) (by decide)]
    unfold Dig at ha
    simp only [pairV]
    congr 1
    omega
  · have ha := hd a (by simp)
    have hb := hd b (by simp)
    simp only [List.map_cons, List.map_nil]
    rw [partV_of (figs2 ha hb) (n := 255) (by simp) (by decide)]
    unfold Dig at *
    simp only [pairV]
    congr 1
    omega
  · have ha := hd a (by simp)
    have hb := hd b (by simp)
    have hc := hd c (by simp)
    simp only [List.map_cons, List.map_nil]
    rw [partV_of (figs3 ha hb hc) (n := 4095) (by simp) (by decide)]
    unfold Dig at *
    simp only [pairV]
    congr 1
    omega
  · have ha := hd a (by simp)
    have hb := hd b (by simp)
    have hc := hd c (by simp)
    have he := hd e (by simp)
    simp only [List.map_cons, List.map_nil]
    rw [partV_of (figs4 ha hb hc he) (n := 65535) (by simp) (by decide)]
    unfold Dig at *
    simp only [pairV]
    congr 1
    omega
  · simp at h4
theorem hexfig_in {ds : List Int} (hd : ∀ d ∈ ds, Dig d) : ∀ x ∈ ds.map hexfig, 48 ≤ x ∧ x ≤ 102 ∧ ¬ (58 ≤ x ∧ x ≤ 96) := by
  intro x hx
  obtain ⟨d, h, rfl⟩ := List.mem_map.mp hx
  exact hexfig_range (hd d h).1 (hd d h).2
theorem no_slash {ds : List Int} (hd : ∀ d ∈ ds, Dig d) : (47 : Int) ∉ ds.map hexfig := fun h => by
  have := hexfig_in hd _ h
  omega
def rgbHead : List Int := [114, 103, 98, 58]
theorem octV_rgb {r : List Int} : octV (rgbHead ++ r) = octP (rgbHead ++ r) := by
  unfold octV rgbHead
  rw [if_pos (by simp)]
theorem octV_rgb3 {d1 d2 d3 : List Int} (h1 : ∀ d ∈ d1, Dig d) (h2 : ∀ d ∈ d2, Dig d) (h3 : ∀ d ∈ d3, Dig d) (l1 : 1 ≤ d1.length ∧ d1.length ≤ 4) (l2 : 1 ≤ d2.length ∧ d2.length ≤ 4) (l3 : 1 ≤ d3.length ∧ d3.length ≤ 4) :
    octV (rgbHead ++ (d1.map hexfig ++ ([47] ++ (d2.map hexfig ++ ([47] ++ d3.map hexfig))))) = some ((pairV d1 * 256 + pairV d2) * 256 + pairV d3) := by
  rw [octV_rgb]
  unfold octP
  rw [show List.drop 4 (rgbHead ++ (d1.map hexfig ++ ([47] ++ (d2.map hexfig ++ ([47] ++ d3.map hexfig))))) = d1.map hexfig ++ 47 :: (d2.map hexfig ++ 47 :: d3.map hexfig) by simp [rgbHead]]
  rw [segs_free _ _ _ _ (no_slash h1), segs_free _ _ _ _ (no_slash h2), segs_last _ _ _ (no_slash h3)]
  simp only [List.nil_append]
  unfold partsV
  rw [partV_figs h1 l1.1 l1.2, partV_figs h2 l2.1 l2.2, partV_figs h3 l3.1 l3.2]
theorem octV_rgb2 {d1 d2 : List Int} (h1 : ∀ d ∈ d1, Dig d) (h2 : ∀ d ∈ d2, Dig d) :
    octV (rgbHead ++ (d1.map hexfig ++ ([47] ++ d2.map hexfig))) = none := by
  rw [octV_rgb]
  unfold octP
  rw [show List.drop 4 (rgbHead ++ (d1.map hexfig ++ ([47] ++ d2.map hexfig))) = d1.map hexfig ++ 47 :: d2.map hexfig by simp [rgbHead]]
  rw [segs_free _ _ _ _ (no_slash h1), segs_last _ _ _ (no_slash h2)]
theorem octV_rgb4 {d1 d2 d3 d4 : List Int} (h1 : ∀ d ∈ d1, Dig d) (h2 : ∀ d ∈ d2, Dig d) (h3 : ∀ d ∈ d3, Dig d) (h4 : ∀ d ∈ d4, Dig d) :
    octV (rgbHead ++ (d1.map hexfig ++ ([47] ++ (d2.map hexfig ++ ([47] ++ (d3.map hexfig ++ ([47] ++ d4.map hexfig))))))) = none := by
  rw [octV_rgb]
  unfold octP
  rw [show List.drop 4 (rgbHead ++ (d1.map hexfig ++ ([47] ++ (d2.map hexfig ++ ([47] ++ (d3.map hexfig ++ ([47] ++ d4.map hexfig))))))) = d1.map hexfig ++ 47 :: (d2.map hexfig ++ 47 :: (d3.map hexfig ++ 47 :: d4.map hexfig)) by simp [rgbHead]]
  rw [segs_free _ _ _ _ (no_slash h1), segs_free _ _ _ _ (no_slash h2), segs_free _ _ _ _ (no_slash h3), segs_last _ _ _ (no_slash h4)]
theorem octV_hash {r : List Int} : octV (35 :: r) = digsV r := by
  unfold octV
  rw [if_neg (by intro h; cases r <;> simp at h), if_pos (by simp)]
  rfl
/-- the two figures that stand for a third behind # -/
def digPair : List Int → Int
  | [a] => 16 * a
  | a :: b :: _ => 16 * a + b
  | [] => 0
theorem digV_of {ks : List Int} {m : Nat} {v : Int} (h : figs ks = some v) : digV m ks = some (v * 2 ^ (16 - 4 * m) / 256) := by
  unfold digV
  rw [h]
  dsimp only
  rw [Int.fdiv_eq_ediv_of_nonneg _ (show (0 : Int) ≤ 256 by decide)]
theorem digV_1 {a : Int} (ha : Dig a) : digV 1 [hexfig a] = some (16 * a) := by
  rw [digV_of (figs1 ha), show (2 : Int) ^ (16 - 4 * 1) = 4096 from rfl]
  unfold Dig at ha
  congr 1
  omega
theorem digV_2 {a b : Int} (ha : Dig a) (hb : Dig b) : digV 2 [hexfig a, hexfig b] = some (16 * a + b) := by
  rw [digV_of (figs2 ha hb), show (2 : Int) ^ (16 - 4 * 2) = 256 from rfl]
  unfold Dig at *
  congr 1
  omega
theorem digV_3 {a b c : Int} (ha : Dig a) (hb : Dig b) (hc : Dig c) : digV 3 [hexfig a, hexfig b, hexfig c] = some (16 * a + b) := by
  rw [digV_of (figs3 ha hb hc), show (2 : Int) ^ (16 - 4 * 3) = 16 from rfl]
  unfold Dig at *
  congr 1
  omega
theorem digV_4 {a b c d : Int} (ha : Dig a) (hb : Dig b) (hc : Dig c) (hd : Dig d) : digV 4 [hexfig a, hexfig b, hexfig c, hexfig d] = some (16 * a + b) := by
  rw [digV_of (figs4 ha hb hc hd), show (2 : Int) ^ (16 - 4 * 4) = 1 from rfl]
  unfold Dig at *
  congr 1
  omega
theorem digs_no_len {ks : List Int} (h : ¬ (ks.length = 3 ∨ ks.length = 6 ∨ ks.length = 9 ∨ ks.length = 12)) : digsV ks = none := if_neg h
theorem digs_h3 {a b c : Int} (ha : Dig a) (hb : Dig b) (hc : Dig c) : digsV [hexfig a, hexfig b, hexfig c] = some ((16 * a * 256 + 16 * b) * 256 + 16 * c) := by
  rw [digsV_3, digV_1 ha, digV_1 hb, digV_1 hc]; rfl
theorem digs_h6 {a b c d e f : Int} (ha : Dig a) (hb : Dig b) (hc : Dig c) (hd : Dig d) (he : Dig e) (hf : Dig f) : digsV [hexfig a, hexfig b, hexfig c, hexfig d, hexfig e, hexfig f] = some (((16 * a + b) * 256 + (16 * c + d)) * 256 + (16 * e + f)) := by
  rw [digsV_6, digV_2 ha hb, digV_2 hc hd, digV_2 he hf]; rfl
theorem digs_h9 {a b c d e f g h i : Int} (ha : Dig a) (hb : Dig b) (hc : Dig c) (hd : Dig d) (he : Dig e) (hf : Dig f) (hg : Dig g) (hh : Dig h) (hi : Dig i) :
    digsV [hexfig a, hexfig b, hexfig c, hexfig d, hexfig e, hexfig f, hexfig g, hexfig h, hexfig i] = some (((16 * a + b) * 256 + (16 * d + e)) * 256 + (16 * g + h)) := by
  rw [digsV_9, digV_3 ha hb hc, digV_3 hd he hf, digV_3 hg hh hi]; rfl
theorem digs_h12 {a b c d e f g h i j k l : Int} (ha : Dig a) (hb : Dig b) (hc : Dig c) (hd : Dig d) (he : Dig e) (hf : Dig f) (hg : Dig g) (hh : Dig h) (hi : Dig i) (hj : Dig j) (hk : Dig k) (hl : Dig l) :
    digsV [hexfig a, hexfig b, hexfig c, hexfig d, hexfig e, hexfig f, hexfig g, hexfig h, hexfig i, hexfig j, hexfig k, hexfig l] = some (((16 * a + b) * 256 + (16 * e + f)) * 256 + (16 * i + j)) := by
  rw [digsV_12, digV_4 ha hb hc hd, digV_4 he hf hg hh, digV_4 hi hj hk hl]; rfl
/-- no capital, no blank -/
def Safe (ks : List Int) : Prop := ∀ x ∈ ks, x ≠ 32 ∧ ¬ (65 ≤ x ∧ x ≤ 90)
theorem Safe.app {a b : List Int} (ha : Safe a) (hb : Safe b) : Safe (a ++ b) := fun x hx => (List.mem_append.mp hx).elim (ha x) (hb x)
theorem safe_figs {ds : List Int} (hd : ∀ d ∈ ds, Dig d) : Safe (ds.map hexfig) := fun x hx => by
  have := hexfig_in hd x hx
  omega
theorem small_safe : ∀ {ks l : List Int}, Safe ks → ks.foldl smallG l = l ++ ks
  | [], l, _ => by simp
  | k :: ks, l, h => by
    have hk := h k (List.mem_cons_self ..)
    rw [List.foldl_cons, smallG_id hk.1 hk.2, small_safe fun x hx => h x (List.mem_cons_of_mem _ hx)]
    simp
theorem nib_split {v : Int} (h0 : 0 ≤ v) (h1 : v < 16777216) : ∃ r g b r1 r0 g1 g0 b1 b0 : Int, v = 16777216 * 0 + 65536 * r + 256 * g + b ∧ r = 16 * r1 + r0 ∧ g = 16 * g1 + g0 ∧ b = 16 * b1 + b0 ∧ Dig r1 ∧ Dig r0 ∧ Dig g1 ∧ Dig g0 ∧ Dig b1 ∧ Dig b0 := by
  refine ⟨v / 65536, v / 256 % 256, v % 256, v / 65536 / 16, v / 65536 % 16, v / 256 % 256 / 16, v / 256 % 256 % 16, v % 256 / 16, v % 256 % 16, ?_, ?_, ?_, ?_, ?_, ?_, ?_, ?_, ?_, ?_⟩ <;> (try unfold Dig) <;> omega
theorem octV_back {v r g b r1 r0 g1 g0 b1 b0 : Int} (hv : v = 16777216 * 0 + 65536 * r + 256 * g + b) (hr : r = 16 * r1 + r0) (hg : g = 16 * g1 + g0) (hb : b = 16 * b1 + b0) (q1 : Dig r1) (q2 : Dig r0) (q3 : Dig g1) (q4 : Dig g0) (q5 : Dig b1) (q6 : Dig b0) :
    octV ((rgbOct r1 r0 g1 g0 b1 b0).foldl smallG []) = some v ∧ (rgbOct r1 r0 g1 g0 b1 b0).length ≤ 100 := by
  have all : ∀ {x y : Int}, Dig x → Dig y → ∀ d ∈ [x, y, x, y], Dig d := by
    intro x y hx hy d hd
    simp only [List.mem_cons, List.not_mem_nil, or_false] at hd
    rcases hd with rfl | rfl | rfl | rfl <;> assumption
  have e : rgbOct r1 r0 g1 g0 b1 b0 = rgbHead ++ ([r1, r0, r1, r0].map hexfig ++ ([47] ++ ([g1, g0, g1, g0].map hexfig ++ ([47] ++ [b1, b0, b1, b0].map hexfig)))) := rfl
  have hs : Safe (rgbOct r1 r0 g1 g0 b1 b0) := by
    rw [e]
    refine Safe.app (by intro x hx; revert x hx; unfold rgbHead; decide) (Safe.app (safe_figs (all q1 q2)) (Safe.app (by unfold Safe; decide) (Safe.app (safe_figs (all q3 q4)) (Safe.app (by unfold Safe; decide) (safe_figs (all q5 q6))))))
  refine ⟨?_, by simp [rgbOct]⟩
  rw [small_safe hs, List.nil_append, e, octV_rgb3 (all q1 q2) (all q3 q4) (all q5 q6) ⟨by simp, by simp⟩ ⟨by simp, by simp⟩ ⟨by simp, by simp⟩]
  simp only [pairV]
  congr 1
  omega

section
variable {prog : Program} {w : World} {A : Around} {E : Value → Shared → Prop} {s : Shared} {value slice : Expr} {h₀ : Heap} {L : Addr} {m : Str → Option Value} {news : List (Addr × Obj)} {k : Int} {u : Tok} {Q : Value → Shared → Prop}
theorem tup_any {t : Addr} {l : List Value} (ht : IsTup s.heap t l.toArray) (h0 : 0 ≤ k) (h1 : k < (l.length : Int)) (hz : l.length ≤ 1000) (h : ∀ x, l[k.toNat]? = some x → Q x s)
    (hs : subscripted slice false (.ref t) (.int k u) = operate [.ref t, .int k u] (getItem (.ref t) (.int k u)) := by with_unfolding_all rfl) :
    wpAny (model prog w) A (subscriptTail value slice (.ref t) (.int k u)) Q E s := by
  have hlt : k.toNat < l.length := by omega
  have hn : ¬ k < 0 := by omega
  have a1 : -(2 ^ 63) ≤ k := by omega
  have a2 : k < 2 ^ 63 := by omega
  have a3 : seqIndex? k l.length = some k.toNat := by simp [seqIndex?, hn, h0, h1]
  exact item_tupleT (j := k.toNat) (x := l[k.toNat]) ht a1 a2 a3 (by simp [hlt]) (h _ (by simp [hlt])) hs
theorem menu_many {t : Addr} {t1 t2 t3 t4 t5 : Tok} (ht : IsTup s.heap t #[.int 3 t1, .int 3 t2, .int 3 t3, .int 2 t4, .int 4 t5]) (h0 : 0 ≤ k) (h1 : k < 5) (h3 : k ≤ 2 → ∀ t, Q (.int 3 t) s) (h2 : k = 3 → ∀ t, Q (.int 2 t) s) (h4 : k = 4 → ∀ t, Q (.int 4 t) s)
    (hs : subscripted slice false (.ref t) (.int k u) = operate [.ref t, .int k u] (getItem (.ref t) (.int k u)) := by with_unfolding_all rfl) :
    wpAny (model prog w) A (subscriptTail value slice (.ref t) (.int k u)) Q E s := by
  refine tup_any (l := [.int 3 t1, .int 3 t2, .int 3 t3, .int 2 t4, .int 4 t5]) ht h0 (by simpa using h1) (by simp) (fun x hx => ?_) hs
  obtain ⟨n, hn⟩ : ∃ n : Nat, k.toNat = n := ⟨_, rfl⟩
  have hn5 : n < 5 := by omega
  rw [hn] at hx
  have : n = 0 ∨ n = 1 ∨ n = 2 ∨ n = 3 ∨ n = 4 := by omega
  rcases this with rfl | rfl | rfl | rfl | rfl <;> cases hx
  · exact h3 (by omega) _
  · exact h3 (by omega) _
  · exact h3 (by omega) _
  · exact h2 (by omega) _
  · exact h4 (by omega) _
theorem menu_sfx {t : Addr} {t1 t2 t3 : Tok} (ht : IsTup s.heap t #[.bytes #[] t1, .bytes #[] t2, .bytes #[115] t3]) (h0 : 0 ≤ k) (h1 : k < 3) (hE : ∀ t, Q (.bytes #[] t) s) (hs' : ∀ t, Q (.bytes #[115] t) s)
    (hs : subscripted slice false (.ref t) (.int k u) = operate [.ref t, .int k u] (getItem (.ref t) (.int k u)) := by with_unfolding_all rfl) :
    wpAny (model prog w) A (subscriptTail value slice (.ref t) (.int k u)) Q E s := by
  refine tup_any (l := [.bytes #[] t1, .bytes #[] t2, .bytes #[115] t3]) ht h0 (by simpa using h1) (by simp) (fun x hx => ?_) hs
  obtain ⟨n, hn⟩ : ∃ n : Nat, k.toNat = n := ⟨_, rfl⟩
  have hn5 : n < 3 := by omega
  rw [hn] at hx
  have : n = 0 ∨ n = 1 ∨ n = 2 := by omega
  rcases this with rfl | rfl | rfl <;> cases hx
  · exact hE _
  · exact hE _
  · exact hs' _
theorem name_item {D : Addr} {vs : List Value} {n : Nat} {tab : List (List Int × Int)} (N : News h₀ L s.heap news) (hm : (D, W.listOf vs.toArray n) ∈ news) (hv : ∀ v ∈ vs, ∃ b t, v = .bytes b t ∧ KBw.bInts b ∈ tab.map (·.1)) (h0 : 0 ≤ k) (h1 : k < (vs.length : Int)) (hz : vs.length ≤ 1000)
    (h : ∀ B t kn, KBw.bInts B = kn → kn ∈ tab.map (·.1) → Q (.bytes B t) s)
    (hs : subscripted slice false (.ref D) (.int k u) = operate [.ref D, .int k u] (getItem (.ref D) (.int k u)) := by with_unfolding_all rfl) :
    wpAny (model prog w) A (subscriptTail value slice (.ref D) (.int k u)) Q E s := by
  have hlt : k.toNat < vs.length := by omega
  have hl : s.heap.IsList D vs.toArray := PySem.IsL.isList (n := n) (N _ hm).1
  obtain ⟨b, t, e, hb⟩ := hv _ (List.getElem_mem hlt)
  exact tail_any hl.typeIs slot_list_getitem.lookup (wpAny_getItem_list (x := .bytes b t) hl h0 (by omega) (by simp [hlt, e]) (h b t _ rfl hb)) hs
def bents : List (List Int) := [[], [114, 103, 98, 58], [114, 103, 98, 58, 49, 47, 47, 50], [35], [114, 103, 98, 58, 49, 47, 50, 47, 103], [114, 103, 98, 58, 49, 9, 47, 50, 47, 51], [35, 49, 50, 103], [114, 103, 98, 49, 47, 50, 47, 51], [114, 103, 98, 58, 49, 50, 51, 52, 53, 47, 49, 47, 49], [114, 101, 9, 100]]
theorem bent_item {K : Frag} {t : Addr} {l : List Value} {n : Nat} {tab : List (List Int)} (X : K.In h₀) (F : Fr h₀ L s.heap m) (ho : K.lookup t = some { cls := .type "tuple", data := .seq l.toArray n }) (h0 : 0 ≤ k) (h1 : k < (l.length : Int)) (hz : l.length ≤ 1000)
    (hv : ∀ v ∈ l, ∃ b t, v = .bytes b t ∧ KBw.bInts b ∈ tab) (h : ∀ B t kn, KBw.bInts B = kn → kn ∈ tab → Q (.bytes B t) s)
    (hs : subscripted slice false (.ref t) (.int k u) = operate [.ref t, .int k u] (getItem (.ref t) (.int k u)) := by with_unfolding_all rfl) :
    wpAny (model prog w) A (subscriptTail value slice (.ref t) (.int k u)) Q E s := by
  have ht : IsTup s.heap t l.toArray := ⟨_, (X.keeps F.keep) _ _ ho, rfl, n, rfl⟩
  refine tup_any ht h0 h1 hz (fun x hx => ?_) hs
  obtain ⟨b, tt, e, hb⟩ := hv x (List.mem_of_getElem? hx)
  rw [e]
  exact h b tt _ rfl hb
/-- the first and the second figure of a pair -/
def hiF (ds : List Int) : Int := ds.headD 0
def loF (ds : List Int) : Int := if ds.length = 1 then ds.headD 0 else (ds.drop 1).headD 0
def PairP (h₀ : Heap) (L : Addr) (m : Str → Option Value) (s : Shared) (news : List (Addr × Obj)) (ds : List Int) (v : Value) (s' : Shared) : Prop :=
  ∃ B' t' h' k, v = .bytes B' t' ∧ s' = { s with heap := h', toks := k } ∧ Fr h₀ L h' m ∧ News h₀ L h' news ∧ KBw.bInts B' = [hexfig (hiF ds), hexfig (loF ds)]
theorem pair_join {M : Model} {B : Array UInt8} {t : Tok} {ds : List Int} {x : Str} {mm : Str → Option Value} (hx_ : mm x = some (.bytes B t)) (hB_ : KBw.bInts B = ds.map hexfig) (F_ : Fr h₀ L s.heap m) (N_ : News h₀ L s.heap news) {T : Sem Value} (h1 : wpAny M A T (PairP h₀ L m s news ds) E s)
    (h2 : ∀ B' t' h' k, KBw.bInts B' = [hexfig (hiF ds), hexfig (loF ds)] → Fr h₀ L h' m → News h₀ L h' news → Q (.bytes B' t') { s with heap := h', toks := k }) : wpAny M A T Q E s :=
  wpAny_mono h1 (fun v s' ⟨B', t', h', k, e1, e2, F', N', hb⟩ => by rw [e1, e2]; exact h2 B' t' h' k hb F' N') fun _ _ e => e
theorem pair_one {ds : List Int} (h : ds.length = 1) : ds.map hexfig ++ ds.map hexfig = [hexfig (hiF ds), hexfig (loF ds)] := by
  rcases ds with _ | ⟨a, _ | ⟨b, r⟩⟩ <;> simp at h
  rfl
theorem pair_two {ds : List Int} (h1 : 1 ≤ ds.length) (h : ds.length ≠ 1) : List.take (clipAt (ds.map hexfig).length 2) (ds.map hexfig) = [hexfig (hiF ds), hexfig (loF ds)] := by
  rw [show (2 : Int) = ((2 : Nat) : Int) from rfl, pre_eq 2]
  rcases ds with _ | ⟨a, _ | ⟨b, r⟩⟩
  · simp at h1
  · simp at h
  · simp [hiF, loF]
theorem pairV_hilo {ds : List Int} (h1 : 1 ≤ ds.length) : pairV ds = 16 * hiF ds + loF ds := by
  rcases ds with _ | ⟨a, _ | ⟨b, r⟩⟩
  · simp at h1
  · simp [pairV, hiF, loF]
  · simp [pairV, hiF, loF]
theorem hilo_dig {ds : List Int} (hd : ∀ d ∈ ds, 0 ≤ d ∧ d < 16) : Dig (hiF ds) ∧ Dig (loF ds) := by
  rcases ds with _ | ⟨a, _ | ⟨b, r⟩⟩
  · exact ⟨by unfold Dig hiF; decide, by unfold Dig loF; decide⟩
  · have := hd a (by simp)
    exact ⟨this, this⟩
  · refine ⟨hd a (by simp), ?_⟩
    have e : loF (a :: b :: r) = b := by simp [loF]
    rw [e]
    exact hd b (by simp)
end
def hexs (n : Nat) : Prop := n = 3 ∨ n = 6 ∨ n = 9 ∨ n = 12
theorem names_ok : ∀ kn ∈ namesTab.map (·.1), ∀ sfx ∈ ([[], [115]] : List (List Int)), octV (kn ++ sfx) = lookB (kn ++ sfx) namesTab ∧ (kn ++ sfx).length ≤ 40 ∧ (kn ++ sfx).all (fun x => x != 32 && !(decide (65 ≤ x) && decide (x ≤ 90))) = true ∧ (match lookB (kn ++ sfx) namesTab with | some v => decide (0 ≤ v ∧ v < 16777216) | none => true) = true := by decide +kernel
theorem bents_ok : ∀ kn ∈ bents, octV kn = none ∧ kn.length ≤ 40 ∧ kn.all (fun x => x != 32 && !(decide (65 ≤ x) && decide (x ≤ 90))) = true := by decide +kernel
theorem safe_of_all {ks : List Int} (h : ks.all (fun x => x != 32 && !(decide (65 ≤ x) && decide (x ≤ 90))) = true) : Safe ks := by
  intro x hx
  have := List.all_eq_true.mp h x hx
  simp at this
  omega
theorem digs_cases {ds : List Int} (hd : ∀ d ∈ ds, 0 ≤ d ∧ d < 16) :
    (∃ d1 d2 d3, ds = [d1, d2, d3] ∧ Dig d1 ∧ Dig d2 ∧ Dig d3) ∨
    (∃ d1 d2 d3 d4 d5 d6, ds = [d1, d2, d3, d4, d5, d6] ∧ Dig d1 ∧ Dig d2 ∧ Dig d3 ∧ Dig d4 ∧ Dig d5 ∧ Dig d6) ∨
    (∃ d1 d2 d3 d4 d5 d6 d7 d8 d9, ds = [d1, d2, d3, d4, d5, d6, d7, d8, d9] ∧ Dig d1 ∧ Dig d2 ∧ Dig d3 ∧ Dig d4 ∧ Dig d5 ∧ Dig d6 ∧ Dig d7 ∧ Dig d8 ∧ Dig d9) ∨
    (∃ d1 d2 d3 d4 d5 d6 d7 d8 d9 d10 d11 d12, ds = [d1, d2, d3, d4, d5, d6, d7, d8, d9, d10, d11, d12] ∧ Dig d1 ∧ Dig d2 ∧ Dig d3 ∧ Dig d4 ∧ Dig d5 ∧ Dig d6 ∧ Dig d7 ∧ Dig d8 ∧ Dig d9 ∧ Dig d10 ∧ Dig d11 ∧ Dig d12) ∨
    (ds.length ≠ 3 ∧ ds.length ≠ 6 ∧ ds.length ≠ 9 ∧ ds.length ≠ 12) := by
  by_cases h3 : ds.length = 3
  · obtain ⟨x1, x2, x3, rfl⟩ := list_len3 h3
    exact .inl ⟨x1, x2, x3, rfl, hd _ (by simp), hd _ (by simp), hd _ (by simp)⟩
  by_cases h6 : ds.length = 6
  · obtain ⟨x1, x2, x3, x4, x5, x6, rfl⟩ := list_len6 h6
    exact .inr (.inl ⟨x1, x2, x3, x4, x5, x6, rfl, hd _ (by simp), hd _ (by simp), hd _ (by simp), hd _ (by simp), hd _ (by simp), hd _ (by simp)⟩)
  by_cases h9 : ds.length = 9
  · obtain ⟨x1, x2, x3, x4, x5, x6, x7, x8, x9, rfl⟩ := list_len9 h9
    exact .inr (.inr (.inl ⟨x1, x2, x3, x4, x5, x6, x7, x8, x9, rfl, hd _ (by simp), hd _ (by simp), hd _ (by simp), hd _ (by simp), hd _ (by simp), hd _ (by simp), hd _ (by simp), hd _ (by simp), hd _ (by simp)⟩))
  by_cases h12 : ds.length = 12
  · obtain ⟨x1, x2, x3, x4, x5, x6, x7, x8, x9, x10, x11, x12, rfl⟩ := list_len12 h12
    exact .inr (.inr (.inr (.inl ⟨x1, x2, x3, x4, x5, x6, x7, x8, x9, x10, x11, x12, rfl, hd _ (by simp), hd _ (by simp), hd _ (by simp), hd _ (by simp), hd _ (by simp), hd _ (by simp), hd _ (by simp), hd _ (by simp), hd _ (by simp), hd _ (by simp), hd _ (by simp), hd _ (by simp)⟩)))
  exact .inr (.inr (.inr (.inr ⟨h3, h6, h9, h12⟩)))
section
variable {prog : Program} {w : World} {A : Around} {E : Value → Shared → Prop} {s : Shared} {h₀ : Heap} {L : Addr} {m : Str → Option Value} {env : Env}
/-- a comprehension over a range by steps -/
def SrcS (prog : Program) (w : World) (A : Around) (h₀ : Heap) (L : Addr) (m : Str → Option Value) (env : Env) (elt : Expr) (x : Str) (scope : Scope) (cl : List (Str × Addr)) (Fin : Shared → List Value → List (Addr × Obj) → Prop) (xv : Value) (s₁ : Shared) : Prop :=
  ∃ r a b c t u v n news, xv = .ref r ∧ A.handled = none ∧ Fr h₀ L s₁.heap m ∧ News h₀ L s₁.heap news ∧ IsRange s₁.heap r a b c t u v ∧ Builtin.Range.small a b c = true ∧ Builtin.Range.rangeSize a b c = ((n : Nat) : Int) ∧ n ≤ sizeLine ∧
    ∀ s₂ : Shared, (∃ h, s₂ = { s₁ with heap := h }) → LCg.CompRest prog w A h₀ L m env elt x scope cl s₂ (fun _ => True) (fun i v => ∃ t, v = .int (a + (i : Int) * c) t) (Fin s₂) n 0 [] news
theorem SrcS.mk' {elt : Expr} {x : Str} {scope : Scope} {cl : List (Str × Addr)} {Fin : Shared → List Value → List (Addr × Obj) → Prop} {r : Addr} {a b c : Int} {t u v : Tok} {n : Nat} {news : List (Addr × Obj)} {s₁ : Shared}
    (hh : A.handled = none) (F : Fr h₀ L s₁.heap m) (N : News h₀ L s₁.heap news) (hr : IsRange s₁.heap r a b c t u v) (hsm : Builtin.Range.small a b c = true) (hn : Builtin.Range.rangeSize a b c = ((n : Nat) : Int)) (hsz : n ≤ sizeLine)
    (h : ∀ g, LCg.CompRest prog w A h₀ L m env elt x scope cl { s₁ with heap := g } (fun _ => True) (fun i v => ∃ t, v = .int (a + (i : Int) * c) t) (Fin { s₁ with heap := g }) n 0 [] news) :
    SrcS prog w A h₀ L m env elt x scope cl Fin (.ref r) s₁ := ⟨r, a, b, c, t, u, v, n, news, rfl, hh, F, N, hr, hsm, hn, hsz, fun _ ⟨g, e⟩ => e ▸ h g⟩
theorem Assign_ListComp_S {elt iter : Expr} {x y : Str} {px py : Pos} {scope : Scope} {cl : List (Str × Addr)} {pos spos : Pos} {Q : Flow → Shared → Prop} (F₀_ : Fr h₀ L s.heap m) (hLe : env.locals = L)
    (hsw : swapsWith (.ListComp elt [⟨.Name x px, iter, [], 0⟩] scope pos) (some (.Name y py)) spos.line env = pure true)
    (hclos : closureFor scope env = pure cl) (hcell : ∀ z ∈ scope.names, z.2 ≠ .cell) (hkind : scope.kind = .function)
    (hnames : ∀ z ∈ scope.names, z.2 = .local → scope.names.lookup z.1 = some .local) (hx : scope.names.lookup x = some .local)
    (hy : env.kindOf y = some .local) (hp : (env.scope.kind == .class || (env.scope.kind == .module && env.locals != env.globals)) = false)
    (h : wpAny (model prog w) A (eval iter env) (SrcS prog w A h₀ L m env elt x scope cl (fun s₂ => LCg.FinA h₀ L m s₂ y Q)) E s)
    (hs : ∀ x, foldedSetIterable iter env x = pure x := by intro _; rfl) :
    wpAny (model prog w) A (exec (.Assign [.Name y py] (.ListComp elt [⟨.Name x px, iter, [], 0⟩] scope pos) spos) env) Q E s := by
  subst hLe
  rw [exec_Assign_Name_used _ _ _ _ hsw]
  refine wpAny_bind (wpAny_standAt (wpAny_bind ?_))
  show wpAny _ A (do let _ ← comprehension (.ListComp elt [⟨.Name x px, iter, [], 0⟩] scope pos) scope env _ (newList []) false (eval iter env) (some (assign (.Name y py) env))) _ _ s
  refine wpAny_bind (wpAny_mono (wpAny_comprehension_free (use := some (assign (.Name y py) env)) (Q := fun _ s' => Q .next s') rfl hs hclos hkind hnames
    (wpAny_mono h (fun xv s₁ h₁ => ?_) fun _ _ e => e)) (fun _ s' hq => wpAny_pure (wpAny_pure hq)) fun _ _ e => e)
  obtain ⟨r, a, b, c, t, u, v, n, news, rfl, hh, F, N, hr, hsm, hn, hsz, R⟩ := h₁
  refine wpAny_pyIter_range hr hsm ?_
  refine LCg.block_U (Walks.range hh s₁.heap.objs.size a c n) hsz (fun i h st => ⟨_, st⟩) (fun i h h' o nw st e e' _ _ _ => by
      have st' : h.get? s₁.heap.objs.size = some _ := st
      show h'.get? s₁.heap.objs.size = some _
      rw [e', ← e]; exact st') hcell hkind hx (by show IsRangeIter _ _ _ _ _; rw [hn]; simpa using Heap.get?_push_size _ rfl) (fun b hb => ?_)
    (F.keeps fun _ _ e => Heap.get?_push_of_some _ e) (N.grown fun _ _ e => Heap.get?_push_of_some _ e) (Nat.ne_of_lt F.ns.lt) (next_is_new F) (fun p hp => Nat.ne_of_lt (Heap.lt_size (N p hp).1)) trivial (R _ ⟨_, rfl⟩) ?_
  · rw [List.mem_singleton.mp hb]
    show s₁.heap.objs.size < (s₁.heap.push _).objs.size
    rw [Heap.size_push]; exact Nat.lt_succ_self _
  · intro D C h' tk m' ys news' F' N' o1 hn' hC₀ hD₀ hCL hDL hCD offC fin
    show wpAny _ A (assign (.Name y py) env (.ref D)) _ _ _
    refine wpAny_assign_Name (wpAny_storeName_local hy F'.ns (fun h₂ hn₂ hs₂ => ?_) hp)
    have hL₀ : h₀.get? env.locals = none := Heap.get?_none_of_le F'.above
    have F₂ : Fr h₀ env.locals h₂ (fun z => if z = y then some (.ref D) else m z) := ⟨hn₂, fun b o e => hs₂.extBut b o (fun q => by rw [q, hL₀] at e; cases e) (F'.keep b o e), F'.above⟩
    refine ⟨m', hn'.sameBut hs₂ hCL, fun h'' hs'' => fin D h'' _ (F₂.change hs'' hCL hC₀) (fun p hp => ?_) o1⟩
    have z : h₂.get? p.1 = some p.2 := hs₂.extBut _ _ (N' p hp).2.1 (N' p hp).1
    refine ⟨hs''.extBut _ _ ?_ z, (N' p hp).2⟩
    rcases List.mem_cons.mp hp with rfl | hp
    · exact Ne.symm hCD
    · exact offC p hp
end
theorem names_len : ∀ kn ∈ namesTab.map (·.1), kn.length ≤ 20 := by decide
theorem add_name {prog : Program} {w : World} {A : Around} {E : Value → Shared → Prop} {s : Shared} {b c : Array UInt8} {t u : Tok} {Q : Value → Shared → Prop} {kn ls : List Int} (hb : KBw.bInts b = kn) (hc : KBw.bInts c = ls) (hk : kn ∈ namesTab.map (·.1)) (hl : ls.length ≤ 1)
    (h : ∀ t' k, KBw.bInts (b ++ c) = kn ++ ls → Q (.bytes (b ++ c) t') { s with toks := k }) : wpAny (model prog w) A (binaryOp .Add (.bytes b t) (.bytes c u)) Q E s :=
  KBa.add_K hb hc (by have := names_len kn hk; omega) h
/-- what a told row of octets answers -/
structure ToldEnds (h₀ : Heap) (L : Addr) (m : Str → Option Value) (news rest : List (Addr × Obj)) (pa b : Addr) (n nb : Nat) (vs : List Value) (k : Int) (s : Shared) (Q : Value → Shared → Prop) : Prop where
  none : ∀ (k' : Int) (D : Addr) (B : Array UInt8) (tb t' : Tok) (ks : List Int) (h' : Heap) (tk' : Nat), k ≤ k' → k' ≤ k + 20 → KBw.bInts B = ks → Safe ks → ks.length ≤ 40 → octV ks = Option.none → LCg.Off1 D news → Fr h₀ L h' m → News h₀ L h' ((D, tupOf #[.bytes B tb, .none]) :: (pa, W.listOf #[.ref b, .int k' t'] n) :: (b, W.listOf vs.toArray nb) :: rest) → Q (.ref D) { s with heap := h', toks := tk' }
  some : ∀ (k' v : Int) (tv : Tok) (D : Addr) (B : Array UInt8) (tb t' : Tok) (ks : List Int) (h' : Heap) (tk' : Nat), k ≤ k' → k' ≤ k + 20 → KBw.bInts B = ks → Safe ks → ks.length ≤ 40 → octV ks = Option.some v → 0 ≤ v → v < 16777216 → LCg.Off1 D news → Fr h₀ L h' m → News h₀ L h' ((D, tupOf #[.bytes B tb, .int v tv]) :: (pa, W.listOf #[.ref b, .int k' t'] n) :: (b, W.listOf vs.toArray nb) :: rest) → Q (.ref D) { s with heap := h', toks := tk' }
theorem notin2 {D pa b : Addr} {o o' : Obj} (h : @LT.lt Nat _ pa D) (h' : @LT.lt Nat _ b D) : D ∉ [(pa, o), (b, o')].map (·.1) := by
  simp only [List.map_cons, List.map_nil, List.mem_cons, List.not_mem_nil, or_false, not_or]
  exact ⟨Nat.ne_of_gt h, Nat.ne_of_gt h'⟩
theorem sfx_none {kn : List Int} {c : Array UInt8} (h : kn ∈ namesTab.map (·.1)) (hv : lookB (kn ++ KBw.bInts c) namesTab = none) (hc : KBw.bInts c ∈ ([[], [115]] : List (List Int))) : Safe (kn ++ KBw.bInts c) ∧ (kn ++ KBw.bInts c).length ≤ 40 ∧ octV (kn ++ KBw.bInts c) = none := by
  have z := names_ok kn h _ hc
  exact ⟨safe_of_all z.2.2.1, z.2.1, z.1.trans hv⟩
theorem sfx_some {kn : List Int} {c : Array UInt8} {v : Int} (h : kn ∈ namesTab.map (·.1)) (hv : lookB (kn ++ KBw.bInts c) namesTab = some v) (hc : KBw.bInts c ∈ ([[], [115]] : List (List Int))) : Safe (kn ++ KBw.bInts c) ∧ (kn ++ KBw.bInts c).length ≤ 40 ∧ octV (kn ++ KBw.bInts c) = some v ∧ 0 ≤ v ∧ v < 16777216 := by
  have z := names_ok kn h _ hc
  have y := z.2.2.2
  rw [hv] at y
  have y' := of_decide_eq_true y
  exact ⟨safe_of_all z.2.2.1, z.2.1, z.1.trans hv, y'.1, y'.2⟩
/-- the pair that stands for the third i of the figures behind # -/
def cutL (ks : List Int) (i : Nat) : List Int := [ks.getD (i * (ks.length / 3)) 0, if ks.length = 3 then 48 else ks.getD (i * (ks.length / 3) + 1) 0]
def CutP (h₀ : Heap) (L : Addr) (m : Str → Option Value) (s : Shared) (news : List (Addr × Obj)) (ks : List Int) (i : Nat) (v : Value) (s' : Shared) : Prop :=
  ∃ B' t' h' k, v = .bytes B' t' ∧ s' = { s with heap := h', toks := k } ∧ Fr h₀ L h' m ∧ News h₀ L h' news ∧ KBw.bInts B' = cutL ks i
theorem cut_join {M : Model} {A : Around} {E Q : Value → Shared → Prop} {s : Shared} {h₀ : Heap} {L : Addr} {m : Str → Option Value} {news : List (Addr × Obj)} {B : Array UInt8} {ks : List Int} {i : Nat} {c : Int} {t : Tok} {x : Str} {mm : Str → Option Value} (hx_ : mm x = some (.int (0 + (i : Int) * c) t)) (hB_ : KBw.bInts B = ks) (F_ : Fr h₀ L s.heap m) (N_ : News h₀ L s.heap news) {T : Sem Value} (h1 : wpAny M A T (CutP h₀ L m s news ks i) E s)
    (h2 : ∀ B' t' h' k, KBw.bInts B' = cutL ks i → Fr h₀ L h' m → News h₀ L h' news → Q (.bytes B' t') { s with heap := h', toks := k }) : wpAny M A T Q E s :=
  wpAny_mono h1 (fun v s' ⟨B', t', h', k, e1, e2, F', N', hb⟩ => by rw [e1, e2]; exact h2 B' t' h' k hb F' N') fun _ _ e => e
theorem hash_safe {ds : List Int} (hd : ∀ d ∈ ds, Dig d) : Safe (35 :: ds.map hexfig) := fun x hx => by
  rcases List.mem_cons.mp hx with rfl | hx
  · decide
  · exact safe_figs hd x hx
theorem hash_none {ds : List Int} (hd : ∀ d ∈ ds, 0 ≤ d ∧ d < 16) (hl : ds.length ≤ 13) (h : ds.length ≠ 3 ∧ ds.length ≠ 6 ∧ ds.length ≠ 9 ∧ ds.length ≠ 12) : Safe (35 :: ds.map hexfig) ∧ (35 :: ds.map hexfig).length ≤ 40 ∧ octV (35 :: ds.map hexfig) = none := by
  refine ⟨hash_safe hd, by rw [List.length_cons, List.length_map]; omega, ?_⟩
  rw [octV_hash]
  refine digs_no_len ?_
  rw [List.length_map]
  omega
theorem hash3 {v a b c : Int} {X : List Int} (hX_ : X = List.map (fun c : UInt8 => (c.toNat : Int)) [35] ++ [hexfig a, hexfig b, hexfig c]) (hv : v = 1048576 * a + 65536 * 0 + 4096 * b + 256 * 0 + 16 * c + 0) (ha : Dig a) (hb : Dig b) (hc : Dig c) :
    Safe [35, hexfig a, hexfig b, hexfig c] ∧ [35, hexfig a, hexfig b, hexfig c].length ≤ 40 ∧ octV [35, hexfig a, hexfig b, hexfig c] = some v ∧ 0 ≤ v ∧ v < 16777216 := by
  refine ⟨hash_safe (ds := [a, b, c]) (by intro d hd; simp only [List.mem_cons, List.not_mem_nil, or_false] at hd; rcases hd with rfl | rfl | rfl <;> assumption), by simp only [List.length_cons, List.length_nil]; omega, ?_, ?_⟩
  · rw [octV_hash, digs_h3 ha hb hc]; congr 1; omega
  · unfold Dig at *; omega
theorem hash6 {v a b c d e f : Int} {X : List Int} (hX_ : X = List.map (fun c : UInt8 => (c.toNat : Int)) [35] ++ [hexfig a, hexfig b, hexfig c, hexfig d, hexfig e, hexfig f]) (hv : v = 1048576 * a + 65536 * b + 4096 * c + 256 * d + 16 * e + f) (ha : Dig a) (hb : Dig b) (hc : Dig c) (hd : Dig d) (he : Dig e) (hf : Dig f) :
    Safe [35, hexfig a, hexfig b, hexfig c, hexfig d, hexfig e, hexfig f] ∧ [35, hexfig a, hexfig b, hexfig c, hexfig d, hexfig e, hexfig f].length ≤ 40 ∧ octV [35, hexfig a, hexfig b, hexfig c, hexfig d, hexfig e, hexfig f] = some v ∧ 0 ≤ v ∧ v < 16777216 := by
  refine ⟨hash_safe (ds := [a, b, c, d, e, f]) (by intro x hx; simp only [List.mem_cons, List.not_mem_nil, or_false] at hx; rcases hx with rfl | rfl | rfl | rfl | rfl | rfl <;> assumption), by simp only [List.length_cons, List.length_nil]; omega, ?_, ?_⟩
  · rw [octV_hash, digs_h6 ha hb hc hd he hf]; congr 1; omega
  · unfold Dig at *; omega
theorem hash9 {v a b c d e f g h i : Int} {X : List Int} (hX_ : X = List.map (fun c : UInt8 => (c.toNat : Int)) [35] ++ [hexfig a, hexfig b, hexfig c, hexfig d, hexfig e, hexfig f, hexfig g, hexfig h, hexfig i]) (hv : v = 1048576 * a + 65536 * b + 4096 * d + 256 * e + 16 * g + h) (ha : Dig a) (hb : Dig b) (hc : Dig c) (hd : Dig d) (he : Dig e) (hf : Dig f) (hg : Dig g) (hh : Dig h) (hi : Dig i) :
    Safe [35, hexfig a, hexfig b, hexfig c, hexfig d, hexfig e, hexfig f, hexfig g, hexfig h, hexfig i] ∧ [35, hexfig a, hexfig b, hexfig c, hexfig d, hexfig e, hexfig f, hexfig g, hexfig h, hexfig i].length ≤ 40 ∧ octV [35, hexfig a, hexfig b, hexfig c, hexfig d, hexfig e, hexfig f, hexfig g, hexfig h, hexfig i] = some v ∧ 0 ≤ v ∧ v < 16777216 := by
  refine ⟨hash_safe (ds := [a, b, c, d, e, f, g, h, i]) (by intro x hx; simp only [List.mem_cons, List.not_mem_nil, or_false] at hx; rcases hx with rfl | rfl | rfl | rfl | rfl | rfl | rfl | rfl | rfl <;> assumption), by simp only [List.length_cons, List.length_nil]; omega, ?_, ?_⟩
  · rw [octV_hash, digs_h9 ha hb hc hd he hf hg hh hi]; congr 1; omega
  · unfold Dig at *; omega
theorem hash12 {v a b c d e f g h i j k l : Int} {X : List Int} (hX_ : X = List.map (fun c : UInt8 => (c.toNat : Int)) [35] ++ [hexfig a, hexfig b, hexfig c, hexfig d, hexfig e, hexfig f, hexfig g, hexfig h, hexfig i, hexfig j, hexfig k, hexfig l]) (hv : v = 1048576 * a + 65536 * b + 4096 * e + 256 * f + 16 * i + j) (ha : Dig a) (hb : Dig b) (hc : Dig c) (hd : Dig d) (he : Dig e) (hf : Dig f) (hg : Dig g) (hh : Dig h) (hi : Dig i) (hj : Dig j) (hk : Dig k) (hl : Dig l) :
    Safe [35, hexfig a, hexfig b, hexfig c, hexfig d, hexfig e, hexfig f, hexfig g, hexfig h, hexfig i, hexfig j, hexfig k, hexfig l] ∧ [35, hexfig a, hexfig b, hexfig c, hexfig d, hexfig e, hexfig f, hexfig g, hexfig h, hexfig i, hexfig j, hexfig k, hexfig l].length ≤ 40 ∧ octV [35, hexfig a, hexfig b, hexfig c, hexfig d, hexfig e, hexfig f, hexfig g, hexfig h, hexfig i, hexfig j, hexfig k, hexfig l] = some v ∧ 0 ≤ v ∧ v < 16777216 := by
  refine ⟨hash_safe (ds := [a, b, c, d, e, f, g, h, i, j, k, l]) (by intro x hx; simp only [List.mem_cons, List.not_mem_nil, or_false] at hx; rcases hx with rfl | rfl | rfl | rfl | rfl | rfl | rfl | rfl | rfl | rfl | rfl | rfl <;> assumption), by simp only [List.length_cons, List.length_nil]; omega, ?_, ?_⟩
  · rw [octV_hash, digs_h12 ha hb hc hd he hf hg hh hi hj hk hl]; congr 1; omega
  · unfold Dig at *; omega
def sl (l : List UInt8) : List Int := l.map fun c => (c.toNat : Int)
theorem part_in {ds : List Int} (h : ∀ d ∈ ds, 0 ≤ d ∧ d < 16) : ∀ d ∈ ds, Dig d := h
theorem rgb_safe {r : List Int} (h : Safe r) : Safe (rgbHead ++ r) := Safe.app (by intro x hx; revert x hx; unfold rgbHead; decide) h
theorem slash_safe {ds r : List Int} (hd : ∀ d ∈ ds, Dig d) (h : Safe r) : Safe (ds.map hexfig ++ ([47] ++ r)) := Safe.app (safe_figs hd) (Safe.app (by unfold Safe; decide) h)
theorem rgb2_none {X d1 d2 : List Int} (hX : X = sl [114, 103, 98, 58] ++ (d1.map hexfig ++ (sl [47] ++ d2.map hexfig))) (h1 : ∀ d ∈ d1, 0 ≤ d ∧ d < 16) (h2 : ∀ d ∈ d2, 0 ≤ d ∧ d < 16) (l1 : d1.length ≤ 4) (l2 : d2.length ≤ 4) :
    Safe X ∧ X.length ≤ 40 ∧ octV X = none := by
  replace hX : X = rgbHead ++ (d1.map hexfig ++ ([47] ++ d2.map hexfig)) := hX
  subst hX
  refine ⟨rgb_safe (slash_safe h1 (safe_figs h2)), ?_, octV_rgb2 h1 h2⟩
  simp only [rgbHead, List.length_append, List.length_cons, List.length_nil, List.length_map]; omega
theorem rgb4_none {X d1 d2 d3 d4 : List Int} (hX : X = sl [114, 103, 98, 58] ++ (d1.map hexfig ++ (sl [47] ++ (d2.map hexfig ++ (sl [47] ++ (d3.map hexfig ++ (sl [47] ++ d4.map hexfig))))))) (h1 : ∀ d ∈ d1, 0 ≤ d ∧ d < 16) (h2 : ∀ d ∈ d2, 0 ≤ d ∧ d < 16) (h3 : ∀ d ∈ d3, 0 ≤ d ∧ d < 16) (h4 : ∀ d ∈ d4, 0 ≤ d ∧ d < 16)
    (l1 : d1.length ≤ 4) (l2 : d2.length ≤ 4) (l3 : d3.length ≤ 4) (l4 : d4.length ≤ 4) : Safe X ∧ X.length ≤ 40 ∧ octV X = none := by
  replace hX : X = rgbHead ++ (d1.map hexfig ++ ([47] ++ (d2.map hexfig ++ ([47] ++ (d3.map hexfig ++ ([47] ++ d4.map hexfig)))))) := hX
  subst hX
  refine ⟨rgb_safe (slash_safe h1 (slash_safe h2 (slash_safe h3 (safe_figs h4)))), ?_, octV_rgb4 h1 h2 h3 h4⟩
  simp only [rgbHead, List.length_append, List.length_cons, List.length_nil, List.length_map]; omega
theorem rgb3_some {X d1 d2 d3 : List Int} {v : Int} (hX : X = sl [114, 103, 98, 58] ++ (d1.map hexfig ++ (sl [47] ++ (d2.map hexfig ++ (sl [47] ++ d3.map hexfig))))) (hv : v = 1048576 * hiF d1 + 65536 * loF d1 + 4096 * hiF d2 + 256 * loF d2 + 16 * hiF d3 + loF d3)
    (h1 : ∀ d ∈ d1, 0 ≤ d ∧ d < 16) (h2 : ∀ d ∈ d2, 0 ≤ d ∧ d < 16) (h3 : ∀ d ∈ d3, 0 ≤ d ∧ d < 16) (l1 : 1 ≤ d1.length ∧ d1.length ≤ 4) (l2 : 1 ≤ d2.length ∧ d2.length ≤ 4) (l3 : 1 ≤ d3.length ∧ d3.length ≤ 4) :
    Safe X ∧ X.length ≤ 40 ∧ octV X = some v ∧ 0 ≤ v ∧ v < 16777216 := by
  replace hX : X = rgbHead ++ (d1.map hexfig ++ ([47] ++ (d2.map hexfig ++ ([47] ++ d3.map hexfig)))) := hX
  subst hX
  refine ⟨rgb_safe (slash_safe h1 (slash_safe h2 (safe_figs h3))), ?_, ?_, ?_⟩
  · simp only [rgbHead, List.length_append, List.length_cons, List.length_nil, List.length_map]; omega
  · rw [octV_rgb3 h1 h2 h3 l1 l2 l3, pairV_hilo l1.1, pairV_hilo l2.1, pairV_hilo l3.1]; congr 1; omega
  · have a := hilo_dig h1; have b := hilo_dig h2; have c := hilo_dig h3
    unfold Dig at a b c
    omega

section
local macro_rules | `(tactic| walk_at "call ref") => `(tactic| (k_here; (with_reducible show wpAny _ _ (call _ [_, Value.int (1 + _) _]) _ _ _); k_dflt (refine' hex_c ?P1 ?P2 ?hI ?h1 ?h2 ?h3 ?h4 ?h5 ?h6 ?h7 (fun k9 B9 ds9 t9 u9 h9 tk9 lo9 hi9 din9 dl9 hB9 F9 N9 => ?_) ?kS; (case kS => walk_at "my site"); (case P1 => walk_at "my pull"); (case P2 => walk_at "my pull"); (case hI => l_ints); (case h1 => first | assumption | omega); (case h2 => omega); (case h3 => omega); (case h4 => omega); (case h5 => omega); (case h6 => omega); (case h7 => walk_at "my off")); (have hlo9 := hilo_dig din9); (try dsimp only); (try k_fold)))
local macro_rules | `(tactic| walk_at "call ref") => `(tactic| (k_here; (with_reducible show wpAny _ _ (call (Value.ref 192) _) _ _ _); (fail_if_success (with_reducible show wpAny _ _ (call _ [_, Value.int (1 + _) _]) _ _ _)); k_dflt (refine' hex_c ?P1 ?P2 ?hI ?h1 ?h2 ?h3 ?h4 ?h5 ?h6 ?h7 (fun k9 B9 ds9 t9 u9 h9 tk9 lo9 hi9 din9 dl9 hB9 F9 N9 => ?_) ?kS; (case kS => walk_at "my site"); (case P1 => walk_at "my pull"); (case P2 => walk_at "my pull"); (case hI => l_ints); (case h1 => first | assumption | omega); (case h2 => omega); (case h3 => omega); (case h4 => omega); (case h5 => omega); (case h6 => omega); (case h7 => walk_at "my off")); (try dsimp only); (try k_fold); (rcases digs_cases din9 with ⟨d1, d2, d3, e9, q1, q2, q3⟩ | ⟨d1, d2, d3, d4, d5, d6, e9, q1, q2, q3, q4, q5, q6⟩ | ⟨d1, d2, d3, d4, d5, d6, d7, d8, d9, e9, q1, q2, q3, q4, q5, q6, q7, q8, q9⟩ | ⟨d1, d2, d3, d4, d5, d6, d7, d8, d9, d10, d11, d12, e9, q1, q2, q3, q4, q5, q6, q7, q8, q9, q10, q11, q12⟩ | ⟨n3, n6, n9, n12⟩); all_goals (try (subst e9; simp only [List.map_cons, List.map_nil, List.length_cons, List.length_nil] at hB9 dl9)); all_goals (try (exfalso; omega))))
local macro_rules | `(tactic| walk_at "call builtin:sorted") => `(tactic| (k_here; (with_reducible show wpAny _ _ (call (Value.builtin "sorted") [Value.ref _]) _ _ _); k_dflt (refine' sorted_names ?s1 ?s2 ?s3 ?s4 ?s5 ?s6 ?s7 ?s8 (fun D9 vs9 e9 h9 tk9 vl9 vm9 F9 N9 l9 => ?_); (case s1 => rfl); (case s2 => k_asm); (case s3 => k_asm); (case s4 => k_mem); (case s5 => k_asm); (case s6 => k_asm); (case s7 => assumption); (case s8 => decide)); (have vz9 : vs9.length = 15 := vl9); (try k_lt l9)))
local macro_rules | `(tactic| walk_at "call builtin:len") => `(tactic| (k_here; (with_reducible show wpAny _ _ (call (Value.builtin "len") [Value.ref _]) _ _ _); k_dflt (refine' len_gen ?n1 ?n2 ?n3 (fun t9 k9 => ?_); (case n1 => k_asm); (case n2 => k_mem); (case n3 => omega))))
local macro_rules | `(tactic| walk_at "subscriptTail") => `(tactic| (k_here; (with_reducible show wpAny _ _ (subscriptTail _ _ (Value.ref _) (Value.int _ _)) _ _ _); k_dflt (first
  | (refine' menu_many ?t ?a ?b (fun hw9 t9 => ?_) (fun hw9 t9 => ?_) (fun hw9 t9 => ?_); (case t => exact News.isTup (by k_asm) (by k_mem)); (case a => omega); (case b => omega); all_goals (try (exfalso; omega)))
  | (refine' menu_sfx ?t ?a ?b (fun t9 => ?_) (fun t9 => ?_); (case t => exact News.isTup (by k_asm) (by k_mem)); (case a => omega); (case b => omega))
  | (refine' name_item ?n ?m ?v ?a ?b ?z (fun B9 t9 kn9 hb9 hk9 => ?_); (case n => k_asm); (case m => k_mem); (case v => assumption); (case a => omega); (case b => omega); (case z => omega))
  | (refine' bent_item (t := 179) (tab := bents) ?x ?f ?o ?a ?b ?z ?v (fun B9 t9 kn9 hb9 hk9 => ?_); (case x => k_asm); (case f => k_asm); (case o => exact rfl); (case a => omega); (case b => (simp only [List.length_cons, List.length_nil]; omega)); (case z => (simp only [List.length_cons, List.length_nil]; omega)); (case v => repeat (first | exact List.forall_mem_nil _ | refine List.forall_mem_cons.mpr ⟨⟨_, _, rfl, by decide⟩, ?_⟩))))))
local macro_rules | `(tactic| walk_at "eval IfExp") => `(tactic| (k_here; (with_reducible show wpAny _ _ (eval (Expr.IfExp (Expr.Compare (Expr.Call _ _ _ _) _ _ _) _ _ _) _) _ _ _); (fail_if_success (with_reducible show wpAny _ _ _ (PairP _ _ _ _ _ _) _ _)); (rename _ = some (Value.bytes _ _) => hx9); (rename Fr _ _ _ _ => jF9); (rename News _ _ _ _ => jN9); (refine pair_join hx9 (by assumption) jF9 jN9 ?_ (fun B9 t9 h9 k9 hB9 F9 N9 => ?_))))
local macro_rules | `(tactic| walk_at "PairP") => `(tactic| first
  | (refine ⟨_, _, _, _, rfl, rfl, by assumption, by assumption, ?_⟩; first
    | (rw [bInts_app, ‹KBw.bInts _ = _›]; exact pair_one (by simp only [List.length_map] at *; omega))
    | (refine Eq.trans (by assumption) (pair_two ?_ ?_) <;> (simp only [List.length_map] at *; omega))))
local macro_rules | `(tactic| walk_at "call ref") => `(tactic| (k_here; (with_reducible show wpAny _ _ (call (Value.ref 199) _) _ _ _); k_dflt (first
  | (refine' num_c ?hb ?r1 ?r2 ?r3 ?r4 ?r5 ?r6 (fun v9 t9 h9 tk9 hv9 F9 N9 => ?_) ?kS; (case kS => walk_at "my site"); (case hb => assumption); (case r1 => walk_at "my dig"); (case r2 => walk_at "my dig"); (case r3 => walk_at "my dig"); (case r4 => walk_at "my dig"); (case r5 => walk_at "my dig"); (case r6 => walk_at "my dig"))
  | (refine' num_c ?hb ?r1 ?r2 ?r3 ?r4 ?r5 ?r6 (fun v9 t9 h9 tk9 hv9 F9 N9 => ?_) ?kS; (case kS => walk_at "my site"); (case hb => ((rename KBw.bInts _ = _ => hj9); exact hj9.trans rfl)); (case r1 => walk_at "my dig"); (case r2 => walk_at "my dig"); (case r3 => walk_at "my dig"); (case r4 => walk_at "my dig"); (case r5 => walk_at "my dig"); (case r6 => walk_at "my dig"))
  | (refine' num_c (d2 := 0) (d4 := 0) (d6 := 0) ?hb ?r1 ?r2 ?r3 ?r4 ?r5 ?r6 (fun v9 t9 h9 tk9 hv9 F9 N9 => ?_) ?kS; (case kS => walk_at "my site"); (case hb => ((rename KBw.bInts _ = _ => hj9); exact hj9.trans rfl)); (case r1 => walk_at "my dig"); (case r2 => walk_at "my dig"); (case r3 => walk_at "my dig"); (case r4 => walk_at "my dig"); (case r5 => walk_at "my dig"); (case r6 => walk_at "my dig"))); (try dsimp only); (try k_fold)))
local macro_rules | `(tactic| walk_at "my dig") => `(tactic| first | assumption | exact And.left (by assumption) | exact And.right (by assumption) | exact ⟨by decide, by decide⟩)
local macro_rules | `(tactic| walk_at "CompSrc") => `(tactic| (k_here; k_dflt (first
  | (refine LCg.CompSrc.ledger (by rfl) (by k_asm) (by k_asm) (by k_mem) (by first | size_fits | exact Nat.le_of_ble_eq_true rfl) ?_; intro g'; lcg_lit)
  | (refine LCg.CompSrc.range (by rfl) (by k_asm) (by k_asm) (by assumption) (by first | decide | rfl) (by first | rfl | decide) (by first | size_fits | exact Nat.le_of_ble_eq_true rfl) ?_; intro g'; lcg_lit))))
local macro_rules | `(tactic| walk_at "exec Assign cons ListComp") => `(tactic| (k_here; (with_reducible show wpAny _ _ (exec (Stmt.Assign _ (Expr.ListComp _ [⟨_, Expr.Call _ [_, _, _] _ _, _, _⟩] _ _) _) _) _ _ _); k_dflt (refine Assign_ListComp_S (by k_asm) (by rfl) (by with_unfolding_all rfl) (by with_unfolding_all rfl) (by decide) (by rfl) (by decide) (by rfl) (by rfl) (by rfl) ?_)))
local macro_rules | `(tactic| walk_at "SrcS") => `(tactic| (k_here; k_dflt (refine SrcS.mk' (by rfl) (by k_asm) (by k_asm) (by assumption) (by first | decide | rfl) (by first | rfl | decide) (by first | size_fits | exact Nat.le_of_ble_eq_true rfl) ?_; intro g'; lcg_lit)))
local macro_rules | `(tactic| walk_at "binaryOp Add bytes bytes") => `(tactic| (k_here; (with_reducible show wpAny _ _ (binaryOp Operator.Add (Value.bytes _ _) (Value.bytes _ _)) _ _ _); k_dflt (refine' add_name ?n1 ?n2 ?n3 ?n4 (fun t9 k9 hb9 => ?_); (case n1 => assumption); (case n2 => exact rfl); (case n3 => assumption); (case n4 => first | decide | (simp only [List.length_cons, List.length_nil]; omega)))))
local macro_rules | `(tactic| walk_at "my dec") => `(tactic| first | omega | (simp only [decide_eq_true_eq, beq_iff_eq, bne_iff_ne, Bool.not_eq_true', decide_eq_false_iff_not, beq_eq_false_iff_ne, ne_eq]; omega) | (simp only [List.any_cons, List.any_nil, Bool.or_false, Bool.not_eq_true', Bool.or_eq_false_iff, beq_eq_false_iff_ne, ne_eq]; omega))
local macro_rules | `(tactic| walk_at "ite") => `(tactic| (k_here; (fail_if_success (goal_has PairP)); first | (refine ite_pos ?dec ?_; (case dec => walk_at "my dec"); walk_say "PRUNED mine") | (refine ite_neg ?dec ?_; (case dec => walk_at "my dec"); walk_say "PRUNED mine")))
local macro_rules | `(tactic| walk_at "call ref") => `(tactic| (k_here; k_dflt (refine' draw_c ?P1 ?P2 ?hI ?h1 ?h2 ?h3 ?h4 ?h5 ?h6 ?h7 (fun k9 v9 t9 u9 h9 tk9 hk9 lo9 hi9 dv9 F9 N9 => ?_) ?kS; (case kS => walk_at "my site"); (case P1 => walk_at "my pull"); (case P2 => walk_at "my pull"); (case hI => l_ints); (case h1 => first | assumption | omega); (case h2 => omega); (case h3 => omega); (case h4 => walk_at "my pow"); (case h5 => walk_at "my pow"); (case h6 => omega); (case h7 => walk_at "my off")); subst hk9; (try dsimp only); (try k_fold)))
local macro_rules | `(tactic| walk_at "my sfx") => `(tactic| first | exact List.mem_cons_self .. | exact List.mem_cons_of_mem _ (List.mem_cons_self ..))
local macro_rules | `(tactic| walk_at "eval Subscript") => `(tactic| (k_here; (with_reducible show wpAny _ _ (eval (Expr.Subscript (Expr.BinOp _ _ _ _) _ _) _) _ _ _); (fail_if_success (with_reducible show wpAny _ _ _ (CutP _ _ _ _ _ _ _) _ _)); (rename KBw.bInts _ = hexfig _ :: hexfig _ :: hexfig _ :: _ => hb9); (rename _ = some (Value.int (0 + _ * _) _) => hx9); (rename Fr _ _ _ _ => jF9); (rename News _ _ _ _ => jN9); (refine cut_join hx9 hb9 jF9 jN9 ?_ (fun B9 t9 h9 k9 hB9 F9 N9 => ?_)); rotate_left; (simp [cutL] at hB9); rotate_left))
local macro_rules | `(tactic| walk_at "CutP") => `(tactic| ((refine ⟨_, _, _, _, rfl, rfl, by assumption, by assumption, ?_⟩); (refine Eq.trans (by assumption) ?_); (with_unfolding_all rfl)))
local macro_rules | `(tactic| walk_at "my ints") => `(tactic| first | (with_reducible assumption) | exact (rfl : KBw.bInts _ = ([] : List Int)) | exact (rfl : KBw.bInts _ = ([47] : List Int)))

theorem told_3 {prog : Program} {w : World} {p : Program} {loose : List Str} {mean : ExcName → Option Value} {mg mb : Str → Option Value} {dp un : Nat} {gd : Option (List Code)} {cn : Str} {cs : Scope} {a : Addr} {ccd : Value} {cl : List (Str × Addr)} {outer : List Env} {A₀ : Around} {base h₀ : Heap} {L : Addr} {m : Str → Option Value} {s : Shared} {Q E : Value → Shared → Prop} {news : List (Addr × Obj)}
    {pa b : Addr} {k : Int} {t : Tok} {n nb : Nat} {vs : List Value} {ns : List Int} {n1 rest : List (Addr × Obj)}
    (P1 : Pull (pa, W.listOf #[.ref b, .int k t] n) news n1) (P2 : Pull (b, W.listOf vs.toArray nb) n1 rest) (hI : IntsAre vs ns) (hlen : ns.length ≤ 63) (hk0 : 0 ≤ k) (hk1 : k ≤ 80000) (hpb : @Ne Nat pa b) (hne : LCg.Off1 pa rest)
    (hw : drawV ns k 4 = 3)
    (hT : ToldEnds h₀ L m news rest pa b n nb vs k s Q)
    (S : Site w p loose mean mg mb dp un 3 cs outer A₀ base h₀ L s.heap m news) :
    wpAny (model prog w) (ktrTop dp un gd cn cs L a ccd cl outer) (call (.ref 204) [.ref pa]) Q E s := by
  obtain ⟨B, F, X, N, T, hk, hd, hu⟩ := S
  have N0 : News h₀ L s.heap [(pa, W.listOf #[.ref b, .int k t] n), (b, W.listOf vs.toArray nb)] := fun q hq => N q (by
    rcases List.mem_cons.mp hq with rfl | hq
    · exact P1.mem _ (List.mem_cons_self ..)
    · rw [List.mem_singleton.mp hq]; exact P1.mem _ (List.mem_cons_of_mem _ (P2.mem _ (List.mem_cons_self ..))))
  have kN0 : KeptN h₀ L s.heap [(pa, W.listOf #[.ref b, .int k t] n), (b, W.listOf vs.toArray nb)] := N0
  (walk_at "my enterC"; intro g9 L9 h9 tk9 cells9 FG9 F9 N9 Y9 B9 X9 T9 l9 kG9; clear N0; (try k_lt l9); k_cells Y9; (try simp only [List.cons_append, List.nil_append] at N9); (try dsimp only); (try k_lift B9); (try k_fold); k_steps)
  ((rename News g9 _ _ _ => N'); (rename Fr g9 _ _ _ => F'); (rename Fr h₀ _ _ _ => kF); (rename News h₀ _ _ _ => kN))
  (rename _ ∈ bents => hk8)
  (refine' hT.none _ _ _ _ _ _ _ _ ?pa1 ?pa2 ?pv1 ?pv2 ?pv3 ?pv4 (off_of kG9 N' ?pa5 ?pa6 N) kF (News.one kN ?pa7 (rest_of kG9 F' N' N P1 P2 (off1_mem hne) ?pa3 ?pa4)); (case pa3 => k_mem); (case pa4 => k_mem); (case pa5 => k_mem); (case pa7 => k_mem); (case pa1 => omega); (case pa2 => omega); (case pa6 => exact notin2 (by omega) (by omega)))
  case pv1 => assumption
  case pv2 => exact safe_of_all (bents_ok _ hk8).2.2
  case pv3 => exact (bents_ok _ hk8).2.1
  case pv4 => exact (bents_ok _ hk8).1

theorem told_2 {prog : Program} {w : World} {p : Program} {loose : List Str} {mean : ExcName → Option Value} {mg mb : Str → Option Value} {dp un : Nat} {gd : Option (List Code)} {cn : Str} {cs : Scope} {a : Addr} {ccd : Value} {cl : List (Str × Addr)} {outer : List Env} {A₀ : Around} {base h₀ : Heap} {L : Addr} {m : Str → Option Value} {s : Shared} {Q E : Value → Shared → Prop} {news : List (Addr × Obj)}
    {pa b : Addr} {k : Int} {t : Tok} {n nb : Nat} {vs : List Value} {ns : List Int} {n1 rest : List (Addr × Obj)}
    (P1 : Pull (pa, W.listOf #[.ref b, .int k t] n) news n1) (P2 : Pull (b, W.listOf vs.toArray nb) n1 rest) (hI : IntsAre vs ns) (hlen : ns.length ≤ 63) (hk0 : 0 ≤ k) (hk1 : k ≤ 80000) (hpb : @Ne Nat pa b) (hne : LCg.Off1 pa rest)
    (hw : drawV ns k 4 = 2)
    (hT : ToldEnds h₀ L m news rest pa b n nb vs k s Q)
    (S : Site w p loose mean mg mb dp un 3 cs outer A₀ base h₀ L s.heap m news) :
    wpAny (model prog w) (ktrTop dp un gd cn cs L a ccd cl outer) (call (.ref 204) [.ref pa]) Q E s := by
  obtain ⟨B, F, X, N, T, hk, hd, hu⟩ := S
  have N0 : News h₀ L s.heap [(pa, W.listOf #[.ref b, .int k t] n), (b, W.listOf vs.toArray nb)] := fun q hq => N q (by
    rcases List.mem_cons.mp hq with rfl | hq
    · exact P1.mem _ (List.mem_cons_self ..)
    · rw [List.mem_singleton.mp hq]; exact P1.mem _ (List.mem_cons_of_mem _ (P2.mem _ (List.mem_cons_self ..))))
  have kN0 : KeptN h₀ L s.heap [(pa, W.listOf #[.ref b, .int k t] n), (b, W.listOf vs.toArray nb)] := N0
  (walk_at "my enterC"; intro g9 L9 h9 tk9 cells9 FG9 F9 N9 Y9 B9 X9 T9 l9 kG9; clear N0; (try k_lt l9); k_cells Y9; (try simp only [List.cons_append, List.nil_append] at N9); (try dsimp only); (try k_lift B9); (try k_fold); k_steps)
  all_goals ((rename News g9 _ _ _ => N'); (rename Fr g9 _ _ _ => F'); (rename Fr h₀ _ _ _ => kF); (rename News h₀ _ _ _ => kN))
  all_goals (rename _ ∈ List.map _ _ => hk8)
  all_goals first
    | ((refine' hT.none _ _ _ _ _ _ _ _ ?pa1 ?pa2 ?pv1 ?pv2 ?pv3 ?pv4 (off_of kG9 N' ?pa5 ?pa6 N) kF (News.one kN ?pa7 (rest_of kG9 F' N' N P1 P2 (off1_mem hne) ?pa3 ?pa4)); (case pa3 => k_mem); (case pa4 => k_mem); (case pa5 => k_mem); (case pa7 => k_mem); (case pa1 => omega); (case pa2 => omega); (case pa6 => exact notin2 (by omega) (by omega))); (case pv1 => assumption); (case pv2 => exact (sfx_none hk8 (by assumption) (by walk_at "my sfx")).1); (case pv3 => exact (sfx_none hk8 (by assumption) (by walk_at "my sfx")).2.1); (case pv4 => exact (sfx_none hk8 (by assumption) (by walk_at "my sfx")).2.2))
    | ((refine' hT.some _ _ _ _ _ _ _ _ _ _ ?pa1 ?pa2 ?pv1 ?pv2 ?pv3 ?pv4 ?pv5 ?pv6 (off_of kG9 N' ?pa5 ?pa6 N) kF (News.one kN ?pa7 (rest_of kG9 F' N' N P1 P2 (off1_mem hne) ?pa3 ?pa4)); (case pa3 => k_mem); (case pa4 => k_mem); (case pa5 => k_mem); (case pa7 => k_mem); (case pa1 => omega); (case pa2 => omega); (case pa6 => exact notin2 (by omega) (by omega))); (case pv1 => assumption); (case pv2 => exact (sfx_some hk8 (by assumption) (by walk_at "my sfx")).1); (case pv3 => exact (sfx_some hk8 (by assumption) (by walk_at "my sfx")).2.1); (case pv4 => exact (sfx_some hk8 (by assumption) (by walk_at "my sfx")).2.2.1); (case pv5 => exact (sfx_some hk8 (by assumption) (by walk_at "my sfx")).2.2.2.1); (case pv6 => exact (sfx_some hk8 (by assumption) (by walk_at "my sfx")).2.2.2.2))

theorem told_1_n {prog : Program} {w : World} {p : Program} {loose : List Str} {mean : ExcName → Option Value} {mg mb : Str → Option Value} {dp un : Nat} {gd : Option (List Code)} {cn : Str} {cs : Scope} {a : Addr} {ccd : Value} {cl : List (Str × Addr)} {outer : List Env} {A₀ : Around} {base h₀ : Heap} {L : Addr} {m : Str → Option Value} {s : Shared} {Q E : Value → Shared → Prop} {news : List (Addr × Obj)}
    {pa b : Addr} {k : Int} {t : Tok} {n nb : Nat} {vs : List Value} {ns : List Int} {n1 rest : List (Addr × Obj)}
    (P1 : Pull (pa, W.listOf #[.ref b, .int k t] n) news n1) (P2 : Pull (b, W.listOf vs.toArray nb) n1 rest) (hI : IntsAre vs ns) (hlen : ns.length ≤ 63) (hk0 : 0 ≤ k) (hk1 : k ≤ 80000) (hpb : @Ne Nat pa b) (hne : LCg.Off1 pa rest)
    (hw : drawV ns k 4 = 1) (hn3 : drawV ns (k + 1) 14 ≠ 3) (hn6 : drawV ns (k + 1) 14 ≠ 6) (hn9 : drawV ns (k + 1) 14 ≠ 9) (hn12 : drawV ns (k + 1) 14 ≠ 12)
    (hT : ToldEnds h₀ L m news rest pa b n nb vs k s Q)
    (S : Site w p loose mean mg mb dp un 3 cs outer A₀ base h₀ L s.heap m news) :
    wpAny (model prog w) (ktrTop dp un gd cn cs L a ccd cl outer) (call (.ref 204) [.ref pa]) Q E s := by
  obtain ⟨B, F, X, N, T, hk, hd, hu⟩ := S
  have N0 : News h₀ L s.heap [(pa, W.listOf #[.ref b, .int k t] n), (b, W.listOf vs.toArray nb)] := fun q hq => N q (by
    rcases List.mem_cons.mp hq with rfl | hq
    · exact P1.mem _ (List.mem_cons_self ..)
    · rw [List.mem_singleton.mp hq]; exact P1.mem _ (List.mem_cons_of_mem _ (P2.mem _ (List.mem_cons_self ..))))
  have kN0 : KeptN h₀ L s.heap [(pa, W.listOf #[.ref b, .int k t] n), (b, W.listOf vs.toArray nb)] := N0
  (walk_at "my enterC"; intro g9 L9 h9 tk9 cells9 FG9 F9 N9 Y9 B9 X9 T9 l9 kG9; clear N0; (try k_lt l9); k_cells Y9; (try simp only [List.cons_append, List.nil_append] at N9); (try dsimp only); (try k_lift B9); (try k_fold); k_steps)
  ((rename News g9 _ _ _ => N'); (rename Fr g9 _ _ _ => F'); (rename Fr h₀ _ _ _ => kF); (rename News h₀ _ _ _ => kN))
  (rename KBw.bInts (_ ++ _) = _ => hk8)
  (have hz8 := hash_none (by assumption) (by omega) ⟨by assumption, by assumption, by assumption, by assumption⟩)
  (refine' hT.none _ _ _ _ _ _ _ _ ?pa1 ?pa2 ?pv1 ?pv2 ?pv3 ?pv4 (off_of kG9 N' ?pa5 ?pa6 N) kF (News.one kN ?pa7 (rest_of kG9 F' N' N P1 P2 (off1_mem hne) ?pa3 ?pa4)); (case pa3 => k_mem); (case pa4 => k_mem); (case pa5 => k_mem); (case pa7 => k_mem); (case pa1 => omega); (case pa2 => omega); (case pa6 => exact notin2 (by omega) (by omega)))
  case pv1 => exact hk8
  case pv2 => exact hz8.1
  case pv3 => exact hz8.2.1
  case pv4 => exact hz8.2.2

theorem told_1_3 {prog : Program} {w : World} {p : Program} {loose : List Str} {mean : ExcName → Option Value} {mg mb : Str → Option Value} {dp un : Nat} {gd : Option (List Code)} {cn : Str} {cs : Scope} {a : Addr} {ccd : Value} {cl : List (Str × Addr)} {outer : List Env} {A₀ : Around} {base h₀ : Heap} {L : Addr} {m : Str → Option Value} {s : Shared} {Q E : Value → Shared → Prop} {news : List (Addr × Obj)}
    {pa b : Addr} {k : Int} {t : Tok} {n nb : Nat} {vs : List Value} {ns : List Int} {n1 rest : List (Addr × Obj)}
    (P1 : Pull (pa, W.listOf #[.ref b, .int k t] n) news n1) (P2 : Pull (b, W.listOf vs.toArray nb) n1 rest) (hI : IntsAre vs ns) (hlen : ns.length ≤ 63) (hk0 : 0 ≤ k) (hk1 : k ≤ 80000) (hpb : @Ne Nat pa b) (hne : LCg.Off1 pa rest)
    (hw : drawV ns k 4 = 1) (hw2 : drawV ns (k + 1) 14 = 3)
    (hT : ToldEnds h₀ L m news rest pa b n nb vs k s Q)
    (S : Site w p loose mean mg mb dp un 3 cs outer A₀ base h₀ L s.heap m news) :
    wpAny (model prog w) (ktrTop dp un gd cn cs L a ccd cl outer) (call (.ref 204) [.ref pa]) Q E s := by
  obtain ⟨B, F, X, N, T, hk, hd, hu⟩ := S
  have N0 : News h₀ L s.heap [(pa, W.listOf #[.ref b, .int k t] n), (b, W.listOf vs.toArray nb)] := fun q hq => N q (by
    rcases List.mem_cons.mp hq with rfl | hq
    · exact P1.mem _ (List.mem_cons_self ..)
    · rw [List.mem_singleton.mp hq]; exact P1.mem _ (List.mem_cons_of_mem _ (P2.mem _ (List.mem_cons_self ..))))
  have kN0 : KeptN h₀ L s.heap [(pa, W.listOf #[.ref b, .int k t] n), (b, W.listOf vs.toArray nb)] := N0
  (walk_at "my enterC"; intro g9 L9 h9 tk9 cells9 FG9 F9 N9 Y9 B9 X9 T9 l9 kG9; clear N0; (try k_lt l9); k_cells Y9; (try simp only [List.cons_append, List.nil_append] at N9); (try dsimp only); (try k_lift B9); (try k_fold); k_steps)
  ((rename News g9 _ _ _ => N'); (rename Fr g9 _ _ _ => F'); (rename Fr h₀ _ _ _ => kF); (rename News h₀ _ _ _ => kN))
  (rename KBw.bInts (_ ++ _) = _ => hk8)
  (rename _ = 1048576 * _ + _ + _ + _ + _ + _ => hv8)
  (have hz8 := hash3 hk8 hv8 (by assumption) (by assumption) (by assumption))
  (refine' hT.some _ _ _ _ _ _ _ _ _ _ ?pa1 ?pa2 ?pv1 ?pv2 ?pv3 ?pv4 ?pv5 ?pv6 (off_of kG9 N' ?pa5 ?pa6 N) kF (News.one kN ?pa7 (rest_of kG9 F' N' N P1 P2 (off1_mem hne) ?pa3 ?pa4)); (case pa3 => k_mem); (case pa4 => k_mem); (case pa5 => k_mem); (case pa7 => k_mem); (case pa1 => omega); (case pa2 => omega); (case pa6 => exact notin2 (by omega) (by omega)))
  case pv1 => exact hk8
  case pv2 => exact hz8.1
  case pv3 => exact hz8.2.1
  case pv4 => exact hz8.2.2.1
  case pv5 => exact hz8.2.2.2.1
  case pv6 => exact hz8.2.2.2.2

theorem told_1_6 {prog : Program} {w : World} {p : Program} {loose : List Str} {mean : ExcName → Option Value} {mg mb : Str → Option Value} {dp un : Nat} {gd : Option (List Code)} {cn : Str} {cs : Scope} {a : Addr} {ccd : Value} {cl : List (Str × Addr)} {outer : List Env} {A₀ : Around} {base h₀ : Heap} {L : Addr} {m : Str → Option Value} {s : Shared} {Q E : Value → Shared → Prop} {news : List (Addr × Obj)}
    {pa b : Addr} {k : Int} {t : Tok} {n nb : Nat} {vs : List Value} {ns : List Int} {n1 rest : List (Addr × Obj)}
    (P1 : Pull (pa, W.listOf #[.ref b, .int k t] n) news n1) (P2 : Pull (b, W.listOf vs.toArray nb) n1 rest) (hI : IntsAre vs ns) (hlen : ns.length ≤ 63) (hk0 : 0 ≤ k) (hk1 : k ≤ 80000) (hpb : @Ne Nat pa b) (hne : LCg.Off1 pa rest)
    (hw : drawV ns k 4 = 1) (hw2 : drawV ns (k + 1) 14 = 6)
    (hT : ToldEnds h₀ L m news rest pa b n nb vs k s Q)
    (S : Site w p loose mean mg mb dp un 3 cs outer A₀ base h₀ L s.heap m news) :
    wpAny (model prog w) (ktrTop dp un gd cn cs L a ccd cl outer) (call (.ref 204) [.ref pa]) Q E s := by
  obtain ⟨B, F, X, N, T, hk, hd, hu⟩ := S
  have N0 : News h₀ L s.heap [(pa, W.listOf #[.ref b, .int k t] n), (b, W.listOf vs.toArray nb)] := fun q hq => N q (by
    rcases List.mem_cons.mp hq with rfl | hq
    · exact P1.mem _ (List.mem_cons_self ..)
    · rw [List.mem_singleton.mp hq]; exact P1.mem _ (List.mem_cons_of_mem _ (P2.mem _ (List.mem_cons_self ..))))
  have kN0 : KeptN h₀ L s.heap [(pa, W.listOf #[.ref b, .int k t] n), (b, W.listOf vs.toArray nb)] := N0
  (walk_at "my enterC"; intro g9 L9 h9 tk9 cells9 FG9 F9 N9 Y9 B9 X9 T9 l9 kG9; clear N0; (try k_lt l9); k_cells Y9; (try simp only [List.cons_append, List.nil_append] at N9); (try dsimp only); (try k_lift B9); (try k_fold); k_steps)
  ((rename News g9 _ _ _ => N'); (rename Fr g9 _ _ _ => F'); (rename Fr h₀ _ _ _ => kF); (rename News h₀ _ _ _ => kN))
  (rename KBw.bInts (_ ++ _) = _ => hk8)
  (rename _ = 1048576 * _ + _ + _ + _ + _ + _ => hv8)
  (have hz8 := hash6 hk8 hv8 (by assumption) (by assumption) (by assumption) (by assumption) (by assumption) (by assumption))
  (refine' hT.some _ _ _ _ _ _ _ _ _ _ ?pa1 ?pa2 ?pv1 ?pv2 ?pv3 ?pv4 ?pv5 ?pv6 (off_of kG9 N' ?pa5 ?pa6 N) kF (News.one kN ?pa7 (rest_of kG9 F' N' N P1 P2 (off1_mem hne) ?pa3 ?pa4)); (case pa3 => k_mem); (case pa4 => k_mem); (case pa5 => k_mem); (case pa7 => k_mem); (case pa1 => omega); (case pa2 => omega); (case pa6 => exact notin2 (by omega) (by omega)))
  case pv1 => exact hk8
  case pv2 => exact hz8.1
  case pv3 => exact hz8.2.1
  case pv4 => exact hz8.2.2.1
  case pv5 => exact hz8.2.2.2.1
  case pv6 => exact hz8.2.2.2.2

theorem told_1_9 {prog : Program} {w : World} {p : Program} {loose : List Str} {mean : ExcName → Option Value} {mg mb : Str → Option Value} {dp un : Nat} {gd : Option (List Code)} {cn : Str} {cs : Scope} {a : Addr} {ccd : Value} {cl : List (Str × Addr)} {outer : List Env} {A₀ : Around} {base h₀ : Heap} {L : Addr} {m : Str → Option Value} {s : Shared} {Q E : Value → Shared → Prop} {news : List (Addr × Obj)}
    {pa b : Addr} {k : Int} {t : Tok} {n nb : Nat} {vs : List Value} {ns : List Int} {n1 rest : List (Addr × Obj)}
    (P1 : Pull (pa, W.listOf #[.ref b, .int k t] n) news n1) (P2 : Pull (b, W.listOf vs.toArray nb) n1 rest) (hI : IntsAre vs ns) (hlen : ns.length ≤ 63) (hk0 : 0 ≤ k) (hk1 : k ≤ 80000) (hpb : @Ne Nat pa b) (hne : LCg.Off1 pa rest)
    (hw : drawV ns k 4 = 1) (hw2 : drawV ns (k + 1) 14 = 9)
    (hT : ToldEnds h₀ L m news rest pa b n nb vs k s Q)
    (S : Site w p loose mean mg mb dp un 3 cs outer A₀ base h₀ L s.heap m news) :
    wpAny (model prog w) (ktrTop dp un gd cn cs L a ccd cl outer) (call (.ref 204) [.ref pa]) Q E s := by
  obtain ⟨B, F, X, N, T, hk, hd, hu⟩ := S
  have N0 : News h₀ L s.heap [(pa, W.listOf #[.ref b, .int k t] n), (b, W.listOf vs.toArray nb)] := fun q hq => N q (by
    rcases List.mem_cons.mp hq with rfl | hq
    · exact P1.mem _ (List.mem_cons_self ..)
    · rw [List.mem_singleton.mp hq]; exact P1.mem _ (List.mem_cons_of_mem _ (P2.mem _ (List.mem_cons_self ..))))
  have kN0 : KeptN h₀ L s.heap [(pa, W.listOf #[.ref b, .int k t] n), (b, W.listOf vs.toArray nb)] := N0
  (walk_at "my enterC"; intro g9 L9 h9 tk9 cells9 FG9 F9 N9 Y9 B9 X9 T9 l9 kG9; clear N0; (try k_lt l9); k_cells Y9; (try simp only [List.cons_append, List.nil_append] at N9); (try dsimp only); (try k_lift B9); (try k_fold); k_steps)
  ((rename News g9 _ _ _ => N'); (rename Fr g9 _ _ _ => F'); (rename Fr h₀ _ _ _ => kF); (rename News h₀ _ _ _ => kN))
  (rename KBw.bInts (_ ++ _) = _ => hk8)
  (rename _ = 1048576 * _ + _ + _ + _ + _ + _ => hv8)
  (have hz8 := hash9 hk8 hv8 (by assumption) (by assumption) (by assumption) (by assumption) (by assumption) (by assumption) (by assumption) (by assumption) (by assumption))
  (refine' hT.some _ _ _ _ _ _ _ _ _ _ ?pa1 ?pa2 ?pv1 ?pv2 ?pv3 ?pv4 ?pv5 ?pv6 (off_of kG9 N' ?pa5 ?pa6 N) kF (News.one kN ?pa7 (rest_of kG9 F' N' N P1 P2 (off1_mem hne) ?pa3 ?pa4)); (case pa3 => k_mem); (case pa4 => k_mem); (case pa5 => k_mem); (case pa7 => k_mem); (case pa1 => omega); (case pa2 => omega); (case pa6 => exact notin2 (by omega) (by omega)))
  case pv1 => exact hk8
  case pv2 => exact hz8.1
  case pv3 => exact hz8.2.1
  case pv4 => exact hz8.2.2.1
  case pv5 => exact hz8.2.2.2.1
  case pv6 => exact hz8.2.2.2.2

theorem told_1_12 {prog : Program} {w : World} {p : Program} {loose : List Str} {mean : ExcName → Option Value} {mg mb : Str → Option Value} {dp un : Nat} {gd : Option (List Code)} {cn : Str} {cs : Scope} {a : Addr} {ccd : Value} {cl : List (Str × Addr)} {outer : List Env} {A₀ : Around} {base h₀ : Heap} {L : Addr} {m : Str → Option Value} {s : Shared} {Q E : Value → Shared → Prop} {news : List (Addr × Obj)}
    {pa b : Addr} {k : Int} {t : Tok} {n nb : Nat} {vs : List Value} {ns : List Int} {n1 rest : List (Addr × Obj)}
    (P1 : Pull (pa, W.listOf #[.ref b, .int k t] n) news n1) (P2 : Pull (b, W.listOf vs.toArray nb) n1 rest) (hI : IntsAre vs ns) (hlen : ns.length ≤ 63) (hk0 : 0 ≤ k) (hk1 : k ≤ 80000) (hpb : @Ne Nat pa b) (hne : LCg.Off1 pa rest)
    (hw : drawV ns k 4 = 1) (hw2 : drawV ns (k + 1) 14 = 12)
    (hT : ToldEnds h₀ L m news rest pa b n nb vs k s Q)
    (S : Site w p loose mean mg mb dp un 3 cs outer A₀ base h₀ L s.heap m news) :
    wpAny (model prog w) (ktrTop dp un gd cn cs L a ccd cl outer) (call (.ref 204) [.ref pa]) Q E s := by
  obtain ⟨B, F, X, N, T, hk, hd, hu⟩ := S
  have N0 : News h₀ L s.heap [(pa, W.listOf #[.ref b, .int k t] n), (b, W.listOf vs.toArray nb)] := fun q hq => N q (by
    rcases List.mem_cons.mp hq with rfl | hq
    · exact P1.mem _ (List.mem_cons_self ..)
    · rw [List.mem_singleton.mp hq]; exact P1.mem _ (List.mem_cons_of_mem _ (P2.mem _ (List.mem_cons_self ..))))
  have kN0 : KeptN h₀ L s.heap [(pa, W.listOf #[.ref b, .int k t] n), (b, W.listOf vs.toArray nb)] := N0
  (walk_at "my enterC"; intro g9 L9 h9 tk9 cells9 FG9 F9 N9 Y9 B9 X9 T9 l9 kG9; clear N0; (try k_lt l9); k_cells Y9; (try simp only [List.cons_append, List.nil_append] at N9); (try dsimp only); (try k_lift B9); (try k_fold); k_steps)
  ((rename News g9 _ _ _ => N'); (rename Fr g9 _ _ _ => F'); (rename Fr h₀ _ _ _ => kF); (rename News h₀ _ _ _ => kN))
  (rename KBw.bInts (_ ++ _) = _ => hk8)
  (rename _ = 1048576 * _ + _ + _ + _ + _ + _ => hv8)
  (have hz8 := hash12 hk8 hv8 (by assumption) (by assumption) (by assumption) (by assumption) (by assumption) (by assumption) (by assumption) (by assumption) (by assumption) (by assumption) (by assumption) (by assumption))
  (refine' hT.some _ _ _ _ _ _ _ _ _ _ ?pa1 ?pa2 ?pv1 ?pv2 ?pv3 ?pv4 ?pv5 ?pv6 (off_of kG9 N' ?pa5 ?pa6 N) kF (News.one kN ?pa7 (rest_of kG9 F' N' N P1 P2 (off1_mem hne) ?pa3 ?pa4)); (case pa3 => k_mem); (case pa4 => k_mem); (case pa5 => k_mem); (case pa7 => k_mem); (case pa1 => omega); (case pa2 => omega); (case pa6 => exact notin2 (by omega) (by omega)))
  case pv1 => exact hk8
  case pv2 => exact hz8.1
  case pv3 => exact hz8.2.1
  case pv4 => exact hz8.2.2.1
  case pv5 => exact hz8.2.2.2.1
  case pv6 => exact hz8.2.2.2.2

theorem told_0_2 {prog : Program} {w : World} {p : Program} {loose : List Str} {mean : ExcName → Option Value} {mg mb : Str → Option Value} {dp un : Nat} {gd : Option (List Code)} {cn : Str} {cs : Scope} {a : Addr} {ccd : Value} {cl : List (Str × Addr)} {outer : List Env} {A₀ : Around} {base h₀ : Heap} {L : Addr} {m : Str → Option Value} {s : Shared} {Q E : Value → Shared → Prop} {news : List (Addr × Obj)}
    {pa b : Addr} {k : Int} {t : Tok} {n nb : Nat} {vs : List Value} {ns : List Int} {n1 rest : List (Addr × Obj)}
    (P1 : Pull (pa, W.listOf #[.ref b, .int k t] n) news n1) (P2 : Pull (b, W.listOf vs.toArray nb) n1 rest) (hI : IntsAre vs ns) (hlen : ns.length ≤ 63) (hk0 : 0 ≤ k) (hk1 : k ≤ 80000) (hpb : @Ne Nat pa b) (hne : LCg.Off1 pa rest)
    (hw : drawV ns k 4 = 0) (hw2 : drawV ns (k + 1) 5 = 3)
    (hT : ToldEnds h₀ L m news rest pa b n nb vs k s Q)
    (S : Site w p loose mean mg mb dp un 3 cs outer A₀ base h₀ L s.heap m news) :
    wpAny (model prog w) (ktrTop dp un gd cn cs L a ccd cl outer) (call (.ref 204) [.ref pa]) Q E s := by
  obtain ⟨B, F, X, N, T, hk, hd, hu⟩ := S
  have N0 : News h₀ L s.heap [(pa, W.listOf #[.ref b, .int k t] n), (b, W.listOf vs.toArray nb)] := fun q hq => N q (by
    rcases List.mem_cons.mp hq with rfl | hq
    · exact P1.mem _ (List.mem_cons_self ..)
    · rw [List.mem_singleton.mp hq]; exact P1.mem _ (List.mem_cons_of_mem _ (P2.mem _ (List.mem_cons_self ..))))
  have kN0 : KeptN h₀ L s.heap [(pa, W.listOf #[.ref b, .int k t] n), (b, W.listOf vs.toArray nb)] := N0
  (walk_at "my enterC"; intro g9 L9 h9 tk9 cells9 FG9 F9 N9 Y9 B9 X9 T9 l9 kG9; clear N0; (try k_lt l9); k_cells Y9; (try simp only [List.cons_append, List.nil_append] at N9); (try dsimp only); (try k_lift B9); (try k_fold); k_steps)
  ((rename News g9 _ _ _ => N'); (rename Fr g9 _ _ _ => F'); (rename Fr h₀ _ _ _ => kF); (rename News h₀ _ _ _ => kN))
  (rename KBw.bInts (_ ++ _) = _ => hk8)
  (have hz8 := rgb2_none hk8 (by assumption) (by assumption) (by omega) (by omega))
  (refine' hT.none _ _ _ _ _ _ _ _ ?pa1 ?pa2 ?pv1 ?pv2 ?pv3 ?pv4 (off_of kG9 N' ?pa5 ?pa6 N) kF (News.one kN ?pa7 (rest_of kG9 F' N' N P1 P2 (off1_mem hne) ?pa3 ?pa4)); (case pa3 => k_mem); (case pa4 => k_mem); (case pa5 => k_mem); (case pa7 => k_mem); (case pa1 => omega); (case pa2 => omega); (case pa6 => exact notin2 (by omega) (by omega)))
  case pv1 => rfl
  case pv2 => exact hz8.1
  case pv3 => exact hz8.2.1
  case pv4 => exact hz8.2.2

theorem told_0_3 {prog : Program} {w : World} {p : Program} {loose : List Str} {mean : ExcName → Option Value} {mg mb : Str → Option Value} {dp un : Nat} {gd : Option (List Code)} {cn : Str} {cs : Scope} {a : Addr} {ccd : Value} {cl : List (Str × Addr)} {outer : List Env} {A₀ : Around} {base h₀ : Heap} {L : Addr} {m : Str → Option Value} {s : Shared} {Q E : Value → Shared → Prop} {news : List (Addr × Obj)}
    {pa b : Addr} {k : Int} {t : Tok} {n nb : Nat} {vs : List Value} {ns : List Int} {n1 rest : List (Addr × Obj)}
    (P1 : Pull (pa, W.listOf #[.ref b, .int k t] n) news n1) (P2 : Pull (b, W.listOf vs.toArray nb) n1 rest) (hI : IntsAre vs ns) (hlen : ns.length ≤ 63) (hk0 : 0 ≤ k) (hk1 : k ≤ 80000) (hpb : @Ne Nat pa b) (hne : LCg.Off1 pa rest)
    (hw : drawV ns k 4 = 0) (hw2 : drawV ns (k + 1) 5 ≤ 2)
    (hT : ToldEnds h₀ L m news rest pa b n nb vs k s Q)
    (S : Site w p loose mean mg mb dp un 3 cs outer A₀ base h₀ L s.heap m news) :
    wpAny (model prog w) (ktrTop dp un gd cn cs L a ccd cl outer) (call (.ref 204) [.ref pa]) Q E s := by
  obtain ⟨B, F, X, N, T, hk, hd, hu⟩ := S
  have N0 : News h₀ L s.heap [(pa, W.listOf #[.ref b, .int k t] n), (b, W.listOf vs.toArray nb)] := fun q hq => N q (by
    rcases List.mem_cons.mp hq with rfl | hq
    · exact P1.mem _ (List.mem_cons_self ..)
    · rw [List.mem_singleton.mp hq]; exact P1.mem _ (List.mem_cons_of_mem _ (P2.mem _ (List.mem_cons_self ..))))
  have kN0 : KeptN h₀ L s.heap [(pa, W.listOf #[.ref b, .int k t] n), (b, W.listOf vs.toArray nb)] := N0
  (walk_at "my enterC"; intro g9 L9 h9 tk9 cells9 FG9 F9 N9 Y9 B9 X9 T9 l9 kG9; clear N0; (try k_lt l9); k_cells Y9; (try simp only [List.cons_append, List.nil_append] at N9); (try dsimp only); (try k_lift B9); (try k_fold); k_steps)
  ((rename News g9 _ _ _ => N'); (rename Fr g9 _ _ _ => F'); (rename Fr h₀ _ _ _ => kF); (rename News h₀ _ _ _ => kN))
  (rename KBw.bInts (_ ++ _) = _ => hk8)
  (rename _ = 1048576 * _ + _ + _ + _ + _ + _ => hv8)
  (have hz8 := rgb3_some hk8 hv8 (by assumption) (by assumption) (by assumption) (by omega) (by omega) (by omega))
  (refine' hT.some _ _ _ _ _ _ _ _ _ _ ?pa1 ?pa2 ?pv1 ?pv2 ?pv3 ?pv4 ?pv5 ?pv6 (off_of kG9 N' ?pa5 ?pa6 N) kF (News.one kN ?pa7 (rest_of kG9 F' N' N P1 P2 (off1_mem hne) ?pa3 ?pa4)); (case pa3 => k_mem); (case pa4 => k_mem); (case pa5 => k_mem); (case pa7 => k_mem); (case pa1 => omega); (case pa2 => omega); (case pa6 => exact notin2 (by omega) (by omega)))
  case pv1 => rfl
  case pv2 => exact hz8.1
  case pv3 => exact hz8.2.1
  case pv4 => exact hz8.2.2.1
  case pv5 => exact hz8.2.2.2.1
  case pv6 => exact hz8.2.2.2.2

theorem told_0_4 {prog : Program} {w : World} {p : Program} {loose : List Str} {mean : ExcName → Option Value} {mg mb : Str → Option Value} {dp un : Nat} {gd : Option (List Code)} {cn : Str} {cs : Scope} {a : Addr} {ccd : Value} {cl : List (Str × Addr)} {outer : List Env} {A₀ : Around} {base h₀ : Heap} {L : Addr} {m : Str → Option Value} {s : Shared} {Q E : Value → Shared → Prop} {news : List (Addr × Obj)}
    {pa b : Addr} {k : Int} {t : Tok} {n nb : Nat} {vs : List Value} {ns : List Int} {n1 rest : List (Addr × Obj)}
    (P1 : Pull (pa, W.listOf #[.ref b, .int k t] n) news n1) (P2 : Pull (b, W.listOf vs.toArray nb) n1 rest) (hI : IntsAre vs ns) (hlen : ns.length ≤ 63) (hk0 : 0 ≤ k) (hk1 : k ≤ 80000) (hpb : @Ne Nat pa b) (hne : LCg.Off1 pa rest)
    (hw : drawV ns k 4 = 0) (hw2 : drawV ns (k + 1) 5 = 4)
    (hT : ToldEnds h₀ L m news rest pa b n nb vs k s Q)
    (S : Site w p loose mean mg mb dp un 3 cs outer A₀ base h₀ L s.heap m news) :
    wpAny (model prog w) (ktrTop dp un gd cn cs L a ccd cl outer) (call (.ref 204) [.ref pa]) Q E s := by
  obtain ⟨B, F, X, N, T, hk, hd, hu⟩ := S
  have N0 : News h₀ L s.heap [(pa, W.listOf #[.ref b, .int k t] n), (b, W.listOf vs.toArray nb)] := fun q hq => N q (by
    rcases List.mem_cons.mp hq with rfl | hq
    · exact P1.mem _ (List.mem_cons_self ..)
    · rw [List.mem_singleton.mp hq]; exact P1.mem _ (List.mem_cons_of_mem _ (P2.mem _ (List.mem_cons_self ..))))
  have kN0 : KeptN h₀ L s.heap [(pa, W.listOf #[.ref b, .int k t] n), (b, W.listOf vs.toArray nb)] := N0
  (walk_at "my enterC"; intro g9 L9 h9 tk9 cells9 FG9 F9 N9 Y9 B9 X9 T9 l9 kG9; clear N0; (try k_lt l9); k_cells Y9; (try simp only [List.cons_append, List.nil_append] at N9); (try dsimp only); (try k_lift B9); (try k_fold); k_steps)
  ((rename News g9 _ _ _ => N'); (rename Fr g9 _ _ _ => F'); (rename Fr h₀ _ _ _ => kF); (rename News h₀ _ _ _ => kN))
  (rename KBw.bInts (_ ++ _) = _ => hk8)
  (have hz8 := rgb4_none hk8 (by assumption) (by assumption) (by assumption) (by assumption) (by omega) (by omega) (by omega) (by omega))
  (refine' hT.none _ _ _ _ _ _ _ _ ?pa1 ?pa2 ?pv1 ?pv2 ?pv3 ?pv4 (off_of kG9 N' ?pa5 ?pa6 N) kF (News.one kN ?pa7 (rest_of kG9 F' N' N P1 P2 (off1_mem hne) ?pa3 ?pa4)); (case pa3 => k_mem); (case pa4 => k_mem); (case pa5 => k_mem); (case pa7 => k_mem); (case pa1 => omega); (case pa2 => omega); (case pa6 => exact notin2 (by omega) (by omega)))
  case pv1 => rfl
  case pv2 => exact hz8.1
  case pv3 => exact hz8.2.1
  case pv4 => exact hz8.2.2

theorem drawV_bnd {ns : List Int} {k c : Int} (hc : 0 < c) : 0 ≤ drawV ns k c ∧ drawV ns k c < c := by
  unfold drawV
  split
  · exact ⟨Int.fmod_nonneg_of_pos _ hc, Int.fmod_lt_of_pos _ hc⟩
  · exact ⟨Int.fmod_nonneg_of_pos _ hc, Int.fmod_lt_of_pos _ hc⟩
theorem told_c {prog : Program} {w : World} {p : Program} {loose : List Str} {mean : ExcName → Option Value} {mg mb : Str → Option Value} {dp un : Nat} {gd : Option (List Code)} {cn : Str} {cs : Scope} {a : Addr} {ccd : Value} {cl : List (Str × Addr)} {outer : List Env} {A₀ : Around} {base h₀ : Heap} {L : Addr} {m : Str → Option Value} {s : Shared} {Q E : Value → Shared → Prop} {news : List (Addr × Obj)}
    {pa b : Addr} {k : Int} {t : Tok} {n nb : Nat} {vs : List Value} {ns : List Int} {n1 rest : List (Addr × Obj)}
    (P1 : Pull (pa, W.listOf #[.ref b, .int k t] n) news n1) (P2 : Pull (b, W.listOf vs.toArray nb) n1 rest) (hI : IntsAre vs ns) (hlen : ns.length ≤ 63) (hk0 : 0 ≤ k) (hk1 : k ≤ 80000) (hpb : @Ne Nat pa b) (hne : LCg.Off1 pa rest)
    (hT : ToldEnds h₀ L m news rest pa b n nb vs k s Q)
    (S : Site w p loose mean mg mb dp un 3 cs outer A₀ base h₀ L s.heap m news) :
    wpAny (model prog w) (ktrTop dp un gd cn cs L a ccd cl outer) (call (.ref 204) [.ref pa]) Q E s := by
  have b4 := drawV_bnd (ns := ns) (k := k) (c := 4) (by decide)
  have b5 := drawV_bnd (ns := ns) (k := k + 1) (c := 5) (by decide)
  have q : drawV ns k 4 = 0 ∨ drawV ns k 4 = 1 ∨ drawV ns k 4 = 2 ∨ drawV ns k 4 = 3 := by omega
  rcases q with q | q | q | q
  · have z : drawV ns (k + 1) 5 ≤ 2 ∨ drawV ns (k + 1) 5 = 3 ∨ drawV ns (k + 1) 5 = 4 := by omega
    rcases z with z | z | z
    · exact told_0_3 P1 P2 hI hlen hk0 hk1 hpb hne q z hT S
    · exact told_0_2 P1 P2 hI hlen hk0 hk1 hpb hne q z hT S
    · exact told_0_4 P1 P2 hI hlen hk0 hk1 hpb hne q z hT S
  · by_cases z3 : drawV ns (k + 1) 14 = 3
    · exact told_1_3 P1 P2 hI hlen hk0 hk1 hpb hne q z3 hT S
    by_cases z6 : drawV ns (k + 1) 14 = 6
    · exact told_1_6 P1 P2 hI hlen hk0 hk1 hpb hne q z6 hT S
    by_cases z9 : drawV ns (k + 1) 14 = 9
    · exact told_1_9 P1 P2 hI hlen hk0 hk1 hpb hne q z9 hT S
    by_cases z12 : drawV ns (k + 1) 14 = 12
    · exact told_1_12 P1 P2 hI hlen hk0 hk1 hpb hne q z12 hT S
    exact told_1_n P1 P2 hI hlen hk0 hk1 hpb hne q z3 z6 z9 z12 hT S
  · exact told_2 P1 P2 hI hlen hk0 hk1 hpb hne q hT S
  · exact told_3 P1 P2 hI hlen hk0 hk1 hpb hne q hT S

end
theorem or_low {a b : Int} (k : Nat) (ha : 0 ≤ a) (hb : 0 ≤ b) (h : b < 2 ^ k) : Builtin.bitOr (a * 2 ^ k) b = a * 2 ^ k + b := by
  have hp : (0 : Int) ≤ a * 2 ^ k := Int.mul_nonneg ha (Int.le_of_lt (Int.pow_pos (by decide)))
  rw [bitOr_and, bitAnd_pp hp hb]
  obtain ⟨x, rfl⟩ := Int.eq_ofNat_of_zero_le ha
  obtain ⟨y, rfl⟩ := Int.eq_ofNat_of_zero_le hb
  have e : ((x : Int) * 2 ^ k) = ((2 ^ k * x : Nat) : Int) := by rw [Nat.mul_comm]; push_cast; rfl
  have hy : y < 2 ^ k := by exact_mod_cast h
  have z := nat_or_add_and (2 ^ k * x) y
  rw [← Nat.two_pow_add_eq_or_of_lt hy x] at z
  have z0 : (2 ^ k * x) &&& y = 0 := by omega
  rw [e, Int.toNat_natCast, Int.toNat_natCast, z0]
  omega
theorem or_rgb {r g b : Int} (hr : 0 ≤ r ∧ r < 256) (hg : 0 ≤ g ∧ g < 256) (hb : 0 ≤ b ∧ b < 256) : Builtin.bitOr (Builtin.bitOr (r * 2 ^ Int.toNat 16) (g * 2 ^ Int.toNat 8)) b = 65536 * r + 256 * g + b := by
  rw [show (g * 2 ^ Int.toNat 8) = g * 256 from rfl, show Int.toNat 16 = 16 from rfl, or_low 16 hr.1 (by omega) (by omega)]
  rw [show r * 2 ^ 16 + g * 256 = (r * 256 + g) * 2 ^ 8 by omega, or_low 8 (by omega) hb.1 (by omega)]
  omega
theorem dircol_c {prog : Program} {w : World} {p : Program} {loose : List Str} {mean : ExcName → Option Value} {mg mb : Str → Option Value} {dp un : Nat} {gd : Option (List Code)} {cn : Str} {cs : Scope} {a : Addr} {ccd : Value} {cl : List (Str × Addr)} {outer : List Env} {A₀ : Around} {base h₀ : Heap} {L : Addr} {m : Str → Option Value} {s : Shared} {Q E : Value → Shared → Prop} {news : List (Addr × Obj)}
    {r g b : Int} {tr tg tb : Tok} (hr : 0 ≤ r ∧ r < 256) (hg : 0 ≤ g ∧ g < 256) (hb : 0 ≤ b ∧ b < 256)
    (hS : ∀ v t h' tk', v = 16777216 + (65536 * r + 256 * g + b) → Fr h₀ L h' m → News h₀ L h' news → Q (.int v t) { s with heap := h', toks := tk' })
    (S : Site w p loose mean mg mb dp un 1 cs outer A₀ base h₀ L s.heap m news) :
    wpAny (model prog w) (ktrTop dp un gd cn cs L a ccd cl outer) (call (.ref 57) [.int r tr, .int g tg, .int b tb]) Q E s := by
  obtain ⟨B, F, X, N, T, hk, hd, hu⟩ := S
  have N0 : News h₀ L s.heap [] := News.sub N (by exact fun _ h => nomatch h)
  have kN0 : KeptN h₀ L s.heap [] := N0
  (walk_at "my enter"; intro g9 L9 h9 FG9 F9 N9 B9 X9 T9 kG9; clear N0; (try dsimp only); (try k_lift B9); (try k_fold); k_steps)
  (rename News g9 _ _ _ => N'); (rename Fr g9 _ _ _ => F'); (rename Fr h₀ _ _ _ => kF); (rename News h₀ _ _ _ => kN)
  exact hS _ _ _ _ (by rw [or_rgb hr hg hb]) kF (N.grown (grow_led kG9 kN0 F' N' (fun _ h => nomatch h)))
def OptP (s : Shared) (o : Option Int) (v : Value) (s' : Shared) : Prop := ∃ i t k, v = .int i t ∧ s' = { s with toks := k } ∧ i = o.getD 0
theorem opt_join {M : Model} {A : Around} {E Q : Value → Shared → Prop} {s : Shared} {o : Option Int} {t : Tok} {x : Str} {mm : Str → Option Value} {T : Sem Value} (hx : mm x = some (optI o t))
    (h1 : ∀ v, (o = none ∧ v = Value.none) ∨ (∃ i, o = some i ∧ v = .int i t) → mm x = some v → wpAny M A T (OptP s o) E s)
    (h2 : ∀ i t' k, i = o.getD 0 → Q (.int i t') { s with toks := k }) : wpAny M A T Q E s := by
  have h : wpAny M A T (OptP s o) E s := by
    rcases o with _ | i
    · exact h1 _ (.inl ⟨rfl, rfl⟩) hx
    · exact h1 _ (.inr ⟨i, rfl, rfl⟩) hx
  exact wpAny_mono h (fun v s' ⟨i, t', k, e1, e2, e3⟩ => by rw [e1, e2]; exact h2 i t' k e3) fun _ _ e => e
def pcolV (kind : Int) (xs : List Int) : Option Int :=
  if kind = 5 ∧ 1 ≤ xs.length ∧ xs.getD 0 0 ≤ 255 then some (xs.getD 0 0)
  else if kind = 2 ∧ 3 ≤ xs.length ∧ xs.getD 0 0 ≤ 255 ∧ xs.getD 1 0 ≤ 255 ∧ xs.getD 2 0 ≤ 255 then some (16777216 + (65536 * xs.getD 0 0 + 256 * xs.getD 1 0 + xs.getD 2 0)) else none

local macro_rules | `(tactic| walk_at "call ref") => `(tactic| (k_here; k_dflt (refine' dircol_c ?h1 ?h2 ?h3 (fun v9 t9 h9 tk9 hv9 F9 N9 => ?_) ?kS; (case kS => walk_at "my site"); (case h1 => walk_at "my byte"); (case h2 => walk_at "my byte"); (case h3 => walk_at "my byte")); (try dsimp only); (try k_fold)))
local macro_rules | `(tactic| walk_at "my byte") => `(tactic| first | omega | ((simp only [List.getD_cons_zero, List.getD_cons_succ, Int.toNat_zero, Int.toNat_one, Int.reduceToNat]); omega))

section
local macro_rules | `(tactic| walk_at "eval IfExp") => `(tactic| (k_here; (fail_if_success (with_reducible show wpAny _ _ _ (OptP _ _) _ _)); (rename _ = some (optI _ _) => hx9); (refine opt_join hx9 ?_ (fun v9 t9 k9 hv9 => ?_)); ((intro v9 hv9); (rcases hv9 with ⟨e9, e8⟩ | ⟨i9, e9, e8⟩) <;> (subst e8; intro hy9; clear hx9))))
local macro_rules | `(tactic| walk_at "OptP") => `(tactic| (subst_vars; exact ⟨_, _, _, rfl, rfl, rfl⟩))
local macro_rules | `(tactic| walk_at "my pcol") => `(tactic| ((simp only [List.getD_cons_zero, List.getD_cons_succ, Int.toNat_zero, Int.toNat_one, Int.reduceToNat] at *); (simp only [pcolV, List.length_cons, List.length_nil, List.getD_cons_zero, List.getD_cons_succ, true_and]); first
  | (exfalso; omega)
  | (rw [if_pos (by omega)]; done)
  | (rw [if_pos (by omega)]; congr 1; omega)
  | (rw [if_neg (by omega), if_pos (by omega)]; done)
  | (rw [if_neg (by omega), if_pos (by omega)]; congr 1; omega)
  | (rw [if_neg (by omega), if_neg (by omega)])))

theorem pcol_0 {prog : Program} {w : World} {p : Program} {loose : List Str} {mean : ExcName → Option Value} {mg mb : Str → Option Value} {dp un : Nat} {gd : Option (List Code)} {cn : Str} {cs : Scope} {a : Addr} {ccd : Value} {cl : List (Str × Addr)} {outer : List Env} {A₀ : Around} {base h₀ : Heap} {L : Addr} {m : Str → Option Value} {s : Shared} {Q E : Value → Shared → Prop} {news : List (Addr × Obj)}
    {kind : Int} {tk : Tok} {D : Addr} {nl : Nat} (hk1 : 0 ≤ kind ∧ kind < 10) 
    (hm : (D, W.listOf #[] nl) ∈ news)
    (hN : pcolV kind [] = none → ∀ h' tk', Fr h₀ L h' m → News h₀ L h' news → Q .none { s with heap := h', toks := tk' })
    (hS : ∀ v t, pcolV kind [] = some v → ∀ h' tk', Fr h₀ L h' m → News h₀ L h' news → Q (.int v t) { s with heap := h', toks := tk' })
    (S : Site w p loose mean mg mb dp un 2 cs outer A₀ base h₀ L s.heap m news) :
    wpAny (model prog w) (ktrTop dp un gd cn cs L a ccd cl outer) (call (.ref 77) [.int kind tk, .ref D]) Q E s := by
  obtain ⟨B, F, X, N, T, hk, hd, hu⟩ := S
  have N0 : News h₀ L s.heap [(D, W.listOf #[] nl)] := News.sub N (fun q hq => by rw [List.mem_singleton.mp hq]; exact hm)
  have kN0 : KeptN h₀ L s.heap [(D, W.listOf #[] nl)] := N0
  (walk_at "my enter"; intro g9 L9 h9 FG9 F9 N9 B9 X9 T9 kG9; clear N0; (try dsimp only); (try k_lift B9); (try k_fold); k_steps)
  all_goals ((rename News g9 _ _ _ => N'); (rename Fr g9 _ _ _ => F'); (rename Fr h₀ _ _ _ => kF); (rename News h₀ _ _ _ => kN); subst_vars; first
      | exact hS _ _ (by walk_at "my pcol") _ _ kF (N.grown (grow_led kG9 kN0 F' N' (by intro q hq; rw [List.mem_singleton.mp hq]; k_mem)))
      | exact hN (by walk_at "my pcol") _ _ kF (N.grown (grow_led kG9 kN0 F' N' (by intro q hq; rw [List.mem_singleton.mp hq]; k_mem))))

theorem pcol_1 {prog : Program} {w : World} {p : Program} {loose : List Str} {mean : ExcName → Option Value} {mg mb : Str → Option Value} {dp un : Nat} {gd : Option (List Code)} {cn : Str} {cs : Scope} {a : Addr} {ccd : Value} {cl : List (Str × Addr)} {outer : List Env} {A₀ : Around} {base h₀ : Heap} {L : Addr} {m : Str → Option Value} {s : Shared} {Q E : Value → Shared → Prop} {news : List (Addr × Obj)}
    {kind : Int} {tk : Tok} {D : Addr} {nl : Nat} {o1 : Option Int} {t1 : Tok} (hk1 : 0 ≤ kind ∧ kind < 10) (b1 : 0 ≤ o1.getD 0 ∧ o1.getD 0 ≤ 256)
    (hm : (D, W.listOf #[optI o1 t1] nl) ∈ news)
    (hN : pcolV kind [o1.getD 0] = none → ∀ h' tk', Fr h₀ L h' m → News h₀ L h' news → Q .none { s with heap := h', toks := tk' })
    (hS : ∀ v t, pcolV kind [o1.getD 0] = some v → ∀ h' tk', Fr h₀ L h' m → News h₀ L h' news → Q (.int v t) { s with heap := h', toks := tk' })
    (S : Site w p loose mean mg mb dp un 2 cs outer A₀ base h₀ L s.heap m news) :
    wpAny (model prog w) (ktrTop dp un gd cn cs L a ccd cl outer) (call (.ref 77) [.int kind tk, .ref D]) Q E s := by
  obtain ⟨B, F, X, N, T, hk, hd, hu⟩ := S
  have N0 : News h₀ L s.heap [(D, W.listOf #[optI o1 t1] nl)] := News.sub N (fun q hq => by rw [List.mem_singleton.mp hq]; exact hm)
  have kN0 : KeptN h₀ L s.heap [(D, W.listOf #[optI o1 t1] nl)] := N0
  (walk_at "my enter"; intro g9 L9 h9 FG9 F9 N9 B9 X9 T9 kG9; clear N0; (try dsimp only); (try k_lift B9); (try k_fold); k_steps)
  all_goals ((rename News g9 _ _ _ => N'); (rename Fr g9 _ _ _ => F'); (rename Fr h₀ _ _ _ => kF); (rename News h₀ _ _ _ => kN); subst_vars; first
      | exact hS _ _ (by walk_at "my pcol") _ _ kF (N.grown (grow_led kG9 kN0 F' N' (by intro q hq; rw [List.mem_singleton.mp hq]; k_mem)))
      | exact hN (by walk_at "my pcol") _ _ kF (N.grown (grow_led kG9 kN0 F' N' (by intro q hq; rw [List.mem_singleton.mp hq]; k_mem))))

theorem pcol_2 {prog : Program} {w : World} {p : Program} {loose : List Str} {mean : ExcName → Option Value} {mg mb : Str → Option Value} {dp un : Nat} {gd : Option (List Code)} {cn : Str} {cs : Scope} {a : Addr} {ccd : Value} {cl : List (Str × Addr)} {outer : List Env} {A₀ : Around} {base h₀ : Heap} {L : Addr} {m : Str → Option Value} {s : Shared} {Q E : Value → Shared → Prop} {news : List (Addr × Obj)}
    {kind : Int} {tk : Tok} {D : Addr} {nl : Nat} {o1 o2 : Option Int} {t1 t2 : Tok} (hk1 : 0 ≤ kind ∧ kind < 10) (b1 : 0 ≤ o1.getD 0 ∧ o1.getD 0 ≤ 256) (b2 : 0 ≤ o2.getD 0 ∧ o2.getD 0 ≤ 256)
    (hm : (D, W.listOf #[optI o1 t1, optI o2 t2] nl) ∈ news)
    (hN : pcolV kind [o1.getD 0, o2.getD 0] = none → ∀ h' tk', Fr h₀ L h' m → News h₀ L h' news → Q .none { s with heap := h', toks := tk' })
    (hS : ∀ v t, pcolV kind [o1.getD 0, o2.getD 0] = some v → ∀ h' tk', Fr h₀ L h' m → News h₀ L h' news → Q (.int v t) { s with heap := h', toks := tk' })
    (S : Site w p loose mean mg mb dp un 2 cs outer A₀ base h₀ L s.heap m news) :
    wpAny (model prog w) (ktrTop dp un gd cn cs L a ccd cl outer) (call (.ref 77) [.int kind tk, .ref D]) Q E s := by
  obtain ⟨B, F, X, N, T, hk, hd, hu⟩ := S
  have N0 : News h₀ L s.heap [(D, W.listOf #[optI o1 t1, optI o2 t2] nl)] := News.sub N (fun q hq => by rw [List.mem_singleton.mp hq]; exact hm)
  have kN0 : KeptN h₀ L s.heap [(D, W.listOf #[optI o1 t1, optI o2 t2] nl)] := N0
  (walk_at "my enter"; intro g9 L9 h9 FG9 F9 N9 B9 X9 T9 kG9; clear N0; (try dsimp only); (try k_lift B9); (try k_fold); k_steps)
  all_goals ((rename News g9 _ _ _ => N'); (rename Fr g9 _ _ _ => F'); (rename Fr h₀ _ _ _ => kF); (rename News h₀ _ _ _ => kN); subst_vars; first
      | exact hS _ _ (by walk_at "my pcol") _ _ kF (N.grown (grow_led kG9 kN0 F' N' (by intro q hq; rw [List.mem_singleton.mp hq]; k_mem)))
      | exact hN (by walk_at "my pcol") _ _ kF (N.grown (grow_led kG9 kN0 F' N' (by intro q hq; rw [List.mem_singleton.mp hq]; k_mem))))

theorem pcol_3 {prog : Program} {w : World} {p : Program} {loose : List Str} {mean : ExcName → Option Value} {mg mb : Str → Option Value} {dp un : Nat} {gd : Option (List Code)} {cn : Str} {cs : Scope} {a : Addr} {ccd : Value} {cl : List (Str × Addr)} {outer : List Env} {A₀ : Around} {base h₀ : Heap} {L : Addr} {m : Str → Option Value} {s : Shared} {Q E : Value → Shared → Prop} {news : List (Addr × Obj)}
    {kind : Int} {tk : Tok} {D : Addr} {nl : Nat} {o1 o2 o3 : Option Int} {t1 t2 t3 : Tok} (hk1 : 0 ≤ kind ∧ kind < 10) (b1 : 0 ≤ o1.getD 0 ∧ o1.getD 0 ≤ 256) (b2 : 0 ≤ o2.getD 0 ∧ o2.getD 0 ≤ 256) (b3 : 0 ≤ o3.getD 0 ∧ o3.getD 0 ≤ 256)
    (hm : (D, W.listOf #[optI o1 t1, optI o2 t2, optI o3 t3] nl) ∈ news)
    (hN : pcolV kind [o1.getD 0, o2.getD 0, o3.getD 0] = none → ∀ h' tk', Fr h₀ L h' m → News h₀ L h' news → Q .none { s with heap := h', toks := tk' })
    (hS : ∀ v t, pcolV kind [o1.getD 0, o2.getD 0, o3.getD 0] = some v → ∀ h' tk', Fr h₀ L h' m → News h₀ L h' news → Q (.int v t) { s with heap := h', toks := tk' })
    (S : Site w p loose mean mg mb dp un 2 cs outer A₀ base h₀ L s.heap m news) :
    wpAny (model prog w) (ktrTop dp un gd cn cs L a ccd cl outer) (call (.ref 77) [.int kind tk, .ref D]) Q E s := by
  obtain ⟨B, F, X, N, T, hk, hd, hu⟩ := S
  have N0 : News h₀ L s.heap [(D, W.listOf #[optI o1 t1, optI o2 t2, optI o3 t3] nl)] := News.sub N (fun q hq => by rw [List.mem_singleton.mp hq]; exact hm)
  have kN0 : KeptN h₀ L s.heap [(D, W.listOf #[optI o1 t1, optI o2 t2, optI o3 t3] nl)] := N0
  (walk_at "my enter"; intro g9 L9 h9 FG9 F9 N9 B9 X9 T9 kG9; clear N0; (try dsimp only); (try k_lift B9); (try k_fold); k_steps)
  all_goals ((rename News g9 _ _ _ => N'); (rename Fr g9 _ _ _ => F'); (rename Fr h₀ _ _ _ => kF); (rename News h₀ _ _ _ => kN); subst_vars; first
      | exact hS _ _ (by walk_at "my pcol") _ _ kF (N.grown (grow_led kG9 kN0 F' N' (by intro q hq; rw [List.mem_singleton.mp hq]; k_mem)))
      | exact hN (by walk_at "my pcol") _ _ kF (N.grown (grow_led kG9 kN0 F' N' (by intro q hq; rw [List.mem_singleton.mp hq]; k_mem))))

theorem pcol_4 {prog : Program} {w : World} {p : Program} {loose : List Str} {mean : ExcName → Option Value} {mg mb : Str → Option Value} {dp un : Nat} {gd : Option (List Code)} {cn : Str} {cs : Scope} {a : Addr} {ccd : Value} {cl : List (Str × Addr)} {outer : List Env} {A₀ : Around} {base h₀ : Heap} {L : Addr} {m : Str → Option Value} {s : Shared} {Q E : Value → Shared → Prop} {news : List (Addr × Obj)}
    {kind : Int} {tk : Tok} {D : Addr} {nl : Nat} {o1 o2 o3 o4 : Option Int} {t1 t2 t3 t4 : Tok} (hk1 : 0 ≤ kind ∧ kind < 10) (b1 : 0 ≤ o1.getD 0 ∧ o1.getD 0 ≤ 256) (b2 : 0 ≤ o2.getD 0 ∧ o2.getD 0 ≤ 256) (b3 : 0 ≤ o3.getD 0 ∧ o3.getD 0 ≤ 256) (b4 : 0 ≤ o4.getD 0 ∧ o4.getD 0 ≤ 256)
    (hm : (D, W.listOf #[optI o1 t1, optI o2 t2, optI o3 t3, optI o4 t4] nl) ∈ news)
    (hN : pcolV kind [o1.getD 0, o2.getD 0, o3.getD 0, o4.getD 0] = none → ∀ h' tk', Fr h₀ L h' m → News h₀ L h' news → Q .none { s with heap := h', toks := tk' })
    (hS : ∀ v t, pcolV kind [o1.getD 0, o2.getD 0, o3.getD 0, o4.getD 0] = some v → ∀ h' tk', Fr h₀ L h' m → News h₀ L h' news → Q (.int v t) { s with heap := h', toks := tk' })
    (S : Site w p loose mean mg mb dp un 2 cs outer A₀ base h₀ L s.heap m news) :
    wpAny (model prog w) (ktrTop dp un gd cn cs L a ccd cl outer) (call (.ref 77) [.int kind tk, .ref D]) Q E s := by
  obtain ⟨B, F, X, N, T, hk, hd, hu⟩ := S
  have N0 : News h₀ L s.heap [(D, W.listOf #[optI o1 t1, optI o2 t2, optI o3 t3, optI o4 t4] nl)] := News.sub N (fun q hq => by rw [List.mem_singleton.mp hq]; exact hm)
  have kN0 : KeptN h₀ L s.heap [(D, W.listOf #[optI o1 t1, optI o2 t2, optI o3 t3, optI o4 t4] nl)] := N0
  (walk_at "my enter"; intro g9 L9 h9 FG9 F9 N9 B9 X9 T9 kG9; clear N0; (try dsimp only); (try k_lift B9); (try k_fold); k_steps)
  all_goals ((rename News g9 _ _ _ => N'); (rename Fr g9 _ _ _ => F'); (rename Fr h₀ _ _ _ => kF); (rename News h₀ _ _ _ => kN); subst_vars; first
      | exact hS _ _ (by walk_at "my pcol") _ _ kF (N.grown (grow_led kG9 kN0 F' N' (by intro q hq; rw [List.mem_singleton.mp hq]; k_mem)))
      | exact hN (by walk_at "my pcol") _ _ kF (N.grown (grow_led kG9 kN0 F' N' (by intro q hq; rw [List.mem_singleton.mp hq]; k_mem))))

end
def nameKeys : List (Option Expr) → Bool
  | some (.Name _ _) :: r => nameKeys r
  | [] => true
  | _ => false
theorem Dict_made_names {prog : Program} {w : World} {A : Around} {E : Value → Shared → Prop} {s : Shared} {env : Env} {h₀ : Heap} {L : Addr} {m : Str → Option Value} {keys : List (Option Expr)} {values : List Expr} {pos : Pos} {Q : Value → Shared → Prop} (_ : nameKeys keys = true) (F : Fr h₀ L s.heap m)
    (hall : keys.all (·.isSome) = true) (hl : keys.length = values.length) (h0 : keys ≠ []) (hlen : keys.length ≤ 15)
    (h : Fr h₀ L (s.heap.push { cls := .type "dict", data := .dict #[] }) m →
      wpAny (model prog w) A (evalPairs (pairTrees keys values env pos)) (fun vs s₁ => ∃ kvs, Carries (intKind prog w) vs kvs ∧ s₁.heap.DictOf (intKind prog w) s.heap.objs.size [] ∧
        ∀ h', h'.DictOf (intKind prog w) s.heap.objs.size (merged [] kvs) → Heap.SameBut s.heap.objs.size s₁.heap h' → Q (.ref s.heap.objs.size) { s₁ with heap := h', toks := s₁.toks + vs.length }) E
        { s with heap := s.heap.push { cls := .type "dict", data := .dict #[] } }) :
    wpAny (model prog w) A (eval (.Dict keys values pos) env) Q E s := Dict_made F hall hl h0 hlen h
section
variable {prog : Program} {w : World} {A : Around} {E : Value → Shared → Prop} {s : Shared} {Q : Value → Shared → Prop}
theorem tab_lin {value slice : Expr} {d : Addr} {i a1 a2 a3 c : Int} {t : Tok} (hh : A.handled = none) (T : IntTab prog w s.heap d [(.int 1, .int a1), (.int 2, .int a2), (.int 3, .int a3)]) (hi : 1 ≤ i ∧ i ≤ 3) (e1 : a1 = 10 + c) (e2 : a2 = 20 + c) (e3 : a3 = 30 + c)
    (h : ∀ v t k, v = 10 * i + c → Q (.int v t) { s with toks := k })
    (hs : subscripted slice false (.ref d) (.int i t) = operate [.ref d, .int i t] (getItem (.ref d) (.int i t)) := by with_unfolding_all rfl) :
    wpAny (model prog w) A (subscriptTail value slice (.ref d) (.int i t)) Q E s := by
  have hl : PySem.Spec.lookup (PyData.int i) [(PyData.int 1, PyData.int a1), (PyData.int 2, PyData.int a2), (PyData.int 3, PyData.int a3)] = some (.int (10 * i + c)) := by
    have : i = 1 ∨ i = 2 ∨ i = 3 := by omega
    rcases this with rfl | rfl | rfl
    · rw [e1]; rfl
    · rw [e2]; rfl
    · rw [e3]; rfl
  refine item_intTab_split_any T hh (fun dv e v hv => ?_) (fun e => by rw [hl] at e; cases e) hs
  rw [hl] at e
  cases e
  obtain ⟨u, rfl⟩ := PyProof.V.Flat.int_inv hv
  exact h _ u _ rfl
end
/-- one number that tells a place and a colour -/
def One (pl c n : Int) : Prop := (c = -1 ∧ n = 10 * pl + 29) ∨ (0 ≤ c ∧ c < 8 ∧ pl ≠ 3 ∧ n = 10 * pl + 20 + c) ∨ (8 ≤ c ∧ c < 16 ∧ pl ≠ 3 ∧ n = 10 * pl + 72 + c)
/-- three rows: a colour of the 256 -/
def Idx (pl c : Int) : Prop := 0 ≤ c ∧ c < 256 ∧ (pl = 3 ∨ 16 ≤ c)
def Rgb (c r g b : Int) : Prop := c = 16777216 * 1 + 65536 * r + 256 * g + b ∧ (0 ≤ r ∧ r < 256) ∧ (0 ≤ g ∧ g < 256) ∧ (0 ≤ b ∧ b < 256)
abbrev lst1 (x : Value) (n : Nat) : Obj := W.listOf #[x] n
section
variable {prog : Program} {w : World} {A : Around} {E : Value → Shared → Prop} {s : Shared} {Q : Value → Shared → Prop}
theorem same_ints (a b : Int) : PySem.Spec.same (PyData.int a) (PyData.int b) = decide (a = b) := by
  by_cases h : a = b <;> simp [PySem.Spec.same, h]
theorem three_none {i k1 k2 k3 : Int} {v1 v2 v3 : PyData} (h : i ≠ k1 ∧ i ≠ k2 ∧ i ≠ k3) : PySem.Spec.lookup (PyData.int i) [(PyData.int k1, v1), (PyData.int k2, v2), (PyData.int k3, v3)] = none := by
  simp [PySem.Spec.lookup, same_ints, Ne.symm h.1, Ne.symm h.2.1, Ne.symm h.2.2]
theorem in_no {d : Addr} {i k1 k2 k3 : Int} {v1 v2 v3 : PyData} {t : Tok} (T : IntTab prog w s.heap d [(.int k1, v1), (.int k2, v2), (.int k3, v3)]) (hi : i ≠ k1 ∧ i ≠ k2 ∧ i ≠ k3) (h : Q (.bool false) { s with toks := s.toks + 1 }) :
    wpAny (model prog w) A (compareOp .In (.int i t) (.ref d)) Q E s := in_intTab T (by rw [three_none hi]; exact h)
theorem places_at {i pl : Int} {v1 v2 v3 : Int} (hp : 1 ≤ pl ∧ pl ≤ 3) (hi : i = 10 * pl + 28) (e1 : v1 = 1) (e2 : v2 = 2) (e3 : v3 = 3) : PySem.Spec.lookup (PyData.int i) [(PyData.int 38, .int v1), (PyData.int 48, .int v2), (PyData.int 58, .int v3)] = some (.int pl) := by
  subst hi e1 e2 e3
  have : pl = 1 ∨ pl = 2 ∨ pl = 3 := by omega
  rcases this with rfl | rfl | rfl <;> rfl
theorem in_yes {d : Addr} {i pl v1 v2 v3 : Int} {t : Tok} (T : IntTab prog w s.heap d [(.int 38, .int v1), (.int 48, .int v2), (.int 58, .int v3)]) (hp : 1 ≤ pl ∧ pl ≤ 3) (hi : i = 10 * pl + 28) (e1 : v1 = 1) (e2 : v2 = 2) (e3 : v3 = 3) (h : Q (.bool true) { s with toks := s.toks + 1 }) :
    wpAny (model prog w) A (compareOp .In (.int i t) (.ref d)) Q E s := in_intTab T (by rw [places_at hp hi e1 e2 e3]; exact h)
theorem places_item {value slice : Expr} {d : Addr} {i pl v1 v2 v3 : Int} {t : Tok} (hh : A.handled = none) (T : IntTab prog w s.heap d [(.int 38, .int v1), (.int 48, .int v2), (.int 58, .int v3)]) (hp : 1 ≤ pl ∧ pl ≤ 3) (hi : i = 10 * pl + 28) (e1 : v1 = 1) (e2 : v2 = 2) (e3 : v3 = 3)
    (h : ∀ t k, Q (.int pl t) { s with toks := k })
    (hs : subscripted slice false (.ref d) (.int i t) = operate [.ref d, .int i t] (getItem (.ref d) (.int i t)) := by with_unfolding_all rfl) :
    wpAny (model prog w) A (subscriptTail value slice (.ref d) (.int i t)) Q E s := by
  refine item_intTab_split_any T hh (fun dv e v hv => ?_) (fun e => by rw [places_at hp hi e1 e2 e3] at e; cases e) hs
  rw [places_at hp hi e1 e2 e3] at e
  cases e
  obtain ⟨u, rfl⟩ := PyProof.V.Flat.int_inv hv
  exact h u _
end
theorem notin1 {D pa : Addr} {o : Obj} (h : @LT.lt Nat _ pa D) : D ∉ [(pa, o)].map (·.1) := by
  simp only [List.map_cons, List.map_nil, List.mem_cons, List.not_mem_nil, or_false]
  exact Nat.ne_of_gt h
theorem notin_cons {D pa : Addr} {o : Obj} {l : List (Addr × Obj)} (h : @Ne Nat pa D) (h' : D ∉ l.map (·.1)) : D ∉ ((pa, o) :: l).map (·.1) := by
  simp only [List.map_cons, List.mem_cons, not_or]
  exact ⟨Ne.symm h, h'⟩
theorem notin_nil {D : Addr} : D ∉ ([] : List (Addr × Obj)).map (·.1) := by simp
theorem one_item {prog : Program} {w : World} {A : Around} {E : Value → Shared → Prop} {s : Shared} {Q : Value → Shared → Prop} {h₀ : Heap} {L D : Addr} {news : List (Addr × Obj)} {value slice : Expr} {v : Value} {c : Nat} {u : Tok} (N : News h₀ L s.heap news) (hm : (D, lst1 v c) ∈ news) (h : Q v s)
    (hs : subscripted slice false (.ref D) (.int 0 u) = operate [.ref D, .int 0 u] (getItem (.ref D) (.int 0 u)) := by with_unfolding_all rfl) :
    wpAny (model prog w) A (subscriptTail value slice (.ref D) (.int 0 u)) Q E s := by
  have hl : s.heap.IsList D #[v] := PySem.IsL.isList (n := c) (N _ hm).1
  exact tail_any hl.typeIs slot_list_getitem.lookup (wpAny_getItem_list (x := v) hl (by decide) (by decide) rfl h) hs
theorem one7 {pl c n : Int} (hp : 1 ≤ pl ∧ pl ≤ 3) (hn : One pl c n) : (pl = 1 ∧ (c = -1) ∧ n = 39) ∨ (pl = 2 ∧ (c = -1) ∧ n = 49) ∨ (pl = 3 ∧ (c = -1) ∧ n = 59) ∨ (pl = 1 ∧ (0 ≤ c ∧ c < 8) ∧ n = 30 + c) ∨ (pl = 2 ∧ (0 ≤ c ∧ c < 8) ∧ n = 40 + c) ∨ (pl = 1 ∧ (8 ≤ c ∧ c < 16) ∧ n = 82 + c) ∨ (pl = 2 ∧ (8 ≤ c ∧ c < 16) ∧ n = 92 + c) := by
  have h3 : pl = 1 ∨ pl = 2 ∨ pl = 3 := by omega
  rcases hn with ⟨h, e⟩ | ⟨a, b, d, e⟩ | ⟨a, b, d, e⟩ <;> rcases h3 with rfl | rfl | rfl
  all_goals first
    | (exfalso; omega)
    | exact .inl ⟨rfl, by omega, by omega⟩
    | exact .inr (.inl ⟨rfl, by omega, by omega⟩)
    | exact .inr (.inr (.inl ⟨rfl, by omega, by omega⟩))
    | exact .inr (.inr (.inr (.inl ⟨rfl, by omega, by omega⟩)))
    | exact .inr (.inr (.inr (.inr (.inl ⟨rfl, by omega, by omega⟩))))
    | exact .inr (.inr (.inr (.inr (.inr (.inl ⟨rfl, by omega, by omega⟩)))))
    | exact .inr (.inr (.inr (.inr (.inr (.inr (⟨rfl, by omega, by omega⟩))))))
theorem one_ne {pl c n : Int} (hp : 1 ≤ pl ∧ pl ≤ 3) (hn : One pl c n) : n ≠ 38 ∧ n ≠ 48 ∧ n ≠ 58 := by
  rcases one7 hp hn with h | h | h | h | h | h | h <;> omega
theorem lst_item {prog : Program} {w : World} {A : Around} {E : Value → Shared → Prop} {s : Shared} {Q : Value → Shared → Prop} {h₀ : Heap} {L D : Addr} {news : List (Addr × Obj)} {value slice : Expr} {vs : List Value} {v : Value} {c : Nat} {k : Int} {u : Tok} (N : News h₀ L s.heap news) (hm : (D, W.listOf vs.toArray c) ∈ news) (h0 : 0 ≤ k) (h1 : k < 1000) (hx : vs[k.toNat]? = some v) (h : Q v s)
    (hs : subscripted slice false (.ref D) (.int k u) = operate [.ref D, .int k u] (getItem (.ref D) (.int k u)) := by with_unfolding_all rfl) :
    wpAny (model prog w) A (subscriptTail value slice (.ref D) (.int k u)) Q E s := by
  have hl : s.heap.IsList D vs.toArray := PySem.IsL.isList (n := c) (N _ hm).1
  exact tail_any hl.typeIs slot_list_getitem.lookup (wpAny_getItem_list (x := v) hl h0 (by omega) (by simpa using hx) h) hs
theorem lt_of {h₀ H g h9 : Heap} {L L' : Addr} {m9 : Str → Option Value} {news : List (Addr × Obj)} (kG : GSub H g (([] : List (Addr × Obj)).map (·.1))) (F9 : Fr g L' h9 m9) (N : News h₀ L H news) : ∀ q ∈ news, @LT.lt Nat _ q.1 h9.objs.size := fun q hq => by
  have z := Heap.lt_size (kG q.1 q.2 (N q hq).1 (fun h => nomatch h))
  exact Nat.lt_trans (Nat.lt_of_lt_of_le z F9.above) F9.ns.lt

section
variable {prog : Program} {w : World} {A : Around} {E : Value → Shared → Prop} {s : Shared} {h₀ : Heap} {L : Addr} {m : Str → Option Value} {news : List (Addr × Obj)}
theorem part_any {v : Value} {o : Option Int} {Q : Option Int → Shared → Prop} (p : IsPart v o) (h : Q o s) : wpAny (model prog w) A (Builtin.Slice.slicePartIndex v) Q E s := by
  cases p with
  | none => exact slicePart_none h
  | int i u => exact slicePart_int h
theorem places_one {a b : Int} (h : a ≤ b) : Builtin.Slice.slicePlaces a b 1 = (b - a).toNat := by
  unfold Builtin.Slice.slicePlaces
  rw [if_pos (by decide), Int.ediv_one]
  split <;> omega
theorem applied_any {sl : Addr} {vl vu : Value} {lo hi : Option Int} {n : Nat} {a b : Int} {Q : Int × Int × Nat → Shared → Prop} (hs : s.heap.IsSliceOf sl vl vu .none) (pl : IsPart vl lo) (pu : IsPart vu hi)
    (hadj : Builtin.Slice.sliceAdjust lo hi 1 (n : Int) = (a, b)) (hab : a ≤ b) (h : Q (a, 1, (b - a).toNat) s) :
    wpAny (model prog w) A (Builtin.Slice.sliceApplied (.ref sl) (pure (n : Int))) Q E s := by
  obtain ⟨os, hos, hcs, hds⟩ := id hs
  unfold Builtin.Slice.sliceApplied Builtin.Slice.sliceFields
  refine wpAny_bind (wpAny_bind (wpAny_field hos hds (x := vl) rfl (wpAny_bind (wpAny_field hos hds (x := vu) rfl (wpAny_bind (wpAny_field hos hds (x := .none) rfl (wpAny_pure ?_)))))))
  refine wpAny_bind (slicePart_none ?_)
  show wpAny _ _ (if ((1 : Int) == 0) = true then _ else _) _ _ s
  rw [if_neg (by decide)]
  refine wpAny_bind (part_any pl (wpAny_bind (part_any pu (wpAny_bind (wpAny_pure ?_)))))
  show wpAny _ _ (match Builtin.Slice.sliceAdjust lo hi 1 (n : Int) with | (lo, hi) => pure (lo, (1 : Int), Builtin.Slice.slicePlaces lo hi 1)) _ _ s
  rw [hadj]
  show wpAny _ _ (pure (a, (1 : Int), Builtin.Slice.slicePlaces a b 1)) _ _ s
  rw [places_one hab]
  exact wpAny_pure h
theorem pick_cut (xs : Array Value) (a : Int) (c : Nat) (h0 : 0 ≤ a) : ((List.range c).filterMap fun (k : Nat) => xs[(a + (k : Int) * 1).toNat]?).toArray = ((xs.toList.drop a.toNat).take c).toArray := by
  have e : (fun (k : Nat) => xs[(a + (k : Int) * 1).toNat]?) = fun k => xs[a.toNat + k]? := by
    funext k
    rw [show (a + (k : Int) * 1).toNat = a.toNat + k by omega]
  rw [e]
  have q := pick_run xs a.toNat c
  rw [List.filterMap_map] at q
  exact congrArg List.toArray q
theorem tup_cut_item {t sl : Addr} {items : Array Value} {vl vu : Value} {lo hi : Option Int} {a b : Int} {Q : Value → Shared → Prop} (ht : IsTup s.heap t items) (hs : s.heap.IsSliceOf sl vl vu .none) (pl : IsPart vl lo) (pu : IsPart vu hi)
    (hadj : Builtin.Slice.sliceAdjust lo hi 1 ((items.size : Nat) : Int) = (a, b)) (h1 : 0 ≤ a ∧ a ≤ b ∧ b - a < (items.size : Int)) (hsz : items.size ≤ 1000)
    (h : Q (.ref s.heap.objs.size) { s with heap := s.heap.push { cls := .type "tuple", data := .seq ((items.toList.drop a.toNat).take (b - a).toNat).toArray } }) :
    wpAny (model prog w) A (getItem (.ref t) (.ref sl)) Q E s := by
  have hok : sizeOk (.seq ((items.toList.drop a.toNat).take (b - a).toNat).toArray) := by
    show (((items.toList.drop a.toNat).take (b - a).toNat).toArray).size ≤ sizeLine
    rw [List.size_toArray, List.length_take, List.length_drop, Array.length_toList, sizeLine_eq]
    omega
  obtain ⟨os, hos, hcs, hds⟩ := id hs
  have hTs : s.TypeIs (.ref sl) "slice" := ⟨os, hos, hcs⟩
  unfold getItem
  try with_reducible refine wpAny_holding ?_
  first | refine wpAny_bind (wpAny_pure ?_) | skip
  refine wpAny_bind (wpAny_sequenceKey ht.typeIs (by decide) ?_)
  refine wpAny_bind (wpAny_callSpecial?_slot (name := Str.ofString "__getitem__") ht.typeIs slot_tuple_getitem
    (wpAny_call_entry slot_tuple_getitem ht.typeIs entry_tuple_getitem ?_ (args_tuple_getitem _ _)))
  show wpAny _ _ (Builtin.Tuple.tupleItemsOf (.ref t) >>= _) _ _ s
  refine wpAny_bind (tupleItemsOf_ ht ?_)
  refine wpAny_bind (wpAny_typeOf hTs ?_)
  rw [if_pos (by decide)]
  refine wpAny_bind (applied_any hs pl pu hadj h1.2.1 ?_)
  have hno : ¬ ((a == 0 && (1 : Int) == 1 && ((b - a).toNat) == items.size) = true) := by
    have : ((b - a).toNat == items.size) = false := by rw [beq_eq_false_iff_ne]; omega
    rw [this]; simp
  show wpAny _ _ (if (a == 0 && (1 : Int) == 1 && (b - a).toNat == items.size) = true then _ else _) _ _ s
  rw [if_neg hno, pick_cut items a _ h1.1]
  first
    | exact wpAny_bind (m := Builtin.Tuple.tupleExact _) (wpAny_newObj_type (wpAny_pure ⟨_, rfl, wpAny_pure h⟩) hok)
    | exact wpAny_bind (m := Builtin.Tuple.tupleExact _) (wpAny_newObj_type (wpAny_bind (wpAny_pure (wpAny_pure ⟨_, rfl, wpAny_pure h⟩))) hok)
    | exact wpAny_bind (wpAny_bind (m := Builtin.Tuple.tupleExact _) (wpAny_newObj_type (wpAny_pure (wpAny_pure ⟨_, rfl, wpAny_pure h⟩)) hok))
    | exact wpAny_bind (wpAny_bind (m := Builtin.Tuple.tupleExact _) (wpAny_newObj_type (wpAny_pure ⟨_, rfl, wpAny_pure h⟩) hok))
theorem tup_cut {value slice : Expr} {t : Addr} {items zs : List Value} {vl vu : Value} {lo hi : Option Int} {a b : Int} {Q : Value → Shared → Prop}
    (F : Fr h₀ L s.heap m) (N : News h₀ L s.heap news) (ht : IsTup s.heap t items.toArray) (pl : IsPart vl lo) (pu : IsPart vu hi) (hadj : Builtin.Slice.sliceAdjust lo hi 1 ((items.length : Nat) : Int) = (a, b)) (h1 : 0 ≤ a ∧ a ≤ b ∧ b - a < (items.length : Int)) (hsz : items.length ≤ 1000)
    (hz : (items.drop a.toNat).take (b - a).toNat = zs)
    (h : ∀ D h', Fr h₀ L h' m → News h₀ L h' ((D, tupOf zs.toArray) :: news) → (∀ p ∈ news, p.1 < D) → Q (.ref D) { s with heap := h' })
    (hs : subscripted slice false (.ref t) (.ref s.heap.objs.size) = operate [.ref s.heap.objs.size, .ref t] (getItem (.ref t) (.ref s.heap.objs.size)))
    (hg : ∀ r, letTemporaryGo value (.ref t) r = pure ()) :
    wpAny (model prog w) A (subscriptTail value slice (.ref t) (.ref s.heap.objs.size)) Q E { s with heap := s.heap.push { cls := .type "slice", data := .fields #[vl, vu, .none] } } := by
  subst hz
  have ht' : IsTup (s.heap.push { cls := .type "slice", data := .fields #[vl, vu, .none] }) t items.toArray := ht.keeps fun _ _ e => Heap.get?_push_of_some _ e
  refine subscriptTail_ops (s := { s with heap := s.heap.push { cls := .type "slice", data := .fields #[vl, vu, .none] } }) ht'.typeIs slot_tuple_getitem.lookup
    (tup_cut_item ht' (Heap.IsSliceOf.new ..) pl pu (by simpa using hadj) (by simpa using h1) (by simpa using hsz) ?_) hs hg
  have N1 := News.push (F.push { cls := .type "slice", data := .fields #[vl, vu, .none] }) (N.grown fun _ _ e => Heap.get?_push_of_some _ e) { cls := .type "tuple", data := .seq ((items.drop a.toNat).take (b - a).toNat).toArray }
  rw [Heap.size_push] at N1
  show Q (.ref (s.heap.push _).objs.size) _
  rw [Heap.size_push]
  exact h _ _ ((F.push _).push _) N1 fun p hp => Nat.lt_succ_of_lt (Heap.lt_size (N p hp).1)
end

section
local macro_rules | `(tactic| walk_at "eval Dict") => `(tactic| (k_here; (with_reducible refine Dict_made_names (by with_unfolding_all rfl) (by with_unfolding_all assumption) (by with_unfolding_all rfl) (by with_unfolding_all rfl) (List.cons_ne_nil _ _) (by with_unfolding_all decide) ?_; intro _)))
local macro_rules | `(tactic| walk_at "subscriptTail") => `(tactic| (k_here; (with_reducible show wpAny _ _ (subscriptTail _ _ (Value.ref _) (Value.int _ _)) _ _ _); k_dflt (first
  | (refine' tab_lin (c := 20) (by exact rfl) (TabAt.ofNews ?n ?m ?lo ?hd ?hf) ?hi ?e1 ?e2 ?e3 (fun v9 t9 k9 hv9 => ?_); (case n => k_asm); (case m => k_mem); (case hd => assumption); (case lo => assumption); (case hf => assumption); (case hi => first | assumption | omega); (case e1 => with_unfolding_all rfl); (case e2 => with_unfolding_all rfl); (case e3 => with_unfolding_all rfl))
  | (refine' tab_lin (c := 28) (by exact rfl) (TabAt.ofNews ?n ?m ?lo ?hd ?hf) ?hi ?e1 ?e2 ?e3 (fun v9 t9 k9 hv9 => ?_); (case n => k_asm); (case m => k_mem); (case hd => assumption); (case lo => assumption); (case hf => assumption); (case hi => first | assumption | omega); (case e1 => with_unfolding_all rfl); (case e2 => with_unfolding_all rfl); (case e3 => with_unfolding_all rfl))
  | (refine' tab_lin (c := 29) (by exact rfl) (TabAt.ofNews ?n ?m ?lo ?hd ?hf) ?hi ?e1 ?e2 ?e3 (fun v9 t9 k9 hv9 => ?_); (case n => k_asm); (case m => k_mem); (case hd => assumption); (case lo => assumption); (case hf => assumption); (case hi => first | assumption | omega); (case e1 => with_unfolding_all rfl); (case e2 => with_unfolding_all rfl); (case e3 => with_unfolding_all rfl)))))
local macro_rules | `(tactic| walk_at "call ref") => `(tactic| (k_here; (with_reducible show wpAny _ _ (call (Value.ref 50) _) _ _ _); (rename _ → Rgb _ _ _ _ => hr9); k_dflt (refine' rgb_c (hr9 ?h0).1 ⟨by decide, by decide⟩ (hr9 ?h0).2.1 (hr9 ?h0).2.2.1 (hr9 ?h0).2.2.2 (fun D9 t9 u9 v9 h9 tk9 o9 F9 N9 => ?_) ?kS; (case h0 => omega); (case kS => walk_at "my site")); (try simp only [LCg.Off1, and_true] at o9); (try dsimp only); (try k_fold)))
local macro_rules | `(tactic| walk_at "subscriptTail Name Slice ref ref") => `(tactic| (k_here; (with_reducible show wpAny _ _ (subscriptTail _ (Expr.Slice _ _ none _) (Value.ref _) (Value.ref _)) _ _ _); k_dflt (refine' tup_cut ?F ?N ?t ?p ?q ?a ?b ?c ?z ?_ ?s ?g; (case F => k_asm); (case N => k_asm); (case t => exact News.isTup (by k_asm) (by k_mem)); (case p => first | exact IsPart.none | exact IsPart.int _ _); (case q => first | exact IsPart.none | exact IsPart.int _ _); (case a => exact rfl); (case b => exact of_decide_eq_true (by rfl)); (case c => exact of_decide_eq_true (by rfl)); (case z => exact rfl); (case s => with_unfolding_all rfl); (case g => intro _; with_unfolding_all rfl)); intro D' h' F' N' l1; (try k_lt l1)))
local macro_rules | `(tactic| walk_at "compareOp In int ref") => `(tactic| (k_here; k_dflt (first
  | (refine' in_no (TabAt.ofNews ?n ?m ?lo ?hd ?hf) ?hi ?_; (case n => k_asm); (case m => k_mem); (case hd => assumption); (case lo => assumption); (case hf => assumption); (case hi => first | assumption | omega))
  | (refine' in_yes (TabAt.ofNews ?n ?m ?lo ?hd ?hf) ?hp ?hi ?e1 ?e2 ?e3 ?_; (case n => k_asm); (case m => k_mem); (case hd => assumption); (case lo => assumption); (case hf => assumption); (case hp => assumption); (case hi => omega); (case e1 => rfl); (case e2 => rfl); (case e3 => rfl)))))
local macro_rules | `(tactic| walk_at "subscriptTail") => `(tactic| (k_here; (with_reducible show wpAny _ _ (subscriptTail _ _ (Value.ref _) (Value.int _ _)) _ _ _); k_dflt (refine' places_item (by exact rfl) (TabAt.ofNews ?n ?m ?lo ?hd ?hf) ?hp ?hi ?e1 ?e2 ?e3 (fun t9 k9 => ?_); (case n => k_asm); (case m => k_mem); (case hd => assumption); (case lo => assumption); (case hf => assumption); (case hp => assumption); (case hi => omega); (case e1 => rfl); (case e2 => rfl); (case e3 => rfl))))
local macro_rules | `(tactic| walk_at "my notin") => `(tactic| ((repeat (refine notin_cons (by omega) ?_)); exact notin_nil))
local macro_rules | `(tactic| walk_at "my led") => `(tactic| (intro q hq; (repeat (cases hq with | head => k_mem | tail _ hq => ?_)); cases hq))
local macro_rules | `(tactic| walk_at "subscriptTail Name Constant ref int") => `(tactic| (k_here; (with_reducible show wpAny _ _ (subscriptTail _ _ (Value.ref _) (Value.int 0 _)) _ _ _); k_dflt (refine' one_item ?n ?m ?_; (case n => k_asm); (case m => k_mem))))
local macro_rules | `(tactic| walk_at "subscriptTail") => `(tactic| (k_here; (with_reducible show wpAny _ _ (subscriptTail _ _ (Value.ref _) (Value.int _ _)) _ _ _); k_dflt (refine' lst_item ?n ?m ?a ?b ?c ?_; (case n => k_asm); (case m => k_mem); (case a => decide); (case b => decide); (case c => exact rfl))))
local macro_rules | `(tactic| walk_at "subscriptTail Name Constant ref int") => `(tactic| (k_here; (with_reducible show wpAny _ _ (subscriptTail _ _ (Value.ref _) (Value.int _ _)) _ _ _); k_dflt (refine' lst_item ?n ?m ?a ?b ?c ?_; (case n => k_asm); (case m => k_mem); (case a => decide); (case b => decide); (case c => exact rfl))))

theorem sgr_c {prog : Program} {w : World} {p : Program} {loose : List Str} {mean : ExcName → Option Value} {mg mb : Str → Option Value} {dp un : Nat} {gd : Option (List Code)} {cn : Str} {cs : Scope} {a : Addr} {ccd : Value} {cl : List (Str × Addr)} {outer : List Env} {A₀ : Around} {base h₀ : Heap} {L : Addr} {m : Str → Option Value} {s : Shared} {Q E : Value → Shared → Prop} {news : List (Addr × Obj)}
    {pl c r g b : Int} {tp tc : Tok} (hp : 1 ≤ pl ∧ pl ≤ 3) (hc : c = -1 ∨ (0 ≤ c ∧ c < 256) ∨ (16777216 ≤ c ∧ c < 33554432)) (hrgb : 16777216 ≤ c → Rgb c r g b)
    (h1 : ∀ (n : Int) (t : Tok) (l D : Addr) (h' : Heap) (tk' : Nat), One pl c n → (∀ q ∈ news, q.1 < l) → @LT.lt Nat _ l D → Fr h₀ L h' m → News h₀ L h' ((D, lst1 (.ref l) 0) :: (l, lst1 (.int n t) 0) :: news) → Q (.ref D) { s with heap := h', toks := tk' })
    (h3 : ∀ (x : Int) (t1 t2 t3 : Tok) (l1 l2 l3 D : Addr) (h' : Heap) (tk' : Nat), Idx pl c → x = 10 * pl + 28 → (∀ q ∈ news, q.1 < l1) → @LT.lt Nat _ l1 l2 → @LT.lt Nat _ l2 l3 → @LT.lt Nat _ l3 D → Fr h₀ L h' m →
      News h₀ L h' ((D, W.listOf #[.ref l1, .ref l2, .ref l3] 0) :: (l1, lst1 (.int x t1) 0) :: (l2, lst1 (.int 5 t2) 0) :: (l3, lst1 (.int c t3) 0) :: news) → Q (.ref D) { s with heap := h', toks := tk' })
    (h5 : ∀ (x : Int) (t1 t2 t3 t4 t5 : Tok) (l1 l2 l3 l4 l5 D : Addr) (h' : Heap) (tk' : Nat), 16777216 ≤ c → x = 10 * pl + 28 → (∀ q ∈ news, q.1 < l1) → @LT.lt Nat _ l1 l2 → @LT.lt Nat _ l2 l3 → @LT.lt Nat _ l3 l4 → @LT.lt Nat _ l4 l5 → @LT.lt Nat _ l5 D → Fr h₀ L h' m →
      News h₀ L h' ((D, W.listOf #[.ref l1, .ref l2, .ref l3, .ref l4, .ref l5] 0) :: (l1, lst1 (.int x t1) 0) :: (l2, lst1 (.int 2 t2) 0) :: (l3, lst1 (.int r t3) 0) :: (l4, lst1 (.int g t4) 0) :: (l5, lst1 (.int b t5) 0) :: news) → Q (.ref D) { s with heap := h', toks := tk' })
    (S : Site w p loose mean mg mb dp un 2 cs outer A₀ base h₀ L s.heap m news) :
    wpAny (model prog w) (ktrTop dp un gd cn cs L a ccd cl outer) (call (.ref 103) [.int pl tp, .int c tc]) Q E s := by
  obtain ⟨B, F, X, N, T, hk, hd, hu⟩ := S
  have N0 : News h₀ L s.heap [] := News.sub N (by exact fun _ h => nomatch h)
  have kN0 : KeptN h₀ L s.heap [] := N0
  (walk_at "my enter"; intro g9 L9 h9 FG9 F9 N9 B9 X9 T9 kG9; clear N0; (have kU9 := lt_of kG9 F9 N); (try dsimp only); (try k_lift B9); (try k_fold); k_steps)
  all_goals ((rename News g9 _ _ _ => N'); (rename Fr g9 _ _ _ => F'); (rename Fr h₀ _ _ _ => kF); (rename News h₀ _ _ _ => kN))
  all_goals first
    | (refine' h1 _ _ _ _ _ _ ?f1 (fun q hq => Nat.lt_trans (kU9 q hq) ?q1) ?o0 kF (News.one kN ?m0 (News.one kN ?m1 (N.grown (grow_led kG9 kN0 F' N' (fun _ h => nomatch h))))); (case m0 => k_mem); (case m1 => k_mem); (case q1 => omega); (case o0 => omega); (case f1 => (unfold One; (try rw [Int.fmod_eq_emod_of_nonneg _ (by decide)]); omega)))
    | (refine' h3 _ _ _ _ _ _ _ _ _ _ ?f1 ?f2 (fun q hq => Nat.lt_trans (kU9 q hq) ?q1) ?o0 ?o1 ?o2 kF (News.one kN ?m0 (News.one kN ?m1 (News.one kN ?m2 (News.one kN ?m3 (N.grown (grow_led kG9 kN0 F' N' (fun _ h => nomatch h))))))); (case m0 => k_mem); (case m1 => k_mem); (case q1 => omega); (case m2 => k_mem); (case m3 => k_mem); (case o0 => omega); (case o1 => omega); (case o2 => omega); (case f1 => (unfold Idx; omega)); (case f2 => omega))
    | (refine' h5 _ _ _ _ _ _ _ _ _ _ _ _ _ _ ?f1 ?f2 (fun q hq => Nat.lt_trans (kU9 q hq) ?q1) ?o0 ?o1 ?o2 ?o3 ?o4 kF (News.one kN ?m0 (News.one kN ?m1 (News.one kN ?m2 (News.one kN ?m3 (News.one kN ?m4 (News.one kN ?m5 (N.grown (grow_led kG9 kN0 F' N' (fun _ h => nomatch h))))))))); (case m0 => k_mem); (case m1 => k_mem); (case q1 => omega); (case m2 => k_mem); (case m3 => k_mem); (case m4 => k_mem); (case m5 => k_mem); (case o0 => omega); (case o1 => omega); (case o2 => omega); (case o3 => omega); (case o4 => omega); (case f1 => omega); (case f2 => omega))

theorem lpar_c {prog : Program} {w : World} {p : Program} {loose : List Str} {mean : ExcName → Option Value} {mg mb : Str → Option Value} {dp un : Nat} {gd : Option (List Code)} {cn : Str} {cs : Scope} {a : Addr} {ccd : Value} {cl : List (Str × Addr)} {outer : List Env} {A₀ : Around} {base h₀ : Heap} {L : Addr} {m : Str → Option Value} {s : Shared} {Q E : Value → Shared → Prop} {news : List (Addr × Obj)}
    {pl c r g b : Int} {tp tc : Tok} (hp : 1 ≤ pl ∧ pl ≤ 3) (hc : c = -1 ∨ (0 ≤ c ∧ c < 256) ∨ (16777216 ≤ c ∧ c < 33554432)) (hrgb : 16777216 ≤ c → Rgb c r g b)
    (h1 : ∀ (n : Int) (t : Tok) (l D : Addr) (h' : Heap) (tk' : Nat), One pl c n → (∀ q ∈ news, q.1 < l) → @LT.lt Nat _ l D → Fr h₀ L h' m → News h₀ L h' ((D, lst1 (.ref l) 0) :: (l, lst1 (.int n t) 0) :: news) → Q (.ref D) { s with heap := h', toks := tk' })
    (h3 : ∀ (x : Int) (t1 t2 t3 : Tok) (l1 l2 l3 D : Addr) (h' : Heap) (tk' : Nat), Idx pl c → x = 10 * pl + 28 → (∀ q ∈ news, q.1 < l1) → @LT.lt Nat _ l1 l2 → @LT.lt Nat _ l2 l3 → @LT.lt Nat _ l3 D → Fr h₀ L h' m →
      News h₀ L h' ((D, W.listOf #[.ref l1, .ref l2, .ref l3] 0) :: (l1, lst1 (.int x t1) 0) :: (l2, lst1 (.int 5 t2) 0) :: (l3, lst1 (.int c t3) 0) :: news) → Q (.ref D) { s with heap := h', toks := tk' })
    (h5 : ∀ (x : Int) (t1 t2 t3 t4 t5 : Tok) (l1 l2 l3 l4 l5 D : Addr) (h' : Heap) (tk' : Nat), 16777216 ≤ c → x = 10 * pl + 28 → (∀ q ∈ news, q.1 < l1) → @LT.lt Nat _ l1 l2 → @LT.lt Nat _ l2 l3 → @LT.lt Nat _ l3 l4 → @LT.lt Nat _ l4 l5 → @LT.lt Nat _ l5 D → Fr h₀ L h' m →
      News h₀ L h' ((D, W.listOf #[.ref l1, .ref l2, .ref l3, .ref l4, .ref l5] 0) :: (l1, lst1 (.int x t1) 0) :: (l2, lst1 (.int 2 t2) 0) :: (l3, lst1 (.int r t3) 0) :: (l4, lst1 (.int g t4) 0) :: (l5, lst1 (.int b t5) 0) :: news) → Q (.ref D) { s with heap := h', toks := tk' })
    (S : Site w p loose mean mg mb dp un 2 cs outer A₀ base h₀ L s.heap m news) :
    wpAny (model prog w) (ktrTop dp un gd cn cs L a ccd cl outer) (call (.ref 218) [.int pl tp, .int c tc]) Q E s := by
  obtain ⟨B, F, X, N, T, hk, hd, hu⟩ := S
  have N0 : News h₀ L s.heap [] := News.sub N (by exact fun _ h => nomatch h)
  have kN0 : KeptN h₀ L s.heap [] := N0
  (walk_at "my enter"; intro g9 L9 h9 FG9 F9 N9 B9 X9 T9 kG9; clear N0; (have kU9 := lt_of kG9 F9 N); (try dsimp only); (try k_lift B9); (try k_fold); k_steps)
  all_goals (try ((obtain ⟨q1, q2, q3, q4⟩ := hrgb (by omega)); (have e1 : (c - 16777216).fdiv 65536 = r := by rw [Int.fdiv_eq_ediv_of_nonneg _ (by decide)]; omega); (have e2 : ((c - 16777216).fdiv 256).fmod 256 = g := by rw [Int.fmod_eq_emod_of_nonneg _ (by decide), Int.fdiv_eq_ediv_of_nonneg _ (by decide)]; omega); (have e3 : (c - 16777216).fmod 256 = b := by rw [Int.fmod_eq_emod_of_nonneg _ (by decide)]; omega); rename News g9 _ _ _ => N8; rename News h₀ _ _ _ => N7; rw [e1, e2, e3] at N8 N7))
  all_goals ((rename News g9 _ _ _ => N'); (rename Fr g9 _ _ _ => F'); (rename Fr h₀ _ _ _ => kF); (rename News h₀ _ _ _ => kN))
  all_goals first
    | (refine' h1 _ _ _ _ _ _ ?f1 (fun q hq => Nat.lt_trans (kU9 q hq) ?q1) ?o0 kF (News.one kN ?m0 (News.one kN ?m1 (N.grown (grow_led kG9 kN0 F' N' (fun _ h => nomatch h))))); (case m0 => k_mem); (case m1 => k_mem); (case q1 => omega); (case o0 => omega); (case f1 => (unfold One; (try rw [Int.fmod_eq_emod_of_nonneg _ (by decide)]); omega)))
    | (refine' h3 _ _ _ _ _ _ _ _ _ _ ?f1 ?f2 (fun q hq => Nat.lt_trans (kU9 q hq) ?q1) ?o0 ?o1 ?o2 kF (News.one kN ?m0 (News.one kN ?m1 (News.one kN ?m2 (News.one kN ?m3 (N.grown (grow_led kG9 kN0 F' N' (fun _ h => nomatch h))))))); (case m0 => k_mem); (case m1 => k_mem); (case q1 => omega); (case m2 => k_mem); (case m3 => k_mem); (case o0 => omega); (case o1 => omega); (case o2 => omega); (case f1 => (unfold Idx; omega)); (case f2 => omega))
    | (refine' h5 _ _ _ _ _ _ _ _ _ _ _ _ _ _ ?f1 ?f2 (fun q hq => Nat.lt_trans (kU9 q hq) ?q1) ?o0 ?o1 ?o2 ?o3 ?o4 kF (News.one kN ?m0 (News.one kN ?m1 (News.one kN ?m2 (News.one kN ?m3 (News.one kN ?m4 (News.one kN ?m5 (N.grown (grow_led kG9 kN0 F' N' (fun _ h => nomatch h))))))))); (case m0 => k_mem); (case m1 => k_mem); (case q1 => omega); (case m2 => k_mem); (case m3 => k_mem); (case m4 => k_mem); (case m5 => k_mem); (case o0 => omega); (case o1 => omega); (case o2 => omega); (case o3 => omega); (case o4 => omega); (case f1 => omega); (case f2 => omega))

theorem penw_c {prog : Program} {w : World} {p : Program} {loose : List Str} {mean : ExcName → Option Value} {mg mb : Str → Option Value} {dp un : Nat} {gd : Option (List Code)} {cn : Str} {cs : Scope} {a : Addr} {ccd : Value} {cl : List (Str × Addr)} {outer : List Env} {A₀ : Around} {base h₀ : Heap} {L : Addr} {m : Str → Option Value} {s : Shared} {Q E : Value → Shared → Prop} {news : List (Addr × Obj)}
    {pl x w0 w1 w2 w3 w4 : Int} {tp tx u0 u1 u2 u3 u4 : Tok} {T : Addr} (hp : 1 ≤ pl ∧ pl ≤ 3)
    (hT : (T, tupOf #[.int w0 u0, .int w1 u1, .int w2 u2, .int w3 u3, .int w4 u4]) ∈ news)
    (hS1 : pl = 1 → ∀ (R : Addr) (h' : Heap) (tk' : Nat), LCg.Off1 R news → Fr h₀ L h' m → News h₀ L h' ((R, tupOf #[.int w0 u0, .int x tx, .int w2 u2, .int w3 u3, .int w4 u4]) :: news) → Q (.ref R) { s with heap := h', toks := tk' })
    (hS2 : pl = 2 → ∀ (R : Addr) (h' : Heap) (tk' : Nat), LCg.Off1 R news → Fr h₀ L h' m → News h₀ L h' ((R, tupOf #[.int w0 u0, .int w1 u1, .int x tx, .int w3 u3, .int w4 u4]) :: news) → Q (.ref R) { s with heap := h', toks := tk' })
    (hS3 : pl = 3 → ∀ (R : Addr) (h' : Heap) (tk' : Nat), LCg.Off1 R news → Fr h₀ L h' m → News h₀ L h' ((R, tupOf #[.int w0 u0, .int w1 u1, .int w2 u2, .int x tx, .int w4 u4]) :: news) → Q (.ref R) { s with heap := h', toks := tk' })
    (S : Site w p loose mean mg mb dp un 1 cs outer A₀ base h₀ L s.heap m news) :
    wpAny (model prog w) (ktrTop dp un gd cn cs L a ccd cl outer) (call (.ref 29) [.ref T, .int pl tp, .int x tx]) Q E s := by
  obtain ⟨B, F, X, N, T₀, hk, hd, hu⟩ := S
  have N0 : News h₀ L s.heap [(T, tupOf #[.int w0 u0, .int w1 u1, .int w2 u2, .int w3 u3, .int w4 u4])] := News.sub N (by intro q hq; rw [List.mem_singleton.mp hq]; exact hT)
  have kN0 : KeptN h₀ L s.heap [(T, tupOf #[.int w0 u0, .int w1 u1, .int w2 u2, .int w3 u3, .int w4 u4])] := N0
  have h3 : pl = 1 ∨ pl = 2 ∨ pl = 3 := by omega
  rcases h3 with rfl | rfl | rfl
  all_goals (walk_at "my enter"; intro g9 L9 h9 FG9 F9 N9 B9 X9 T9 kG9; clear N0; (try dsimp only); (try k_lift B9); (try k_fold); k_steps)
  all_goals ((rename News g9 _ _ _ => N'); (rename Fr g9 _ _ _ => F'); (rename Fr h₀ _ _ _ => kF); (rename News h₀ _ _ _ => kN))
  all_goals first
    | (refine' hS1 rfl _ _ _ (off_of kG9 N' ?m0 ?n0 N) kF (News.one kN ?m0 (N.grown (grow_led kG9 kN0 F' N' (by intro q hq; rw [List.mem_singleton.mp hq]; k_mem)))); (case m0 => k_mem); (case n0 => exact notin1 (by omega)))
    | (refine' hS2 rfl _ _ _ (off_of kG9 N' ?m0 ?n0 N) kF (News.one kN ?m0 (N.grown (grow_led kG9 kN0 F' N' (by intro q hq; rw [List.mem_singleton.mp hq]; k_mem)))); (case m0 => k_mem); (case n0 => exact notin1 (by omega)))
    | (refine' hS3 rfl _ _ _ (off_of kG9 N' ?m0 ?n0 N) kF (News.one kN ?m0 (N.grown (grow_led kG9 kN0 F' N' (by intro q hq; rw [List.mem_singleton.mp hq]; k_mem)))); (case m0 => k_mem); (case n0 => exact notin1 (by omega)))

local macro_rules | `(tactic| walk_at "call ref") => `(tactic| (k_here; (with_reducible show wpAny _ _ (call (Value.ref 29) _) _ _ _); k_dflt (refine' penw_c ?hp ?hT (fun e9 R9 h9 tk9 o9 F9 N9 => ?_) (fun e9 R9 h9 tk9 o9 F9 N9 => ?_) (fun e9 R9 h9 tk9 o9 F9 N9 => ?_) ?kS; (case kS => walk_at "my site"); (case hp => omega); (case hT => k_mem)); all_goals (try (exfalso; omega)); all_goals ((try simp only [LCg.Off1, and_true] at o9); (try dsimp only); (try k_fold))))

section
local macro_rules | `(tactic| walk_at "my dec") => `(tactic| first | omega | (simp only [decide_eq_true_eq, beq_iff_eq, bne_iff_ne, Bool.not_eq_true', decide_eq_false_iff_not, beq_eq_false_iff_ne, ne_eq]; omega))
local macro_rules | `(tactic| walk_at "ite") => `(tactic| (k_here; first | (refine ite_pos ?dec ?_; (case dec => walk_at "my dec"); walk_say "PRUNED mine") | (refine ite_neg ?dec ?_; (case dec => walk_at "my dec"); walk_say "PRUNED mine")))

theorem plain_c {prog : Program} {w : World} {p : Program} {loose : List Str} {mean : ExcName → Option Value} {mg mb : Str → Option Value} {dp un : Nat} {gd : Option (List Code)} {cn : Str} {cs : Scope} {a : Addr} {ccd : Value} {cl : List (Str × Addr)} {outer : List Env} {A₀ : Around} {base h₀ : Heap} {L : Addr} {m : Str → Option Value} {s : Shared} {Q E : Value → Shared → Prop} {news : List (Addr × Obj)}
    {pl c n w0 w1 w2 w3 w4 : Int} {tn u0 u1 u2 u3 u4 : Tok} {T : Addr} (hp : 1 ≤ pl ∧ pl ≤ 3) (hn : One pl c n)
    (hT : (T, tupOf #[.int w0 u0, .int w1 u1, .int w2 u2, .int w3 u3, .int w4 u4]) ∈ news)
    (hS1 : pl = 1 → ∀ (x : Int) (t : Tok) (R : Addr) (h' : Heap) (tk' : Nat), x = c → LCg.Off1 R news → Fr h₀ L h' m → News h₀ L h' ((R, tupOf #[.int w0 u0, .int x t, .int w2 u2, .int w3 u3, .int w4 u4]) :: news) → Q (.ref R) { s with heap := h', toks := tk' })
    (hS2 : pl = 2 → ∀ (x : Int) (t : Tok) (R : Addr) (h' : Heap) (tk' : Nat), x = c → LCg.Off1 R news → Fr h₀ L h' m → News h₀ L h' ((R, tupOf #[.int w0 u0, .int w1 u1, .int x t, .int w3 u3, .int w4 u4]) :: news) → Q (.ref R) { s with heap := h', toks := tk' })
    (hS3 : pl = 3 → ∀ (x : Int) (t : Tok) (R : Addr) (h' : Heap) (tk' : Nat), x = c → LCg.Off1 R news → Fr h₀ L h' m → News h₀ L h' ((R, tupOf #[.int w0 u0, .int w1 u1, .int w2 u2, .int x t, .int w4 u4]) :: news) → Q (.ref R) { s with heap := h', toks := tk' })
    (S : Site w p loose mean mg mb dp un 3 cs outer A₀ base h₀ L s.heap m news) :
    wpAny (model prog w) (ktrTop dp un gd cn cs L a ccd cl outer) (call (.ref 72) [.ref T, .int n tn]) Q E s := by
  obtain ⟨B, F, X, N, T₀, hk, hd, hu⟩ := S
  have h7 : (pl = 1 ∧ (c = -1) ∧ n = 39) ∨ (pl = 2 ∧ (c = -1) ∧ n = 49) ∨ (pl = 3 ∧ (c = -1) ∧ n = 59) ∨ (pl = 1 ∧ (0 ≤ c ∧ c < 8) ∧ n = 30 + c) ∨ (pl = 2 ∧ (0 ≤ c ∧ c < 8) ∧ n = 40 + c) ∨ (pl = 1 ∧ (8 ≤ c ∧ c < 16) ∧ n = 82 + c) ∨ (pl = 2 ∧ (8 ≤ c ∧ c < 16) ∧ n = 92 + c) := one7 hp hn
  have N0 : News h₀ L s.heap [(T, tupOf #[.int w0 u0, .int w1 u1, .int w2 u2, .int w3 u3, .int w4 u4])] := News.sub N (by intro q hq; rw [List.mem_singleton.mp hq]; exact hT)
  have kN0 : KeptN h₀ L s.heap [(T, tupOf #[.int w0 u0, .int w1 u1, .int w2 u2, .int w3 u3, .int w4 u4])] := N0
  clear hn hp
  rcases h7 with ⟨rfl, hc, rfl⟩ | ⟨rfl, hc, rfl⟩ | ⟨rfl, hc, rfl⟩ | ⟨rfl, hc, hn⟩ | ⟨rfl, hc, hn⟩ | ⟨rfl, hc, hn⟩ | ⟨rfl, hc, hn⟩
  all_goals (walk_at "my enter"; intro g9 L9 h9 FG9 F9 N9 B9 X9 T9 kG9; clear N0; (try dsimp only); (try k_lift B9); (try k_fold); k_steps)
  all_goals ((rename News g9 _ _ _ => N'); (rename Fr g9 _ _ _ => F'); (rename Fr h₀ _ _ _ => kF); (rename News h₀ _ _ _ => kN))
  all_goals first
    | (refine' hS1 rfl _ _ _ _ _ ?e1 (off_of kG9 N' ?m0 ?n0 N) kF (News.one kN ?m0 (N.grown (grow_led kG9 kN0 F' N' (by intro q hq; rw [List.mem_singleton.mp hq]; k_mem)))); (case m0 => k_mem); (case n0 => walk_at "my notin"); (case e1 => clear kN kF N' F' N kN0; first | exact hc.symm | omega))
    | (refine' hS2 rfl _ _ _ _ _ ?e1 (off_of kG9 N' ?m0 ?n0 N) kF (News.one kN ?m0 (N.grown (grow_led kG9 kN0 F' N' (by intro q hq; rw [List.mem_singleton.mp hq]; k_mem)))); (case m0 => k_mem); (case n0 => walk_at "my notin"); (case e1 => clear kN kF N' F' N kN0; first | exact hc.symm | omega))
    | (refine' hS3 rfl _ _ _ _ _ ?e1 (off_of kG9 N' ?m0 ?n0 N) kF (News.one kN ?m0 (N.grown (grow_led kG9 kN0 F' N' (by intro q hq; rw [List.mem_singleton.mp hq]; k_mem)))); (case m0 => k_mem); (case n0 => walk_at "my notin"); (case e1 => clear kN kF N' F' N kN0; first | exact hc.symm | omega))

end
local macro_rules | `(tactic| walk_at "call ref") => `(tactic| (k_here; (with_reducible show wpAny _ _ (call (Value.ref 72) _) _ _ _); k_dflt (refine' plain_c ?hp ?hn ?hT (fun e9 x9 t9 R9 h9 tk9 hx9 o9 F9 N9 => ?_) (fun e9 x9 t9 R9 h9 tk9 hx9 o9 F9 N9 => ?_) (fun e9 x9 t9 R9 h9 tk9 hx9 o9 F9 N9 => ?_) ?kS; (case kS => walk_at "my site"); (case hp => assumption); (case hn => assumption); (case hT => k_mem)); all_goals ((try simp only [LCg.Off1, and_true] at o9); (try dsimp only); (try k_fold))))

theorem apply_1 {prog : Program} {w : World} {p : Program} {loose : List Str} {mean : ExcName → Option Value} {mg mb : Str → Option Value} {dp un : Nat} {gd : Option (List Code)} {cn : Str} {cs : Scope} {a : Addr} {ccd : Value} {cl : List (Str × Addr)} {outer : List Env} {A₀ : Around} {base h₀ : Heap} {L : Addr} {m : Str → Option Value} {s : Shared} {Q E : Value → Shared → Prop} {news : List (Addr × Obj)}
    {pl c w0 w1 w2 w3 w4 : Int} {u0 u1 u2 u3 u4 : Tok} {T D : Addr} (hp : 1 ≤ pl ∧ pl ≤ 3) {n : Int} {t1 : Tok} {l : Addr} (hn : One pl c n) (hD : (D, lst1 (.ref l) 0) ∈ news) (hl : (l, lst1 (.int n t1) 0) ∈ news) (hlD : @LT.lt Nat _ l D) (hDT : @LT.lt Nat _ D T)
    (hT : (T, tupOf #[.int w0 u0, .int w1 u1, .int w2 u2, .int w3 u3, .int w4 u4]) ∈ news)
    (hS1 : pl = 1 → ∀ (x : Int) (t : Tok) (R : Addr) (h' : Heap) (tk' : Nat), x = c → LCg.Off1 R news → Fr h₀ L h' m → News h₀ L h' ((R, tupOf #[.int w0 u0, .int x t, .int w2 u2, .int w3 u3, .int w4 u4]) :: news) → Q (.ref R) { s with heap := h', toks := tk' })
    (hS2 : pl = 2 → ∀ (x : Int) (t : Tok) (R : Addr) (h' : Heap) (tk' : Nat), x = c → LCg.Off1 R news → Fr h₀ L h' m → News h₀ L h' ((R, tupOf #[.int w0 u0, .int w1 u1, .int x t, .int w3 u3, .int w4 u4]) :: news) → Q (.ref R) { s with heap := h', toks := tk' })
    (hS3 : pl = 3 → ∀ (x : Int) (t : Tok) (R : Addr) (h' : Heap) (tk' : Nat), x = c → LCg.Off1 R news → Fr h₀ L h' m → News h₀ L h' ((R, tupOf #[.int w0 u0, .int w1 u1, .int w2 u2, .int x t, .int w4 u4]) :: news) → Q (.ref R) { s with heap := h', toks := tk' })
    (S : Site w p loose mean mg mb dp un 5 cs outer A₀ base h₀ L s.heap m news) :
    wpAny (model prog w) (ktrTop dp un gd cn cs L a ccd cl outer) (call (.ref 96) [.ref T, .ref D]) Q E s := by
  obtain ⟨B, F, X, N, T₀, hk, hd, hu⟩ := S
  have hne := one_ne hp hn
  have hsub : ∀ q ∈ [(T, tupOf #[.int w0 u0, .int w1 u1, .int w2 u2, .int w3 u3, .int w4 u4]), (D, lst1 (.ref l) 0), (l, lst1 (.int n t1) 0)], q ∈ news := by
    intro q hq
    simp only [List.mem_cons, List.not_mem_nil, or_false] at hq
    rcases hq with rfl | rfl | rfl <;> assumption
  have N0 : News h₀ L s.heap [(T, tupOf #[.int w0 u0, .int w1 u1, .int w2 u2, .int w3 u3, .int w4 u4]), (D, lst1 (.ref l) 0), (l, lst1 (.int n t1) 0)] := News.sub N hsub
  have kN0 : KeptN h₀ L s.heap [(T, tupOf #[.int w0 u0, .int w1 u1, .int w2 u2, .int w3 u3, .int w4 u4]), (D, lst1 (.ref l) 0), (l, lst1 (.int n t1) 0)] := N0
  (walk_at "my enter"; intro g9 L9 h9 FG9 F9 N9 B9 X9 T9 kG9; clear N0; (try dsimp only); (try k_lift B9); (try k_fold); k_steps)
  all_goals ((rename News g9 _ _ _ => N'); (rename Fr g9 _ _ _ => F'); (rename Fr h₀ _ _ _ => kF); (rename News h₀ _ _ _ => kN))
  all_goals first
    | (refine' hS1 ?e0 _ _ _ _ _ ?e1 (off_of kG9 N' ?m0 ?n0 N) kF (News.one kN ?m0 (N.grown (grow_led kG9 kN0 F' N' ?g0))); (case m0 => k_mem); (case n0 => walk_at "my notin"); (case g0 => walk_at "my led"); (case e0 => first | assumption | omega); (case e1 => first | assumption | exact rfl))
    | (refine' hS2 ?e0 _ _ _ _ _ ?e1 (off_of kG9 N' ?m0 ?n0 N) kF (News.one kN ?m0 (N.grown (grow_led kG9 kN0 F' N' ?g0))); (case m0 => k_mem); (case n0 => walk_at "my notin"); (case g0 => walk_at "my led"); (case e0 => first | assumption | omega); (case e1 => first | assumption | exact rfl))
    | (refine' hS3 ?e0 _ _ _ _ _ ?e1 (off_of kG9 N' ?m0 ?n0 N) kF (News.one kN ?m0 (N.grown (grow_led kG9 kN0 F' N' ?g0))); (case m0 => k_mem); (case n0 => walk_at "my notin"); (case g0 => walk_at "my led"); (case e0 => first | assumption | omega); (case e1 => first | assumption | exact rfl))

theorem pcol_i1 {prog : Program} {w : World} {p : Program} {loose : List Str} {mean : ExcName → Option Value} {mg mb : Str → Option Value} {dp un : Nat} {gd : Option (List Code)} {cn : Str} {cs : Scope} {a : Addr} {ccd : Value} {cl : List (Str × Addr)} {outer : List Env} {A₀ : Around} {base h₀ : Heap} {L : Addr} {m : Str → Option Value} {s : Shared} {Q E : Value → Shared → Prop} {news : List (Addr × Obj)}
    {c : Int} {t1 tk : Tok} {D : Addr} {nl : Nat} (hc : 0 ≤ c ∧ c < 256) (hm : (D, W.listOf #[.int c t1] nl) ∈ news)
    (h : ∀ v t h' tk', v = c → Fr h₀ L h' m → News h₀ L h' news → Q (.int v t) { s with heap := h', toks := tk' })
    (S : Site w p loose mean mg mb dp un 2 cs outer A₀ base h₀ L s.heap m news) :
    wpAny (model prog w) (ktrTop dp un gd cn cs L a ccd cl outer) (call (.ref 77) [.int 5 tk, .ref D]) Q E s := by
  have e : pcolV 5 [c] = some c := by
    unfold pcolV
    exact if_pos ⟨rfl, Nat.le_refl _, by show c ≤ 255; omega⟩
  exact pcol_1 (o1 := some c) (t1 := t1) (nl := nl) (D := D) ⟨by decide, by decide⟩ ⟨hc.1, by show c ≤ 256; omega⟩ hm (fun z => by rw [show ((some c).getD 0) = c from rfl, e] at z; cases z)
    (fun v t z h' tk' F N => h v t h' tk' (by rw [show ((some c).getD 0) = c from rfl, e] at z; exact (Option.some.inj z).symm) F N) S
theorem pcol_i3 {prog : Program} {w : World} {p : Program} {loose : List Str} {mean : ExcName → Option Value} {mg mb : Str → Option Value} {dp un : Nat} {gd : Option (List Code)} {cn : Str} {cs : Scope} {a : Addr} {ccd : Value} {cl : List (Str × Addr)} {outer : List Env} {A₀ : Around} {base h₀ : Heap} {L : Addr} {m : Str → Option Value} {s : Shared} {Q E : Value → Shared → Prop} {news : List (Addr × Obj)}
    {c r g b : Int} {t1 t2 t3 tk : Tok} {D : Addr} {nl : Nat} (hc : Rgb c r g b) (hm : (D, W.listOf #[.int r t1, .int g t2, .int b t3] nl) ∈ news)
    (h : ∀ v t h' tk', v = c → Fr h₀ L h' m → News h₀ L h' news → Q (.int v t) { s with heap := h', toks := tk' })
    (S : Site w p loose mean mg mb dp un 2 cs outer A₀ base h₀ L s.heap m news) :
    wpAny (model prog w) (ktrTop dp un gd cn cs L a ccd cl outer) (call (.ref 77) [.int 2 tk, .ref D]) Q E s := by
  obtain ⟨h0, h1, h2, h3⟩ := hc
  have e : pcolV 2 [r, g, b] = some c := by
    unfold pcolV
    rw [if_neg (by omega), if_pos ⟨rfl, Nat.le_refl _, by show r ≤ 255; omega, by show g ≤ 255; omega, by show b ≤ 255; omega⟩]
    exact congrArg some (by show 16777216 + (65536 * r + 256 * g + b) = c; omega)
  exact pcol_3 (o1 := some r) (t1 := t1) (o2 := some g) (t2 := t2) (o3 := some b) (t3 := t3) (nl := nl) (D := D) ⟨by decide, by decide⟩ ⟨h1.1, by show r ≤ 256; omega⟩ ⟨h2.1, by show g ≤ 256; omega⟩ ⟨h3.1, by show b ≤ 256; omega⟩ hm
    (fun z => by rw [show pcolV 2 [(some r).getD 0, (some g).getD 0, (some b).getD 0] = pcolV 2 [r, g, b] from rfl, e] at z; cases z)
    (fun v t z h' tk' F N => h v t h' tk' (by rw [show pcolV 2 [(some r).getD 0, (some g).getD 0, (some b).getD 0] = pcolV 2 [r, g, b] from rfl, e] at z; exact (Option.some.inj z).symm) F N) S

local macro_rules | `(tactic| walk_at "call ref") => `(tactic| (k_here; (with_reducible show wpAny _ _ (call (Value.ref 77) _) _ _ _); k_dflt (first
  | (refine' pcol_i1 ?hc ?hm (fun v9 t9 h9 tk9 hv9 F9 N9 => ?_) ?kS; (case kS => walk_at "my site"); (case hm => k_mem); (case hc => assumption))
  | (refine' pcol_i3 ?hc ?hm (fun v9 t9 h9 tk9 hv9 F9 N9 => ?_) ?kS; (case kS => walk_at "my site"); (case hm => k_mem); (case hc => assumption))); (try dsimp only); (try k_fold)))

theorem apply_3 {prog : Program} {w : World} {p : Program} {loose : List Str} {mean : ExcName → Option Value} {mg mb : Str → Option Value} {dp un : Nat} {gd : Option (List Code)} {cn : Str} {cs : Scope} {a : Addr} {ccd : Value} {cl : List (Str × Addr)} {outer : List Env} {A₀ : Around} {base h₀ : Heap} {L : Addr} {m : Str → Option Value} {s : Shared} {Q E : Value → Shared → Prop} {news : List (Addr × Obj)}
    {pl c w0 w1 w2 w3 w4 : Int} {u0 u1 u2 u3 u4 : Tok} {T D : Addr} (hp : 1 ≤ pl ∧ pl ≤ 3) {n : Int} (hn : n = 10 * pl + 28) (hc : 0 ≤ c ∧ c < 256) {l1 l2 l3 : Addr} {t1 t2 t3 : Tok} (hD : (D, W.listOf #[.ref l1, .ref l2, .ref l3] 0) ∈ news) (hl1 : (l1, lst1 (.int n t1) 0) ∈ news) (hl2 : (l2, lst1 (.int 5 t2) 0) ∈ news) (hl3 : (l3, lst1 (.int c t3) 0) ∈ news) (hl1l2 : @LT.lt Nat _ l1 l2) (hl2l3 : @LT.lt Nat _ l2 l3) (hl3D : @LT.lt Nat _ l3 D) (hDT : @LT.lt Nat _ D T)
    (hT : (T, tupOf #[.int w0 u0, .int w1 u1, .int w2 u2, .int w3 u3, .int w4 u4]) ∈ news)
    (hS1 : pl = 1 → ∀ (x : Int) (t : Tok) (R : Addr) (h' : Heap) (tk' : Nat), x = c → LCg.Off1 R news → Fr h₀ L h' m → News h₀ L h' ((R, tupOf #[.int w0 u0, .int x t, .int w2 u2, .int w3 u3, .int w4 u4]) :: news) → Q (.ref R) { s with heap := h', toks := tk' })
    (hS2 : pl = 2 → ∀ (x : Int) (t : Tok) (R : Addr) (h' : Heap) (tk' : Nat), x = c → LCg.Off1 R news → Fr h₀ L h' m → News h₀ L h' ((R, tupOf #[.int w0 u0, .int w1 u1, .int x t, .int w3 u3, .int w4 u4]) :: news) → Q (.ref R) { s with heap := h', toks := tk' })
    (hS3 : pl = 3 → ∀ (x : Int) (t : Tok) (R : Addr) (h' : Heap) (tk' : Nat), x = c → LCg.Off1 R news → Fr h₀ L h' m → News h₀ L h' ((R, tupOf #[.int w0 u0, .int w1 u1, .int w2 u2, .int x t, .int w4 u4]) :: news) → Q (.ref R) { s with heap := h', toks := tk' })
    (S : Site w p loose mean mg mb dp un 5 cs outer A₀ base h₀ L s.heap m news) :
    wpAny (model prog w) (ktrTop dp un gd cn cs L a ccd cl outer) (call (.ref 96) [.ref T, .ref D]) Q E s := by
  obtain ⟨B, F, X, N, T₀, hk, hd, hu⟩ := S
  have hsub : ∀ q ∈ [(T, tupOf #[.int w0 u0, .int w1 u1, .int w2 u2, .int w3 u3, .int w4 u4]), (D, W.listOf #[.ref l1, .ref l2, .ref l3] 0), (l1, lst1 (.int n t1) 0), (l2, lst1 (.int 5 t2) 0), (l3, lst1 (.int c t3) 0)], q ∈ news := by
    intro q hq
    simp only [List.mem_cons, List.not_mem_nil, or_false] at hq
    rcases hq with rfl | rfl | rfl | rfl | rfl <;> assumption
  have N0 : News h₀ L s.heap [(T, tupOf #[.int w0 u0, .int w1 u1, .int w2 u2, .int w3 u3, .int w4 u4]), (D, W.listOf #[.ref l1, .ref l2, .ref l3] 0), (l1, lst1 (.int n t1) 0), (l2, lst1 (.int 5 t2) 0), (l3, lst1 (.int c t3) 0)] := News.sub N hsub
  have kN0 : KeptN h₀ L s.heap [(T, tupOf #[.int w0 u0, .int w1 u1, .int w2 u2, .int w3 u3, .int w4 u4]), (D, W.listOf #[.ref l1, .ref l2, .ref l3] 0), (l1, lst1 (.int n t1) 0), (l2, lst1 (.int 5 t2) 0), (l3, lst1 (.int c t3) 0)] := N0
  (walk_at "my enter"; intro g9 L9 h9 FG9 F9 N9 B9 X9 T9 kG9; clear N0; (try dsimp only); (try k_lift B9); (try k_fold); k_steps)
  all_goals ((rename News g9 _ _ _ => N'); (rename Fr g9 _ _ _ => F'); (rename Fr h₀ _ _ _ => kF); (rename News h₀ _ _ _ => kN))
  all_goals first
    | (refine' hS1 ?e0 _ _ _ _ _ ?e1 (off_of kG9 N' ?m0 ?n0 N) kF (News.one kN ?m0 (N.grown (grow_led kG9 kN0 F' N' ?g0))); (case m0 => k_mem); (case n0 => walk_at "my notin"); (case g0 => walk_at "my led"); (case e0 => first | assumption | omega); (case e1 => first | assumption | exact rfl))
    | (refine' hS2 ?e0 _ _ _ _ _ ?e1 (off_of kG9 N' ?m0 ?n0 N) kF (News.one kN ?m0 (N.grown (grow_led kG9 kN0 F' N' ?g0))); (case m0 => k_mem); (case n0 => walk_at "my notin"); (case g0 => walk_at "my led"); (case e0 => first | assumption | omega); (case e1 => first | assumption | exact rfl))
    | (refine' hS3 ?e0 _ _ _ _ _ ?e1 (off_of kG9 N' ?m0 ?n0 N) kF (News.one kN ?m0 (N.grown (grow_led kG9 kN0 F' N' ?g0))); (case m0 => k_mem); (case n0 => walk_at "my notin"); (case g0 => walk_at "my led"); (case e0 => first | assumption | omega); (case e1 => first | assumption | exact rfl))

theorem apply_5 {prog : Program} {w : World} {p : Program} {loose : List Str} {mean : ExcName → Option Value} {mg mb : Str → Option Value} {dp un : Nat} {gd : Option (List Code)} {cn : Str} {cs : Scope} {a : Addr} {ccd : Value} {cl : List (Str × Addr)} {outer : List Env} {A₀ : Around} {base h₀ : Heap} {L : Addr} {m : Str → Option Value} {s : Shared} {Q E : Value → Shared → Prop} {news : List (Addr × Obj)}
    {pl c w0 w1 w2 w3 w4 : Int} {u0 u1 u2 u3 u4 : Tok} {T D : Addr} (hp : 1 ≤ pl ∧ pl ≤ 3) {n r g b : Int} (hn : n = 10 * pl + 28) (hc : Rgb c r g b) {l1 l2 l3 l4 l5 : Addr} {t1 t2 t3 t4 t5 : Tok} (hD : (D, W.listOf #[.ref l1, .ref l2, .ref l3, .ref l4, .ref l5] 0) ∈ news) (hl1 : (l1, lst1 (.int n t1) 0) ∈ news) (hl2 : (l2, lst1 (.int 2 t2) 0) ∈ news) (hl3 : (l3, lst1 (.int r t3) 0) ∈ news) (hl4 : (l4, lst1 (.int g t4) 0) ∈ news) (hl5 : (l5, lst1 (.int b t5) 0) ∈ news) (hl1l2 : @LT.lt Nat _ l1 l2) (hl2l3 : @LT.lt Nat _ l2 l3) (hl3l4 : @LT.lt Nat _ l3 l4) (hl4l5 : @LT.lt Nat _ l4 l5) (hl5D : @LT.lt Nat _ l5 D) (hDT : @LT.lt Nat _ D T)
    (hT : (T, tupOf #[.int w0 u0, .int w1 u1, .int w2 u2, .int w3 u3, .int w4 u4]) ∈ news)
    (hS1 : pl = 1 → ∀ (x : Int) (t : Tok) (R : Addr) (h' : Heap) (tk' : Nat), x = c → LCg.Off1 R news → Fr h₀ L h' m → News h₀ L h' ((R, tupOf #[.int w0 u0, .int x t, .int w2 u2, .int w3 u3, .int w4 u4]) :: news) → Q (.ref R) { s with heap := h', toks := tk' })
    (hS2 : pl = 2 → ∀ (x : Int) (t : Tok) (R : Addr) (h' : Heap) (tk' : Nat), x = c → LCg.Off1 R news → Fr h₀ L h' m → News h₀ L h' ((R, tupOf #[.int w0 u0, .int w1 u1, .int x t, .int w3 u3, .int w4 u4]) :: news) → Q (.ref R) { s with heap := h', toks := tk' })
    (hS3 : pl = 3 → ∀ (x : Int) (t : Tok) (R : Addr) (h' : Heap) (tk' : Nat), x = c → LCg.Off1 R news → Fr h₀ L h' m → News h₀ L h' ((R, tupOf #[.int w0 u0, .int w1 u1, .int w2 u2, .int x t, .int w4 u4]) :: news) → Q (.ref R) { s with heap := h', toks := tk' })
    (S : Site w p loose mean mg mb dp un 5 cs outer A₀ base h₀ L s.heap m news) :
    wpAny (model prog w) (ktrTop dp un gd cn cs L a ccd cl outer) (call (.ref 96) [.ref T, .ref D]) Q E s := by
  obtain ⟨B, F, X, N, T₀, hk, hd, hu⟩ := S
  have hsub : ∀ q ∈ [(T, tupOf #[.int w0 u0, .int w1 u1, .int w2 u2, .int w3 u3, .int w4 u4]), (D, W.listOf #[.ref l1, .ref l2, .ref l3, .ref l4, .ref l5] 0), (l1, lst1 (.int n t1) 0), (l2, lst1 (.int 2 t2) 0), (l3, lst1 (.int r t3) 0), (l4, lst1 (.int g t4) 0), (l5, lst1 (.int b t5) 0)], q ∈ news := by
    intro q hq
    simp only [List.mem_cons, List.not_mem_nil, or_false] at hq
    rcases hq with rfl | rfl | rfl | rfl | rfl | rfl | rfl <;> assumption
  have N0 : News h₀ L s.heap [(T, tupOf #[.int w0 u0, .int w1 u1, .int w2 u2, .int w3 u3, .int w4 u4]), (D, W.listOf #[.ref l1, .ref l2, .ref l3, .ref l4, .ref l5] 0), (l1, lst1 (.int n t1) 0), (l2, lst1 (.int 2 t2) 0), (l3, lst1 (.int r t3) 0), (l4, lst1 (.int g t4) 0), (l5, lst1 (.int b t5) 0)] := News.sub N hsub
  have kN0 : KeptN h₀ L s.heap [(T, tupOf #[.int w0 u0, .int w1 u1, .int w2 u2, .int w3 u3, .int w4 u4]), (D, W.listOf #[.ref l1, .ref l2, .ref l3, .ref l4, .ref l5] 0), (l1, lst1 (.int n t1) 0), (l2, lst1 (.int 2 t2) 0), (l3, lst1 (.int r t3) 0), (l4, lst1 (.int g t4) 0), (l5, lst1 (.int b t5) 0)] := N0
  (walk_at "my enter"; intro g9 L9 h9 FG9 F9 N9 B9 X9 T9 kG9; clear N0; (try dsimp only); (try k_lift B9); (try k_fold); k_steps)
  all_goals ((rename News g9 _ _ _ => N'); (rename Fr g9 _ _ _ => F'); (rename Fr h₀ _ _ _ => kF); (rename News h₀ _ _ _ => kN))
  all_goals first
    | (refine' hS1 ?e0 _ _ _ _ _ ?e1 (off_of kG9 N' ?m0 ?n0 N) kF (News.one kN ?m0 (N.grown (grow_led kG9 kN0 F' N' ?g0))); (case m0 => k_mem); (case n0 => walk_at "my notin"); (case g0 => walk_at "my led"); (case e0 => first | assumption | omega); (case e1 => first | assumption | exact rfl))
    | (refine' hS2 ?e0 _ _ _ _ _ ?e1 (off_of kG9 N' ?m0 ?n0 N) kF (News.one kN ?m0 (N.grown (grow_led kG9 kN0 F' N' ?g0))); (case m0 => k_mem); (case n0 => walk_at "my notin"); (case g0 => walk_at "my led"); (case e0 => first | assumption | omega); (case e1 => first | assumption | exact rfl))
    | (refine' hS3 ?e0 _ _ _ _ _ ?e1 (off_of kG9 N' ?m0 ?n0 N) kF (News.one kN ?m0 (N.grown (grow_led kG9 kN0 F' N' ?g0))); (case m0 => k_mem); (case n0 => walk_at "my notin"); (case g0 => walk_at "my led"); (case e0 => first | assumption | omega); (case e1 => first | assumption | exact rfl))

/-- a colour that the law draws -/
def C3 (c : Int) : Prop := c = -1 ∨ (0 ≤ c ∧ c < 256) ∨ (16777216 ≤ c ∧ c < 33554432)
section
variable {prog : Program} {w : World} {A : Around} {E : Value → Shared → Prop} {s : Shared} {value slice : Expr} {k : Int} {u : Tok} {Q : Value → Shared → Prop}
theorem menu_place {t : Addr} {t1 t2 t3 : Tok} (ht : IsTup s.heap t #[.int 1 t1, .int 2 t2, .int 3 t3]) (h0 : 0 ≤ k) (h1 : k < 3) (h : ∀ pl t, 1 ≤ pl ∧ pl ≤ 3 → Q (.int pl t) s)
    (hs : subscripted slice false (.ref t) (.int k u) = operate [.ref t, .int k u] (getItem (.ref t) (.int k u)) := by with_unfolding_all rfl) :
    wpAny (model prog w) A (subscriptTail value slice (.ref t) (.int k u)) Q E s := by
  refine tup_any (l := [.int 1 t1, .int 2 t2, .int 3 t3]) ht h0 (by simpa using h1) (by simp) (fun x hx => ?_) hs
  obtain ⟨n, hn⟩ : ∃ n : Nat, k.toNat = n := ⟨_, rfl⟩
  have hn5 : n < 3 := by omega
  rw [hn] at hx
  have : n = 0 ∨ n = 1 ∨ n = 2 := by omega
  rcases this with rfl | rfl | rfl <;> cases hx <;> exact h _ _ (by decide)
theorem rgb_all {c : Int} (h : C3 c) : ∃ r g b : Int, 16777216 ≤ c → Rgb c r g b := by
  refine ⟨(c - 16777216) / 65536, (c - 16777216) / 256 % 256, c % 256, fun hc => ?_⟩
  have h2 : c < 33554432 := by
    rcases h with h | h | h <;> omega
  refine ⟨?_, ⟨?_, ?_⟩, ⟨?_, ?_⟩, ⟨?_, ?_⟩⟩ <;> omega
theorem menu_colour {t : Addr} {t1 t2 t3 t4 : Tok} {c1 c2 c3 c4 : Int} (ht : IsTup s.heap t #[.int c1 t1, .int c2 t2, .int c3 t3, .int c4 t4]) (h0 : 0 ≤ k) (h1 : k < 4) (e1 : C3 c1) (e2 : C3 c2) (e3 : C3 c3) (e4 : C3 c4)
    (h : ∀ c t r g b, C3 c → (16777216 ≤ c → Rgb c r g b) → Q (.int c t) s)
    (hs : subscripted slice false (.ref t) (.int k u) = operate [.ref t, .int k u] (getItem (.ref t) (.int k u)) := by with_unfolding_all rfl) :
    wpAny (model prog w) A (subscriptTail value slice (.ref t) (.int k u)) Q E s := by
  have h' : ∀ c t, C3 c → Q (.int c t) s := fun c t hc => by
    obtain ⟨r, g, b, hr⟩ := rgb_all hc
    exact h c t r g b hc hr
  refine tup_any (l := [.int c1 t1, .int c2 t2, .int c3 t3, .int c4 t4]) ht h0 (by simpa using h1) (by simp) (fun x hx => ?_) hs
  obtain ⟨n, hn⟩ : ∃ n : Nat, k.toNat = n := ⟨_, rfl⟩
  have hn5 : n < 4 := by omega
  rw [hn] at hx
  have : n = 0 ∨ n = 1 ∨ n = 2 ∨ n = 3 := by omega
  rcases this with rfl | rfl | rfl | rfl <;> cases hx <;> exact h' _ _ (by assumption)
end
theorem C3.low {c : Int} (h : 0 ≤ c) (h' : c < 256) : C3 c := .inr (.inl ⟨h, h'⟩)
theorem C3.none : C3 (-1) := .inl rfl
theorem C3.dir {c : Int} (h : 0 ≤ c) (h' : c < 16777216) : C3 (16777216 + c) := .inr (.inr ⟨by omega, by omega⟩)
theorem one_eq {pl c n n' : Int} (h : One pl c n) (h' : One pl c n') : n' = n := by unfold One at h h'; omega
theorem one_idx {pl c n : Int} (h : One pl c n) (h' : Idx pl c) : False := by unfold One Idx at *; omega
theorem one_dir {pl c n : Int} (h : One pl c n) (h' : 16777216 ≤ c) : False := by unfold One at *; omega
theorem idx_dir {pl c : Int} (h : Idx pl c) (h' : 16777216 ≤ c) : False := by unfold Idx at *; omega
theorem idx_bnd {pl c : Int} (h : Idx pl c) : 0 ≤ c ∧ c < 256 := ⟨h.1, h.2.1⟩
theorem eq_trueH {prog : Program} {w : World} {A : Around} {E : Value → Shared → Prop} {s : Shared} {Q : Value → Shared → Prop} {a b : Value} {da db : PyData} {as bs : List Addr} (ra : Reads s.heap a da as) (rb : Reads s.heap b db bs) (ha : SeqAt.shaped da = true) (hb : SeqAt.shaped db = true) (hu : A.units + 64 < cLine)
    (hv : PyData.eqv da db = true) (h : Q (.bool true) s) : wpAny (model prog w) A (compareOp .Eq a b) Q E s :=
  eq_dataH ra rb ha hb hu (by rw [hv]; exact h)

end
section
local macro_rules | `(tactic| walk_at "call ref") => `(tactic| (k_here; (with_reducible show wpAny _ _ (call (Value.ref 187) _) _ _ _); k_dflt (refine' draw_c ?P1 ?P2 ?hI ?h1 ?h2 ?h3 ?h4 ?h5 ?h6 ?h7 (fun k9 v9 t9 u9 h9 tk9 hk9 lo9 hi9 dv9 F9 N9 => ?_) ?kS; (case kS => walk_at "my site"); (case P1 => walk_at "my pull"); (case P2 => walk_at "my pull"); (case hI => l_ints); (case h1 => first | assumption | omega); (case h2 => omega); (case h3 => omega); (case h4 => walk_at "my pow"); (case h5 => walk_at "my pow"); (case h6 => omega); (case h7 => walk_at "my off")); subst hk9; clear dv9; (try simp only [Int.reduceToNat, Int.reducePow] at hi9); (try dsimp only); (try k_fold)))
local macro_rules | `(tactic| walk_at "call ref") => `(tactic| (k_here; (with_reducible show wpAny _ _ (call (Value.ref 103) _) _ _ _); k_dflt (refine' sgr_c ?hp ?hc ?hr (fun n9 t9 l9 D9 h9 tk9 q9 lt9 c9 F9 N9 => ?_) (fun x9 t9 u9 v9 l9 a9 b9 D9 h9 tk9 q9 e9 lt9 c9 d9 f9 F9 N9 => ?_) (fun x9 t9 u9 v9 w9 y9 l9 a9 b9 m9 n9 D9 h9 tk9 q9 e9 lt9 c9 d9 f9 g9 i9 F9 N9 => ?_) ?kS; (case kS => walk_at "my site"); (case hp => assumption); (case hc => assumption); (case hr => assumption)); all_goals ((try subst e9); (try k_lt lt9); (try dsimp only); (try k_fold))))
local macro_rules | `(tactic| walk_at "call ref") => `(tactic| (k_here; (with_reducible show wpAny _ _ (call (Value.ref 218) _) _ _ _); k_dflt ((try (rename One _ _ _ => q8)); refine' lpar_c ?hp ?hc ?hr (fun n9 t9 l9 D9 h9 tk9 q9 lt9 c9 F9 N9 => ?_) (fun x9 t9 u9 v9 l9 a9 b9 D9 h9 tk9 q9 e9 lt9 c9 d9 f9 F9 N9 => ?_) (fun x9 t9 u9 v9 w9 y9 l9 a9 b9 m9 n9 D9 h9 tk9 q9 e9 lt9 c9 d9 f9 g9 i9 F9 N9 => ?_) ?kS; (case kS => walk_at "my site"); (case hp => first | assumption | decide); (case hc => assumption); (case hr => assumption)); all_goals (try (exfalso; first | exact one_idx (by assumption) (by assumption) | exact one_dir (by assumption) (by assumption) | exact idx_dir (by assumption) (by assumption))); all_goals ((try (have e7 := one_eq q8 q9; subst e7)); (try subst e9); (try k_lt lt9); (try dsimp only); (try k_fold))))
local macro_rules | `(tactic| walk_at "call ref") => `(tactic| (k_here; (with_reducible show wpAny _ _ (call (Value.ref 96) _) _ _ _); k_dflt (first | (refine' apply_1 ?hp ?hn ?hD ?hl ?h1 ?h2 ?hT (fun e9 x9 t9 R9 h9 tk9 hx9 o9 F9 N9 => ?_) (fun e9 x9 t9 R9 h9 tk9 hx9 o9 F9 N9 => ?_) (fun e9 x9 t9 R9 h9 tk9 hx9 o9 F9 N9 => ?_) ?kS; (case kS => walk_at "my site"); (case hn => assumption); (case hp => first | assumption | decide); (case hD => k_mem); (case hl => k_mem); (case hT => k_mem); (case h1 => omega); (case h2 => omega)) | (refine' apply_3 ?hp ?hn ?hc ?hD ?l1 ?l2 ?l3 ?h1 ?h2 ?h3 ?h4 ?hT (fun e9 x9 t9 R9 h9 tk9 hx9 o9 F9 N9 => ?_) (fun e9 x9 t9 R9 h9 tk9 hx9 o9 F9 N9 => ?_) (fun e9 x9 t9 R9 h9 tk9 hx9 o9 F9 N9 => ?_) ?kS; (case kS => walk_at "my site"); (case hD => k_mem); (case l1 => k_mem); (case l2 => k_mem); (case l3 => k_mem); (case hn => exact rfl); (case hc => exact idx_bnd (by assumption)); (case hp => first | assumption | decide); (case hT => k_mem); (case h1 => omega); (case h2 => omega); (case h3 => omega); (case h4 => omega)) | ((rename _ → Rgb _ _ _ _ => hr8); refine' apply_5 ?hp ?hn (hr8 ?hc) ?hD ?l1 ?l2 ?l3 ?l4 ?l5 ?h1 ?h2 ?h3 ?h4 ?h5 ?h6 ?hT (fun e9 x9 t9 R9 h9 tk9 hx9 o9 F9 N9 => ?_) (fun e9 x9 t9 R9 h9 tk9 hx9 o9 F9 N9 => ?_) (fun e9 x9 t9 R9 h9 tk9 hx9 o9 F9 N9 => ?_) ?kS; (case kS => walk_at "my site"); (case hD => k_mem); (case l1 => k_mem); (case l2 => k_mem); (case l3 => k_mem); (case l4 => k_mem); (case l5 => k_mem); (case hn => exact rfl); (case hc => assumption); (case hp => first | assumption | decide); (case hT => k_mem); (case h1 => omega); (case h2 => omega); (case h3 => omega); (case h4 => omega); (case h5 => omega); (case h6 => omega))); all_goals (try (exact absurd e9 (by decide))); all_goals ((try subst e9); subst hx9; (try simp only [LCg.Off1, and_true] at o9); (try dsimp only); (try k_fold))))
local macro_rules | `(tactic| walk_at "subscriptTail") => `(tactic| (k_here; (with_reducible show wpAny _ _ (subscriptTail _ _ (Value.ref _) (Value.int _ _)) _ _ _); k_dflt (first | (refine' menu_place ?t ?a ?b (fun v9 t9 hv9 => ?_); (case t => exact News.isTup (by k_asm) (by k_mem)); (case a => omega); (case b => omega)) | (refine' menu_colour ?t ?a ?b ?e1 ?e2 ?e3 ?e4 (fun v9 t9 r9 g9 b9 hv9 hr9 => ?_); (case t => exact News.isTup (by k_asm) (by k_mem)); (case a => omega); (case b => omega); (case e1 => exact C3.none); (case e2 => exact C3.low (by omega) (by omega)); (case e3 => exact C3.low (by omega) (by omega)); (case e4 => exact C3.dir (by omega) (by omega))))))
local macro_rules | `(tactic| walk_at "compareOp Eq ref ref") => `(tactic| (k_here; k_dflt ((refine' eq_trueH ?e1 ?e2 ?e3 ?e4 ?e5 ?e6 ?_); (case e1 => ked_read); (case e2 => ked_read); (case e3 => ked_shaped); (case e4 => ked_shaped); (case e5 => ktr_units); (case e6 => simp [PyData.eqv, PyData.eqvAll]))))

theorem place_c {prog : Program} {w : World} {p : Program} {loose : List Str} {mean : ExcName → Option Value} {mg mb : Str → Option Value} {dp un : Nat} {gd : Option (List Code)} {cn : Str} {cs : Scope} {a : Addr} {ccd : Value} {cl : List (Str × Addr)} {outer : List Env} {A₀ : Around} {base h₀ : Heap} {L : Addr} {m : Str → Option Value} {s : Shared} {Q E : Value → Shared → Prop} {news : List (Addr × Obj)}
    {pa b : Addr} {k : Int} {t : Tok} {n nb : Nat} {vs : List Value} {ns : List Int} {n1 rest : List (Addr × Obj)}
    (P1 : Pull (pa, W.listOf #[.ref b, .int k t] n) news n1) (P2 : Pull (b, W.listOf vs.toArray nb) n1 rest) (hI : IntsAre vs ns) (hlen : ns.length ≤ 63) (hk0 : 0 ≤ k) (hk1 : k ≤ 80000) (hpb : @Ne Nat pa b) (hne : LCg.Off1 pa rest)
    
    (hS : ∀ k' t' h' tk', k ≤ k' → k' ≤ k + 6 → Fr h₀ L h' m → News h₀ L h' ((pa, W.listOf #[.ref b, .int k' t'] n) :: (b, W.listOf vs.toArray nb) :: rest) → Q (.bool true) { s with heap := h', toks := tk' })
    (S : Site w p loose mean mg mb dp un 12 cs outer A₀ base h₀ L s.heap m news) :
    wpAny (model prog w) (ktrTop dp un gd cn cs L a ccd cl outer) (call (.ref 225) [.ref pa]) Q E s := by
  obtain ⟨B, F, X, N, T, hk, hd, hu⟩ := S
  have N0 : News h₀ L s.heap [(pa, W.listOf #[.ref b, .int k t] n), (b, W.listOf vs.toArray nb)] := fun q hq => N q (by
    rcases List.mem_cons.mp hq with rfl | hq
    · exact P1.mem _ (List.mem_cons_self ..)
    · rw [List.mem_singleton.mp hq]; exact P1.mem _ (List.mem_cons_of_mem _ (P2.mem _ (List.mem_cons_self ..))))
  have kN0 : KeptN h₀ L s.heap [(pa, W.listOf #[.ref b, .int k t] n), (b, W.listOf vs.toArray nb)] := N0
  (walk_at "my enter"; intro g9 L9 h9 FG9 F9 N9 B9 X9 T9 kG9; clear N0; (try dsimp only); (try k_lift B9); (try k_fold); k_steps)
  all_goals ((rename News g9 _ _ _ => N'); (rename Fr g9 _ _ _ => F'); (rename Fr h₀ _ _ _ => kF); (rename News h₀ _ _ _ => kN))
  all_goals (refine' hS _ _ _ _ ?pa1 ?pa2 kF (rest_of kG9 F' N' N P1 P2 (off1_mem hne) ?pa3 ?pa4); (case pa3 => k_mem); (case pa4 => k_mem); (case pa1 => omega); (case pa2 => omega))

end
def KindIs (kv : Int) : Prop := kv = 5 ∨ kv = 2 ∨ kv = 1
section
variable {prog : Program} {w : World} {A : Around} {E : Value → Shared → Prop} {s : Shared} {value slice : Expr} {k : Int} {u : Tok} {Q : Value → Shared → Prop}
theorem menu_kind {t : Addr} {t1 t2 t3 t4 t5 : Tok} (ht : IsTup s.heap t #[.int 5 t1, .int 2 t2, .int 5 t3, .int 2 t4, .int 1 t5]) (h0 : 0 ≤ k) (h1 : k < 5) (h : ∀ kv t, kv = 5 ∨ kv = 2 ∨ kv = 1 → Q (.int kv t) s)
    (hs : subscripted slice false (.ref t) (.int k u) = operate [.ref t, .int k u] (getItem (.ref t) (.int k u)) := by with_unfolding_all rfl) :
    wpAny (model prog w) A (subscriptTail value slice (.ref t) (.int k u)) Q E s := by
  refine tup_any (l := [.int 5 t1, .int 2 t2, .int 5 t3, .int 2 t4, .int 1 t5]) ht h0 (by simpa using h1) (by simp) (fun x hx => ?_) hs
  obtain ⟨n, hn⟩ : ∃ n : Nat, k.toNat = n := ⟨_, rfl⟩
  have hn5 : n < 5 := by omega
  rw [hn] at hx
  have : n = 0 ∨ n = 1 ∨ n = 2 ∨ n = 3 ∨ n = 4 := by omega
  rcases this with rfl | rfl | rfl | rfl | rfl <;> cases hx <;> exact h _ _ (by decide)
theorem menu_opt {t : Addr} {t2 t3 t4 t5 : Tok} (ht : IsTup s.heap t #[.none, .int 0 t2, .int 255 t3, .int 256 t4, .int 17 t5]) (h0 : 0 ≤ k) (h1 : k < 5) (h : ∀ o t, 0 ≤ Option.getD o 0 ∧ Option.getD o 0 ≤ 256 → Q (optI o t) s)
    (hs : subscripted slice false (.ref t) (.int k u) = operate [.ref t, .int k u] (getItem (.ref t) (.int k u)) := by with_unfolding_all rfl) :
    wpAny (model prog w) A (subscriptTail value slice (.ref t) (.int k u)) Q E s := by
  refine tup_any (l := [.none, .int 0 t2, .int 255 t3, .int 256 t4, .int 17 t5]) ht h0 (by simpa using h1) (by simp) (fun x hx => ?_) hs
  obtain ⟨n, hn⟩ : ∃ n : Nat, k.toNat = n := ⟨_, rfl⟩
  have hn5 : n < 5 := by omega
  rw [hn] at hx
  have : n = 0 ∨ n = 1 ∨ n = 2 ∨ n = 3 ∨ n = 4 := by omega
  rcases this with rfl | rfl | rfl | rfl | rfl <;> cases hx
  · exact h none t2 (by decide)
  · exact h (some 0) _ (by decide)
  · exact h (some 255) _ (by decide)
  · exact h (some 256) _ (by decide)
  · exact h (some 17) _ (by decide)
theorem eq_int_true {a b : Int} {t u : Tok} (e : a = b) (h : Q (.bool true) s) : wpAny (model prog w) A (compareOp .Eq (.int a t) (.int b u)) Q E s := by
  subst e
  exact PyProof.Rows.eq_int (by rw [beq_self_eq_true]; exact h)
end
theorem kind_small {kv : Int} (h : kv = 5 ∨ kv = 2 ∨ kv = 1) : 0 ≤ kv ∧ kv < 10 := by omega
theorem dir_assoc {a b c : Int} : 16777216 + (65536 * a + 256 * b + c) = 16777216 + 65536 * a + 256 * b + c := by omega
theorem pvA {kv x M : Int} {r : List Int} (h : kv = 5) (e : M = x) (l : M < 256) : pcolV kv (x :: r) = some x := if_pos ⟨h, by rw [List.length_cons]; omega, by show x ≤ 255; omega⟩
theorem pvB {kv x M : Int} {r : List Int} (h : kv = 5) (e : M = x) (l : ¬ M < 256) : pcolV kv (x :: r) = none := by
  unfold pcolV
  rw [if_neg (fun z => by have : x ≤ 255 := z.2.2; omega), if_neg (by omega)]
theorem pvC {kv : Int} : pcolV kv [] = none := by
  unfold pcolV
  rw [if_neg (by simp), if_neg (by simp)]
theorem pvD {kv x y z M : Int} {r : List Int} (h : kv = 2) (b : x ≤ M ∧ y ≤ M ∧ z ≤ M) (l : M < 256) : pcolV kv (x :: y :: z :: r) = some (16777216 + (65536 * x + 256 * y + z)) := by
  unfold pcolV
  rw [if_neg (by omega), if_pos ⟨h, by simp only [List.length_cons]; omega, by show x ≤ 255; omega, by show y ≤ 255; omega, by show z ≤ 255; omega⟩]
  rfl
theorem pvE {kv x y z M : Int} {r : List Int} (h : kv = 2) (e : M = x ∨ M = y ∨ M = z) (l : ¬ M < 256) : pcolV kv (x :: y :: z :: r) = none := by
  unfold pcolV
  rw [if_neg (by omega), if_neg (fun q => by have a : x ≤ 255 := q.2.2.1; have b : y ≤ 255 := q.2.2.2.1; have c : z ≤ 255 := q.2.2.2.2; omega)]
theorem pvF1 {kv x : Int} (h : kv = 2) : pcolV kv [x] = none := by
  unfold pcolV
  rw [if_neg (by omega), if_neg (by simp)]
theorem pvF2 {kv x y : Int} (h : kv = 2) : pcolV kv [x, y] = none := by
  unfold pcolV
  rw [if_neg (by omega), if_neg (by simp)]
theorem pvG {kv : Int} {r : List Int} (h : ¬ kv = 5) (h' : ¬ kv = 2) : pcolV kv r = none := by
  unfold pcolV
  rw [if_neg (fun z => h z.1), if_neg (fun z => h' z.1)]
theorem pcolk_0 {prog : Program} {w : World} {p : Program} {loose : List Str} {mean : ExcName → Option Value} {mg mb : Str → Option Value} {dp un : Nat} {gd : Option (List Code)} {cn : Str} {cs : Scope} {a : Addr} {ccd : Value} {cl : List (Str × Addr)} {outer : List Env} {A₀ : Around} {base h₀ : Heap} {L : Addr} {m : Str → Option Value} {s : Shared} {Q E : Value → Shared → Prop} {news : List (Addr × Obj)}
    {kind : Int} {tk : Tok} {D : Addr} {nl : Nat} (r : Option Int) (hk1 : 0 ≤ kind ∧ kind < 10) 
    (hm : (D, W.listOf #[] nl) ∈ news) (hr : pcolV kind [] = r)
    (h : ∀ t h' tk', Fr h₀ L h' m → News h₀ L h' news → Q (optI r t) { s with heap := h', toks := tk' })
    (S : Site w p loose mean mg mb dp un 2 cs outer A₀ base h₀ L s.heap m news) :
    wpAny (model prog w) (ktrTop dp un gd cn cs L a ccd cl outer) (call (.ref 77) [.int kind tk, .ref D]) Q E s :=
  pcol_0 hk1  hm (fun z h' tk' F N => by rw [z] at hr; subst hr; exact h tk h' tk' F N) (fun v t z h' tk' F N => by rw [z] at hr; subst hr; exact h t h' tk' F N) S
theorem pcolk_1 {prog : Program} {w : World} {p : Program} {loose : List Str} {mean : ExcName → Option Value} {mg mb : Str → Option Value} {dp un : Nat} {gd : Option (List Code)} {cn : Str} {cs : Scope} {a : Addr} {ccd : Value} {cl : List (Str × Addr)} {outer : List Env} {A₀ : Around} {base h₀ : Heap} {L : Addr} {m : Str → Option Value} {s : Shared} {Q E : Value → Shared → Prop} {news : List (Addr × Obj)}
    {kind : Int} {tk : Tok} {D : Addr} {nl : Nat} {o1 : Option Int} {t1 : Tok} (r : Option Int) (hk1 : 0 ≤ kind ∧ kind < 10) (b1 : 0 ≤ o1.getD 0 ∧ o1.getD 0 ≤ 256)
    (hm : (D, W.listOf #[optI o1 t1] nl) ∈ news) (hr : pcolV kind [o1.getD 0] = r)
    (h : ∀ t h' tk', Fr h₀ L h' m → News h₀ L h' news → Q (optI r t) { s with heap := h', toks := tk' })
    (S : Site w p loose mean mg mb dp un 2 cs outer A₀ base h₀ L s.heap m news) :
    wpAny (model prog w) (ktrTop dp un gd cn cs L a ccd cl outer) (call (.ref 77) [.int kind tk, .ref D]) Q E s :=
  pcol_1 hk1 b1 hm (fun z h' tk' F N => by rw [z] at hr; subst hr; exact h tk h' tk' F N) (fun v t z h' tk' F N => by rw [z] at hr; subst hr; exact h t h' tk' F N) S
theorem pcolk_2 {prog : Program} {w : World} {p : Program} {loose : List Str} {mean : ExcName → Option Value} {mg mb : Str → Option Value} {dp un : Nat} {gd : Option (List Code)} {cn : Str} {cs : Scope} {a : Addr} {ccd : Value} {cl : List (Str × Addr)} {outer : List Env} {A₀ : Around} {base h₀ : Heap} {L : Addr} {m : Str → Option Value} {s : Shared} {Q E : Value → Shared → Prop} {news : List (Addr × Obj)}
    {kind : Int} {tk : Tok} {D : Addr} {nl : Nat} {o1 o2 : Option Int} {t1 t2 : Tok} (r : Option Int) (hk1 : 0 ≤ kind ∧ kind < 10) (b1 : 0 ≤ o1.getD 0 ∧ o1.getD 0 ≤ 256) (b2 : 0 ≤ o2.getD 0 ∧ o2.getD 0 ≤ 256)
    (hm : (D, W.listOf #[optI o1 t1, optI o2 t2] nl) ∈ news) (hr : pcolV kind [o1.getD 0, o2.getD 0] = r)
    (h : ∀ t h' tk', Fr h₀ L h' m → News h₀ L h' news → Q (optI r t) { s with heap := h', toks := tk' })
    (S : Site w p loose mean mg mb dp un 2 cs outer A₀ base h₀ L s.heap m news) :
    wpAny (model prog w) (ktrTop dp un gd cn cs L a ccd cl outer) (call (.ref 77) [.int kind tk, .ref D]) Q E s :=
  pcol_2 hk1 b1 b2 hm (fun z h' tk' F N => by rw [z] at hr; subst hr; exact h tk h' tk' F N) (fun v t z h' tk' F N => by rw [z] at hr; subst hr; exact h t h' tk' F N) S
theorem pcolk_3 {prog : Program} {w : World} {p : Program} {loose : List Str} {mean : ExcName → Option Value} {mg mb : Str → Option Value} {dp un : Nat} {gd : Option (List Code)} {cn : Str} {cs : Scope} {a : Addr} {ccd : Value} {cl : List (Str × Addr)} {outer : List Env} {A₀ : Around} {base h₀ : Heap} {L : Addr} {m : Str → Option Value} {s : Shared} {Q E : Value → Shared → Prop} {news : List (Addr × Obj)}
    {kind : Int} {tk : Tok} {D : Addr} {nl : Nat} {o1 o2 o3 : Option Int} {t1 t2 t3 : Tok} (r : Option Int) (hk1 : 0 ≤ kind ∧ kind < 10) (b1 : 0 ≤ o1.getD 0 ∧ o1.getD 0 ≤ 256) (b2 : 0 ≤ o2.getD 0 ∧ o2.getD 0 ≤ 256) (b3 : 0 ≤ o3.getD 0 ∧ o3.getD 0 ≤ 256)
    (hm : (D, W.listOf #[optI o1 t1, optI o2 t2, optI o3 t3] nl) ∈ news) (hr : pcolV kind [o1.getD 0, o2.getD 0, o3.getD 0] = r)
    (h : ∀ t h' tk', Fr h₀ L h' m → News h₀ L h' news → Q (optI r t) { s with heap := h', toks := tk' })
    (S : Site w p loose mean mg mb dp un 2 cs outer A₀ base h₀ L s.heap m news) :
    wpAny (model prog w) (ktrTop dp un gd cn cs L a ccd cl outer) (call (.ref 77) [.int kind tk, .ref D]) Q E s :=
  pcol_3 hk1 b1 b2 b3 hm (fun z h' tk' F N => by rw [z] at hr; subst hr; exact h tk h' tk' F N) (fun v t z h' tk' F N => by rw [z] at hr; subst hr; exact h t h' tk' F N) S
theorem pcolk_4 {prog : Program} {w : World} {p : Program} {loose : List Str} {mean : ExcName → Option Value} {mg mb : Str → Option Value} {dp un : Nat} {gd : Option (List Code)} {cn : Str} {cs : Scope} {a : Addr} {ccd : Value} {cl : List (Str × Addr)} {outer : List Env} {A₀ : Around} {base h₀ : Heap} {L : Addr} {m : Str → Option Value} {s : Shared} {Q E : Value → Shared → Prop} {news : List (Addr × Obj)}
    {kind : Int} {tk : Tok} {D : Addr} {nl : Nat} {o1 o2 o3 o4 : Option Int} {t1 t2 t3 t4 : Tok} (r : Option Int) (hk1 : 0 ≤ kind ∧ kind < 10) (b1 : 0 ≤ o1.getD 0 ∧ o1.getD 0 ≤ 256) (b2 : 0 ≤ o2.getD 0 ∧ o2.getD 0 ≤ 256) (b3 : 0 ≤ o3.getD 0 ∧ o3.getD 0 ≤ 256) (b4 : 0 ≤ o4.getD 0 ∧ o4.getD 0 ≤ 256)
    (hm : (D, W.listOf #[optI o1 t1, optI o2 t2, optI o3 t3, optI o4 t4] nl) ∈ news) (hr : pcolV kind [o1.getD 0, o2.getD 0, o3.getD 0, o4.getD 0] = r)
    (h : ∀ t h' tk', Fr h₀ L h' m → News h₀ L h' news → Q (optI r t) { s with heap := h', toks := tk' })
    (S : Site w p loose mean mg mb dp un 2 cs outer A₀ base h₀ L s.heap m news) :
    wpAny (model prog w) (ktrTop dp un gd cn cs L a ccd cl outer) (call (.ref 77) [.int kind tk, .ref D]) Q E s :=
  pcol_4 hk1 b1 b2 b3 b4 hm (fun z h' tk' F N => by rw [z] at hr; subst hr; exact h tk h' tk' F N) (fun v t z h' tk' F N => by rw [z] at hr; subst hr; exact h t h' tk' F N) S

section
local macro_rules | `(tactic| walk_at "CompSrc") => `(tactic| (k_here; k_dflt (first
  | (refine LCg.CompSrc.ledger (by rfl) (by k_asm) (by k_asm) (by k_mem) (by first | size_fits | exact Nat.le_of_ble_eq_true rfl) ?_; intro g'; lcg_lit)
  | (refine LCg.CompSrc.range (by rfl) (by k_asm) (by k_asm) (by assumption) (by first | decide | rfl) (by first | rfl | decide) (by first | size_fits | exact Nat.le_of_ble_eq_true rfl) ?_; intro g'; lcg_lit))))
local macro_rules | `(tactic| walk_at "call ref") => `(tactic| (k_here; (with_reducible show wpAny _ _ (call (Value.ref 187) _) _ _ _); k_dflt (refine' draw_c ?P1 ?P2 ?hI ?h1 ?h2 ?h3 ?h4 ?h5 ?h6 ?h7 (fun k9 v9 t9 u9 h9 tk9 hk9 lo9 hi9 dv9 F9 N9 => ?_) ?kS; (case kS => walk_at "my site"); (case P1 => walk_at "my pull"); (case P2 => walk_at "my pull"); (case hI => l_ints); (case h1 => first | assumption | omega); (case h2 => omega); (case h3 => omega); (case h4 => walk_at "my pow"); (case h5 => walk_at "my pow"); (case h6 => omega); (case h7 => walk_at "my off")); subst hk9; (first | (have e9 := dv9.trans (by assumption : drawV _ _ _ = _); clear dv9; subst e9) | clear dv9); (try dsimp only); (try k_fold)))
local macro_rules | `(tactic| walk_at "eval IfExp") => `(tactic| (k_here; (with_reducible show wpAny _ _ (eval (Expr.IfExp (Expr.Compare (Expr.Name _ _) [CmpOp.Is] _ _) _ _ _) _) _ _ _); (fail_if_success (with_reducible show wpAny _ _ _ (OptP _ _) _ _)); (rename _ = some (optI _ _) => hx9); (refine opt_join hx9 ?_ (fun v9 t9 k9 hv9 => ?_)); rotate_left; subst hv9; rotate_left; ((intro v9 hv9); (rcases hv9 with ⟨e9, e8⟩ | ⟨i9, e9, e8⟩) <;> (subst e8; intro hy9; clear hx9))))
local macro_rules | `(tactic| walk_at "OptP") => `(tactic| (subst_vars; exact ⟨_, _, _, rfl, rfl, rfl⟩))
local macro_rules | `(tactic| walk_at "my pcol") => `(tactic| ((simp only [List.getD_cons_zero, List.getD_cons_succ, Int.toNat_zero, Int.toNat_one, Int.reduceToNat] at *); (simp only [pcolV, List.length_cons, List.length_nil, List.getD_cons_zero, List.getD_cons_succ, true_and]); first
  | (exfalso; omega)
  | (rw [if_pos (by omega)]; done)
  | (rw [if_pos (by omega)]; congr 1; omega)
  | (rw [if_neg (by omega), if_pos (by omega)]; done)
  | (rw [if_neg (by omega), if_pos (by omega)]; congr 1; omega)
  | (rw [if_neg (by omega), if_neg (by omega)])))

local macro_rules | `(tactic| walk_at "subscriptTail") => `(tactic| (k_here; (with_reducible show wpAny _ _ (subscriptTail _ _ (Value.ref _) (Value.int _ _)) _ _ _); k_dflt (first | (refine' menu_kind ?t ?a ?b (fun v9 t9 hv9 => ?_); (case t => exact News.isTup (by k_asm) (by k_mem)); (case a => omega); (case b => omega)) | (refine' menu_opt ?t ?a ?b (fun v9 t9 hv9 => ?_); (case t => exact News.isTup (by k_asm) (by k_mem)); (case a => omega); (case b => omega)) | (refine' lst_item ?n ?m ?a ?b ?c ?_; (case n => k_asm); (case m => k_mem); (case a => decide); (case b => decide); (case c => exact rfl)))))
local macro_rules | `(tactic| walk_at "subscriptTail Name Constant ref int") => `(tactic| (k_here; (with_reducible show wpAny _ _ (subscriptTail _ _ (Value.ref _) (Value.int _ _)) _ _ _); k_dflt (refine' lst_item ?n ?m ?a ?b ?c ?_; (case n => k_asm); (case m => k_mem); (case a => decide); (case b => decide); (case c => exact rfl))))
local macro_rules | `(tactic| walk_at "compareOp Eq int int") => `(tactic| (k_here; (refine' eq_int_true ?h ?_; (case h => first | exact rfl | exact dir_assoc))))
local macro_rules | `(tactic| walk_at "ite") => `(tactic| (k_here; first
  | (refine' ite_posI ?hc ?_; (case hc => k_dflt (first | assumption | ((simp only [beq_iff_eq, decide_eq_true_eq]); assumption))))
  | (refine' ite_negI ?hc ?_; (case hc => k_dflt (first | assumption | ((simp only [beq_iff_eq, decide_eq_true_eq]); assumption))))))

section
local macro_rules | `(tactic| walk_at "call ref") => `(tactic| (k_here; (with_reducible show wpAny _ _ (call (Value.ref 77) _) _ _ _); k_dflt (refine' pcolk_0 _ ?hk  ?hm ?hr (fun t9 h9 tk9 F9 N9 => ?_) ?kS; (case kS => walk_at "my site"); (case hm => k_mem); (case hk => exact kind_small (by assumption)); (case hr => first | exact pvC)); (try dsimp only [optI]); (try k_fold)))

theorem parts_0 {prog : Program} {w : World} {p : Program} {loose : List Str} {mean : ExcName → Option Value} {mg mb : Str → Option Value} {dp un : Nat} {gd : Option (List Code)} {cn : Str} {cs : Scope} {a : Addr} {ccd : Value} {cl : List (Str × Addr)} {outer : List Env} {A₀ : Around} {base h₀ : Heap} {L : Addr} {m : Str → Option Value} {s : Shared} {Q E : Value → Shared → Prop} {news : List (Addr × Obj)}
    {pa b : Addr} {k : Int} {t : Tok} {n nb : Nat} {vs : List Value} {ns : List Int} {n1 rest : List (Addr × Obj)}
    (P1 : Pull (pa, W.listOf #[.ref b, .int k t] n) news n1) (P2 : Pull (b, W.listOf vs.toArray nb) n1 rest) (hI : IntsAre vs ns) (hlen : ns.length ≤ 63) (hk0 : 0 ≤ k) (hk1 : k ≤ 80000) (hpb : @Ne Nat pa b) (hne : LCg.Off1 pa rest)
    (hw : drawV ns (k + 1) 5 = 0)
    (hS : ∀ k' t' h' tk', k ≤ k' → k' ≤ k + 6 → Fr h₀ L h' m → News h₀ L h' ((pa, W.listOf #[.ref b, .int k' t'] n) :: (b, W.listOf vs.toArray nb) :: rest) → Q (.bool true) { s with heap := h', toks := tk' })
    (S : Site w p loose mean mg mb dp un 12 cs outer A₀ base h₀ L s.heap m news) :
    wpAny (model prog w) (ktrTop dp un gd cn cs L a ccd cl outer) (call (.ref 230) [.ref pa]) Q E s := by
  obtain ⟨B, F, X, N, T, hk, hd, hu⟩ := S
  have N0 : News h₀ L s.heap [(pa, W.listOf #[.ref b, .int k t] n), (b, W.listOf vs.toArray nb)] := fun q hq => N q (by
    rcases List.mem_cons.mp hq with rfl | hq
    · exact P1.mem _ (List.mem_cons_self ..)
    · rw [List.mem_singleton.mp hq]; exact P1.mem _ (List.mem_cons_of_mem _ (P2.mem _ (List.mem_cons_self ..))))
  have kN0 : KeptN h₀ L s.heap [(pa, W.listOf #[.ref b, .int k t] n), (b, W.listOf vs.toArray nb)] := N0
  (walk_at "my enterC"; intro g9 L9 h9 tk9 cells9 FG9 F9 N9 Y9 B9 X9 T9 l9 kG9; clear N0; (try k_lt l9); k_cells Y9; (try simp only [List.cons_append, List.nil_append] at N9); (try dsimp only); (try k_lift B9); (try k_fold); k_steps)
  all_goals ((rename News g9 _ _ _ => N'); (rename Fr g9 _ _ _ => F'); (rename Fr h₀ _ _ _ => kF); (rename News h₀ _ _ _ => kN))
  all_goals (refine' hS _ _ _ _ ?pa1 ?pa2 kF (rest_of kG9 F' N' N P1 P2 (off1_mem hne) ?pa3 ?pa4); (case pa3 => k_mem); (case pa4 => k_mem); (case pa1 => omega); (case pa2 => omega))

end
section
local macro_rules | `(tactic| walk_at "call ref") => `(tactic| (k_here; (with_reducible show wpAny _ _ (call (Value.ref 77) _) _ _ _); k_dflt (refine' pcolk_1 _ ?hk ?b1 ?hm ?hr (fun t9 h9 tk9 F9 N9 => ?_) ?kS; (case kS => walk_at "my site"); (case hm => k_mem); (case hk => exact kind_small (by assumption)); (case b1 => assumption); (case hr => first | exact pvA (by assumption) (by assumption) (by assumption) | exact pvB (by assumption) (by assumption) (by assumption) | exact pvF1 (by assumption) | exact pvG (by assumption) (by assumption))); (try dsimp only [optI]); (try k_fold)))

theorem parts_1 {prog : Program} {w : World} {p : Program} {loose : List Str} {mean : ExcName → Option Value} {mg mb : Str → Option Value} {dp un : Nat} {gd : Option (List Code)} {cn : Str} {cs : Scope} {a : Addr} {ccd : Value} {cl : List (Str × Addr)} {outer : List Env} {A₀ : Around} {base h₀ : Heap} {L : Addr} {m : Str → Option Value} {s : Shared} {Q E : Value → Shared → Prop} {news : List (Addr × Obj)}
    {pa b : Addr} {k : Int} {t : Tok} {n nb : Nat} {vs : List Value} {ns : List Int} {n1 rest : List (Addr × Obj)}
    (P1 : Pull (pa, W.listOf #[.ref b, .int k t] n) news n1) (P2 : Pull (b, W.listOf vs.toArray nb) n1 rest) (hI : IntsAre vs ns) (hlen : ns.length ≤ 63) (hk0 : 0 ≤ k) (hk1 : k ≤ 80000) (hpb : @Ne Nat pa b) (hne : LCg.Off1 pa rest)
    (hw : drawV ns (k + 1) 5 = 1)
    (hS : ∀ k' t' h' tk', k ≤ k' → k' ≤ k + 6 → Fr h₀ L h' m → News h₀ L h' ((pa, W.listOf #[.ref b, .int k' t'] n) :: (b, W.listOf vs.toArray nb) :: rest) → Q (.bool true) { s with heap := h', toks := tk' })
    (S : Site w p loose mean mg mb dp un 12 cs outer A₀ base h₀ L s.heap m news) :
    wpAny (model prog w) (ktrTop dp un gd cn cs L a ccd cl outer) (call (.ref 230) [.ref pa]) Q E s := by
  obtain ⟨B, F, X, N, T, hk, hd, hu⟩ := S
  have N0 : News h₀ L s.heap [(pa, W.listOf #[.ref b, .int k t] n), (b, W.listOf vs.toArray nb)] := fun q hq => N q (by
    rcases List.mem_cons.mp hq with rfl | hq
    · exact P1.mem _ (List.mem_cons_self ..)
    · rw [List.mem_singleton.mp hq]; exact P1.mem _ (List.mem_cons_of_mem _ (P2.mem _ (List.mem_cons_self ..))))
  have kN0 : KeptN h₀ L s.heap [(pa, W.listOf #[.ref b, .int k t] n), (b, W.listOf vs.toArray nb)] := N0
  (walk_at "my enterC"; intro g9 L9 h9 tk9 cells9 FG9 F9 N9 Y9 B9 X9 T9 l9 kG9; clear N0; (try k_lt l9); k_cells Y9; (try simp only [List.cons_append, List.nil_append] at N9); (try dsimp only); (try k_lift B9); (try k_fold); k_steps)
  all_goals ((rename News g9 _ _ _ => N'); (rename Fr g9 _ _ _ => F'); (rename Fr h₀ _ _ _ => kF); (rename News h₀ _ _ _ => kN))
  all_goals (refine' hS _ _ _ _ ?pa1 ?pa2 kF (rest_of kG9 F' N' N P1 P2 (off1_mem hne) ?pa3 ?pa4); (case pa3 => k_mem); (case pa4 => k_mem); (case pa1 => omega); (case pa2 => omega))

end
section
local macro_rules | `(tactic| walk_at "call ref") => `(tactic| (k_here; (with_reducible show wpAny _ _ (call (Value.ref 77) _) _ _ _); k_dflt (refine' pcolk_2 _ ?hk ?b1 ?b2 ?hm ?hr (fun t9 h9 tk9 F9 N9 => ?_) ?kS; (case kS => walk_at "my site"); (case hm => k_mem); (case hk => exact kind_small (by assumption)); (case b1 => assumption); (case b2 => assumption); (case hr => first | exact pvA (by assumption) (by assumption) (by assumption) | exact pvB (by assumption) (by assumption) (by assumption) | exact pvF2 (by assumption) | exact pvG (by assumption) (by assumption))); (try dsimp only [optI]); (try k_fold)))

theorem parts_2 {prog : Program} {w : World} {p : Program} {loose : List Str} {mean : ExcName → Option Value} {mg mb : Str → Option Value} {dp un : Nat} {gd : Option (List Code)} {cn : Str} {cs : Scope} {a : Addr} {ccd : Value} {cl : List (Str × Addr)} {outer : List Env} {A₀ : Around} {base h₀ : Heap} {L : Addr} {m : Str → Option Value} {s : Shared} {Q E : Value → Shared → Prop} {news : List (Addr × Obj)}
    {pa b : Addr} {k : Int} {t : Tok} {n nb : Nat} {vs : List Value} {ns : List Int} {n1 rest : List (Addr × Obj)}
    (P1 : Pull (pa, W.listOf #[.ref b, .int k t] n) news n1) (P2 : Pull (b, W.listOf vs.toArray nb) n1 rest) (hI : IntsAre vs ns) (hlen : ns.length ≤ 63) (hk0 : 0 ≤ k) (hk1 : k ≤ 80000) (hpb : @Ne Nat pa b) (hne : LCg.Off1 pa rest)
    (hw : drawV ns (k + 1) 5 = 2)
    (hS : ∀ k' t' h' tk', k ≤ k' → k' ≤ k + 6 → Fr h₀ L h' m → News h₀ L h' ((pa, W.listOf #[.ref b, .int k' t'] n) :: (b, W.listOf vs.toArray nb) :: rest) → Q (.bool true) { s with heap := h', toks := tk' })
    (S : Site w p loose mean mg mb dp un 12 cs outer A₀ base h₀ L s.heap m news) :
    wpAny (model prog w) (ktrTop dp un gd cn cs L a ccd cl outer) (call (.ref 230) [.ref pa]) Q E s := by
  obtain ⟨B, F, X, N, T, hk, hd, hu⟩ := S
  have N0 : News h₀ L s.heap [(pa, W.listOf #[.ref b, .int k t] n), (b, W.listOf vs.toArray nb)] := fun q hq => N q (by
    rcases List.mem_cons.mp hq with rfl | hq
    · exact P1.mem _ (List.mem_cons_self ..)
    · rw [List.mem_singleton.mp hq]; exact P1.mem _ (List.mem_cons_of_mem _ (P2.mem _ (List.mem_cons_self ..))))
  have kN0 : KeptN h₀ L s.heap [(pa, W.listOf #[.ref b, .int k t] n), (b, W.listOf vs.toArray nb)] := N0
  (walk_at "my enterC"; intro g9 L9 h9 tk9 cells9 FG9 F9 N9 Y9 B9 X9 T9 l9 kG9; clear N0; (try k_lt l9); k_cells Y9; (try simp only [List.cons_append, List.nil_append] at N9); (try dsimp only); (try k_lift B9); (try k_fold); k_steps)
  all_goals ((rename News g9 _ _ _ => N'); (rename Fr g9 _ _ _ => F'); (rename Fr h₀ _ _ _ => kF); (rename News h₀ _ _ _ => kN))
  all_goals (refine' hS _ _ _ _ ?pa1 ?pa2 kF (rest_of kG9 F' N' N P1 P2 (off1_mem hne) ?pa3 ?pa4); (case pa3 => k_mem); (case pa4 => k_mem); (case pa1 => omega); (case pa2 => omega))

end
section
local macro_rules | `(tactic| walk_at "call ref") => `(tactic| (k_here; (with_reducible show wpAny _ _ (call (Value.ref 77) _) _ _ _); k_dflt (refine' pcolk_3 _ ?hk ?b1 ?b2 ?b3 ?hm ?hr (fun t9 h9 tk9 F9 N9 => ?_) ?kS; (case kS => walk_at "my site"); (case hm => k_mem); (case hk => exact kind_small (by assumption)); (case b1 => assumption); (case b2 => assumption); (case b3 => assumption); (case hr => first | exact pvA (by assumption) (by assumption) (by assumption) | exact pvB (by assumption) (by assumption) (by assumption) | exact pvD (by assumption) (by assumption) (by assumption) | exact pvE (by assumption) (by assumption) (by assumption) | exact pvG (by assumption) (by assumption))); (try dsimp only [optI]); (try k_fold)))

theorem parts_3 {prog : Program} {w : World} {p : Program} {loose : List Str} {mean : ExcName → Option Value} {mg mb : Str → Option Value} {dp un : Nat} {gd : Option (List Code)} {cn : Str} {cs : Scope} {a : Addr} {ccd : Value} {cl : List (Str × Addr)} {outer : List Env} {A₀ : Around} {base h₀ : Heap} {L : Addr} {m : Str → Option Value} {s : Shared} {Q E : Value → Shared → Prop} {news : List (Addr × Obj)}
    {pa b : Addr} {k : Int} {t : Tok} {n nb : Nat} {vs : List Value} {ns : List Int} {n1 rest : List (Addr × Obj)}
    (P1 : Pull (pa, W.listOf #[.ref b, .int k t] n) news n1) (P2 : Pull (b, W.listOf vs.toArray nb) n1 rest) (hI : IntsAre vs ns) (hlen : ns.length ≤ 63) (hk0 : 0 ≤ k) (hk1 : k ≤ 80000) (hpb : @Ne Nat pa b) (hne : LCg.Off1 pa rest)
    (hw : drawV ns (k + 1) 5 = 3)
    (hS : ∀ k' t' h' tk', k ≤ k' → k' ≤ k + 6 → Fr h₀ L h' m → News h₀ L h' ((pa, W.listOf #[.ref b, .int k' t'] n) :: (b, W.listOf vs.toArray nb) :: rest) → Q (.bool true) { s with heap := h', toks := tk' })
    (S : Site w p loose mean mg mb dp un 12 cs outer A₀ base h₀ L s.heap m news) :
    wpAny (model prog w) (ktrTop dp un gd cn cs L a ccd cl outer) (call (.ref 230) [.ref pa]) Q E s := by
  obtain ⟨B, F, X, N, T, hk, hd, hu⟩ := S
  have N0 : News h₀ L s.heap [(pa, W.listOf #[.ref b, .int k t] n), (b, W.listOf vs.toArray nb)] := fun q hq => N q (by
    rcases List.mem_cons.mp hq with rfl | hq
    · exact P1.mem _ (List.mem_cons_self ..)
    · rw [List.mem_singleton.mp hq]; exact P1.mem _ (List.mem_cons_of_mem _ (P2.mem _ (List.mem_cons_self ..))))
  have kN0 : KeptN h₀ L s.heap [(pa, W.listOf #[.ref b, .int k t] n), (b, W.listOf vs.toArray nb)] := N0
  (walk_at "my enterC"; intro g9 L9 h9 tk9 cells9 FG9 F9 N9 Y9 B9 X9 T9 l9 kG9; clear N0; (try k_lt l9); k_cells Y9; (try simp only [List.cons_append, List.nil_append] at N9); (try dsimp only); (try k_lift B9); (try k_fold); k_steps)
  all_goals ((rename News g9 _ _ _ => N'); (rename Fr g9 _ _ _ => F'); (rename Fr h₀ _ _ _ => kF); (rename News h₀ _ _ _ => kN))
  all_goals (refine' hS _ _ _ _ ?pa1 ?pa2 kF (rest_of kG9 F' N' N P1 P2 (off1_mem hne) ?pa3 ?pa4); (case pa3 => k_mem); (case pa4 => k_mem); (case pa1 => omega); (case pa2 => omega))

end
section
local macro_rules | `(tactic| walk_at "call ref") => `(tactic| (k_here; (with_reducible show wpAny _ _ (call (Value.ref 77) _) _ _ _); k_dflt (refine' pcolk_4 _ ?hk ?b1 ?b2 ?b3 ?b4 ?hm ?hr (fun t9 h9 tk9 F9 N9 => ?_) ?kS; (case kS => walk_at "my site"); (case hm => k_mem); (case hk => exact kind_small (by assumption)); (case b1 => assumption); (case b2 => assumption); (case b3 => assumption); (case b4 => assumption); (case hr => first | exact pvA (by assumption) (by assumption) (by assumption) | exact pvB (by assumption) (by assumption) (by assumption) | exact pvD (by assumption) (by assumption) (by assumption) | exact pvE (by assumption) (by assumption) (by assumption) | exact pvG (by assumption) (by assumption))); (try dsimp only [optI]); (try k_fold)))

theorem parts_4 {prog : Program} {w : World} {p : Program} {loose : List Str} {mean : ExcName → Option Value} {mg mb : Str → Option Value} {dp un : Nat} {gd : Option (List Code)} {cn : Str} {cs : Scope} {a : Addr} {ccd : Value} {cl : List (Str × Addr)} {outer : List Env} {A₀ : Around} {base h₀ : Heap} {L : Addr} {m : Str → Option Value} {s : Shared} {Q E : Value → Shared → Prop} {news : List (Addr × Obj)}
    {pa b : Addr} {k : Int} {t : Tok} {n nb : Nat} {vs : List Value} {ns : List Int} {n1 rest : List (Addr × Obj)}
    (P1 : Pull (pa, W.listOf #[.ref b, .int k t] n) news n1) (P2 : Pull (b, W.listOf vs.toArray nb) n1 rest) (hI : IntsAre vs ns) (hlen : ns.length ≤ 63) (hk0 : 0 ≤ k) (hk1 : k ≤ 80000) (hpb : @Ne Nat pa b) (hne : LCg.Off1 pa rest)
    (hw : drawV ns (k + 1) 5 = 4)
    (hS : ∀ k' t' h' tk', k ≤ k' → k' ≤ k + 6 → Fr h₀ L h' m → News h₀ L h' ((pa, W.listOf #[.ref b, .int k' t'] n) :: (b, W.listOf vs.toArray nb) :: rest) → Q (.bool true) { s with heap := h', toks := tk' })
    (S : Site w p loose mean mg mb dp un 12 cs outer A₀ base h₀ L s.heap m news) :
    wpAny (model prog w) (ktrTop dp un gd cn cs L a ccd cl outer) (call (.ref 230) [.ref pa]) Q E s := by
  obtain ⟨B, F, X, N, T, hk, hd, hu⟩ := S
  have N0 : News h₀ L s.heap [(pa, W.listOf #[.ref b, .int k t] n), (b, W.listOf vs.toArray nb)] := fun q hq => N q (by
    rcases List.mem_cons.mp hq with rfl | hq
    · exact P1.mem _ (List.mem_cons_self ..)
    · rw [List.mem_singleton.mp hq]; exact P1.mem _ (List.mem_cons_of_mem _ (P2.mem _ (List.mem_cons_self ..))))
  have kN0 : KeptN h₀ L s.heap [(pa, W.listOf #[.ref b, .int k t] n), (b, W.listOf vs.toArray nb)] := N0
  (walk_at "my enterC"; intro g9 L9 h9 tk9 cells9 FG9 F9 N9 Y9 B9 X9 T9 l9 kG9; clear N0; (try k_lt l9); k_cells Y9; (try simp only [List.cons_append, List.nil_append] at N9); (try dsimp only); (try k_lift B9); (try k_fold); k_steps)
  all_goals ((rename News g9 _ _ _ => N'); (rename Fr g9 _ _ _ => F'); (rename Fr h₀ _ _ _ => kF); (rename News h₀ _ _ _ => kN))
  all_goals (refine' hS _ _ _ _ ?pa1 ?pa2 kF (rest_of kG9 F' N' N P1 P2 (off1_mem hne) ?pa3 ?pa4); (case pa3 => k_mem); (case pa4 => k_mem); (case pa1 => omega); (case pa2 => omega))

end
theorem prt_c {prog : Program} {w : World} {p : Program} {loose : List Str} {mean : ExcName → Option Value} {mg mb : Str → Option Value} {dp un : Nat} {gd : Option (List Code)} {cn : Str} {cs : Scope} {a : Addr} {ccd : Value} {cl : List (Str × Addr)} {outer : List Env} {A₀ : Around} {base h₀ : Heap} {L : Addr} {m : Str → Option Value} {s : Shared} {Q E : Value → Shared → Prop} {news : List (Addr × Obj)}
    {pa b : Addr} {k : Int} {t : Tok} {n nb : Nat} {vs : List Value} {ns : List Int} {n1 rest : List (Addr × Obj)}
    (P1 : Pull (pa, W.listOf #[.ref b, .int k t] n) news n1) (P2 : Pull (b, W.listOf vs.toArray nb) n1 rest) (hI : IntsAre vs ns) (hlen : ns.length ≤ 63) (hk0 : 0 ≤ k) (hk1 : k ≤ 80000) (hpb : @Ne Nat pa b) (hne : LCg.Off1 pa rest)
    (hS : ∀ k' t' h' tk', k ≤ k' → k' ≤ k + 6 → Fr h₀ L h' m → News h₀ L h' ((pa, W.listOf #[.ref b, .int k' t'] n) :: (b, W.listOf vs.toArray nb) :: rest) → Q (.bool true) { s with heap := h', toks := tk' })
    (S : Site w p loose mean mg mb dp un 12 cs outer A₀ base h₀ L s.heap m news) :
    wpAny (model prog w) (ktrTop dp un gd cn cs L a ccd cl outer) (call (.ref 230) [.ref pa]) Q E s := by
  have b5 := drawV_bnd (ns := ns) (k := k + 1) (c := 5) (by decide)
  have q : drawV ns (k + 1) 5 = 0 ∨ drawV ns (k + 1) 5 = 1 ∨ drawV ns (k + 1) 5 = 2 ∨ drawV ns (k + 1) 5 = 3 ∨ drawV ns (k + 1) 5 = 4 := by omega
  rcases q with q | q | q | q | q
  · exact parts_0 P1 P2 hI hlen hk0 hk1 hpb hne q hS S
  · exact parts_1 P1 P2 hI hlen hk0 hk1 hpb hne q hS S
  · exact parts_2 P1 P2 hI hlen hk0 hk1 hpb hne q hS S
  · exact parts_3 P1 P2 hI hlen hk0 hk1 hpb hne q hS S
  · exact parts_4 P1 P2 hI hlen hk0 hk1 hpb hne q hS S

end
theorem told_j {prog : Program} {w : World} {p : Program} {loose : List Str} {mean : ExcName → Option Value} {mg mb : Str → Option Value} {dp un : Nat} {gd : Option (List Code)} {cn : Str} {cs : Scope} {a : Addr} {ccd : Value} {cl : List (Str × Addr)} {outer : List Env} {A₀ : Around} {base h₀ : Heap} {L : Addr} {m : Str → Option Value} {s : Shared} {Q E : Value → Shared → Prop} {news : List (Addr × Obj)}
    {pa b : Addr} {k : Int} {t : Tok} {n nb : Nat} {vs : List Value} {ns : List Int} {n1 rest : List (Addr × Obj)}
    (P1 : Pull (pa, W.listOf #[.ref b, .int k t] n) news n1) (P2 : Pull (b, W.listOf vs.toArray nb) n1 rest) (hI : IntsAre vs ns) (hlen : ns.length ≤ 63) (hk0 : 0 ≤ k) (hk1 : k ≤ 80000) (hpb : @Ne Nat pa b) (hne : LCg.Off1 pa rest)
    (h : ∀ (k' : Int) (o : Option Int) (tv : Tok) (D : Addr) (B : Array UInt8) (tb t' : Tok) (ks : List Int) (h' : Heap) (tk' : Nat), k ≤ k' → k' ≤ k + 20 → KBw.bInts B = ks → Safe ks → ks.length ≤ 40 → octV ks = o → (∀ v, o = some v → 0 ≤ v ∧ v < 16777216) → LCg.Off1 D news → Fr h₀ L h' m →
      News h₀ L h' ((D, tupOf #[.bytes B tb, optI o tv]) :: (pa, W.listOf #[.ref b, .int k' t'] n) :: (b, W.listOf vs.toArray nb) :: rest) → Q (.ref D) { s with heap := h', toks := tk' })
    (S : Site w p loose mean mg mb dp un 3 cs outer A₀ base h₀ L s.heap m news) :
    wpAny (model prog w) (ktrTop dp un gd cn cs L a ccd cl outer) (call (.ref 204) [.ref pa]) Q E s :=
  told_c P1 P2 hI hlen hk0 hk1 hpb hne
    ⟨fun k' D B tb t' ks h' tk' a1 a2 a3 a4 a5 a6 a7 a8 a9 => h k' none tb D B tb t' ks h' tk' a1 a2 a3 a4 a5 a6 (fun _ e => nomatch e) a7 a8 a9,
     fun k' v tv D B tb t' ks h' tk' a1 a2 a3 a4 a5 a6 a7 a8 a9 b1 b2 => h k' (some v) tv D B tb t' ks h' tk' a1 a2 a3 a4 a5 a6 (fun x e => by cases e; exact ⟨a7, a8⟩) a9 b1 b2⟩ S
theorem octs_j {prog : Program} {w : World} {p : Program} {loose : List Str} {mean : ExcName → Option Value} {mg mb : Str → Option Value} {dp un : Nat} {gd : Option (List Code)} {cn : Str} {cs : Scope} {a : Addr} {ccd : Value} {cl : List (Str × Addr)} {outer : List Env} {A₀ : Around} {base h₀ : Heap} {L : Addr} {m : Str → Option Value} {s : Shared} {Q E : Value → Shared → Prop} {news : List (Addr × Obj)}
    {b : Array UInt8} {t : Tok} {ks : List Int} (hb : KBw.bInts b = ks) (hl : ks.length ≤ 100)
    (h : ∀ t h' tk', Fr h₀ L h' m → News h₀ L h' news → Q (optI (octV (ks.foldl smallG [])) t) { s with heap := h', toks := tk' })
    (S : Site w p loose mean mg mb dp un 4 cs outer A₀ base h₀ L s.heap m news) :
    wpAny (model prog w) (ktrTop dp un gd cn cs L a ccd cl outer) (call (.ref 143) [.bytes b t]) Q E s :=
  octs_c hb hl (fun e h' tk' F N => by have z := h t h' tk' F N; rw [e] at z; exact z) (fun v t' e h' tk' F N => by have z := h t' h' tk' F N; rw [e] at z; exact z) S
/-- the test fell out False, all stands -/
def FalseP (h₀ : Heap) (L : Addr) (m : Str → Option Value) (s : Shared) (news : List (Addr × Obj)) (v : Bool) (s' : Shared) : Prop :=
  v = false ∧ ∃ h' k, s' = { s with heap := h', toks := k } ∧ Fr h₀ L h' m ∧ News h₀ L h' news
section
variable {prog : Program} {w : World} {M : Model} {A : Around} {E : Value → Shared → Prop} {s : Shared} {h₀ : Heap} {L : Addr} {m : Str → Option Value} {news : List (Addr × Obj)}
theorem due_join {T : Sem Bool} {Q : Bool → Shared → Prop} {o : Option Int} {t : Tok} {x : Str} (_hx : m x = some (optI o t)) (_F : Fr h₀ L s.heap m) (_N : News h₀ L s.heap news)
    (h1 : o = none → wpAny M A T (FalseP h₀ L m s news) E s) (h2 : ∀ v, o = some v → wpAny M A T (FalseP h₀ L m s news) E s)
    (h : ∀ h' k, Fr h₀ L h' m → News h₀ L h' news → Q false { s with heap := h', toks := k }) : wpAny M A T Q E s := by
  have z : wpAny M A T (FalseP h₀ L m s news) E s := by
    rcases o with _ | v
    · exact h1 rfl
    · exact h2 v rfl
  exact wpAny_mono z (fun b s' ⟨e, h', k, e2, F', N'⟩ => by rw [e, e2]; exact h h' k F' N') fun _ _ e => e
theorem ne_opt {o o' : Option Int} {t u : Tok} {Q : Value → Shared → Prop} (e : o = o') (h : Q (.bool false) s) : wpAny (model prog w) A (compareOp .NotEq (optI o t) (optI o' u)) Q E s := by
  subst e
  rcases o with _ | v
  · exact EqNone.ne_none_none h
  · exact PyProof.Rows.ne_int (by rw [bne_self_eq_false]; exact h)
theorem ne_int_false {a b : Int} {t u : Tok} {Q : Value → Shared → Prop} (e : a = b) (h : Q (.bool false) s) : wpAny (model prog w) A (compareOp .NotEq (.int a t) (.int b u)) Q E s := by
  subst e
  exact PyProof.Rows.ne_int (by rw [bne_self_eq_false]; exact h)
end
theorem ne_opt_some {prog : Program} {w : World} {A : Around} {E : Value → Shared → Prop} {s : Shared} {o : Option Int} {v : Int} {t u : Tok} {Q : Value → Shared → Prop} (e : o = some v) (h : Q (.bool false) s) : wpAny (model prog w) A (compareOp .NotEq (optI o t) (.int v u)) Q E s := by
  subst e
  exact PyProof.Rows.ne_int (by rw [bne_self_eq_false]; exact h)

section
local macro_rules | `(tactic| walk_at "call ref") => `(tactic| (k_here; (with_reducible show wpAny _ _ (call (Value.ref 204) _) _ _ _); k_dflt (refine' told_j ?P1 ?P2 ?hI ?h1 ?h2 ?h3 ?h4 ?h7 (fun k9 o9 tv9 D9 B9 tb9 u9 ks9 h9 tk9 lo9 hi9 hB9 hs9 hz9 ho9 hv9 of9 F9 N9 => ?_) ?kS; (case kS => walk_at "my site"); (case P1 => walk_at "my pull"); (case P2 => walk_at "my pull"); (case hI => l_ints); (case h1 => first | assumption | (rw [List.length_map, List.length_take]; omega) | omega); (case h2 => omega); (case h3 => omega); (case h4 => omega); (case h7 => walk_at "my off")); (try simp only [LCg.Off1, and_true] at of9); (try dsimp only); (try k_fold)))
local macro_rules | `(tactic| walk_at "call ref") => `(tactic| (k_here; (with_reducible show wpAny _ _ (call (Value.ref 211) _) _ _ _); k_dflt (refine' dress_c ?P1 ?P2 ?hI ?h1 ?h2 ?h3 ?h4 ?h7 ?hb ?hz ?hs (fun k9 B9 rs9 t9 u9 h9 tk9 lo9 hi9 hB9 hl9 hf9 F9 N9 => ?_) ?kS; (case kS => walk_at "my site"); (case P1 => walk_at "my pull"); (case P2 => walk_at "my pull"); (case hI => l_ints); (case h1 => first | assumption | (rw [List.length_map, List.length_take]; omega) | omega); (case h2 => omega); (case h3 => omega); (case h4 => omega); (case h7 => walk_at "my off"); (case hb => assumption); (case hz => assumption); (case hs => assumption)); (try dsimp only); (try k_fold)))
local macro_rules | `(tactic| walk_at "call ref") => `(tactic| (k_here; (with_reducible show wpAny _ _ (call (Value.ref 143) _) _ _ _); k_dflt (refine' octs_j ?hb ?hz (fun t9 h9 tk9 F9 N9 => ?_) ?kS; (case kS => walk_at "my site"); (case hb => assumption); (case hz => first | omega | simp [rgbOct])); (try dsimp only); (try k_fold)))
local macro_rules | `(tactic| walk_at "call ref") => `(tactic| (k_here; (with_reducible show wpAny _ _ (call (Value.ref 150) _) _ _ _); k_dflt (refine' colo_c ?hc ?hr ?hg ?hb ?q1 ?q2 ?q3 ?q4 ?q5 ?q6 (fun B9 t9 h9 tk9 hB9 F9 N9 => ?_) ?kS; (case kS => walk_at "my site"); (case hc => assumption); (case hr => assumption); (case hg => assumption); (case hb => assumption); (case q1 => assumption); (case q2 => assumption); (case q3 => assumption); (case q4 => assumption); (case q5 => assumption); (case q6 => assumption)); (try dsimp only); (try k_fold)))
local macro_rules | `(tactic| walk_at "call ref") => `(tactic| (k_here; (with_reducible show wpAny _ _ (call (Value.ref 171) _) _ _ _); k_dflt (refine' pal_c ?h0 ?h1 (fun t9 h9 tk9 F9 N9 => ?_) ?kS; (case kS => walk_at "my site"); (case h0 => omega); (case h1 => omega)); (try dsimp only); (try k_fold)))
local macro_rules | `(tactic| walk_at "call ref") => `(tactic| (k_here; (with_reducible show wpAny _ _ (call (Value.ref 225) _) _ _ _); k_dflt (refine' place_c ?P1 ?P2 ?hI ?h1 ?h2 ?h3 ?h4 ?h7 (fun k9 t9 h9 tk9 lo9 hi9 F9 N9 => ?_) ?kS; (case kS => walk_at "my site"); (case P1 => walk_at "my pull"); (case P2 => walk_at "my pull"); (case hI => l_ints); (case h1 => first | assumption | (rw [List.length_map, List.length_take]; omega) | omega); (case h2 => omega); (case h3 => omega); (case h4 => omega); (case h7 => walk_at "my off")); (try dsimp only); (try k_fold)))
local macro_rules | `(tactic| walk_at "call ref") => `(tactic| (k_here; (with_reducible show wpAny _ _ (call (Value.ref 230) _) _ _ _); k_dflt (refine' prt_c ?P1 ?P2 ?hI ?h1 ?h2 ?h3 ?h4 ?h7 (fun k9 t9 h9 tk9 lo9 hi9 F9 N9 => ?_) ?kS; (case kS => walk_at "my site"); (case P1 => walk_at "my pull"); (case P2 => walk_at "my pull"); (case hI => l_ints); (case h1 => first | assumption | (rw [List.length_map, List.length_take]; omega) | omega); (case h2 => omega); (case h3 => omega); (case h4 => omega); (case h7 => walk_at "my off")); (try dsimp only); (try k_fold)))
local macro_rules | `(tactic| walk_at "compareOp NotEq") => `(tactic| (k_here; k_dflt (first
  | (refine' ne_opt ?e ?_; (case e => walk_at "my oct"))
  | (refine' ne_opt_some ?e ?_; (case e => walk_at "my oct"))
  | (refine' ne_int_false ?e ?_; (case e => exact rfl)))))
local macro_rules | `(tactic| walk_at "my oct") => `(tactic| first
  | ((rw [‹List.foldl smallG [] _ = _›]); assumption)
  | exact (octV_back (by assumption) (by assumption) (by assumption) (by assumption) (by assumption) (by assumption) (by assumption) (by assumption) (by assumption) (by assumption)).1)
local macro_rules | `(tactic| walk_at "isTrue BoolOp") => `(tactic| (k_here; (fail_if_success (with_reducible show wpAny _ _ _ (FalseP _ _ _ _ _) _ _)); (rename Fr _ _ _ _ => jF9); (rename News _ _ _ _ => jN9); (rename (∀ v : Int, _ = some v → 0 ≤ v ∧ v < 16777216) => hv8); k_dflt (refine' due_join (x := Str.ofString "due") ?hx ?jf ?jn (fun e9 => ?_) (fun v9 e9 => ?_) (fun h9 k9 F9 N9 => ?_); (case jf => exact jF9); (case jn => exact jN9); (case hx => exact rfl)); all_goals first
  | ((rename (_ : Option Int) = some _ => e7); (obtain ⟨lo9, hi9⟩ := hv8 _ e7); (obtain ⟨r9, g9, b9, ra9, rb9, ga9, gb9, ba9, bb9, hc9, hr9, hg9, hb9, q1, q2, q3, q4, q5, q6⟩ := nib_split lo9 hi9); subst e7; (try dsimp only [optI] at jF9 jN9 ⊢))
  | ((rename (_ : Option Int) = none => e7); subst e7; (try dsimp only [optI] at jF9 jN9 ⊢))
  | skip))
local macro_rules | `(tactic| walk_at "FalseP") => `(tactic| (exact ⟨rfl, _, _, rfl, by k_asm, by k_asm⟩))
local macro_rules | `(tactic| walk_at "call ref") => `(tactic| (k_here; (with_reducible show wpAny _ _ (call (Value.ref 187) _) _ _ _); k_dflt (refine' draw_c ?P1 ?P2 ?hI ?h1 ?h2 ?h3 ?h4 ?h5 ?h6 ?h7 (fun k9 v9 t9 u9 h9 tk9 hk9 lo9 hi9 dv9 F9 N9 => ?_) ?kS; (case kS => walk_at "my site"); (case P1 => walk_at "my pull"); (case P2 => walk_at "my pull"); (case hI => l_ints); (case h1 => first | assumption | (rw [List.length_map, List.length_take]; omega) | omega); (case h2 => omega); (case h3 => omega); (case h4 => walk_at "my pow"); (case h5 => walk_at "my pow"); (case h6 => omega); (case h7 => walk_at "my off")); subst hk9; clear dv9; (try simp only [Int.reduceToNat, Int.reducePow] at hi9); (try dsimp only); (try k_fold)))

theorem holds : PySem.Challenge.rw_og0250_01.Holds := hd (by
  k_go0
  (all_goals try k_fold)
  k_steps
  all_goals (exfalso; (rename sixteen _ ≠ _ => a9); exact a9 rfl))

end
end Mine
theorem PySem.Challenge.cw_og0250_01_holds : PySem.Challenge.rw_og0250_01.Holds := by
  exact Mine.holds


