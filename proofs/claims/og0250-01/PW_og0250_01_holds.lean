import PyProof.Rows.All
import Wide.All
import OpenK.AllK
import Wide.FinOn
import Lean
import PySem.Challenge.RW_og0250_01
open PySem PySem.W PyProof.Rows PySem.Calls
set_option Elab.async false
set_option maxRecDepth 100000
set_option maxHeartbeats 16000000
namespace Mine
noncomputable def seenBy : Program := view PySem.Challenge.pw_og0250_01 [66]
noncomputable def others : List Str := (PySem.Challenge.pw_og0250_01.main.body.take 66).flatMap bindsAtTop
-- the law looked at, the top's run: each one check of the kernel, the machine by its quick twins (no twin of the text, none of the objects), seen through the law's own def alone
theorem law_said : OpenLaw.wellSaid PySem.Challenge.rw_og0250_01 = true := (congrFun PySem.W.Fast.te9446332074065402090 _).trans (by kernel_rfl)
theorem head_of {H : Hook} {d : DefRec} {kwd : List (Str × Expr)} (said : PySem.Challenge.rw_og0250_01.row.wellSaid = true)
    (hl : LeftO PySem.Challenge.rw_og0250_01.row.prog seenBy others (fun s => xlAt seenBy [] s && recOk (RowW.records PySem.Challenge.rw_og0250_01.row.toRowW) s) H.obs H.val 2870)
    (e1 : defOf seenBy PySem.Challenge.rw_og0250_01.row.name = some (d, kwd)) (e2 : PySem.Challenge.rw_og0250_01.row.prog.theDef PySem.Challenge.rw_og0250_01.row.name = some (d.params, d.body, d.scope)) (e3 : kwWritten? d.params.kwonlyargs d.params.kw_defaults = some kwd)
    (hw : PySem.Challenge.rw_og0250_01.row.toRowW.promised) (hc : WalkO seenBy others (XL seenBy []) H.says PySem.Challenge.rw_og0250_01.row.toRowW d kwd fun f vs => PySem.call f vs) : PySem.Challenge.rw_og0250_01.row.Holds :=
  holds_open (q := seenBy) (loose := others) (Xt := fun s => xlAt seenBy [] s && recOk (RowW.records PySem.Challenge.rw_og0250_01.row.toRowW) s) (XP := XL seenBy []) (Yf := H.obs) (Ya := H.val) (YP := H.says) (N := 2870) hl H.of H.keeps (fun s e => xl_of s (Bool.and_eq_true_iff.mp e).1) XL.keeps e1 e2 e3
    (fun s e => recFacts_of (Bool.and_eq_true_iff.mp e).2) (by rfl) said (by decide +kernel) ⟨rfl, rfl, rfl, rfl, rfl, by decide +kernel⟩ hw hc
section
-- the top
set_option hygiene false in
local macro_rules | `(tactic| o_head $H) => `(tactic| refine Mine.head_of (H := $H) (by assumption) (fun w => by unfold openEnds topFrom; rw [PySem.W.Fast.te14082659384304107361, PySem.W.Fast.te4187177175401517315]; kernel_rfl) (by rfl) (by rfl) (by rfl) ?hw ?hc)
local macro_rules | `(tactic| o_law) => `(tactic| refine holds_law Mine.law_said fun said => ?_)
open_top hd for PySem.Challenge.rw_og0250_01
end
local macro_rules | `(tactic| walk_at $s:str) => `(tactic| k_extra $s)
local macro_rules | `(tactic| omega) => `(tactic| first | (with_reducible assumption) | (simp only [Int.reduceLE, Int.reduceLT, Nat.reduceLeDiff, Nat.reduceLT]; done) | ((repeat (with_reducible refine Int.add_nonneg ?_ (by decide))); with_reducible assumption) | omega +splitDisjunctions)
theorem set01 : True := by
  w_top off
  exact trivial
noncomputable abbrev penObj (b : Addr) (k : Int) (t : Tok) (n : Nat) : Obj := W.listOf #[.ref b, .int k t] n

/-- what a call's site knows -/
structure Site (w : World) (p : Program) (loose : List Str) (mean : ExcName → Option Value) (mg mb : Str → Option Value) (dp un need : Nat) (cs : Scope) (outer : List Env) (A₀ : Around) (base h₀ : Heap) (L : Addr) (h : Heap) (m : Str → Option Value) (news : List (Addr × Obj)) : Prop where
  B : Below A₀ base outer h₀
  F : Fr h₀ L h m
  X : (hd.heap_1 w.params).In h₀
  N : News h₀ L h news
  T : Top p loose mean mg mb h₀
  hk : cs.kind = .function
  hd : dp + need < recursionLimit
  hu : un + 8 * need < cLine

/-- one entry taken out of a ledger -/
inductive Pull (x : Addr × Obj) : List (Addr × Obj) → List (Addr × Obj) → Prop
  | head {r} : Pull x (x :: r) r
  | tail {p r r'} : Pull x r r' → Pull x (p :: r) (p :: r')
theorem Pull.mem {x : Addr × Obj} : ∀ {l r : List (Addr × Obj)}, Pull x l r → ∀ q ∈ x :: r, q ∈ l
  | _, _, .head, _, h => h
  | _, _, .tail (p := p) k, q, h => by
    rcases List.mem_cons.mp h with rfl | h
    · exact List.mem_cons_of_mem _ (k.mem _ (List.mem_cons_self ..))
    · rcases List.mem_cons.mp h with rfl | h
      · exact List.mem_cons_self ..
      · exact List.mem_cons_of_mem _ (k.mem _ (List.mem_cons_of_mem _ h))

noncomputable def optI : Option Int → Tok → Value
  | some i, t => .int i t
  | none, _ => .none

noncomputable def hexv (o : Int) : Option Int := if 48 ≤ o ∧ o ≤ 57 then some (o - 48) else if 65 ≤ o ∧ o ≤ 70 then some (o - 55) else if 97 ≤ o ∧ o ≤ 102 then some (o - 87) else none
theorem hexv_lo {o v : Int} (h : hexv o = some v) : 0 ≤ v ∧ v < 16 := by
  unfold hexv at h
  split at h
  · cases h; omega
  · split at h
    · cases h; omega
    · split at h
      · cases h; omega
      · cases h

noncomputable def figsFold : List Int → Int → Option Int
  | [], f => some f
  | o :: r, f => match hexv o with | none => none | some v => figsFold r (f * 16 + v)
noncomputable def figs (l : List Int) : Option Int := if 1 ≤ l.length ∧ l.length ≤ 4 then figsFold l 0 else none

/-- all that stood stands -/
noncomputable def Grow (h h' : Heap) : Prop := ∀ b o, h.get? b = some o → h'.get? b = some o
theorem News.sub {h₀ h : Heap} {L : Addr} {news led : List (Addr × Obj)} (N : News h₀ L h news) (hs : ∀ q ∈ led, q ∈ news) : News h₀ L h led := fun q hq => N q (hs q hq)
noncomputable def KeptN (h₀ : Heap) (L : Addr) (h : Heap) (led : List (Addr × Obj)) : Prop := News h₀ L h led
theorem led_nil {nw : List (Addr × Obj)} : ∀ q ∈ ([] : List (Addr × Obj)), q ∈ nw := fun _ h => nomatch h
theorem led_cons {p : Addr × Obj} {l nw : List (Addr × Obj)} (h : p ∈ nw) (t : ∀ q ∈ l, q ∈ nw) : ∀ q ∈ p :: l, q ∈ nw := fun q hq => (List.mem_cons.mp hq).elim (fun e => e ▸ h) (t q)
theorem grow_led {h₀ H g h' : Heap} {L L' : Addr} {m' : Str → Option Value} {led nw : List (Addr × Obj)} (kG : GSub H g (led.map (·.1))) (kN : KeptN h₀ L H led) (F' : Fr g L' h' m') (N' : News g L' h' nw) (hs : ∀ q ∈ led, q ∈ nw) : Grow H h' := fun b o e => by
  by_cases hb : b ∈ led.map (·.1)
  · obtain ⟨q, hq, rfl⟩ := List.mem_map.mp hb
    have z := (kN q hq).1
    rw [e] at z
    rw [Option.some.inj z]
    exact (N' q (hs q hq)).1
  · exact F'.keep b o (kG b o e hb)
theorem grow_of {H g h' : Heap} {L' : Addr} {m' : Str → Option Value} (kG : GSub H g (([] : List (Addr × Obj)).map (·.1))) (F' : Fr g L' h' m') : Grow H h' :=
  fun b o e => F'.keep b o (kG b o e (fun h => nomatch h))
theorem rest_of {h₀ H g h' : Heap} {L L' pa b : Addr} {m' : Str → Option Value} {o o' ob : Obj} {news n1 rest nw : List (Addr × Obj)} (kG : GSub H g ([(pa, o), (b, ob)].map (·.1))) (F' : Fr g L' h' m') (N' : News g L' h' nw)
    (N : News h₀ L H news) (P1 : Pull (pa, o) news n1) (P2 : Pull (b, ob) n1 rest) (hne : ∀ p ∈ rest, p.1 ≠ pa) (hp : (pa, o') ∈ nw) (hb : (b, ob) ∈ nw) :
    News h₀ L h' ((pa, o') :: (b, ob) :: rest) := by
  intro p hm
  have z := fun q hq => N q (P1.mem q hq)
  have z1 := z _ (List.mem_cons_self ..)
  have y := fun q (hq : q ∈ n1) => z q (List.mem_cons_of_mem _ hq)
  have zb := y _ (P2.mem _ (List.mem_cons_self ..))
  rcases List.mem_cons.mp hm with rfl | hm
  · exact ⟨(N' _ hp).1, z1.2⟩
  · rcases List.mem_cons.mp hm with rfl | hm
    · exact ⟨(N' _ hb).1, zb.2⟩
    · have zp := y p (P2.mem p (List.mem_cons_of_mem _ hm))
      refine ⟨?_, zp.2⟩
      by_cases e : p.1 = b
      · have q := zp.1
        rw [e, zb.1] at q
        rw [e, ← Option.some.inj q]
        exact (N' _ hb).1
      · exact F'.keep _ _ (kG _ _ zp.1 (by simp only [List.map_cons, List.map_nil, List.mem_cons, List.not_mem_nil, or_false, not_or]; exact ⟨hne p hm, e⟩))
theorem off1_of {D : Addr} : ∀ {l : List (Addr × Obj)}, (∀ q ∈ l, q.1 ≠ D) → LCg.Off1 D l
  | [], _ => trivial
  | q :: _, h => ⟨h q (List.mem_cons_self ..), off1_of fun x hx => h x (List.mem_cons_of_mem _ hx)⟩
theorem fresh_of {H g h' : Heap} {L' D : Addr} {o : Obj} {led nw : List (Addr × Obj)} (kG : GSub H g (led.map (·.1))) (N' : News g L' h' nw) (hm : (D, o) ∈ nw) (hD : D ∉ led.map (·.1)) : H.get? D = none := by
  cases e : H.get? D with
  | none => rfl
  | some x =>
    have z := kG D x e hD
    rw [(N' _ hm).2.2] at z
    cases z
theorem off_of {h₀ H g h' : Heap} {L L' D : Addr} {o : Obj} {led nw news : List (Addr × Obj)} (kG : GSub H g (led.map (·.1))) (N' : News g L' h' nw) (hm : (D, o) ∈ nw) (hD : D ∉ led.map (·.1)) (N : News h₀ L H news) : LCg.Off1 D news :=
  off1_of fun q hq e => by
    have z := (N q hq).1
    rw [e, fresh_of kG N' hm hD] at z
    cases z
theorem News.one {h₀ h : Heap} {L : Addr} {q : Addr × Obj} {nw news : List (Addr × Obj)} (N : News h₀ L h nw) (hm : q ∈ nw) (M : News h₀ L h news) : News h₀ L h (q :: news) := fun x hx => by
  rcases List.mem_cons.mp hx with rfl | hx
  · exact N _ hm
  · exact M x hx
noncomputable abbrev tupOf (vs : Array Value) : Obj := { cls := .type "tuple", data := .seq vs }
theorem ite_posI {c : Prop} {inst : Decidable c} {a b : Prop} (hc : c) (h : a) : @ite Prop c inst a b := by rw [if_pos hc]; exact h
theorem ite_negI {c : Prop} {inst : Decidable c} {a b : Prop} (hc : ¬ c) (h : b) : @ite Prop c inst a b := by rw [if_neg hc]; exact h
theorem room_ok {dp a b c l : Nat} (h : dp + c < l) (e : a + b ≤ c) : dp + a + b < l := by omega
theorem units_ok {un a b c l : Nat} (h : un + 8 * c < l) (e : a + 8 * b ≤ 8 * c) : un + a + 8 * b < l := by omega

theorem set01y : True := by
  w_top off
  exact trivial
/-- a value that an expression tells: an int of a new place in the store, or a value that stands -/
inductive Cv
  | int (i : Int)
  | val (v : Value)
noncomputable def Cv.put : Cv → Tok → Value
  | .int i, t => .int i t
  | .val v, _ => v
noncomputable def Cv.num : Cv → Option Int
  | .int i => some i
  | .val (.int i _) => some i
  | _ => none
theorem Cv.put_num {c : Cv} {i : Int} (h : c.num = some i) (t : Tok) : ∃ u, c.put t = .int i u := by
  cases c with
  | int j => cases h; exact ⟨t, rfl⟩
  | val v => cases v <;> first | (cases h; exact ⟨_, rfl⟩) | cases h
noncomputable def nmF (K : Frag) (m : Str → Option Value) (cs : Scope) (x : Str) : Option Value :=
  match x == ("__debug__" : Str) with
  | true => none
  | false => match cs.names.lookup x with
    | some .local => m x
    | some .globalImplicit => match nsIn K mainGlobals x with
      | some (some v) => some v
      | _ => none
    | _ => none
/-- the numbers' works, with what they ask -/
noncomputable def opI (op : Operator) (a b : Int) : Option (Int × Prop) :=
  match op with
  | .Add => some (a + b, True)
  | .Sub => some (a - b, True)
  | .Mult => some (a * b, IntMulOk a b)
  | .BitAnd => some (Builtin.bitAnd a b, True)
  | .BitOr => some (Builtin.bitOr a b, True)
  | .FloorDiv => some (a.fdiv b, b ≠ 0 ∧ Builtin.divisionGoesByPylong a b = false)
  | .Mod => some (a.fmod b, b ≠ 0)
  | .RShift => some (a.fdiv (2 ^ b.toNat), 0 ≤ b)
  | .LShift => some (a * 2 ^ b.toNat, 0 ≤ b ∧ b ≤ 1000000 ∧ a.natAbs < 2 ^ 64)
  | _ => none
noncomputable def pe (nm : Str → Option Value) : Nat → Expr → Option (Cv × Prop)
  | 0, _ => none
  | f + 1, e => match e with
    | .Constant (.int i) _ _ => some (.int i, True)
    | .Constant .none _ _ => some (.val .none, True)
    | .Name x _ => match nm x with
      | some v => some (.val v, True)
      | none => none
    | .UnaryOp .USub x _ => match pe nm f x with
      | some (u, c) => match u.num with
        | some a => some (.int (-a), c)
        | none => none
      | none => none
    | .UnaryOp .Invert x _ => match pe nm f x with
      | some (u, c) => match u.num with
        | some a => some (.int (Builtin.bitNot a), c)
        | none => none
      | none => none
    | .BinOp l op r _ => match pe nm f l with
      | some (u, c) => match u.num with
        | some a => match pe nm f r with
          | some (v, d) => match v.num with
            | some b => match opI op a b with
              | some (i, q) => some (.int i, c ∧ d ∧ q)
              | none => none
            | none => none
          | none => none
        | none => none
      | none => none
    | _ => none
section
variable {prog : Program} {w : World} {A : Around} {E : Value → Shared → Prop} {env : Env} {h : Heap} {g : Array GenState} {d : Drawn} {o : OsState}
theorem opI_sound {op : Operator} {a b i : Int} {q : Prop} (e : opI op a b = some (i, q)) (hq : q) {t u : Tok} {k : Nat} {Q : Value → Shared → Prop} (H : ∀ t k', Q (.int i t) ⟨h, g, d, k', o⟩) :
    wpAny (model prog w) A (binaryOp op (.int a t) (.int b u)) Q E ⟨h, g, d, k, o⟩ := by
  cases op
  case Add => injection (show some (a + b, True) = some (i, q) from e) with e; injection e with e1 e2; subst e1; subst e2; exact add_int (H _ _)
  case Sub => injection (show some (a - b, True) = some (i, q) from e) with e; injection e with e1 e2; subst e1; subst e2; exact sub_int (H _ _)
  case Mult => injection (show some (a * b, IntMulOk a b) = some (i, q) from e) with e; injection e with e1 e2; subst e1; subst e2; exact mul_int (H _ _) hq
  case BitAnd => injection (show some (Builtin.bitAnd a b, True) = some (i, q) from e) with e; injection e with e1 e2; subst e1; subst e2; exact and_int (H _ _)
  case BitOr => injection (show some (Builtin.bitOr a b, True) = some (i, q) from e) with e; injection e with e1 e2; subst e1; subst e2; exact or_int (H _ _)
  case FloorDiv => injection (show some (a.fdiv b, b ≠ 0 ∧ Builtin.divisionGoesByPylong a b = false) = some (i, q) from e) with e; injection e with e1 e2; subst e1; subst e2; exact floordiv_int hq.1 (H _ _) (.inl hq.2)
  case Mod => injection (show some (a.fmod b, b ≠ 0) = some (i, q) from e) with e; injection e with e1 e2; subst e1; subst e2; exact mod_int' hq (H _ _)
  case RShift => injection (show some (a.fdiv (2 ^ b.toNat), 0 ≤ b) = some (i, q) from e) with e; injection e with e1 e2; subst e1; subst e2; exact rshift_int hq (H _ _)
  case LShift => injection (show some (a * 2 ^ b.toNat, 0 ≤ b ∧ b ≤ 1000000 ∧ a.natAbs < 2 ^ 64) = some (i, q) from e) with e; injection e with e1 e2; subst e1; subst e2; exact lshift_int_small hq.1 hq.2.1 hq.2.2 (H _ _)
  all_goals exact nomatch (show (none : Option (Int × Prop)) = some (i, q) from e)
structure NmOk (M : Model) (A : Around) (E : Value → Shared → Prop) (env : Env) (h : Heap) (g : Array GenState) (d : Drawn) (o : OsState) (nm : Str → Option Value) : Prop where
  ok : ∀ x v, nm x = some v → ∀ pos k (Q : Value → Shared → Prop), Q v ⟨h, g, d, k, o⟩ → wpAny M A (eval (.Name x pos) env) Q E ⟨h, g, d, k, o⟩
theorem pe_sound {nm : Str → Option Value} (hn : NmOk (model prog w) A E env h g d o nm) : ∀ (f : Nat) (e : Expr) (v : Cv) (c : Prop), pe nm f e = some (v, c) → c →
    ∀ (k : Nat) (Q : Value → Shared → Prop), (∀ t k', Q (v.put t) ⟨h, g, d, k', o⟩) → wpAny (model prog w) A (eval e env) Q E ⟨h, g, d, k, o⟩
  | 0, _, _, _, q, _, _, _, _ => nomatch q
  | f + 1, e, v, c, q, hc, k, Q, H => by
    cases e
    case Constant a b p =>
      cases a
      case int i =>
        injection (show some (Cv.int i, True) = some (v, c) from q) with q; injection q with q1 q2; subst q1; subst q2
        exact wpAny_Constant_int (H _ _)
      case none =>
        injection (show some (Cv.val .none, True) = some (v, c) from q) with q; injection q with q1 q2; subst q1; subst q2
        exact wpAny_Constant_none (H 0 _)
      all_goals exact nomatch (show (none : Option (Cv × Prop)) = some (v, c) from q)
    case Name x p =>
      replace q : (match nm x with | some w => some (Cv.val w, True) | none => none) = some (v, c) := q
      split at q
      · rename_i hx
        injection q with q; injection q with q1 q2; subst q1; subst q2
        exact hn.ok _ _ hx _ _ _ (H 0 _)
      · cases q
    case UnaryOp op x p =>
      cases op
      case USub =>
        replace q : (match pe nm f x with | some (u, c) => (match u.num with | some a => some (Cv.int (-a), c) | none => none) | none => none) = some (v, c) := q
        split at q <;> (try (cases q; done))
        rename_i hx
        split at q <;> (try (cases q; done))
        rename_i hu
        injection q with q; injection q with q1 q2; subst q1; subst q2
        refine UnaryOp_ (pe_sound hn f _ _ _ hx hc _ _ fun t k' => ?_)
        obtain ⟨t', e'⟩ := Cv.put_num hu t
        rw [e']
        exact neg_int (H _ _)
      case Invert =>
        replace q : (match pe nm f x with | some (u, c) => (match u.num with | some a => some (Cv.int (Builtin.bitNot a), c) | none => none) | none => none) = some (v, c) := q
        split at q <;> (try (cases q; done))
        rename_i hx
        split at q <;> (try (cases q; done))
        rename_i hu
        injection q with q; injection q with q1 q2; subst q1; subst q2
        refine UnaryOp_ (pe_sound hn f _ _ _ hx hc _ _ fun t k' => ?_)
        obtain ⟨t', e'⟩ := Cv.put_num hu t
        rw [e']
        exact invert_int (H _ _)
      all_goals exact nomatch (show (none : Option (Cv × Prop)) = some (v, c) from q)
    case BinOp l op r p =>
      replace q : (match pe nm f l with | some (u, c) => (match u.num with | some a => (match pe nm f r with | some (v, d) => (match v.num with | some b => (match opI op a b with | some (i, q) => some (Cv.int i, c ∧ d ∧ q) | none => none) | none => none) | none => none) | none => none) | none => none) = some (v, c) := q
      split at q <;> (try (cases q; done))
      rename_i hx
      split at q <;> (try (cases q; done))
      rename_i hu
      split at q <;> (try (cases q; done))
      rename_i hy
      split at q <;> (try (cases q; done))
      rename_i hv
      split at q <;> (try (cases q; done))
      rename_i ho
      injection q with q; injection q with q1 q2; subst q1; subst q2
      refine wpAny_BinOp (pe_sound hn f _ _ _ hx hc.1 _ _ fun t k' => pe_sound hn f _ _ _ hy hc.2.1 _ _ fun t' k'' => ?_)
      obtain ⟨u1, e1⟩ := Cv.put_num hu t
      obtain ⟨u2, e2⟩ := Cv.put_num hv t'
      rw [e1, e2]
      exact opI_sound ho hc.2.2 H
    all_goals exact nomatch (show (none : Option (Cv × Prop)) = some (v, c) from q)
noncomputable def cmpP (op : CmpOp) (u v : Cv) : Option Prop :=
  match u.num, v.num with
  | some a, some b => match op with
    | .Lt => some (a < b)
    | .LtE => some (a ≤ b)
    | .Gt => some (a > b)
    | .GtE => some (a ≥ b)
    | .Eq => some (a = b)
    | .NotEq => some (a ≠ b)
    | _ => none
  | some _, none => match v, op with
    | .val .none, .Is => some False
    | .val .none, .IsNot => some True
    | _, _ => none
  | none, _ => match u, v, op with
    | .val .none, .val .none, .Is => some True
    | .val .none, .val .none, .IsNot => some False
    | .val (.ref _), .val .none, .Is => some False
    | .val (.ref _), .val .none, .IsNot => some True
    | .val (.bytes _ _), .val .none, .Is => some False
    | .val (.bytes _ _), .val .none, .IsNot => some True
    | _, _, _ => none
end

theorem set01z : True := by
  w_top off
  exact trivial
noncomputable def pb (nm : Str → Option Value) : Nat → Expr → Option (Prop × Prop)
  | 0, _ => none
  | f + 1, e => match e with
    | .Compare l [op] [r] _ => match pe nm f l with
      | some (u, c) => match pe nm f r with
        | some (v, d) => match behindInMarks op r with
          | false => match cmpP op u v with
            | some P => some (P, c ∧ d)
            | none => none
          | true => none
        | none => none
      | none => none
    | .Compare l [op, op'] [r, r'] _ => match lastMarks [op, op'] [r, r'] with
      | false => match pe nm f l with
        | some (u, c) => match pe nm f r with
          | some (v, d) => match cmpP op u v with
            | some P => match pe nm f r' with
              | some (v', d') => match cmpP op' v v' with
                | some P' => some (P ∧ P', c ∧ d ∧ d')
                | none => none
              | none => none
            | none => none
          | none => none
        | none => none
      | true => none
    | .UnaryOp .Not x _ => match pb nm f x with
      | some (P, c) => some (¬ P, c)
      | none => none
    | .BoolOp .And [x] _ => pb nm f x
    | .BoolOp .And (x :: y :: r) p => match pb nm f x with
      | some (P, c) => match pb nm f (.BoolOp .And (y :: r) p) with
        | some (P', c') => some (P ∧ P', c ∧ c')
        | none => none
      | none => none
    | .BoolOp .Or [x] _ => pb nm f x
    | .BoolOp .Or (x :: y :: r) p => match pb nm f x with
      | some (P, c) => match pb nm f (.BoolOp .Or (y :: r) p) with
        | some (P', c') => some (P ∨ P', c ∧ c')
        | none => none
      | none => none
    | _ => none
section
variable {prog : Program} {w : World} {A : Around} {E : Value → Shared → Prop} {env : Env} {h : Heap} {g : Array GenState} {d : Drawn} {o : OsState}
theorem deq {P : Prop} {inst : Decidable P} {R : Bool → Prop} (ht : P → R true) (hf : ¬ P → R false) : R (@decide P inst) := by
  by_cases hp : P
  · rw [decide_eq_true hp]; exact ht hp
  · rw [decide_eq_false hp]; exact hf hp
theorem deqE {a b : Int} {R : Bool → Prop} (ht : a = b → R true) (hf : ¬ a = b → R false) : R (a == b) := by
  by_cases hp : a = b
  · rw [beq_iff_eq.mpr hp]; exact ht hp
  · rw [beq_eq_false_iff_ne.mpr hp]; exact hf hp
theorem deqN {a b : Int} {R : Bool → Prop} (ht : a ≠ b → R true) (hf : ¬ a ≠ b → R false) : R (a != b) := by
  by_cases hp : a = b
  · have e : (a != b) = false := by rw [hp]; exact bne_self_eq_false b
    rw [e]; exact hf (fun z => z hp)
  · rw [bne_iff_ne.mpr hp]; exact ht hp
theorem cmp_sound {op : CmpOp} {u v : Cv} {P : Prop} (e : cmpP op u v = some P) {t t' : Tok} {k : Nat} {Q : Value → Shared → Prop}
    (ht : P → Q (.bool true) ⟨h, g, d, k, o⟩) (hf : ¬ P → Q (.bool false) ⟨h, g, d, k, o⟩) :
    wpAny (model prog w) A (compareOp op (u.put t) (v.put t')) Q E ⟨h, g, d, k, o⟩ := by
  have inj : ∀ {A B : Prop}, some A = some B → A = B := fun h => Option.some.inj h
  cases hu : u.num with
  | some a =>
    obtain ⟨u1, e1⟩ := Cv.put_num hu t
    rw [e1]
    cases hv : v.num with
    | some b =>
      obtain ⟨u2, e2⟩ := Cv.put_num hv t'
      rw [e2]
      unfold cmpP at e
      rw [hu, hv] at e
      cases op
      case Lt => have e := inj (show some (a < b) = some P from e); subst e; exact lt_int (deq (R := fun b => Q (.bool b) ⟨h, g, d, k, o⟩) ht hf)
      case LtE => have e := inj (show some (a ≤ b) = some P from e); subst e; exact le_int (deq (R := fun b => Q (.bool b) ⟨h, g, d, k, o⟩) ht hf)
      case Gt => have e := inj (show some (a > b) = some P from e); subst e; exact gt_int (deq (R := fun b => Q (.bool b) ⟨h, g, d, k, o⟩) ht hf)
      case GtE => have e := inj (show some (a ≥ b) = some P from e); subst e; exact ge_int (deq (R := fun b => Q (.bool b) ⟨h, g, d, k, o⟩) ht hf)
      case Eq => have e := inj (show some (a = b) = some P from e); subst e; exact eq_int (deqE (R := fun b => Q (.bool b) ⟨h, g, d, k, o⟩) ht hf)
      case NotEq => have e := inj (show some (a ≠ b) = some P from e); subst e; exact ne_int (deqN (R := fun b => Q (.bool b) ⟨h, g, d, k, o⟩) ht hf)
      all_goals exact nomatch (show (none : Option Prop) = some P from e)
    | none =>
      unfold cmpP at e
      rw [hu, hv] at e
      cases v
      case int j => cases hv
      case val vv =>
        cases vv
        case none =>
          cases op
          case Is => have e := inj (show some False = some P from e); subst e; exact is_int_none (hf id)
          case IsNot => have e := inj (show some True = some P from e); subst e; exact isnot_int_none (ht trivial)
          all_goals exact nomatch (show (none : Option Prop) = some P from e)
        all_goals exact nomatch (show (none : Option Prop) = some P from e)
  | none =>
    unfold cmpP at e
    rw [hu] at e
    cases u
    case int j => cases hu
    case val uv =>
      cases uv
      case none =>
        cases v
        case int j => exact nomatch (show (none : Option Prop) = some P from e)
        case val vv =>
          cases vv
          case none =>
            cases op
            case Is => have e := inj (show some True = some P from e); subst e; exact is_none_none (ht trivial)
            case IsNot => have e := inj (show some False = some P from e); subst e; exact isnot_none_none (hf id)
            all_goals exact nomatch (show (none : Option Prop) = some P from e)
          all_goals exact nomatch (show (none : Option Prop) = some P from e)
      case ref r =>
        cases v
        case int j => exact nomatch (show (none : Option Prop) = some P from e)
        case val vv =>
          cases vv
          case none =>
            cases op
            case Is => have e := inj (show some False = some P from e); subst e; exact is_ref_none (hf id)
            case IsNot => have e := inj (show some True = some P from e); subst e; exact isnot_ref_none (ht trivial)
            all_goals exact nomatch (show (none : Option Prop) = some P from e)
          all_goals exact nomatch (show (none : Option Prop) = some P from e)
      case bytes bb tb =>
        cases v
        case int j => exact nomatch (show (none : Option Prop) = some P from e)
        case val vv =>
          cases vv
          case none =>
            cases op
            case Is => have e := inj (show some False = some P from e); subst e; exact is_bytes_none (hf id)
            case IsNot => have e := inj (show some True = some P from e); subst e; exact isnot_bytes_none (ht trivial)
            all_goals exact nomatch (show (none : Option Prop) = some P from e)
          all_goals exact nomatch (show (none : Option Prop) = some P from e)
      all_goals exact nomatch (show (none : Option Prop) = some P from e)
theorem pb_sound {nm : Str → Option Value} (hn : NmOk (model prog w) A E env h g d o nm) : ∀ (f : Nat) (e : Expr) (P c : Prop), pb nm f e = some (P, c) → c →
    ∀ (k : Nat) (whole : Sem Value) (Q : Bool → Shared → Prop), (P → ∀ k', Q true ⟨h, g, d, k', o⟩) → (¬ P → ∀ k', Q false ⟨h, g, d, k', o⟩) → wpAny (model prog w) A (PySem.isTrue e env whole) Q E ⟨h, g, d, k, o⟩
  | 0, _, _, _, q, _, _, _, _, _, _ => nomatch q
  | f + 1, e, P, c, q, hc, k, whole, Q, ht, hf => by
    have no : (none : Option (Prop × Prop)) = some (P, c) → False := fun h => nomatch h
    cases e
    case Compare l ops rs p =>
      rcases ops with _ | ⟨op, _ | ⟨op', _ | ⟨op2, ops⟩⟩⟩
      · exact (no q).elim
      · rcases rs with _ | ⟨r, _ | ⟨r', rs⟩⟩
        · exact (no q).elim
        · replace q : (match pe nm f l with | some (u, c) => (match pe nm f r with | some (v, d) => (match behindInMarks op r with | false => (match cmpP op u v with | some P => some (P, c ∧ d) | none => none) | true => none) | none => none) | none => none) = some (P, c) := q
          split at q <;> (try (cases q; done))
          rename_i hl
          split at q <;> (try (cases q; done))
          rename_i hr
          split at q <;> (try (cases q; done))
          rename_i hb
          split at q <;> (try (cases q; done))
          rename_i hp
          injection q with q; injection q with q1 q2; subst q1; subst q2
          refine wpAny_isTrue_Compare1 (pe_sound hn f _ _ _ hl hc.1 _ _ fun t k' => pe_sound hn f _ _ _ hr hc.2 _ _ fun t' k'' => ?_) hb
          exact cmp_sound hp (fun p => wpAny_truthy_bool (ht p _)) (fun p => wpAny_truthy_bool (hf p _))
        · exact (no q).elim
      · rcases rs with _ | ⟨r, _ | ⟨r', _ | ⟨r2, rs⟩⟩⟩
        · exact (no q).elim
        · exact (no q).elim
        · replace q : (match lastMarks [op, op'] [r, r'] with | false => (match pe nm f l with | some (u, c) => (match pe nm f r with | some (v, d) => (match cmpP op u v with | some P => (match pe nm f r' with | some (v', d') => (match cmpP op' v v' with | some P' => some (P ∧ P', c ∧ d ∧ d') | none => none) | none => none) | none => none) | none => none) | none => none) | true => none) = some (P, c) := q
          split at q <;> (try (cases q; done))
          rename_i hb
          split at q <;> (try (cases q; done))
          rename_i hl
          split at q <;> (try (cases q; done))
          rename_i hr
          split at q <;> (try (cases q; done))
          rename_i hp
          split at q <;> (try (cases q; done))
          rename_i hr'
          split at q <;> (try (cases q; done))
          rename_i hp'
          injection q with q; injection q with q1 q2; subst q1; subst q2
          refine isTrue_chain (pe_sound hn f _ _ _ hl hc.1 _ _ fun t k' => test_link (pe_sound hn f _ _ _ hr hc.2.1 _ _ fun t' k'' => ?_)) hb
          refine cmp_sound hp (fun p => wpAny_truthy_bool ?_) (fun p => wpAny_truthy_bool ?_)
          · rw [if_pos rfl]
            refine test_last (pe_sound hn f _ _ _ hr' hc.2.2 _ _ fun t'' k3 => ?_)
            exact cmp_sound hp' (fun p' => wpAny_truthy_bool (ht ⟨p, p'⟩ _)) (fun p' => wpAny_truthy_bool (hf (fun z => p' z.2) _))
          · rw [if_neg (by decide)]
            exact hf (fun z => p z.1) _
        · exact (no q).elim
      · exact (no q).elim
    case UnaryOp op x p =>
      cases op
      case Not =>
        replace q : (match pb nm f x with | some (P, c) => some (¬ P, c) | none => none) = some (P, c) := q
        split at q <;> (try (cases q; done))
        rename_i hx
        injection q with q; injection q with q1 q2; subst q1; subst q2
        exact isTrue_not (pb_sound hn f _ _ _ hx hc _ _ _ (fun p k' => hf (fun z => z p) k') (fun p k' => ht p k'))
      all_goals exact (no q).elim
    case BoolOp op xs p =>
      rcases xs with _ | ⟨x, _ | ⟨y, r⟩⟩
      · cases op <;> exact (no q).elim
      · cases op
        case And =>
          refine isTrue_and (pb_sound hn f _ _ _ (show pb nm f x = some (P, c) from q) hc _ _ _ (fun p k' => ?_) (fun p k' => ?_))
          · rw [if_pos rfl]; exact isTrue_and_nil (ht p k')
          · rw [if_neg (by decide)]; exact hf p k'
        case Or =>
          refine isTrue_or (pb_sound hn f _ _ _ (show pb nm f x = some (P, c) from q) hc _ _ _ (fun p k' => ?_) (fun p k' => ?_))
          · rw [if_pos rfl]; exact ht p k'
          · rw [if_neg (by decide)]; exact isTrue_or_nil (hf p k')
      · cases op
        case And =>
          replace q : (match pb nm f x with | some (P, c) => (match pb nm f (.BoolOp .And (y :: r) p) with | some (P', c') => some (P ∧ P', c ∧ c') | none => none) | none => none) = some (P, c) := q
          split at q <;> (try (cases q; done))
          rename_i hx
          split at q <;> (try (cases q; done))
          rename_i hy
          injection q with q; injection q with q1 q2; subst q1; subst q2
          refine isTrue_and (pb_sound hn f _ _ _ hx hc.1 _ _ _ (fun p k' => ?_) (fun p k' => ?_))
          · rw [if_pos rfl]; exact pb_sound hn f _ _ _ hy hc.2 _ _ _ (fun p' k'' => ht ⟨p, p'⟩ k'') (fun p' k'' => hf (fun z => p' z.2) k'')
          · rw [if_neg (by decide)]; exact hf (fun z => p z.1) k'
        case Or =>
          replace q : (match pb nm f x with | some (P, c) => (match pb nm f (.BoolOp .Or (y :: r) p) with | some (P', c') => some (P ∨ P', c ∧ c') | none => none) | none => none) = some (P, c) := q
          split at q <;> (try (cases q; done))
          rename_i hx
          split at q <;> (try (cases q; done))
          rename_i hy
          injection q with q; injection q with q1 q2; subst q1; subst q2
          refine isTrue_or (pb_sound hn f _ _ _ hx hc.1 _ _ _ (fun p k' => ?_) (fun p k' => ?_))
          · rw [if_pos rfl]; exact ht (.inl p) k'
          · rw [if_neg (by decide)]; exact pb_sound hn f _ _ _ hy hc.2 _ _ _ (fun p' k'' => ht (.inr p') k'') (fun p' k'' => hf (fun z => z.elim p p') k'')
    all_goals exact (no q).elim
end
noncomputable def pv (nm : Str → Option Value) (f : Nat) (t : Tok) (e : Expr) : Option (Value × Prop) := match pe nm f e with
  | some (.int i, c) => some (.int i t, c)
  | some (.val v, c) => some (v, c)
  | none => none
theorem pv_eq {nm : Str → Option Value} {f : Nat} {t : Tok} {e : Expr} : pv nm f t e = (match pe nm f e with
  | some (u, c) => some (u.put t, c)
  | none => none) := by
  unfold pv
  rcases pe nm f e with _ | ⟨_ | _, _⟩ <;> rfl
theorem pv_out {nm : Str → Option Value} {f : Nat} {e : Expr} {v : Tok → Value} {c : Prop} (h : ∀ t, pv nm f t e = some (v t, c)) : ∃ u, pe nm f e = some (u, c) ∧ ∀ t, u.put t = v t := by
  cases hp : pe nm f e with
  | none => have z := h 0; rw [pv_eq, hp] at z; cases z
  | some x =>
    obtain ⟨u, c'⟩ := x
    have z : ∀ t, u.put t = v t ∧ c' = c := fun t => by
      have z := h t
      rw [pv_eq, hp] at z
      injection z with z
      injection z with z1 z2
      exact ⟨z1, z2⟩
    exact ⟨u, by rw [(z 0).2], fun t => (z t).1⟩
noncomputable def pes (nm : Str → Option Value) (f : Nat) : List Expr → Option (List Cv × Prop)
  | [] => some ([], True)
  | e :: r => match pe nm f e with
    | some (u, c) => match pes nm f r with
      | some (us, d) => some (u :: us, c ∧ d)
      | none => none
    | none => none
noncomputable def putAll (tk : Nat → Tok) : Nat → List Cv → List Value
  | _, [] => []
  | i, u :: us => u.put (tk i) :: putAll tk (i + 1) us
theorem putAll_congr {tk tk' : Nat → Tok} : ∀ (us : List Cv) (i : Nat), (∀ j, i ≤ j → tk j = tk' j) → putAll tk i us = putAll tk' i us
  | [], _, _ => rfl
  | u :: us, i, h => by
    show u.put (tk i) :: _ = u.put (tk' i) :: _
    rw [h i (Nat.le_refl _), putAll_congr us (i + 1) fun j hj => h j (Nat.le_of_succ_le hj)]
theorem putAll_at {tk : Nat → Tok} {t : Tok} {i : Nat} {u : Cv} {us : List Cv} : putAll (fun j => if j = i then t else tk j) i (u :: us) = u.put t :: putAll tk (i + 1) us := by
  show u.put (if i = i then t else tk i) :: _ = _
  rw [if_pos rfl, putAll_congr us (i + 1) (tk' := tk) fun j hj => if_neg (Nat.ne_of_gt hj)]
noncomputable def pvL (nm : Str → Option Value) (f : Nat) (tk : Nat → Tok) : Nat → List Expr → Option (List Value × Prop)
  | _, [] => some ([], True)
  | i, e :: r => match pv nm f (tk i) e with
    | some (v, c) => match pvL nm f tk (i + 1) r with
      | some (vs, d) => some (v :: vs, c ∧ d)
      | none => none
    | none => none
theorem pvL_eq {nm : Str → Option Value} {f : Nat} {tk : Nat → Tok} : ∀ (es : List Expr) (i : Nat), pvL nm f tk i es = (match pes nm f es with
  | some (us, c) => some (putAll tk i us, c)
  | none => none)
  | [], _ => rfl
  | e :: r, i => by
    unfold pvL pes
    rw [pv_eq, pvL_eq r (i + 1)]
    cases pe nm f e with
    | none => rfl
    | some x =>
      cases pes nm f r with
      | none => rfl
      | some y => rfl
noncomputable def pvs (nm : Str → Option Value) (f : Nat) (tk : Nat → Tok) (es : List Expr) : Option (List Value × Prop) := pvL nm f tk 0 es
theorem pvs_eq {nm : Str → Option Value} {f : Nat} {tk : Nat → Tok} {es : List Expr} : pvs nm f tk es = (match pes nm f es with
  | some (us, c) => some (putAll tk 0 us, c)
  | none => none) := pvL_eq es 0
theorem pvs_out {nm : Str → Option Value} {f : Nat} {es : List Expr} {vs : (Nat → Tok) → List Value} {c : Prop} (h : ∀ tk, pvs nm f tk es = some (vs tk, c)) : ∃ us, pes nm f es = some (us, c) ∧ ∀ tk, putAll tk 0 us = vs tk := by
  cases hp : pes nm f es with
  | none => have z := h (fun _ => 0); rw [pvs_eq, hp] at z; cases z
  | some x =>
    obtain ⟨us, c'⟩ := x
    have z : ∀ tk, putAll tk 0 us = vs tk ∧ c' = c := fun tk => by
      have z := h tk
      rw [pvs_eq, hp] at z
      injection z with z
      injection z with z1 z2
      exact ⟨z1, z2⟩
    exact ⟨us, by rw [(z (fun _ => 0)).2], fun t => (z t).1⟩
theorem starEach_pe {nm : Str → Option Value} {f : Nat} {e : Expr} {x : Cv × Prop} (h : pe nm f e = some x) (rest : List Expr) (env : Env) : starEach (e :: rest) env = (false, eval e env) :: starEach rest env := by
  cases f with
  | zero => cases h
  | succ f => cases e <;> first | rfl | (cases h; done)
theorem anyStar_pes {nm : Str → Option Value} {f : Nat} {pos : Pos} {env : Env} : ∀ (es : List Expr) (us : List Cv) (c : Prop), pes nm f es = some (us, c) → (backTo pos (starEach es env)).any (fun x => x.1) = false
  | [], _, _, _ => rfl
  | e :: r, us, c, h => by
    unfold pes at h
    split at h <;> (try (cases h; done))
    rename_i hx
    split at h <;> (try (cases h; done))
    rename_i hy
    rw [starEach_pe hx]
    show (false || (backTo pos (starEach r env)).any fun x => x.1) = false
    rw [anyStar_pes r _ _ hy]
    rfl
section
variable {prog : Program} {w : World} {A : Around} {E : Value → Shared → Prop} {h : Heap} {g : Array GenState} {d : Drawn} {o : OsState}
theorem pes_sound {env : Env} {nm : Str → Option Value} {f : Nat} {pos : Pos} (hn : NmOk (model prog w) A E env h g d o nm) : ∀ (es : List Expr) (us : List Cv) (c : Prop), pes nm f es = some (us, c) → c →
    ∀ (i k : Nat) (Q : List Value → Shared → Prop), (∀ tk k', Q (putAll tk i us) ⟨h, g, d, k', o⟩) → wpAny (model prog w) A (spliced (backTo pos (starEach es env))) Q E ⟨h, g, d, k, o⟩
  | [], _, _, q, _, i, k, Q, H => by
    cases q
    exact spliced_none (H (fun _ => 0) _)
  | e :: r, us, c, q, hc, i, k, Q, H => by
    unfold pes at q
    split at q <;> (try (cases q; done))
    rename_i hx
    split at q <;> (try (cases q; done))
    rename_i hy
    injection q with q; injection q with q1 q2; subst q1; subst q2
    refine spliced_more (pe_sound hn f _ _ _ hx hc.1 _ _ fun t k' => ?_) (starEach_pe hx r env)
    refine pes_sound hn r _ _ hy hc.2 (i + 1) _ _ fun tk k'' => ?_
    have z := H (fun j => if j = i then t else tk j) k''
    rwa [putAll_at] at z
end
section
variable {prog : Program} {w : World} {p : Program} {loose : List Str} {mg mb : Str → Option Value} {A : Around} {E : Value → Shared → Prop} {cn : Str} {cs : Scope} {a : Addr} {ccd : Value} {cl : List (Str × Addr)}
  {h₀ : Heap} {L : Addr} {m : Str → Option Value} {K : Frag} {news : List (Addr × Obj)} {h : Heap} {g : Array GenState} {d : Drawn} {k : Nat} {o : OsState}
theorem nm_ok (F : Fr h₀ L h m) (X : K.In h₀) (T : TopRead p loose mg mb h₀) (hk : cs.kind = .function) : NmOk (model prog w) A E (envX cn cs L a ccd cl) h g d o (nmF K m cs) := ⟨fun x v e pos k Q H => by
  unfold nmF at e
  split at e
  · cases e
  · rename_i hd
    split at e
    · rename_i hx
      exact nameX_L F e H hk hx hd
    · rename_i hx
      split at e
      · rename_i hy
        injection e with e
        subst e
        exact nameX_K F X T hy H hk hx hd
      · cases e
    · cases e⟩
theorem ev_pe {ex : Expr} {Q : Value → Shared → Prop} {v : Tok → Value} {c : Prop} (F : Fr h₀ L h m) (X : K.In h₀) (T : TopRead p loose mg mb h₀) (e : ∀ t, pv (nmF K m cs) 12 t ex = some (v t, c)) (hk : cs.kind = .function) (hc : c)
    (H : ∀ t k', Q (v t) ⟨h, g, d, k', o⟩) : wpAny (model prog w) A (eval ex (envX cn cs L a ccd cl)) Q E ⟨h, g, d, k, o⟩ := by
  obtain ⟨u, e1, e2⟩ := pv_out e
  exact pe_sound (nm_ok F X T hk) _ _ _ _ e1 hc _ _ fun t k' => by rw [e2 t]; exact H t k'
theorem is_pb {t : Expr} {whole : Sem Value} {Q : Bool → Shared → Prop} {P c : Prop} (F : Fr h₀ L h m) (X : K.In h₀) (T : TopRead p loose mg mb h₀) (e : pb (nmF K m cs) 12 t = some (P, c)) (hk : cs.kind = .function) (hc : c)
    (ht : P → ∀ k', Q true ⟨h, g, d, k', o⟩) (hf : ¬ P → ∀ k', Q false ⟨h, g, d, k', o⟩) : wpAny (model prog w) A (PySem.isTrue t (envX cn cs L a ccd cl) whole) Q E ⟨h, g, d, k, o⟩ :=
  pb_sound (nm_ok F X T hk) _ _ _ _ e hc _ _ _ ht hf
theorem ev_if {t x y : Expr} {pos : Pos} {Q : Value → Shared → Prop} {P c : Prop} (F : Fr h₀ L h m) (X : K.In h₀) (T : TopRead p loose mg mb h₀) (e : pb (nmF K m cs) 12 t = some (P, c)) (hk : cs.kind = .function) (hc : c)
    (ht : P → ∀ k', wpAny (model prog w) A (eval x (envX cn cs L a ccd cl)) Q E ⟨h, g, d, k', o⟩) (hf : ¬ P → ∀ k', wpAny (model prog w) A (eval y (envX cn cs L a ccd cl)) Q E ⟨h, g, d, k', o⟩) :
    wpAny (model prog w) A (eval (.IfExp t x y pos) (envX cn cs L a ccd cl)) Q E ⟨h, g, d, k, o⟩ :=
  wpAny_IfExp (is_pb F X T e hk hc (fun q k' => by rw [if_pos rfl]; exact ht q k') (fun q k' => by rw [if_neg (by decide)]; exact hf q k'))
theorem st_if {t : Expr} {body els rest : List Stmt} {pos : Pos} {Q : Flow → Shared → Prop} {P c : Prop} (F : Fr h₀ L h m) (X : K.In h₀) (T : TopRead p loose mg mb h₀) (e : pb (nmF K m cs) 12 t = some (P, c)) (hk : cs.kind = .function) (hc : c)
    (ht : P → ∀ k', wpAny (model prog w) A (execs body (envX cn cs L a ccd cl)) (fun f s' => match f with | .next => wpAny (model prog w) A (execs rest (envX cn cs L a ccd cl)) Q E s' | f => Q f s') E ⟨h, g, d, k', o⟩)
    (hf : ¬ P → ∀ k', wpAny (model prog w) A (execs els (envX cn cs L a ccd cl)) (fun f s' => match f with | .next => wpAny (model prog w) A (execs rest (envX cn cs L a ccd cl)) Q E s' | f => Q f s') E ⟨h, g, d, k', o⟩) :
    wpAny (model prog w) A (execs (.If t body els pos :: rest) (envX cn cs L a ccd cl)) Q E ⟨h, g, d, k, o⟩ :=
  wpAny_execs_cons (wpAny_If (is_pb F X T e hk hc (fun q k' => by rw [if_pos rfl]; exact ht q k') (fun q k' => by rw [if_neg (by decide)]; exact hf q k')))
/-- an if without an else -/
theorem st_if0 {t : Expr} {body rest : List Stmt} {pos : Pos} {Q : Flow → Shared → Prop} {P c : Prop} (F : Fr h₀ L h m) (X : K.In h₀) (T : TopRead p loose mg mb h₀) (e : pb (nmF K m cs) 12 t = some (P, c)) (hk : cs.kind = .function) (hc : c)
    (ht : P → ∀ k', wpAny (model prog w) A (execs body (envX cn cs L a ccd cl)) (fun f s' => match f with | .next => wpAny (model prog w) A (execs rest (envX cn cs L a ccd cl)) Q E s' | f => Q f s') E ⟨h, g, d, k', o⟩)
    (hf : ¬ P → ∀ k', wpAny (model prog w) A (execs rest (envX cn cs L a ccd cl)) Q E ⟨h, g, d, k', o⟩) :
    wpAny (model prog w) A (execs (.If t body [] pos :: rest) (envX cn cs L a ccd cl)) Q E ⟨h, g, d, k, o⟩ :=
  st_if F X T e hk hc ht fun q k' => wpAny_execs_nil (hf q k')
theorem st_ret {ex : Expr} {pos : Pos} {rest : List Stmt} {Q : Flow → Shared → Prop} {v : Tok → Value} {c : Prop} (F : Fr h₀ L h m) (X : K.In h₀) (T : TopRead p loose mg mb h₀) (e : ∀ t, pv (nmF K m cs) 12 t ex = some (v t, c)) (hk : cs.kind = .function) (hc : c)
    (H : ∀ t k', Q (.ret (v t)) ⟨h, g, d, k', o⟩) : wpAny (model prog w) A (execs (.Return (some ex) pos :: rest) (envX cn cs L a ccd cl)) Q E ⟨h, g, d, k, o⟩ :=
  wpAny_execs_cons (wpAny_Return_some (ev_pe F X T e hk hc H))
theorem st_assign {x : Str} {ex : Expr} {p1 p2 : Pos} {rest : List Stmt} {Q : Flow → Shared → Prop} {v : Tok → Value} {c : Prop} (F : Fr h₀ L h m) (N : News h₀ L h news) (X : K.In h₀) (T : TopRead p loose mg mb h₀)
    (e : ∀ t, pv (nmF K m cs) 12 t ex = some (v t, c)) (hk : cs.kind = .function) (hx : (envX cn cs L a ccd cl).kindOf x = some .local) (hs : swapsWith ex (some (.Name x p1)) p2.line (envX cn cs L a ccd cl) = pure false) (hc : c)
    (H : ∀ t k' h', let m' := fun y => if y = x then some (v t) else m y; Fr h₀ L h' m' → News h₀ L h' news → wpAny (model prog w) A (execs rest (envX cn cs L a ccd cl)) Q E ⟨h', g, d, k', o⟩) :
    wpAny (model prog w) A (execs (.Assign [.Name x p1] ex p2 :: rest) (envX cn cs L a ccd cl)) Q E ⟨h, g, d, k, o⟩ :=
  wpAny_execs_cons (wpAny_Assign_Name (ev_pe F X T e hk hc fun t k' => storeX_L F N (fun h' F' N' => H t _ h' F' N') hk hx) hs)
theorem st_store {x : Str} {v : Value} {Q : Unit → Shared → Prop} (F : Fr h₀ L h m) (N : News h₀ L h news)
    (H : ∀ k' h', let m' := fun y => if y = x then some v else m y; Fr h₀ L h' m' → News h₀ L h' news → Q () ⟨h', g, d, k', o⟩) (hk : cs.kind = .function) (hx : (envX cn cs L a ccd cl).kindOf x = some .local) :
    wpAny (model prog w) A (storeName (envX cn cs L a ccd cl) x v) Q E ⟨h, g, d, k, o⟩ := storeX_L F N (fun h' F' N' => H _ h' F' N') hk hx
theorem ev_call {fn : Str} {p0 pos : Pos} {ar : Expr} {rest : List Expr} {Q : Value → Shared → Prop} {f : Value} {vs : (Nat → Tok) → List Value} {c : Prop} (F : Fr h₀ L h m) (X : K.In h₀) (T : TopRead p loose mg mb h₀)
    (ef : nmF K m cs fn = some f) (hf : keepIn K f = true) (ea : ∀ tk, pvs (nmF K m cs) 12 tk (ar :: rest) = some (vs tk, c)) (hk : cs.kind = .function) (hc : c)
    (H : ∀ tk k', wpAny (model prog w) A (call f (vs tk)) Q E ⟨h, g, d, k', o⟩) : wpAny (model prog w) A (eval (.Call (.Name fn p0) (ar :: rest) [] pos) (envX cn cs L a ccd cl)) Q E ⟨h, g, d, k, o⟩ := by
  obtain ⟨us, e1, e2⟩ := pvs_out ea
  have hn := nm_ok (prog := prog) (w := w) (A := A) (E := E) (cn := cn) (a := a) (ccd := ccd) (cl := cl) (g := g) (d := d) (o := o) F X T hk
  refine Call_ (hn.ok _ _ ef _ _ _ ?_)
  have e1' := e1
  unfold pes at e1'
  split at e1' <;> (try (cases e1'; done))
  rename_i hx
  split at e1' <;> (try (cases e1'; done))
  rename_i hy
  refine callWith_K X hf (pes_sound hn _ _ _ e1 hc 0 _ _ fun tk k' => ⟨Frag.In.keeps X F.keep, ?_⟩) (starEach_pe hx rest _) (anyStar_pes rest _ _ hy)
  rw [e2 tk]
  exact H tk k'
-- the same for any env that is one of them (so the goal need not be unfolded)
theorem ev_peE {env : Env} {ex : Expr} {Q : Value → Shared → Prop} {v : Tok → Value} {c : Prop} (he : env = envX cn cs L a ccd cl) (F : Fr h₀ L h m) (X : K.In h₀) (T : TopRead p loose mg mb h₀) (e : ∀ t, pv (nmF K m cs) 12 t ex = some (v t, c)) (hk : cs.kind = .function) (hc : c)
    (H : ∀ t k', Q (v t) ⟨h, g, d, k', o⟩) : wpAny (model prog w) A (eval ex env) Q E ⟨h, g, d, k, o⟩ := by
  subst he
  exact ev_pe F X T e hk hc H
theorem ev_ifE {env : Env} {t x y : Expr} {pos : Pos} {Q : Value → Shared → Prop} {P c : Prop} (he : env = envX cn cs L a ccd cl) (F : Fr h₀ L h m) (X : K.In h₀) (T : TopRead p loose mg mb h₀) (e : pb (nmF K m cs) 12 t = some (P, c)) (hk : cs.kind = .function) (hc : c)
    (ht : P → ∀ k', wpAny (model prog w) A (eval x env) Q E ⟨h, g, d, k', o⟩) (hf : ¬ P → ∀ k', wpAny (model prog w) A (eval y env) Q E ⟨h, g, d, k', o⟩) :
    wpAny (model prog w) A (eval (.IfExp t x y pos) env) Q E ⟨h, g, d, k, o⟩ := by
  subst he
  exact ev_if F X T e hk hc ht hf
theorem st_ifE {env : Env} {t : Expr} {body els rest : List Stmt} {pos : Pos} {Q : Flow → Shared → Prop} {P c : Prop} (he : env = envX cn cs L a ccd cl) (F : Fr h₀ L h m) (X : K.In h₀) (T : TopRead p loose mg mb h₀) (e : pb (nmF K m cs) 12 t = some (P, c)) (hk : cs.kind = .function) (hc : c)
    (ht : P → ∀ k', wpAny (model prog w) A (execs body env) (fun f s' => match f with | .next => wpAny (model prog w) A (execs rest env) Q E s' | f => Q f s') E ⟨h, g, d, k', o⟩)
    (hf : ¬ P → ∀ k', wpAny (model prog w) A (execs els env) (fun f s' => match f with | .next => wpAny (model prog w) A (execs rest env) Q E s' | f => Q f s') E ⟨h, g, d, k', o⟩) :
    wpAny (model prog w) A (execs (.If t body els pos :: rest) env) Q E ⟨h, g, d, k, o⟩ := by
  subst he
  exact st_if F X T e hk hc ht hf
theorem st_if0E {env : Env} {t : Expr} {body rest : List Stmt} {pos : Pos} {Q : Flow → Shared → Prop} {P c : Prop} (he : env = envX cn cs L a ccd cl) (F : Fr h₀ L h m) (X : K.In h₀) (T : TopRead p loose mg mb h₀) (e : pb (nmF K m cs) 12 t = some (P, c)) (hk : cs.kind = .function) (hc : c)
    (ht : P → ∀ k', wpAny (model prog w) A (execs body env) (fun f s' => match f with | .next => wpAny (model prog w) A (execs rest env) Q E s' | f => Q f s') E ⟨h, g, d, k', o⟩)
    (hf : ¬ P → ∀ k', wpAny (model prog w) A (execs rest env) Q E ⟨h, g, d, k', o⟩) :
    wpAny (model prog w) A (execs (.If t body [] pos :: rest) env) Q E ⟨h, g, d, k, o⟩ := by
  subst he
  exact st_if0 F X T e hk hc ht hf
theorem st_retE {env : Env} {ex : Expr} {pos : Pos} {rest : List Stmt} {Q : Flow → Shared → Prop} {v : Tok → Value} {c : Prop} (he : env = envX cn cs L a ccd cl) (F : Fr h₀ L h m) (X : K.In h₀) (T : TopRead p loose mg mb h₀) (e : ∀ t, pv (nmF K m cs) 12 t ex = some (v t, c)) (hk : cs.kind = .function) (hc : c)
    (H : ∀ t k', Q (.ret (v t)) ⟨h, g, d, k', o⟩) : wpAny (model prog w) A (execs (.Return (some ex) pos :: rest) env) Q E ⟨h, g, d, k, o⟩ := by
  subst he
  exact st_ret F X T e hk hc H
theorem st_assignE {env : Env} {x : Str} {ex : Expr} {p1 p2 : Pos} {rest : List Stmt} {Q : Flow → Shared → Prop} {v : Tok → Value} {c : Prop} (he : env = envX cn cs L a ccd cl) (F : Fr h₀ L h m) (N : News h₀ L h news) (X : K.In h₀) (T : TopRead p loose mg mb h₀)
    (e : ∀ t, pv (nmF K m cs) 12 t ex = some (v t, c)) (hk : cs.kind = .function) (hx : env.kindOf x = some .local) (hs : swapsWith ex (some (.Name x p1)) p2.line env = pure false) (hc : c)
    (H : ∀ t k' h', let m' := fun y => if y = x then some (v t) else m y; Fr h₀ L h' m' → News h₀ L h' news → wpAny (model prog w) A (execs rest env) Q E ⟨h', g, d, k', o⟩) :
    wpAny (model prog w) A (execs (.Assign [.Name x p1] ex p2 :: rest) env) Q E ⟨h, g, d, k, o⟩ := by
  subst he
  exact st_assign F N X T e hk hx hs hc H
theorem st_storeE {env : Env} {x : Str} {v : Value} {Q : Unit → Shared → Prop} (he : env = envX cn cs L a ccd cl) (F : Fr h₀ L h m) (N : News h₀ L h news)
    (H : ∀ k' h', let m' := fun y => if y = x then some v else m y; Fr h₀ L h' m' → News h₀ L h' news → Q () ⟨h', g, d, k', o⟩) (hk : cs.kind = .function) (hx : env.kindOf x = some .local) :
    wpAny (model prog w) A (storeName env x v) Q E ⟨h, g, d, k, o⟩ := by
  subst he
  exact st_store F N H hk hx
theorem ev_callE {env : Env} {fn : Str} {p0 pos : Pos} {ar : Expr} {rest : List Expr} {Q : Value → Shared → Prop} {f : Value} {vs : (Nat → Tok) → List Value} {c : Prop} (he : env = envX cn cs L a ccd cl) (F : Fr h₀ L h m) (X : K.In h₀) (T : TopRead p loose mg mb h₀)
    (ef : nmF K m cs fn = some f) (hf : keepIn K f = true) (ea : ∀ tk, pvs (nmF K m cs) 12 tk (ar :: rest) = some (vs tk, c)) (hk : cs.kind = .function) (hc : c)
    (H : ∀ tk k', wpAny (model prog w) A (call f (vs tk)) Q E ⟨h, g, d, k', o⟩) : wpAny (model prog w) A (eval (.Call (.Name fn p0) (ar :: rest) [] pos) env) Q E ⟨h, g, d, k, o⟩ := by
  subst he
  exact ev_call F X T ef hf ea hk hc H
end
section
variable {prog : Program} {w : World} {p : Program} {loose : List Str} {mean : ExcName → Option Value} {mg mb : Str → Option Value} {A : Around} {E : Value → Shared → Prop} {env : Env}
  {h₀ : Heap} {L C : Addr} {oC : Obj} {m m₂ : Str → Option Value} {K : Frag} {news : List (Addr × Obj)} {h : Heap} {g : Array GenState} {d : Drawn} {k : Nat} {o : OsState} {nm : Str → Option Value}
/-- the rest of a call's arguments, of a display's places -/
theorem xe_all {es : List Expr} {pos : Pos} {Q : List Value → Shared → Prop} {vs : (Nat → Tok) → List Value} {c : Prop} (hn : NmOk (model prog w) A E env h g d o nm) (e : ∀ tk, pvs nm 12 tk es = some (vs tk, c)) (hc : c)
    (H : ∀ tk k', Q (vs tk) ⟨h, g, d, k', o⟩) : wpAny (model prog w) A (spliced (backTo pos (starEach es env))) Q E ⟨h, g, d, k, o⟩ := by
  obtain ⟨us, e1, e2⟩ := pvs_out e
  exact pes_sound hn _ _ _ e1 hc 0 _ _ fun tk k' => by rw [e2 tk]; exact H tk k'
end

local macro_rules | `(tactic| lcg_off) => `(tactic| walk_at "my off")
local macro_rules | `(tactic| k_ne) => `(tactic| (refine neN ?_; (try dsimp only); (walk_at "my ne")))
local macro_rules | `(tactic| k_lt $h:ident) => `(tactic| (replace $h := allLt_of $h; dsimp only [AllLt] at $h:ident))
theorem set03 : True := by
  w_top off
  k_with "my site" => ((refine' Site.mk ?s1v1 ?s2v1 ?s3v1 ?s4v1 ?s5v1 ?s6v1 ?s7v1 ?s8v1; (case s1v1 => first | k_asm | fail "site: below"); (case s2v1 => first | k_asm | fail "site: frame"); (case s3v1 => first | k_asm | fail "site: part"); (case s4v1 => first | k_asm | fail "site: ledger"); (case s5v1 => first | k_asm | fail "site: top"); (case s6v1 => first | exact rfl | assumption | fail "site: kind"); (case s7v1 => first | exact room_ok (by assumption) (by decide) | (walk_say "ROOM"; ktr_room) | fail "site: room"); (case s8v1 => first | exact units_ok (by assumption) (by decide) | (walk_say "UNITS"; ktr_units) | fail "site: units")))
  k_with "my enter" => ((refine wpAny_call ?_; k_dflt (refine' code_defG ?k1v2 ?k2v2 ?k3v2 ?k4v2 ?k5v2 ?kAv2 ?kFv2 ?kKv2 ?k6v2 ?k7v2 ?k8v2 ?k9wv2 ?kBv2 ?_ ?c2v2 ?c3v2 ?c4v2 ?c5v2; (case kAv2 => exact rfl); (case kFv2 => exact rfl); (case kKv2 => assumption); (case k1v2 => k_asm); (case k2v2 => k_asm); (case k3v2 => k_asm); (case k4v2 => k_asm); (case k5v2 => k_asm); (case k6v2 => k_is); (case k7v2 => k_is); (case k8v2 => ktr_room); (case k9wv2 => exact BindsTo.of_eq rfl); (case c5v2 => decide); (case kBv2 => exact locs rfl); (case c2v2 => exact rfl); (case c3v2 => exact rfl); (case c4v2 => exact rfl); k_whole)))
  k_with "call ref" => ((k_here; (try dsimp only [List.nil_append, List.append_nil]); refine wpAny_call ?_; k_dflt (refine' code_def ?k1v3 ?k2v3 ?k3v3 ?k4v3 ?k5v3 ?kAv3 ?kFv3 ?kKv3 ?k6v3 ?k7v3 ?k8v3 ?k9wv3 ?kBv3 ?_ ?c2v3 ?c3v3 ?c4v3 ?c5v3; (case kAv3 => exact rfl); (case kFv3 => exact rfl); (case kKv3 => first | exact rfl | assumption); (case k1v3 => k_asm); (case k2v3 => k_asm); (case k3v3 => k_asm); (case k4v3 => k_asm); (case k5v3 => k_asm); (case k6v3 => k_is); (case k7v3 => k_is); (case k8v3 => ktr_room); (case k9wv3 => exact BindsTo.of_eq rfl); (case c5v3 => decide); (case kBv3 => exact locs rfl); (case c2v3 => exact rfl); (case c3v3 => exact rfl); (case c4v3 => exact rfl); k_whole; intro g' L' h' FG' F' N' B' X' T'; (try dsimp only); (try k_lift B'); (try k_fold))))
  k_with "my off" => (((rename (_ ≠ _ ∧ _ ≠ _ ∧ _ ≠ _) ∧ _ => off9w); (simp only [ne_eq] at off9w); (simp only [LCg.Off3, and_true, ne_eq, off9w, not_false_eq_true, and_self, true_and]); (first | done | ((repeat' (refine And.intro ?_ ?_)); all_goals exact neN (by walk_at "my ne")))))
  k_with "ite" => ((k_here; first
      | (refine' ite_posI ?hcv5 ?_; (case hcv5 => k_dflt (exact of_decide_eq_true (by exact rfl))))
      | (refine' ite_negI ?hcv5 ?_; (case hcv5 => k_dflt (exact of_decide_eq_false (by exact rfl))))))
  k_with "my fact" => (first | (with_reducible assumption) | (simp only [ne_eq, not_false_eq_true, *]; done))
  k_with "my ne" => (first | (walk_at "my fact") | exact Ne.symm (by walk_at "my fact") | exact Nat.ne_of_lt (by walk_at "my fact") | exact Nat.ne_of_gt (by walk_at "my fact") | exact Nat.ne_of_lt (Nat.lt_succ_of_lt (by walk_at "my fact")) | exact Nat.ne_of_gt (Nat.lt_succ_of_lt (by walk_at "my fact")) | (walk_say "NE by omega"; omega))
  k_with "my side" => ((with_reducible ((repeat' (refine And.intro ?_ ?_)) <;> first | exact trivial | assumption | (walk_at "my arith"))))
  k_with "my arith" => (first
        | ((show IntMulOk _ _); first | exact PySem.IntMulOk.of_right (PySem.intBits_le_64 (by decide) (by decide)) | exact PySem.IntMulOk.of_left (PySem.intBits_le_64 (by decide) (by decide)) | exact PySem.IntMulOk.of_right (PySem.intBits_le_64 (by omega) (by omega)) | exact PySem.IntMulOk.of_left (PySem.intBits_le_64 (by omega) (by omega)) | mul_fits)
        | ((show Builtin.divisionGoesByPylong _ _ = false); first | exact PyProof.noPylong_of_log2 (by decide +kernel) | exact PyProof.noPylong_small (by omega))
        | omega
        | decide)
  k_with "my no" => (first | with_reducible exact False.elim p9w | with_reducible exact absurd trivial p9w | with_reducible exact absurd rfl p9w | (law_purse 20000 => omega))
  k_with "execs cons" => ((k_here; (first
        | ((with_reducible show wpAny _ _ (execs (Stmt.Return (some _) _ :: _) _) _ _ _); (fail_if_success (with_reducible show wpAny _ _ (execs (Stmt.Return (some (Expr.Tuple _ _ _)) _ :: _) _) _ _ _)); (fail_if_success (with_reducible show wpAny _ _ (execs (Stmt.Return (some (Expr.List _ _)) _ :: _) _) _ _ _)); (fail_if_success (with_reducible show wpAny _ _ (execs (Stmt.Return (some (Expr.Dict _ _ _)) _ :: _) _) _ _ _)); k_dflt ((with_reducible refine' st_retE ?hev11 ?Fv11 ?Xv11 ?Tv11 (fun t => ?ev11) ?hkv11 ?hcv11 (fun t9w tk9w => ?_))); (case hev11 => k_dflt (exact rfl)); (case Fv11 => k_asm); (case Xv11 => k_asm); (case Tv11 => k_asm); (case ev11 => k_dflt (exact rfl)); (case hkv11 => k_dflt (exact rfl)); (case hcv11 => walk_at "my side"); (try dsimp only))
        | ((with_reducible show wpAny _ _ (execs (Stmt.If _ _ [] _ :: _) _) _ _ _); k_dflt ((with_reducible refine' st_if0E ?hev11 ?Fv11 ?Xv11 ?Tv11 ?ev11 ?hkv11 ?hcv11 (fun p9w tk9w => ?_) (fun p9w tk9w => ?_))); (case hev11 => k_dflt (exact rfl)); (case Fv11 => k_asm); (case Xv11 => k_asm); (case Tv11 => k_asm); (case ev11 => k_dflt (exact rfl)); (case hkv11 => k_dflt (exact rfl)); (case hcv11 => walk_at "my side"); all_goals first | (exfalso; walk_at "my no") | (try dsimp only))
        | ((with_reducible show wpAny _ _ (execs (Stmt.If _ _ (_ :: _) _ :: _) _) _ _ _); k_dflt ((with_reducible refine' st_ifE ?hev11 ?Fv11 ?Xv11 ?Tv11 ?ev11 ?hkv11 ?hcv11 (fun p9w tk9w => ?_) (fun p9w tk9w => ?_))); (case hev11 => k_dflt (exact rfl)); (case Fv11 => k_asm); (case Xv11 => k_asm); (case Tv11 => k_asm); (case ev11 => k_dflt (exact rfl)); (case hkv11 => k_dflt (exact rfl)); (case hcv11 => walk_at "my side"); all_goals first | (exfalso; walk_at "my no") | (try dsimp only))
        | ((with_reducible show wpAny _ _ (execs (Stmt.Assign [Expr.Name _ _] _ _ :: _) _) _ _ _); k_dflt ((with_reducible refine' st_assignE ?hev11 ?Fv11 ?Nv11 ?Xv11 ?Tv11 (fun t => ?ev11) ?hkv11 ?hxv11 ?hsv11 ?hcv11 (fun t9w tk9w h9w => ?_))); (case hev11 => k_dflt (exact rfl)); (case Fv11 => k_asm); (case Nv11 => k_asm); (case Xv11 => k_asm); (case Tv11 => k_asm); (case ev11 => k_dflt (exact rfl)); (case hkv11 => k_dflt (exact rfl)); (case hxv11 => k_dflt (exact rfl)); (case hsv11 => k_dflt (exact rfl)); (case hcv11 => walk_at "my side"); intro m9w F9w N9w; (try k_sweep); (try dsimp only)))))
  k_with "eval BinOp" => ((k_here; k_dflt ((with_reducible refine' ev_peE ?hev12 ?Fv12 ?Xv12 ?Tv12 (fun t => ?ev12) ?hkv12 ?hcv12 (fun t9w tk9w => ?_)); (case hev12 => k_dflt (exact rfl)); (case Fv12 => k_asm); (case Xv12 => k_asm); (case Tv12 => k_asm); (case ev12 => k_dflt (exact rfl)); (case hkv12 => k_dflt (exact rfl)); (case hcv12 => walk_at "my side")); (try dsimp only)))
  k_with "eval IfExp" => ((k_here; k_dflt ((with_reducible refine' ev_ifE ?hev13 ?Fv13 ?Xv13 ?Tv13 ?ev13 ?hkv13 ?hcv13 (fun p9w tk9w => ?_) (fun p9w tk9w => ?_)); (case hev13 => k_dflt (exact rfl)); (case Fv13 => k_asm); (case Xv13 => k_asm); (case Tv13 => k_asm); (case ev13 => k_dflt (exact rfl)); (case hkv13 => k_dflt (exact rfl)); (case hcv13 => walk_at "my side"); all_goals first | (exfalso; walk_at "my no") | (try dsimp only))))
  k_with "eval Call" => ((k_here; (with_reducible show wpAny _ _ (eval (Expr.Call (Expr.Name _ _) (_ :: _) [] _) _) _ _ _); k_dflt ((with_reducible refine' ev_callE ?hev14 ?Fv14 ?Xv14 ?Tv14 ?efv14 ?hfv14 (fun t => ?eav14) ?hkv14 ?hcv14 (fun t9w tk9w => ?_)); (case hev14 => k_dflt (exact rfl)); (case Fv14 => k_asm); (case Xv14 => k_asm); (case Tv14 => k_asm); (case efv14 => k_dflt (exact rfl)); (case hfv14 => k_dflt (exact rfl)); (case eav14 => k_dflt (exact rfl)); (case hkv14 => k_dflt (exact rfl)); (case hcv14 => walk_at "my side"))))
  k_with "my nm" => ((k_dflt (refine' nm_ok ?Fv15 ?Xv15 ?Tv15 ?hkv15); (case Fv15 => k_asm); (case Xv15 => k_asm); (case Tv15 => k_asm); (case hkv15 => k_dflt (exact rfl))))
  k_with "spliced" => ((k_here; (with_reducible show wpAny _ _ (spliced (backTo _ (starEach (_ :: _) _))) _ _ _); (fail_if_success (with_reducible show wpAny _ _ (spliced (backTo _ (starEach (_ :: _ :: _ :: _ :: _ :: _ :: _ :: _) _))) _ _ _)); k_dflt ((with_reducible refine' xe_all ?hnv16 (fun tk => ?ev16) ?hcv16 (fun tk9w k9w => ?_))); (case hnv16 => walk_at "my nm"); (case ev16 => k_dflt (exact rfl)); (case hcv16 => walk_at "my side"); (try dsimp only [List.cons_append, List.nil_append])))
  k_with "storeName" => ((k_here; k_dflt ((with_reducible refine' st_storeE ?hev17 ?Fv17 ?Nv17 (fun tk9w h9w => ?_) ?hkv17 ?hxv17)); (case hev17 => k_dflt (exact rfl)); (case Fv17 => k_asm); (case Nv17 => k_asm); (case hkv17 => k_dflt (exact rfl)); (case hxv17 => k_dflt (exact rfl)); intro m9w F9w N9w; (try k_sweep); (try dsimp only)))
  exact trivial
theorem hexv_c {prog : Program} {w : World} {p : Program} {loose : List Str} {mean : ExcName → Option Value} {mg mb : Str → Option Value} {dp un : Nat} {gd : Option (List Code)} {cn : Str} {cs : Scope} {a : Addr} {ccd : Value} {cl : List (Str × Addr)} {outer : List Env} {A₀ : Around} {base h₀ : Heap} {L : Addr} {m : Str → Option Value} {s : Shared} {Q E : Value → Shared → Prop} {news : List (Addr × Obj)}
    {o : Int} {to : Tok} (S : Site w p loose mean mg mb dp un 1 cs outer A₀ base h₀ L s.heap m news)
    (hN : hexv o = none → ∀ h' tk', Fr h₀ L h' m → News h₀ L h' news → Q .none { s with heap := h', toks := tk' })
    (hS : ∀ v t, hexv o = some v → ∀ h' tk', Fr h₀ L h' m → News h₀ L h' news → Q (.int v t) { s with heap := h', toks := tk' }) :
    wpAny (model prog w) (ktrTop dp un gd cn cs L a ccd cl outer) (call (.ref 22) [.int o to]) Q E s := by
  obtain ⟨B, F, X, N, T, hk, hd, hu⟩ := S
  have N0 : News h₀ L s.heap [] := News.nil
  (walk_at "my enter"; intro g9 L9 h9 FG9 F9 N9 B9 X9 T9 kG9; clear N0; (try dsimp only); (try k_lift B9); (try k_fold); k_steps)
  all_goals first
    | (refine hS _ _ ?_ _ _ (by assumption) (N.grown (grow_of (g := g9) (L' := L9) kG9 (by assumption))); unfold hexv; (repeat' split) <;> first | rfl | omega)
    | (refine hN ?_ _ _ (by assumption) (N.grown (grow_of (g := g9) (L' := L9) kG9 (by assumption))); unfold hexv; (repeat' split) <;> first | rfl | omega)

theorem set04x : True := by
  w_top off
  k_with "call ref" => ((k_here; k_dflt (refine' hexv_c ?kSv18 (fun hv9w h9w tk9w F9w N9w => ?_) (fun v9w t9w hv9w h9w tk9w F9w N9w => ?_); (case kSv18 => walk_at "my site")); all_goals ((try dsimp only); (try k_fold))))
  exact trivial
section
variable {prog : Program} {w : World} {A : Around} {E : Value → Shared → Prop} {s : Shared} {env : Env} {h₀ : Heap} {x : Str} {body : List Stmt} {Q : Flow → Shared → Prop}
theorem shape_of {y : Str} {v : Value} {stored : List Str} {m₀ m₁ : Str → Option Value} (h1 : m₁ y = some v) (h2 : ∀ z, z ≠ y → stored.contains z = false → m₁ z = m₀ z) : m₁ = fun z => if z = y then some v else if stored.contains z then m₁ z else m₀ z := by
  funext z
  by_cases hz : z = y
  · rw [if_pos hz, hz, h1]
  · rw [if_neg hz]
    cases hc : stored.contains z with
    | true => rw [if_pos rfl]
    | false => rw [if_neg (by decide)]; exact h2 z hz hc
/-- the figures' loop: a turn walked once -/
theorem figs_rest {I : Addr} {y : Str} {stored : List Str} {m₀ : Str → Option Value} {ks : List Int} {t₀ : Tok} {news : List (Addr × Obj)} (hy : m₀ y = some (.int 0 t₀))
    (turn : ∀ (c : Int) (r : List Int) (f : Int) (u t : Tok) (it : Obj) (uu : Str → Option Value) h tk (Rest : (Str → Option Value) → List (Addr × Obj) → Prop), figsFold ks 0 = figsFold (c :: r) f →
      Fr h₀ env.locals h (fun z => if z = x then some (.int c u) else if z = y then some (.int f t) else if stored.contains z then uu z else m₀ z) → News h₀ env.locals h ((I, it) :: news) →
      (∀ m' v t', hexv c = some v → m' y = some (.int (f * 16 + v) t') → (∀ z, z ≠ y → stored.contains z = false → m' z = m₀ z) → Rest m' news) →
      wpAny (model prog w) A (execs body env) (UnrPost h₀ env.locals { s with heap := h, toks := tk } I it Rest Q) E { s with heap := h, toks := tk })
    (done : ∀ (f : Int) (t : Tok) (uu : Str → Option Value) h tk, figsFold ks 0 = some f → Fr h₀ env.locals h (fun z => if z = y then some (.int f t) else if stored.contains z then uu z else m₀ z) → News h₀ env.locals h news → Q .next { s with heap := h, toks := tk }) :
    BytesRest prog w A E h₀ env x body Q s I ks m₀ news := by
  have key : ∀ (l : List Int) (f : Int) (t : Tok) (m₁ : Str → Option Value), figsFold ks 0 = figsFold l f → m₁ y = some (.int f t) → (∀ z, z ≠ y → stored.contains z = false → m₁ z = m₀ z) → BytesRest prog w A E h₀ env x body Q s I l m₁ news := by
    intro l
    induction l with
    | nil =>
      intro f t m₁ e h1 h2
      refine BytesRest.zero fun h tk F N => ?_
      rw [shape_of h1 h2] at F
      exact done f t m₁ h tk e F N
    | cons c r ih =>
      intro f t m₁ e h1 h2
      refine BytesRest.succ fun _ _ u it h tk F N => ?_
      rw [shape_of h1 h2] at F
      refine turn c r f u t it m₁ h tk _ e F N fun m' v t' hv h1' h2' => ih (f * 16 + v) t' m' ?_ h1' h2'
      rw [e, figsFold, hv]
  exact key ks 0 t₀ m₀ rfl hy fun _ _ _ => rfl
end
theorem figs_some {ks : List Int} {f : Int} (h1 : 1 ≤ (ks.length : Int)) (h4 : (ks.length : Int) ≤ 4) (h : figsFold ks 0 = some f) : figs ks = some f := by
  unfold figs
  rw [if_pos ⟨Int.ofNat_le.mp h1, Int.ofNat_le.mp h4⟩, h]
theorem figs_out {ks : List Int} (h : ¬ (1 ≤ (ks.length : Int) ∧ (ks.length : Int) ≤ 4)) : figs ks = none := if_neg fun z => h ⟨Int.ofNat_le.mpr z.1, Int.ofNat_le.mpr z.2⟩
theorem figs_bad {ks r : List Int} {c f : Int} (h : figsFold ks 0 = figsFold (c :: r) f) (hc : hexv c = none) : figs ks = none := by
  unfold figs
  split
  · rw [h, figsFold, hc]
  · rfl

theorem set05 : True := by
  w_top off
  k_with "last pyIter bytes" => ((k_here; (rename Fr _ _ _ _ => lF9w); (rename News _ _ _ _ => lN9w); (with_unfolding_all refine iter_bytesUnr (by rfl) lF9w lN9w (by assumption) ?_); (intro i9w l19); (refine' figs_rest (y := Str.ofString "found") (stored := [Str.ofString "octet", Str.ofString "value"]) ?hyv19 (fun c9w r9w f9w u9w t9w it9w uu9w h9w tk9w Rest9w hf9w F9w N9w hR9w => ?turnv19) (fun f9w t9w uu9w h9w tk9w hf9w F9w N9w => ?donev19)); (case hyv19 => with_unfolding_all rfl); (all_goals (try k_sweep))))
  k_with "UnrEnd" => ((k_here; (refine' UnrEnd.intro ?Fv20 ?Nv20 [] ?subv20 ?offv20 (hR9w _ _ _ ?ev20 ?yv20 ?zv20)); (case Fv20 => assumption); (case Nv20 => k_asm); (case subv20 => lcg_sub); (case offv20 => exact fun _ h => nomatch h); (case ev20 => assumption); (case yv20 => with_unfolding_all rfl); (case zv20 => (intro z h1 h2; (try dsimp (zetaDelta := true) only); repeat (first | rfl | rw [if_neg (show ¬ List.contains _ z = true from fun e => by rw [h2] at e; cases e)] | rw [if_neg (show ¬ z = _ from fun e => by subst e; first | exact h1 rfl | exact absurd h2 (by decide))])))))
  exact trivial
theorem figs_c {prog : Program} {w : World} {p : Program} {loose : List Str} {mean : ExcName → Option Value} {mg mb : Str → Option Value} {dp un : Nat} {gd : Option (List Code)} {cn : Str} {cs : Scope} {a : Addr} {ccd : Value} {cl : List (Str × Addr)} {outer : List Env} {A₀ : Around} {base h₀ : Heap} {L : Addr} {m : Str → Option Value} {s : Shared} {Q E : Value → Shared → Prop} {news : List (Addr × Obj)}
    {b : Array UInt8} {ks : List Int} {to : Tok} (hb : KBw.bInts b = ks) (hl : ks.length ≤ 100) (S : Site w p loose mean mg mb dp un 2 cs outer A₀ base h₀ L s.heap m news)
    (hN : figs ks = none → ∀ h' tk', Fr h₀ L h' m → News h₀ L h' news → Q .none { s with heap := h', toks := tk' })
    (hS : ∀ v t, figs ks = some v → ∀ h' tk', Fr h₀ L h' m → News h₀ L h' news → Q (.int v t) { s with heap := h', toks := tk' }) :
    wpAny (model prog w) (ktrTop dp un gd cn cs L a ccd cl outer) (call (.ref 122) [.bytes b to]) Q E s := by
  obtain ⟨B, F, X, N, T, hk, hd, hu⟩ := S
  have N0 : News h₀ L s.heap [] := News.nil
  (walk_at "my enter"; intro g9 L9 h9 FG9 F9 N9 B9 X9 T9 kG9; clear N0; (try dsimp only); (try k_lift B9); (try k_fold); k_steps)
  all_goals first
    | exact hN (figs_bad (by assumption) (by assumption)) _ _ (by assumption) (N.grown (grow_of (g := g9) (L' := L9) kG9 (by assumption)))
    | exact hS _ _ (figs_some (by omega) (by omega) (by assumption)) _ _ (by assumption) (N.grown (grow_of (g := g9) (L' := L9) kG9 (by assumption)))
    | exact hN (figs_out (by omega)) _ _ (by assumption) (N.grown (grow_of (g := g9) (L' := L9) kG9 (by assumption)))

theorem set07 : True := by
  k_with_none
  w_top off
  k_with "my site" => ((refine' Site.mk ?s1v1 ?s2v1 ?s3v1 ?s4v1 ?s5v1 ?s6v1 ?s7v1 ?s8v1; (case s1v1 => first | k_asm | fail "site: below"); (case s2v1 => first | k_asm | fail "site: frame"); (case s3v1 => first | k_asm | fail "site: part"); (case s4v1 => first | k_asm | fail "site: ledger"); (case s5v1 => first | k_asm | fail "site: top"); (case s6v1 => first | exact rfl | assumption | fail "site: kind"); (case s7v1 => first | exact room_ok (by assumption) (by decide) | (walk_say "ROOM"; ktr_room) | fail "site: room"); (case s8v1 => first | exact units_ok (by assumption) (by decide) | (walk_say "UNITS"; ktr_units) | fail "site: units")))
  k_with "my enter" => ((refine wpAny_call ?_; k_dflt (refine' code_defG ?k1v2 ?k2v2 ?k3v2 ?k4v2 ?k5v2 ?kAv2 ?kFv2 ?kKv2 ?k6v2 ?k7v2 ?k8v2 ?k9wv2 ?kBv2 ?_ ?c2v2 ?c3v2 ?c4v2 ?c5v2; (case kAv2 => exact rfl); (case kFv2 => exact rfl); (case kKv2 => assumption); (case k1v2 => k_asm); (case k2v2 => k_asm); (case k3v2 => k_asm); (case k4v2 => k_asm); (case k5v2 => k_asm); (case k6v2 => k_is); (case k7v2 => k_is); (case k8v2 => ktr_room); (case k9wv2 => exact BindsTo.of_eq rfl); (case c5v2 => decide); (case kBv2 => exact locs rfl); (case c2v2 => exact rfl); (case c3v2 => exact rfl); (case c4v2 => exact rfl); k_whole)))
  k_with "call ref" => ((k_here; (try dsimp only [List.nil_append, List.append_nil]); refine wpAny_call ?_; k_dflt (refine' code_def ?k1v3 ?k2v3 ?k3v3 ?k4v3 ?k5v3 ?kAv3 ?kFv3 ?kKv3 ?k6v3 ?k7v3 ?k8v3 ?k9wv3 ?kBv3 ?_ ?c2v3 ?c3v3 ?c4v3 ?c5v3; (case kAv3 => exact rfl); (case kFv3 => exact rfl); (case kKv3 => first | exact rfl | assumption); (case k1v3 => k_asm); (case k2v3 => k_asm); (case k3v3 => k_asm); (case k4v3 => k_asm); (case k5v3 => k_asm); (case k6v3 => k_is); (case k7v3 => k_is); (case k8v3 => ktr_room); (case k9wv3 => exact BindsTo.of_eq rfl); (case c5v3 => decide); (case kBv3 => exact locs rfl); (case c2v3 => exact rfl); (case c3v3 => exact rfl); (case c4v3 => exact rfl); k_whole; intro g' L' h' FG' F' N' B' X' T'; (try dsimp only); (try k_lift B'); (try k_fold))))
  k_with "my off" => (((rename (_ ≠ _ ∧ _ ≠ _ ∧ _ ≠ _) ∧ _ => off9w); (simp only [ne_eq] at off9w); (simp only [LCg.Off3, and_true, ne_eq, off9w, not_false_eq_true, and_self, true_and]); (first | done | ((repeat' (refine And.intro ?_ ?_)); all_goals exact neN (by walk_at "my ne")))))
  k_with "ite" => ((k_here; first
      | (refine' ite_posI ?hcv5 ?_; (case hcv5 => k_dflt (exact of_decide_eq_true (by exact rfl))))
      | (refine' ite_negI ?hcv5 ?_; (case hcv5 => k_dflt (exact of_decide_eq_false (by exact rfl))))))
  k_with "my fact" => (first | (with_reducible assumption) | (simp only [ne_eq, not_false_eq_true, *]; done))
  k_with "my ne" => (first | (walk_at "my fact") | exact Ne.symm (by walk_at "my fact") | exact Nat.ne_of_lt (by walk_at "my fact") | exact Nat.ne_of_gt (by walk_at "my fact") | exact Nat.ne_of_lt (Nat.lt_succ_of_lt (by walk_at "my fact")) | exact Nat.ne_of_gt (Nat.lt_succ_of_lt (by walk_at "my fact")) | (walk_say "NE by omega"; omega))
  k_with "my side" => ((with_reducible ((repeat' (refine And.intro ?_ ?_)) <;> first | exact trivial | assumption | (walk_at "my arith"))))
  k_with "my arith" => (first
        | ((show IntMulOk _ _); first | exact PySem.IntMulOk.of_right (PySem.intBits_le_64 (by decide) (by decide)) | exact PySem.IntMulOk.of_left (PySem.intBits_le_64 (by decide) (by decide)) | exact PySem.IntMulOk.of_right (PySem.intBits_le_64 (by omega) (by omega)) | exact PySem.IntMulOk.of_left (PySem.intBits_le_64 (by omega) (by omega)) | mul_fits)
        | ((show Builtin.divisionGoesByPylong _ _ = false); first | exact PyProof.noPylong_of_log2 (by decide +kernel) | exact PyProof.noPylong_small (by omega))
        | omega
        | decide)
  k_with "my no" => (first | with_reducible exact False.elim p9w | with_reducible exact absurd trivial p9w | with_reducible exact absurd rfl p9w | (law_purse 20000 => omega))
  k_with "execs cons" => ((k_here; (first
        | ((with_reducible show wpAny _ _ (execs (Stmt.Return (some _) _ :: _) _) _ _ _); (fail_if_success (with_reducible show wpAny _ _ (execs (Stmt.Return (some (Expr.Tuple _ _ _)) _ :: _) _) _ _ _)); (fail_if_success (with_reducible show wpAny _ _ (execs (Stmt.Return (some (Expr.List _ _)) _ :: _) _) _ _ _)); (fail_if_success (with_reducible show wpAny _ _ (execs (Stmt.Return (some (Expr.Dict _ _ _)) _ :: _) _) _ _ _)); k_dflt ((with_reducible refine' st_retE ?hev11 ?Fv11 ?Xv11 ?Tv11 (fun t => ?ev11) ?hkv11 ?hcv11 (fun t9w tk9w => ?_))); (case hev11 => k_dflt (exact rfl)); (case Fv11 => k_asm); (case Xv11 => k_asm); (case Tv11 => k_asm); (case ev11 => k_dflt (exact rfl)); (case hkv11 => k_dflt (exact rfl)); (case hcv11 => walk_at "my side"); (try dsimp only))
        | ((with_reducible show wpAny _ _ (execs (Stmt.If _ _ [] _ :: _) _) _ _ _); k_dflt ((with_reducible refine' st_if0E ?hev11 ?Fv11 ?Xv11 ?Tv11 ?ev11 ?hkv11 ?hcv11 (fun p9w tk9w => ?_) (fun p9w tk9w => ?_))); (case hev11 => k_dflt (exact rfl)); (case Fv11 => k_asm); (case Xv11 => k_asm); (case Tv11 => k_asm); (case ev11 => k_dflt (exact rfl)); (case hkv11 => k_dflt (exact rfl)); (case hcv11 => walk_at "my side"); all_goals first | (exfalso; walk_at "my no") | (try dsimp only))
        | ((with_reducible show wpAny _ _ (execs (Stmt.If _ _ (_ :: _) _ :: _) _) _ _ _); k_dflt ((with_reducible refine' st_ifE ?hev11 ?Fv11 ?Xv11 ?Tv11 ?ev11 ?hkv11 ?hcv11 (fun p9w tk9w => ?_) (fun p9w tk9w => ?_))); (case hev11 => k_dflt (exact rfl)); (case Fv11 => k_asm); (case Xv11 => k_asm); (case Tv11 => k_asm); (case ev11 => k_dflt (exact rfl)); (case hkv11 => k_dflt (exact rfl)); (case hcv11 => walk_at "my side"); all_goals first | (exfalso; walk_at "my no") | (try dsimp only))
        | ((with_reducible show wpAny _ _ (execs (Stmt.Assign [Expr.Name _ _] _ _ :: _) _) _ _ _); k_dflt ((with_reducible refine' st_assignE ?hev11 ?Fv11 ?Nv11 ?Xv11 ?Tv11 (fun t => ?ev11) ?hkv11 ?hxv11 ?hsv11 ?hcv11 (fun t9w tk9w h9w => ?_))); (case hev11 => k_dflt (exact rfl)); (case Fv11 => k_asm); (case Nv11 => k_asm); (case Xv11 => k_asm); (case Tv11 => k_asm); (case ev11 => k_dflt (exact rfl)); (case hkv11 => k_dflt (exact rfl)); (case hxv11 => k_dflt (exact rfl)); (case hsv11 => k_dflt (exact rfl)); (case hcv11 => walk_at "my side"); intro m9w F9w N9w; (try k_sweep); (try dsimp only)))))
  k_with "eval BinOp" => ((k_here; k_dflt ((with_reducible refine' ev_peE ?hev12 ?Fv12 ?Xv12 ?Tv12 (fun t => ?ev12) ?hkv12 ?hcv12 (fun t9w tk9w => ?_)); (case hev12 => k_dflt (exact rfl)); (case Fv12 => k_asm); (case Xv12 => k_asm); (case Tv12 => k_asm); (case ev12 => k_dflt (exact rfl)); (case hkv12 => k_dflt (exact rfl)); (case hcv12 => walk_at "my side")); (try dsimp only)))
  k_with "eval IfExp" => ((k_here; k_dflt ((with_reducible refine' ev_ifE ?hev13 ?Fv13 ?Xv13 ?Tv13 ?ev13 ?hkv13 ?hcv13 (fun p9w tk9w => ?_) (fun p9w tk9w => ?_)); (case hev13 => k_dflt (exact rfl)); (case Fv13 => k_asm); (case Xv13 => k_asm); (case Tv13 => k_asm); (case ev13 => k_dflt (exact rfl)); (case hkv13 => k_dflt (exact rfl)); (case hcv13 => walk_at "my side"); all_goals first | (exfalso; walk_at "my no") | (try dsimp only))))
  k_with "eval Call" => ((k_here; (with_reducible show wpAny _ _ (eval (Expr.Call (Expr.Name _ _) (_ :: _) [] _) _) _ _ _); k_dflt ((with_reducible refine' ev_callE ?hev14 ?Fv14 ?Xv14 ?Tv14 ?efv14 ?hfv14 (fun t => ?eav14) ?hkv14 ?hcv14 (fun t9w tk9w => ?_)); (case hev14 => k_dflt (exact rfl)); (case Fv14 => k_asm); (case Xv14 => k_asm); (case Tv14 => k_asm); (case efv14 => k_dflt (exact rfl)); (case hfv14 => k_dflt (exact rfl)); (case eav14 => k_dflt (exact rfl)); (case hkv14 => k_dflt (exact rfl)); (case hcv14 => walk_at "my side"))))
  k_with "my nm" => ((k_dflt (refine' nm_ok ?Fv15 ?Xv15 ?Tv15 ?hkv15); (case Fv15 => k_asm); (case Xv15 => k_asm); (case Tv15 => k_asm); (case hkv15 => k_dflt (exact rfl))))
  k_with "spliced" => ((k_here; (with_reducible show wpAny _ _ (spliced (backTo _ (starEach (_ :: _) _))) _ _ _); (fail_if_success (with_reducible show wpAny _ _ (spliced (backTo _ (starEach (_ :: _ :: _ :: _ :: _ :: _ :: _ :: _) _))) _ _ _)); k_dflt ((with_reducible refine' xe_all ?hnv16 (fun tk => ?ev16) ?hcv16 (fun tk9w k9w => ?_))); (case hnv16 => walk_at "my nm"); (case ev16 => k_dflt (exact rfl)); (case hcv16 => walk_at "my side"); (try dsimp only [List.cons_append, List.nil_append])))
  k_with "storeName" => ((k_here; k_dflt ((with_reducible refine' st_storeE ?hev17 ?Fv17 ?Nv17 (fun tk9w h9w => ?_) ?hkv17 ?hxv17)); (case hev17 => k_dflt (exact rfl)); (case Fv17 => k_asm); (case Nv17 => k_asm); (case hkv17 => k_dflt (exact rfl)); (case hxv17 => k_dflt (exact rfl)); intro m9w F9w N9w; (try k_sweep); (try dsimp only)))
  k_with "call ref" => ((k_here; k_dflt (refine' hexv_c ?kSv18 (fun hv9w h9w tk9w F9w N9w => ?_) (fun v9w t9w hv9w h9w tk9w F9w N9w => ?_); (case kSv18 => walk_at "my site")); all_goals ((try dsimp only); (try k_fold))))
  k_with "call ref" => ((k_here; k_dflt (refine' figs_c ?kbv21 ?klv21 ?kSv21 (fun hv9w h9w tk9w F9w N9w => ?_) (fun v9w t9w hv9w h9w tk9w F9w N9w => ?_); (case kbv21 => kba_ints2); (case klv21 => kba_size); (case kSv21 => walk_at "my site")); all_goals ((try dsimp only); (try k_fold))))
  exact trivial
section
variable {prog : Program} {w : World} {A : Around} {E : Value → Shared → Prop} {s : Shared} {env : Env} {h₀ : Heap} {L : Addr} {m : Str → Option Value} {x : Str} {body : List Stmt}
/-- a comprehension with one test over bytes -/
noncomputable def SrcB (prog : Program) (w : World) (A : Around) (h₀ : Heap) (L : Addr) (m : Str → Option Value) (env : Env) (ct elt : Expr) (x : Str) (scope : Scope) (cl : List (Str × Addr)) (Fin : Shared → List Value → List (Addr × Obj) → Prop) (xv : Value) (s₁ : Shared) : Prop :=
  ∃ b t news, xv = .bytes b t ∧ A.handled = none ∧ Fr h₀ L s₁.heap m ∧ News h₀ L s₁.heap news ∧ b.size ≤ sizeLine ∧
    ∀ s₂ : Shared, (∃ h, s₂ = { s₁ with heap := h }) → LCt.CompRestT prog w A h₀ L m env ct elt x scope cl s₂ (fun _ => True) (fun i v => ∃ c u, b[i]? = some c ∧ v = .int ((c.toNat : Nat) : Int) u) (Fin s₂) b.size 0 [] news
theorem SrcB.mk' {ct elt : Expr} {scope : Scope} {cl : List (Str × Addr)} {Fin : Shared → List Value → List (Addr × Obj) → Prop} {b : Array UInt8} {t : Tok} {news : List (Addr × Obj)} {s₁ : Shared}
    (hh : A.handled = none) (F : Fr h₀ L s₁.heap m) (N : News h₀ L s₁.heap news) (hsz : b.size ≤ sizeLine)
    (h : ∀ g, LCt.CompRestT prog w A h₀ L m env ct elt x scope cl { s₁ with heap := g } (fun _ => True) (fun i v => ∃ c u, b[i]? = some c ∧ v = .int ((c.toNat : Nat) : Int) u) (Fin { s₁ with heap := g }) b.size 0 [] news) :
    SrcB prog w A h₀ L m env ct elt x scope cl Fin (.bytes b t) s₁ := ⟨b, t, news, rfl, hh, F, N, hsz, fun _ ⟨g, e⟩ => e ▸ h g⟩
theorem ListComp_B {ct elt iter : Expr} {px : Pos} {scope : Scope} {cl : List (Str × Addr)} {pos : Pos} {Q : Value → Shared → Prop} (_F₀ : Fr h₀ L s.heap m)
    (hclos : closureFor scope env = pure cl) (hcell : ∀ y ∈ scope.names, y.2 ≠ .cell) (hkind : scope.kind = .function)
    (hnames : ∀ y ∈ scope.names, y.2 = .local → scope.names.lookup y.1 = some .local) (hx : scope.names.lookup x = some .local)
    (h : wpAny (model prog w) A (eval iter env) (SrcB prog w A h₀ L m env ct elt x scope cl (fun s₂ => LCg.FinE h₀ L m s₂ Q)) E s)
    (hs : ∀ x, foldedSetIterable iter env x = pure x := by intro _; rfl) :
    wpAny (model prog w) A (eval (.ListComp elt [⟨.Name x px, iter, [ct], 0⟩] scope pos) env) Q E s := by
  rw [eval_ListComp]
  refine wpAny_comprehension_free (use := none) rfl hs hclos hkind hnames (wpAny_mono h (fun xv s₁ h₁ => ?_) fun _ _ e => e)
  obtain ⟨b, t, news, rfl, hh, F, N, hsz, R⟩ := h₁
  refine KBw.pyIter_bytes ?_
  refine LCt.block_T (KBw.walks hh s₁.heap.objs.size b t) hsz (fun i h st => by obtain ⟨o, e, _⟩ := st; exact ⟨o, e⟩) (fun i h h' o nw st e e' _ _ _ => by
      obtain ⟨o', q, r⟩ := st
      rw [e] at q
      cases q
      exact ⟨o, e', r⟩) hcell hkind hx ⟨_, Heap.get?_push_size _ rfl, rfl, rfl⟩ (fun b hb => ?_)
    (F.keeps fun _ _ e => Heap.get?_push_of_some _ e) (N.grown fun _ _ e => Heap.get?_push_of_some _ e) (Nat.ne_of_lt F.ns.lt) (next_is_new F) (fun p hp => Nat.ne_of_lt (Heap.lt_size (N p hp).1)) trivial (R _ ⟨_, rfl⟩) ?_
  · rw [List.mem_singleton.mp hb]
    show s₁.heap.objs.size < (s₁.heap.push _).objs.size
    rw [Heap.size_push]; exact Nat.lt_succ_self _
  · intro D C h tk m' ys news' F' N' o1 hn hC₀ hD₀ hCL hDL hCD offC fin
    refine ⟨m', hn, fun h'' hs'' => fin D h'' tk (F'.change hs'' hCL hC₀) (fun p hp => ?_) o1⟩
    refine ⟨hs''.extBut _ _ ?_ (N' p hp).1, (N' p hp).2⟩
    rcases List.mem_cons.mp hp with rfl | hp
    · exact Ne.symm hCD
    · exact offC p hp

/-- a for over a made tuple, turn by turn -/
noncomputable def TupRest (prog : Program) (w : World) (A : Around) (E : Value → Shared → Prop) (h₀ : Heap) (env : Env) (x : Str) (body : List Stmt) (Q : Flow → Shared → Prop) (s : Shared) (I : Addr) (lp : Addr × Obj) : List Value → (Str → Option Value) → List (Addr × Obj) → Prop
  | [], m, news => ∀ h tk, Fr h₀ env.locals h m → News h₀ env.locals h news → Q .next { s with heap := h, toks := tk }
  | v :: r, m, news => ∀ (it : Obj) h tk, it.cls = .type "tuple_iterator" → Fr h₀ env.locals h (fun y => if y = x then some v else m y) → News h₀ env.locals h ((I, it) :: news) →
      wpAny (model prog w) A (execs body env) (UnrPost h₀ env.locals { s with heap := h, toks := tk } I it (fun m' n' => lp ∈ n' ∧ TupRest prog w A E h₀ env x body Q s I lp r m' n') Q) E { s with heap := h, toks := tk }
theorem TupRest.zero {Q : Flow → Shared → Prop} {I : Addr} {lp : Addr × Obj} {news : List (Addr × Obj)} (h : ∀ h tk, Fr h₀ env.locals h m → News h₀ env.locals h news → Q .next { s with heap := h, toks := tk }) :
    TupRest prog w A E h₀ env x body Q s I lp [] m news := h
theorem TupRest.succ {Q : Flow → Shared → Prop} {I : Addr} {lp : Addr × Obj} {v : Value} {r : List Value} {news : List (Addr × Obj)}
    (h : ∀ (it : Obj) h tk, it.cls = .type "tuple_iterator" → Fr h₀ env.locals h (fun y => if y = x then some v else m y) → News h₀ env.locals h ((I, it) :: news) →
      wpAny (model prog w) A (execs body env) (UnrPost h₀ env.locals { s with heap := h, toks := tk } I it (fun m' n' => lp ∈ n' ∧ TupRest prog w A E h₀ env x body Q s I lp r m' n') Q) E { s with heap := h, toks := tk }) :
    TupRest prog w A E h₀ env x body Q s I lp (v :: r) m news := h

theorem iter_tupleUnr {Q : Flow → Shared → Prop} {ax : Addr} {vs : List Value} {n : Nat} {m₀ : Str → Option Value} {news : List (Addr × Obj)}
    (hh : A.handled = none) (F : Fr h₀ env.locals s.heap m₀) (N : News h₀ env.locals s.heap news) (hm : (ax, ({ cls := .type "tuple", data := .seq vs.toArray n } : Obj)) ∈ news)
    (rest₀ : ∀ I : Addr, (∀ p ∈ news, p.1 < I) → TupRest prog w A E h₀ env x body Q s I (ax, ({ cls := .type "tuple", data := .seq vs.toArray n } : Obj)) vs m₀ news) :
    wpAny (model prog w) A (pyIter (.ref ax)) (fun it s₂ => LoopAtV prog w A h₀ env x body Q E it s₂) E s := by
  generalize hlo : ({ cls := .type "tuple", data := .seq vs.toArray n } : Obj) = lo at hm rest₀
  have hc : lo.cls = .type "tuple" := by rw [← hlo]
  have hd : lo.data = .seq vs.toArray n := by rw [← hlo]
  have hax := N _ hm
  have hl : s.heap.IsTuple ax vs.toArray := ⟨lo, hax.1, hc, n, hd⟩
  have hlt : ax < s.heap.objs.size := Heap.lt_size hax.1
  have hne : ax ≠ s.heap.objs.size := Nat.ne_of_lt hlt
  refine wpAny_pyIter_tuple hl ?_
  have rest := rest₀ s.heap.objs.size fun p hp => Heap.lt_size (N p hp).1
  have W := Walks.tuple (prog := prog) (w := w) hh s.heap.objs.size ax hne vs.toArray
  have hnew := next_is_new F
  have hlen : vs.toArray.size = vs.length := by simp
  rw [hlen] at W
  let J : Nat → (Str → Option Value) → List (Addr × Obj) → Prop := fun i m₁ news₁ => (ax, lo) ∈ news₁ ∧ TupRest prog w A E h₀ env x body Q s s.heap.objs.size (ax, lo) (vs.drop i) m₁ news₁
  refine ⟨_, _, _, vs.length, _, _, m₀, news, J, rfl, W, ?_, ?_, ?_, ⟨⟨_, Heap.get?_push_size _ rfl, rfl, rfl⟩, hl.push _⟩, F.push _, (fun p hp => ⟨Heap.get?_push_of_some _ (N p hp).1, (N p hp).2⟩), ⟨hm, by rw [List.drop_zero]; exact rest⟩, ?_, ?_⟩
  · intro hmm
    rcases List.mem_cons.mp hmm with e | hmm
    · exact absurd F.ns.lt (e ▸ Nat.lt_irrefl _)
    · exact hax.2.1 (List.mem_singleton.mp hmm).symm
  · intro b hb
    rw [List.mem_singleton.mp hb]
    exact hnew
  · intro p hp hI
    exact absurd (Heap.lt_size (N p hp).1) ((List.mem_singleton.mp hI) ▸ Nat.lt_irrefl _)
  · rintro i v m₁ news₁ s₁ own ⟨hh', tk', rfl⟩ hin hP ⟨hmem₁, hJ⟩ hoff hown hget hall hst F₁ N₁
    obtain ⟨it, hit, hic, hid⟩ := hst.1
    have hmemI := hall s.heap.objs.size (List.mem_cons_self ..) hnew _ hit
    have hdrop : vs.drop i = v :: vs.drop (i + 1) := by
      have hlt' : i < vs.length := hin
      have hv : vs[i]? = some v := by simpa using hP
      rw [List.drop_eq_getElem_cons hlt']
      congr 1
      exact Option.some.inj ((List.getElem?_eq_getElem hlt').symm.trans hv)
    rw [hdrop] at hJ
    have N₂ : News h₀ env.locals hh' ((s.heap.objs.size, it) :: news₁) := fun p hp => by
      rcases List.mem_cons.mp hp with rfl | hp
      · exact N₁ _ (List.mem_append_left _ hmemI)
      · exact N₁ _ (List.mem_append_right _ hp)
    refine wpAny_mono (hJ it hh' tk' hic F₁ N₂) (fun f s₂ p => ?_) fun _ _ e => e
    have fin : UnrEnd h₀ env.locals { s with heap := hh', toks := tk' } s.heap.objs.size it (fun m' n' => (ax, lo) ∈ n' ∧ TupRest prog w A E h₀ env x body Q s s.heap.objs.size (ax, lo) (vs.drop (i + 1)) m' n') s₂ →
        LoopStepU h₀ env.locals [s.heap.objs.size] own (J (i + 1)) { s with heap := hh', toks := tk' } .next s₂ := by
      rintro ⟨h', tk, m', news', e, F', N', ho, hmm, r⟩
      refine ⟨rfl, h', tk, m', news', e, F', fun p hp => ?_, fun p hp hI => ho p hp (List.mem_singleton.mp hI), hmm, r⟩
      rcases List.mem_append.mp hp with hp | hp
      · have h2 : hh'.get? p.1 = some p.2 := hget p hp
        rcases List.mem_cons.mp (hown p hp) with h1 | h1
        · have h3 : p = (s.heap.objs.size, it) := by
            rw [h1, hit] at h2
            exact Prod.ext h1 (Option.some.inj h2).symm
          rw [h3]; exact N' _ (List.mem_cons_self ..)
        · have h1' : p.1 = ax := List.mem_singleton.mp h1
          have h3 : p = (ax, lo) := by
            rw [h1', (N₁ _ (List.mem_append_right _ hmem₁)).1] at h2
            exact Prod.ext h1' (Option.some.inj h2).symm
          rw [h3]; exact N' _ (List.mem_cons_of_mem _ hmm)
      · exact N' _ (List.mem_cons_of_mem _ hp)
    cases f with
    | ret v => exact .ret p
    | brk => exact .brk p
    | next => exact .next (fin p)
    | cont => exact .cont (fin p)
  · rintro h' tk m' news' F' N' _ ⟨_, hJ⟩
    have z : vs.drop vs.length = [] := List.drop_length
    rw [z] at hJ
    exact hJ h' tk F' N'
end

theorem set09 : True := by
  w_top off
  k_with "pyIter ref" => (((with_reducible show wpAny _ _ (pyIter (Value.ref _)) (fun it s₂ => LoopAtV _ _ _ _ _ _ _ _ _ it s₂) _ _); (rename Fr _ _ _ _ => lF'); (rename News _ _ _ _ => lN'); (with_unfolding_all refine iter_tupleUnr (by rfl) lF' lN' (by k_mem) ?_); clear lF' lN'; intro i' l1; (try k_lt l1)))
  k_with "TupRest" => ((with_unfolding_all first | (refine TupRest.succ (fun it' h' tk' hit' F' N' => ?_)) | (refine TupRest.zero (fun h' tk' F' N' => ?_))))
  exact trivial
theorem rgb_c {prog : Program} {w : World} {p : Program} {loose : List Str} {mean : ExcName → Option Value} {mg mb : Str → Option Value} {dp un : Nat} {gd : Option (List Code)} {cn : Str} {cs : Scope} {a : Addr} {ccd : Value} {cl : List (Str × Addr)} {outer : List Env} {A₀ : Around} {base h₀ : Heap} {L : Addr} {m : Str → Option Value} {s : Shared} {Q E : Value → Shared → Prop} {news : List (Addr × Obj)}
    {q r g b c : Int} {to : Tok} (hc : c = 16777216 * q + 65536 * r + 256 * g + b) (hq : 0 ≤ q ∧ q < 2) (hr : 0 ≤ r ∧ r < 256) (hg : 0 ≤ g ∧ g < 256) (hb : 0 ≤ b ∧ b < 256)
    (hS : ∀ D t1 t2 t3 h' tk', LCg.Off1 D news → Fr h₀ L h' m → News h₀ L h' ((D, tupOf #[.int r t1, .int g t2, .int b t3]) :: news) → Q (.ref D) { s with heap := h', toks := tk' })
    (S : Site w p loose mean mg mb dp un 1 cs outer A₀ base h₀ L s.heap m news) :
    wpAny (model prog w) (ktrTop dp un gd cn cs L a ccd cl outer) (call (.ref 50) [.int c to]) Q E s := by
  obtain ⟨B, F, X, N, T, hk, hd, hu⟩ := S
  have N0 : News h₀ L s.heap [] := News.sub N led_nil
  have kN0 : KeptN h₀ L s.heap [] := N0
  (walk_at "my enter"; intro g9 L9 h9 FG9 F9 N9 B9 X9 T9 kG9; clear N0; (try dsimp only); (try k_lift B9); (try k_fold); k_steps)
  have e1 : Builtin.bitAnd (c.fdiv (2 ^ Int.toNat 16)) 255 = r := by
    rw [bitAnd_m8, show ((2 : Int) ^ Int.toNat 16) = 65536 from rfl, Int.fdiv_eq_ediv_of_nonneg _ (by decide)]; omega
  have e2 : Builtin.bitAnd (c.fdiv (2 ^ Int.toNat 8)) 255 = g := by
    rw [bitAnd_m8, show ((2 : Int) ^ Int.toNat 8) = 256 from rfl, Int.fdiv_eq_ediv_of_nonneg _ (by decide)]; omega
  have e3 : Builtin.bitAnd c 255 = b := by rw [bitAnd_m8]; omega
  (rename News g9 _ _ _ => N'); (rename Fr g9 _ _ _ => F'); (rename Fr h₀ _ _ _ => kF); (rename News h₀ _ _ _ => kN)
  rw [e1, e2, e3] at N' kN
  exact hS _ _ _ _ _ _ (off_of (led := []) kG9 N' (by k_mem) (by simp) N) kF (News.one kN (by k_mem) (N.grown (grow_led kG9 kN0 F' N' led_nil)))

theorem set10 : True := by
  w_top off
  exact trivial
section
open PySem.Builtin PySem.Builtin.Bytes
theorem self_one (id : String) (a b : Value) : selfAndOne id ⟨[a, b], []⟩ = pure (a, b) := rfl
theorem buffer_full {id : String} {full : Bool} {b : Array UInt8} {t : Tok} : Bytes.buffer? id (.bytes b t) full = pure (some b) := by
  unfold Bytes.buffer?
  rw [KBy.special_eq KBy.look_buffer, KBy.own_buffer, KBy.own_release]
  kernel_rfl
theorem take_eq {id : String} {n : Int} {b : Array UInt8} {t : Tok} : Bytes.takeBufferQuiet? id (.bytes b t) n = pure (some (b, none)) := by
  unfold Bytes.takeBufferQuiet? Bytes.takeBuffer?
  rw [KBy.special_eq KBy.look_buffer, KBy.own_buffer, buffer_full]
  kernel_rfl
noncomputable def bvals (l : List (Array UInt8 × Tok)) : List Value := l.map fun q => .bytes q.1 q.2
theorem wpAny_joinLetGo {M : Model} {A : Around} {E : Value → Shared → Prop} {s : Shared} {Q : Unit → Shared → Prop} {keep : List Value} (h : Q () s) : ∀ l : List (Array UInt8 × Tok), wpAny M A (Bytes.joinLetGo (l.map fun q => (Value.bytes q.1 q.2, none)) keep) Q E s
  | [] => by
    show wpAny M A (Bytes.joinLetGo [] keep) Q E s
    unfold Bytes.joinLetGo
    exact wpAny_pure h
  | q :: r => by
    show wpAny M A (Bytes.joinLetGo ((Value.bytes q.1 q.2, none) :: r.map fun q => (Value.bytes q.1 q.2, none)) keep) Q E s
    unfold Bytes.joinLetGo
    exact wpAny_bind (wpAny_letGo (wpAny_joinLetGo h r))
theorem meets_join (sep : Array UInt8) (t : Tok) (D : Addr) (q1 q2 : Array UInt8 × Tok) (l' : List (Array UInt8 × Tok)) :
    Meets («bytes.join» ⟨[.bytes sep t, .ref D], []⟩) (fun _ R s => s.heap.IsList D (bvals (q1 :: q2 :: l')).toArray ∧ tooLong (((q1 :: q2 :: l').map (·.1)).toArray.foldl (fun x y => x + y.size) (sep.size * (((q1 :: q2 :: l').map (·.1)).toArray.size - 1))) = false ∧ (joined sep ((q1 :: q2 :: l').map (·.1))).size ≤ sizeLine ∧
      ∀ t' k, R (.ok (.ret (.bytes (joined sep ((q1 :: q2 :: l').map (·.1))) t'))) { s with toks := k }) := by
  refine .of_wp fun prog w A R s hS => ?_
  obtain ⟨hl, hsz, hsz2, h⟩ := hS
  have hT := hl.typeIs
  obtain ⟨o, ho, hc, n, hd⟩ := id hl
  have hseq : ∀ {Q : Option (Array Value) → Shared → Prop} {E : Value → Shared → Prop}, Q (some (bvals (q1 :: q2 :: l')).toArray) s → wpAny (model prog w) A.in1 (seqItems? (.ref D)) Q E s := fun hq => by
    unfold seqItems?
    refine wpAny_bind (wpAny_load ho ?_)
    rw [hd]
    exact wpAny_pure hq
  show wpAny _ _ (selfAndOne _ _ >>= _) _ _ s
  refine wpAny_bind (wpAny_of_eq (self_one _ _ _) ?_)
  dsimp only
  refine wpAny_ite (ite_posI (by rfl) ?_)
  refine wpAny_bind ?_
  unfold joinItems
  refine wpAny_bind (wpAny_typeOf hT ?_)
  refine wpAny_ite (ite_posI (by rfl) ?_)
  refine wpAny_pure ?_
  refine wpAny_bind (hseq ?_)
  dsimp only
  refine wpAny_ite (ite_posI (by rfl) ?_)
  refine wpAny_bind (m := forIn [:(bvals (q1 :: q2 :: l')).toArray.size] (#[], []) _) ?_
  generalize hL : (q1 :: q2 :: l') = L at *
  have hsize : (bvals L).toArray.size = L.length := by simp [bvals]
  rw [Std.Legacy.Range.forIn_eq_forIn_range']
  refine wpAny_forIn_list _ (fun rest r s' => ∃ i, rest = List.range' i (L.length - i) ∧ i ≤ L.length ∧ s' = s ∧ r.1 = ((L.take i).map (·.1)).toArray ∧ r.2 = (L.take i).map (fun q => (Value.bytes q.1 q.2, none))) _ ?_ ?_ _ _ ⟨0, by simp [Std.Legacy.Range.size, hsize], Nat.zero_le _, rfl, by simp, by simp⟩
  · rintro x rest ⟨r1, r2⟩ s' ⟨i, hr, hi, rfl, h1, h2⟩
    dsimp only at h1 h2
    have hlt : i < L.length := by
      rcases Nat.lt_or_ge i L.length with h | h
      · exact h
      · rw [Nat.sub_eq_zero_of_le h] at hr
        cases hr
    obtain ⟨j, hj⟩ : ∃ j, L.length - i = j + 1 := ⟨L.length - i - 1, by omega⟩
    rw [hj, List.range'_succ] at hr
    obtain ⟨rfl, rfl⟩ := List.cons.inj hr
    have hitem : (bvals L).toArray.getD x Value.none = Value.bytes (L[x].1) (L[x].2) := by
      simp [bvals, hlt]
    have hheap : (r2.any fun y => y.1.onHeap) = false := by
      rw [h2, List.any_eq_false]
      intro y hy
      obtain ⟨q, _, rfl⟩ := List.mem_map.mp hy
      simp [Value.onHeap]
    refine wpAny_bind (hseq ?_)
    dsimp only
    rw [hitem, hheap]
    refine wpAny_ite (ite_negI (by decide) ?_)
    refine wpAny_bind (wpAny_holding (wpAny_of_eq take_eq ?_))
    dsimp only
    refine wpAny_bind (hseq ?_)
    dsimp only
    refine wpAny_ite (ite_negI (by simp) ?_)
    refine wpAny_pure ⟨x + 1, ?_, hlt, rfl, ?_, ?_⟩
    · rw [show L.length - (x + 1) = j by omega]
    · dsimp only
      rw [h1, List.take_add_one, List.getElem?_eq_getElem hlt, Option.toList_some, List.map_append, List.map_cons, List.map_nil, List.push_toArray]
    · dsimp only
      rw [h2, List.take_add_one, List.getElem?_eq_getElem hlt, Option.toList_some, List.map_append, List.map_cons, List.map_nil]
  · rintro ⟨r1, r2⟩ s' ⟨i, hr, hi, rfl, h1, h2⟩
    dsimp only at h1 h2
    have hil : i = L.length := by
      rcases Nat.lt_or_ge i L.length with h | h
      · obtain ⟨j, hj⟩ : ∃ j, L.length - i = j + 1 := ⟨L.length - i - 1, by omega⟩
        rw [hj, List.range'_succ] at hr
        cases hr
      · omega
    rw [hil, List.take_length] at h1 h2
    rw [h1, h2]
    refine wpAny_bind (wpAny_of_eq (a := sep) rfl ?_)
    dsimp only
    refine wpAny_ite (ite_negI (by rw [hsz]; decide) ?_)
    refine wpAny_bind (wpAny_mkBytes ?_ (by simpa using hsz2))
    refine wpAny_bind (wpAny_holding (wpAny_point ?_))
    refine wpAny_bind (wpAny_joinLetGo ?_ L)
    exact wpAny_pure ⟨_, rfl, by simpa using h _ _⟩

noncomputable def joinI (sep : List Int) : List (List Int) → List Int
  | [] => []
  | [x] => x
  | x :: y :: r => x ++ sep ++ joinI sep (y :: r)
theorem joined_tail (sep : Array UInt8) : ∀ (r : List (Array UInt8)) (k : Nat) (out : Array UInt8), (r.zipIdx (k + 1)).foldl (fun out (q : Array UInt8 × Nat) => (if q.2 > 0 then out ++ sep else out) ++ q.1) out = r.foldl (fun out p => out ++ sep ++ p) out
  | [], _, _ => rfl
  | p :: r, k, out => by
    rw [List.zipIdx_cons, List.foldl_cons, List.foldl_cons]
    dsimp only
    rw [if_pos (Nat.succ_pos k)]
    exact joined_tail sep r (k + 1) _
theorem bInts_app (a b : Array UInt8) : KBw.bInts (a ++ b) = KBw.bInts a ++ KBw.bInts b := KBw.ints_app rfl rfl
theorem joined_ints (sep : Array UInt8) : ∀ (r : List (Array UInt8)) (p : Array UInt8), KBw.bInts (r.foldl (fun out p => out ++ sep ++ p) p) = joinI (KBw.bInts sep) ((p :: r).map KBw.bInts)
  | [], p => rfl
  | q :: r, p => by
    rw [List.foldl_cons]
    have key : ∀ (r : List (Array UInt8)) (a b : Array UInt8), KBw.bInts (r.foldl (fun out p => out ++ sep ++ p) (a ++ b)) = KBw.bInts a ++ KBw.bInts (r.foldl (fun out p => out ++ sep ++ p) b) := by
      intro r
      induction r with
      | nil => intro a b; exact bInts_app a b
      | cons x r ih =>
        intro a b
        rw [List.foldl_cons, List.foldl_cons, show a ++ b ++ sep ++ x = a ++ (b ++ sep ++ x) by simp [Array.append_assoc]]
        exact ih a _
    rw [key, joined_ints sep r q, bInts_app]
    rfl
theorem joined_eq (sep : Array UInt8) (p : Array UInt8) (r : List (Array UInt8)) : KBw.bInts (Bytes.joined sep (p :: r)) = joinI (KBw.bInts sep) ((p :: r).map KBw.bInts) := by
  unfold Bytes.joined
  rw [List.zipIdx_cons, List.foldl_cons]
  dsimp only
  rw [if_neg (by decide)]
  have e := joined_tail sep r 0 (#[] ++ p)
  rw [Nat.zero_add] at e ⊢
  have e2 := joined_ints sep r p
  rw [Array.empty_append] at e
  rw [Array.empty_append]
  exact (congrArg KBw.bInts e).trans e2
theorem joinI_length (sep : List Int) : ∀ l : List (List Int), (joinI sep l).length ≤ (l.map List.length).sum + sep.length * l.length
  | [] => by simp [joinI]
  | [x] => by simp [joinI]
  | x :: y :: r => by
    have h := joinI_length sep (y :: r)
    simp only [joinI, List.length_append, List.map_cons, List.sum_cons, List.length_cons] at h ⊢
    rw [Nat.mul_add sep.length, Nat.mul_one]
    omega

theorem slot_bytes_join : Slot "bytes" "join" "bytes.join" :=
  .of (owner := "bytes") (n := "join") (by rw [typeLookup_type, builtinLookup_eq_fast]; kernel_rfl) (by decide +kernel) (by decide +kernel) (by decide +kernel)
    (by first | exact .inl (by decide +kernel) | exact .inr (by decide +kernel)) (by rw [isSubtype_type]; kernel_rfl)
theorem type_bytes_join : typeOf (.builtin "bytes.join") = pure (.type "method_descriptor") := by show builtinType _ = _; rw [builtinType_eq_fast]; kernel_rfl
theorem entry_bytes_join : entryFor table "bytes.join" = some Builtin.«bytes.join» := entryFor_of_tree (by kernel_rfl)
theorem args_bytes_join_2 (a b : Value) : argsOk "bytes.join" ⟨[a, b], []⟩ := by
  unfold argsOk; rw [signature?_of (id := "bytes.join") (n := ['n', 'i', 'o', 'j']) (o := ['s', 'e', 't', 'y', 'b']) (by kernel_rfl) FB.owner_bytes]; kernel_rfl
section
variable {prog : Program} {w : World} {M : Model} {A : Around} {E : Value → Shared → Prop} {s : Shared}
theorem method_join {b : Array UInt8} {t : Tok} {pl : Sem Bool} {Q : Value × List Value → Shared → Prop} (h : Q (.builtin "bytes.join", [.bytes b t]) s) : wpAny M A (getMethod (.bytes b t) "join" pl) Q E s := by
  with_reducible exact KBd.method_of (.bytes b t) (typeIs_bytes _ _ _) slot_bytes_join type_bytes_join KBd.noRef h
theorem join_call {sep : Array UInt8} {t : Tok} {D : Addr} {q1 q2 : Array UInt8 × Tok} {l' : List (Array UInt8 × Tok)} {vs : List Value} {sk : List Int} {ks : List (List Int)} {Q : Value → Shared → Prop}
    (hl : s.heap.IsList D vs.toArray) (hv : vs = bvals (q1 :: q2 :: l')) (hs : KBw.bInts sep = sk) (hk : (q1 :: q2 :: l').map (fun q => KBw.bInts q.1) = ks) (hz : (ks.map List.length).sum + (sk.length + 1) * (ks.length + 1) ≤ 16777216)
    (h : ∀ B t' k, KBw.bInts B = joinI sk ks → Q (.bytes B t') { s with toks := k }) : wpAny (model prog w) A (call (.builtin "bytes.join") [.bytes sep t, .ref D]) Q E s := by
  subst hv hs hk
  have e := joined_eq sep q1.1 ((q2 :: l').map (·.1))
  have e' : (q1.1 :: (q2 :: l').map (·.1)).map KBw.bInts = (q1 :: q2 :: l').map (fun q => KBw.bInts q.1) := by simp
  rw [e'] at e
  have hlen : (Bytes.joined sep ((q1 :: q2 :: l').map (·.1))).size ≤ sizeLine := by
    have h1 := joinI_length (KBw.bInts sep) ((q1 :: q2 :: l').map (fun q => KBw.bInts q.1))
    rw [← e, KBw.ints_length] at h1
    rw [sizeLine_eq]
    have h2 : (KBw.bInts sep).length * ((q1 :: q2 :: l').map (fun q => KBw.bInts q.1)).length ≤ ((KBw.bInts sep).length + 1) * (((q1 :: q2 :: l').map (fun q => KBw.bInts q.1)).length + 1) := Nat.mul_le_mul (Nat.le_succ _) (Nat.le_succ _)
    show (Bytes.joined sep (q1.1 :: (q2 :: l').map (·.1))).size ≤ _
    omega
  refine call_meets slot_bytes_join (typeIs_bytes _ _ _) entry_bytes_join (args_bytes_join_2 _ _) (meets_join sep t D q1 q2 l') ⟨hl, ?_, hlen, fun t' k => h _ t' k e⟩
  refine KBy.tooLong_not ?_
  have hfold : ∀ (l : List (Array UInt8)) (n : Nat), l.foldl (fun x y => x + y.size) n = n + (l.map fun b => (KBw.bInts b).length).sum := by
    intro l
    induction l with
    | nil => intro n; simp
    | cons a r ih => intro n; rw [List.foldl_cons, ih, List.map_cons, List.sum_cons, KBw.ints_length]; omega
  have hg : ((q1 :: q2 :: l').map (·.1)).toArray.foldl (fun x y => x + y.size) (sep.size * (((q1 :: q2 :: l').map (·.1)).toArray.size - 1)) = ((q1 :: q2 :: l').map (·.1)).foldl (fun x y => x + y.size) (sep.size * (((q1 :: q2 :: l').map (·.1)).toArray.size - 1)) := by
    rw [List.foldl_toArray]
  rw [hg, hfold]
  have h3 : sep.size * (((q1 :: q2 :: l').map (·.1)).toArray.size - 1) ≤ ((KBw.bInts sep).length + 1) * (((q1 :: q2 :: l').map (fun q => KBw.bInts q.1)).length + 1) := by
    rw [← KBw.ints_length sep]
    refine Nat.mul_le_mul (Nat.le_succ _) ?_
    simp
  have h4 : (((q1 :: q2 :: l').map (·.1)).map fun b => (KBw.bInts b).length).sum = (((q1 :: q2 :: l').map (fun q => KBw.bInts q.1)).map List.length).sum := by simp [Function.comp_def]
  omega
end

end

theorem set11 : True := by
  w_top off
  exact trivial
section
open PySem.Builtin PySem.Builtin.Bytes
/-- the runs between the bytes that are c -/
noncomputable def segs {α : Type} [DecidableEq α] (c : α) : List α → List α → List (List α)
  | acc, [] => [acc]
  | acc, x :: r => if x = c then acc :: segs c [] r else segs c (acc ++ [x]) r
theorem segs_free {α : Type} [DecidableEq α] (c : α) : ∀ (q acc r : List α), c ∉ q → segs c acc (q ++ c :: r) = (acc ++ q) :: segs c [] r
  | [], acc, r, _ => by simp [segs]
  | x :: q, acc, r, h => by
    have hx : ¬ x = c := fun e => h (by rw [e]; exact List.mem_cons_self ..)
    rw [List.cons_append, segs, if_neg hx, segs_free c q (acc ++ [x]) r fun m => h (List.mem_cons_of_mem _ m)]
    simp
theorem segs_last {α : Type} [DecidableEq α] (c : α) : ∀ (q acc : List α), c ∉ q → segs c acc q = [acc ++ q]
  | [], acc, _ => by simp [segs]
  | x :: q, acc, h => by
    have hx : ¬ x = c := fun e => h (by rw [e]; exact List.mem_cons_self ..)
    rw [segs, if_neg hx, segs_last c q (acc ++ [x]) fun m => h (List.mem_cons_of_mem _ m)]
    simp
theorem segs_map {α β : Type} [DecidableEq α] [DecidableEq β] (f : α → β) (hf : ∀ a b, f a = f b → a = b) (c : α) : ∀ (q acc : List α), (segs c acc q).map (List.map f) = segs (f c) (acc.map f) (q.map f)
  | [], acc => by simp [segs]
  | x :: q, acc => by
    rw [List.map_cons, segs, segs]
    by_cases h : x = c
    · rw [if_pos h, if_pos (congrArg f h), List.map_cons, segs_map f hf c q []]; rfl
    · rw [if_neg h, if_neg fun e => h (hf _ _ e), segs_map f hf c q (acc ++ [x])]; simp
theorem segs_sizes {α : Type} [DecidableEq α] (c : α) : ∀ (q acc : List α), ∀ x ∈ segs c acc q, x.length ≤ acc.length + q.length
  | [], acc, x, h => by
    rw [List.mem_singleton.mp h]; simp
  | y :: q, acc, x, h => by
    rw [segs] at h
    by_cases e : y = c
    · rw [if_pos e] at h
      rcases List.mem_cons.mp h with rfl | h
      · simp
      · have := segs_sizes c q [] x h
        simp at this ⊢
        omega
    · rw [if_neg e] at h
      have := segs_sizes c q _ x h
      simp at this ⊢
      omega
theorem segs_len {α : Type} [DecidableEq α] (c : α) : ∀ (q acc : List α), (segs c acc q).length ≤ q.length + 1
  | [], acc => by simp [segs]
  | y :: q, acc => by
    rw [segs]
    by_cases e : y = c
    · rw [if_pos e]; have := segs_len c q []; simp; omega
    · rw [if_neg e]; have := segs_len c q (acc ++ [y]); simp; omega

theorem extract_one (b : Array UInt8) (c : UInt8) (i : Nat) (hi : i < b.size) : (b.extract i (i + 1) == #[c]) = decide (b.toList[i]'(by simpa using hi) = c) := by
  have e : b.extract i (i + 1) = #[b[i]] := by
    apply Array.ext
    · simp; omega
    · intro j h1 h2
      simp at h1 h2
      have : j = 0 := by omega
      subst this
      simp
  rw [e]
  by_cases h : b[i] = c
  · simp [h]
  · simp [h]

theorem occ_one (b : Array UInt8) (c : UInt8) : occurrences b #[c] 0 b.size = (List.range b.size).filter fun i => b.toList[i]? = some c := by
  unfold occurrences
  have e : (List.range (b.size + 1 - (0 + (#[c] : Array UInt8).size))).map (· + 0) = List.range b.size := by simp
  rw [e]
  have key : ∀ (k i : Nat) (acc : List Nat) (lo : Nat), i + k = b.size → lo ≤ i →
      ((List.range' i k).foldl (fun (acc : List Nat × Nat) (i : Nat) => if (decide (i ≥ acc.2) && b.extract i (i + (#[c] : Array UInt8).size) == #[c]) = true then (i :: acc.1, i + (#[c] : Array UInt8).size) else acc) (acc, lo)).1.reverse = acc.reverse ++ (List.range' i k).filter fun i => b.toList[i]? = some c := by
    intro k
    induction k with
    | zero => intro i acc lo _ _; simp
    | succ k ih =>
      intro i acc lo hi hlo
      rw [List.range'_succ, List.foldl_cons]
      have hlt : i < b.size := by omega
      have hx := extract_one b c i hlt
      have hg : b.toList[i]? = some (b.toList[i]'(by simpa using hlt)) := List.getElem?_eq_getElem _
      by_cases h : b.toList[i]'(by simpa using hlt) = c
      · have hc : (decide (i ≥ (acc, lo).2) && b.extract i (i + (#[c] : Array UInt8).size) == #[c]) = true := by
          show (decide (i ≥ lo) && b.extract i (i + 1) == #[c]) = true
          rw [hx, decide_eq_true h]
          simp [hlo]
        rw [if_pos hc]
        refine Eq.trans (ih (i + 1) (i :: acc) (i + 1) (by omega) (Nat.le_refl _)) ?_
        rw [List.filter_cons, hg, if_pos (by rw [h]; simp)]
        simp
      · have hc : ¬ (decide (i ≥ (acc, lo).2) && b.extract i (i + (#[c] : Array UInt8).size) == #[c]) = true := by
          show ¬ (decide (i ≥ lo) && b.extract i (i + 1) == #[c]) = true
          rw [hx, decide_eq_false h]
          simp
        rw [if_neg hc]
        refine Eq.trans (ih (i + 1) acc lo (by omega) (by omega)) ?_
        rw [List.filter_cons, hg, if_neg (fun e => h (Option.some.inj (of_decide_eq_true e)))]
  have := key b.size 0 [] 0 (by omega) (Nat.le_refl _)
  rw [← List.range_eq_range'] at this
  simpa using this

theorem ext_list (b : Array UInt8) (lo i : Nat) : (b.extract lo i).toList = (b.toList.drop lo).take (i - lo) := by
  rw [Array.toList_extract, List.extract_eq_take_drop]
theorem between_segs (b : Array UInt8) (c : UInt8) : (between b 1 ((List.range b.size).filter fun i => b.toList[i]? = some c)).map (·.toList) = segs c [] b.toList := by
  unfold between
  have key : ∀ (k i : Nat) (parts : Array (Array UInt8)) (lo : Nat), i + k = b.size → lo ≤ i →
      ((((List.range' i k).filter fun i => b.toList[i]? = some c).foldl (fun (x : Array (Array UInt8) × Nat) p => (x.1.push (b.extract x.2 p), p + 1)) (parts, lo)).1.push
        (b.extract (((List.range' i k).filter fun i => b.toList[i]? = some c).foldl (fun (x : Array (Array UInt8) × Nat) p => (x.1.push (b.extract x.2 p), p + 1)) (parts, lo)).2 b.size)).toList.map (·.toList) =
      parts.toList.map (·.toList) ++ segs c ((b.toList.drop lo).take (i - lo)) (b.toList.drop i) := by
    intro k
    induction k with
    | zero =>
      intro i parts lo hi hlo
      have hn : b.toList.drop i = [] := List.drop_of_length_le (by simp; omega)
      rw [hn, show i = b.size by omega]
      simp [segs, ext_list]
    | succ k ih =>
      intro i parts lo hi hlo
      have hlt : i < b.size := by omega
      have hg : b.toList[i]? = some (b.toList[i]'(by simpa using hlt)) := List.getElem?_eq_getElem _
      have hd : b.toList.drop i = b.toList[i]'(by simpa using hlt) :: b.toList.drop (i + 1) := List.drop_eq_getElem_cons _
      rw [List.range'_succ, List.filter_cons, hg, hd, segs]
      by_cases h : b.toList[i]'(by simpa using hlt) = c
      · rw [if_pos (by rw [h]; simp), if_pos h, List.foldl_cons]
        refine Eq.trans (ih (i + 1) _ (i + 1) (by omega) (Nat.le_refl _)) ?_
        simp [ext_list]
      · rw [if_neg (fun e => h (Option.some.inj (of_decide_eq_true e))), if_neg h]
        refine Eq.trans (ih (i + 1) parts lo (by omega) (by omega)) ?_
        congr 2
        rw [show i + 1 - lo = (i - lo) + 1 by omega, List.take_add_one]
        congr 1
        rw [List.getElem?_drop, show lo + (i - lo) = i by omega, hg]
        rfl
  have := key b.size 0 #[] 0 (by omega) (Nat.le_refl _)
  rw [← List.range_eq_range'] at this
  simpa using this
end

theorem set12 : True := by
  w_top off
  exact trivial
section
open PySem.Builtin PySem.Builtin.Bytes
theorem wpAny_mapM_new {M : Model} {A : Around} {E : Value → Shared → Prop} : ∀ (l : List (Array UInt8)) {s : Shared} {Q : List Value → Shared → Prop}, (∀ x ∈ l, x.size ≤ sizeLine) →
    (∀ (r : List (Array UInt8 × Tok)) (k : Nat), r.map (·.1) = l → Q (bvals r) { s with toks := k }) → wpAny M A (l.mapM Kind.bytes.new) Q E s
  | [], s, Q, _, h => by
    rw [List.mapM_nil]
    exact wpAny_pure (h [] s.toks rfl)
  | x :: l, s, Q, hz, h => by
    rw [List.mapM_cons]
    refine wpAny_bind (wpAny_mkBytes ?_ (hz x (List.mem_cons_self ..)))
    refine wpAny_bind (wpAny_mapM_new l (fun y hy => hz y (List.mem_cons_of_mem _ hy)) fun r k hr => ?_)
    exact wpAny_pure (h ((x, s.toks) :: r) k (by rw [List.map_cons, hr]))
theorem split_opt (id : String) (a : Value) : bindOptional id "split" ["sep", "maxsplit"] [a] [] = pure [some a, none] := by rfl
theorem meets_split (b : Array UInt8) (c : UInt8) (t u : Tok) : Meets («bytes.split» ⟨[.bytes b t, .bytes #[c] u], []⟩) (fun _ R s => b.size + 1 ≤ sizeLine ∧
      ∀ (l : List (Array UInt8 × Tok)) (k : Nat), l.map (fun q => q.1.toList) = segs c [] b.toList → R (.ok (.ret (.ref s.heap.objs.size))) { s with heap := s.heap.push { cls := .type "list", data := .seq (bvals l).toArray }, toks := k }) := by
  refine .of_wp fun prog w A R s hS => ?_
  obtain ⟨hz, h⟩ := hS
  show wpAny _ _ (bindOptional _ _ _ _ _ >>= _) _ _ s
  refine wpAny_bind (wpAny_of_eq (split_opt _ _) ?_)
  (try dsimp only)
  refine wpAny_bind (wpAny_pure ?_)
  refine wpAny_bind (wpAny_of_eq (a := b) rfl ?_)
  (try dsimp only)
  refine wpAny_bind (wpAny_of_eq KBd.like_eq ?_)
  refine wpAny_ite ?_
  rw [if_neg (by simp)]
  rw [occ_one, show (if (-1 : Int) < 0 then b.size + 1 else (-1 : Int).toNat) = b.size + 1 from rfl]
  simp only [Bool.false_eq_true, if_false]
  have hlen : ((List.range b.size).filter fun i => b.toList[i]? = some c).length ≤ b.size + 1 := by
    have := List.length_filter_le (fun i => decide (b.toList[i]? = some c)) (List.range b.size)
    rw [List.length_range] at this
    omega
  rw [List.take_of_length_le hlen]
  have hbs := between_segs b c
  generalize hP : ((List.range b.size).filter fun i => b.toList[i]? = some c) = P at *
  refine wpAny_ite ?_
  cases hp : P.isEmpty with
  | true =>
    rw [if_pos rfl]
    obtain rfl : P = [] := List.isEmpty_iff.mp hp
    refine wpAny_bind (wpAny_rule ?_)
    refine wpAny_bind (wpAny_bind ?_)
    refine wpAny_typeOf (typeIs_bytes _ b t) ?_
    refine wpAny_ite ?_
    rw [if_pos (by rfl)]
    refine wpAny_pure ?_
    refine wpAny_bind (wpAny_newObj_type (wpAny_pure ⟨_, rfl, h [(b, t)] _ ?_⟩) (show 1 ≤ sizeLine by rw [sizeLine_eq]; decide))
    rw [← hbs]
    simp [between]
  | false =>
    rw [if_neg (by decide)]
    have hsz : ∀ x ∈ between b (#[c] : Array UInt8).size P, x.size ≤ sizeLine := by
      intro x hx
      have hm : x.toList ∈ segs c [] b.toList := by
        rw [← hbs]
        exact List.mem_map_of_mem hx
      have := segs_sizes c _ _ _ hm
      simp at this
      omega
    refine wpAny_bind (wpAny_mapM_new _ hsz fun r k hr => ?_)
    have hrl : r.map (fun q => q.1.toList) = segs c [] b.toList := by
      rw [← hbs, show between b 1 P = r.map (·.1) from hr.symm, List.map_map]
      rfl
    have hn : (bvals r).toArray.size ≤ sizeLine := by
      have h1 := congrArg List.length hrl
      have h2 := segs_len c b.toList []
      simp [bvals] at h1 h2 ⊢
      omega
    exact wpAny_bind (wpAny_newObj_type (wpAny_pure ⟨_, rfl, h r _ hrl⟩) hn)

theorem slot_bytes_split : Slot "bytes" "split" "bytes.split" :=
  .of (owner := "bytes") (n := "split") (by rw [typeLookup_type, builtinLookup_eq_fast]; kernel_rfl) (by decide +kernel) (by decide +kernel) (by decide +kernel)
    (by first | exact .inl (by decide +kernel) | exact .inr (by decide +kernel)) (by rw [isSubtype_type]; kernel_rfl)
theorem type_bytes_split : typeOf (.builtin "bytes.split") = pure (.type "method_descriptor") := by show builtinType _ = _; rw [builtinType_eq_fast]; kernel_rfl
theorem entry_bytes_split : entryFor table "bytes.split" = some Builtin.«bytes.split» := entryFor_of_tree (by kernel_rfl)
theorem args_bytes_split_2 (a b : Value) : argsOk "bytes.split" ⟨[a, b], []⟩ := by
  unfold argsOk; rw [signature?_of (id := "bytes.split") (n := ['t', 'i', 'l', 'p', 's']) (o := ['s', 'e', 't', 'y', 'b']) (by kernel_rfl) FB.owner_bytes]; kernel_rfl
theorem u8_inj : ∀ a b : UInt8, ((a.toNat : Nat) : Int) = ((b.toNat : Nat) : Int) → a = b := fun a b h => UInt8.toNat_inj.mp (Int.ofNat.inj h)
theorem segs_ints (c : UInt8) (b : Array UInt8) : (segs c [] b.toList).map (List.map fun u => ((u.toNat : Nat) : Int)) = segs ((c.toNat : Nat) : Int) [] (KBw.bInts b) := segs_map (fun u : UInt8 => ((u.toNat : Nat) : Int)) u8_inj c b.toList []
section
variable {prog : Program} {w : World} {M : Model} {A : Around} {E : Value → Shared → Prop} {s : Shared} {h₀ : Heap} {L : Addr} {m : Str → Option Value} {news : List (Addr × Obj)}
theorem method_split {b : Array UInt8} {t : Tok} {pl : Sem Bool} {Q : Value × List Value → Shared → Prop} (h : Q (.builtin "bytes.split", [.bytes b t]) s) : wpAny M A (getMethod (.bytes b t) "split" pl) Q E s := by
  with_reducible exact KBd.method_of (.bytes b t) (typeIs_bytes _ _ _) slot_bytes_split type_bytes_split KBd.noRef h
theorem split_call {b : Array UInt8} {t u : Tok} {ks : List Int} {Q : Value → Shared → Prop} (F : Fr h₀ L s.heap m) (N : News h₀ L s.heap news) (hb : KBw.bInts b = ks) (hz : ks.length ≤ 1000000)
    (h3 : ∀ D b1 b2 b3 t1 t2 t3 k1 k2 k3 h' k, segs (47 : Int) [] ks = [k1, k2, k3] → KBw.bInts b1 = k1 → KBw.bInts b2 = k2 → KBw.bInts b3 = k3 → k1.length ≤ ks.length → k2.length ≤ ks.length → k3.length ≤ ks.length → Fr h₀ L h' m → News h₀ L h' ((D, W.listOf #[.bytes b1 t1, .bytes b2 t2, .bytes b3 t3] 0) :: news) → (∀ q ∈ news, q.1 < D) → Q (.ref D) { s with heap := h', toks := k })
    (hx : ∀ D (vs : List Value) h' k, (segs (47 : Int) [] ks).length ≠ 3 → vs.length = (segs (47 : Int) [] ks).length → vs.length ≤ 1000001 → Fr h₀ L h' m → News h₀ L h' ((D, W.listOf vs.toArray 0) :: news) → (∀ q ∈ news, q.1 < D) → Q (.ref D) { s with heap := h', toks := k }) :
    wpAny (model prog w) A (call (.builtin "bytes.split") [.bytes b t, .bytes #[47] u]) Q E s := by
  refine call_meets slot_bytes_split (typeIs_bytes _ _ _) entry_bytes_split (args_bytes_split_2 _ _) (meets_split b 47 t u) ⟨by rw [sizeLine_eq, ← KBw.ints_length b, hb]; omega, fun l k hl => ?_⟩
  have e := segs_ints 47 b
  rw [← hl, hb] at e
  have e2 : l.map (fun q => KBw.bInts q.1) = segs (47 : Int) [] ks := by
    rw [← show ((((47 : UInt8).toNat : Nat)) : Int) = 47 from rfl, ← e, List.map_map]
    rfl
  have hlen : l.length = (segs (47 : Int) [] ks).length := by rw [← e2, List.length_map]
  have hfit : l.length ≤ 1000001 := by
    have := segs_len (47 : Int) ks []
    omega
  have F' := F.push { cls := .type "list", data := .seq (bvals l).toArray }
  have N' := N.push F { cls := .type "list", data := .seq (bvals l).toArray }
  have lt : ∀ q ∈ news, q.1 < s.heap.objs.size := fun q hq => Heap.lt_size (N q hq).1
  by_cases h : (segs (47 : Int) [] ks).length = 3
  · rw [h] at hlen
    obtain ⟨q1, q2, q3, rfl⟩ : ∃ q1 q2 q3, l = [q1, q2, q3] := by
      rcases l with _ | ⟨q1, _ | ⟨q2, _ | ⟨q3, _ | ⟨q4, r⟩⟩⟩⟩ <;> simp at hlen
      exact ⟨_, _, _, rfl⟩
    have hs := segs_sizes (47 : Int) ks []
    rw [← e2] at hs
    simp only [List.map_cons, List.map_nil, List.mem_cons, List.not_mem_nil, or_false, List.length_nil, Nat.zero_add] at hs
    exact h3 _ q1.1 q2.1 q3.1 q1.2 q2.2 q3.2 _ _ _ _ k (by rw [← e2]; rfl) rfl rfl rfl (hs _ (.inl rfl)) (hs _ (.inr (.inl rfl))) (hs _ (.inr (.inr rfl))) F' N' lt
  · exact hx _ (bvals l) _ k h (by simp [bvals, hlen]) (by simpa [bvals] using hfit) F' N' lt
end
end

theorem set13 : True := by
  w_top off
  exact trivial
section
variable {prog : Program} {w : World} {M : Model} {A : Around} {E : Value → Shared → Prop} {s : Shared} {sep b1 b2 b3 b4 : Array UInt8} {t t1 t2 t3 t4 : Tok} {D : Addr} {sk k1 k2 k3 k4 : List Int} {Q : Value → Shared → Prop}
theorem join3 (hl : s.heap.IsList D #[.bytes b1 t1, .bytes b2 t2, .bytes b3 t3]) (hs : KBw.bInts sep = sk) (h1 : KBw.bInts b1 = k1) (h2 : KBw.bInts b2 = k2) (h3 : KBw.bInts b3 = k3) (hz : k1.length + k2.length + k3.length + 3 * sk.length ≤ 1000000)
    (h : ∀ B t' k, KBw.bInts B = k1 ++ (sk ++ (k2 ++ (sk ++ k3))) → Q (.bytes B t') { s with toks := k }) : wpAny (model prog w) A (call (.builtin "bytes.join") [.bytes sep t, .ref D]) Q E s :=
  join_call (q1 := (b1, t1)) (q2 := (b2, t2)) (l' := [(b3, t3)]) (ks := [k1, k2, k3]) hl rfl hs (by rw [← h1, ← h2, ← h3]; rfl) (by simp only [List.map_cons, List.map_nil, List.sum_cons, List.sum_nil, List.length_cons, List.length_nil]; omega)
    fun B t' k hB => h B t' k (by rw [hB]; simp [joinI])
end
/-- a hex figure's byte -/
noncomputable def hexfig (d : Int) : Int := [48, 49, 50, 51, 52, 53, 54, 55, 56, 57, 97, 98, 99, 100, 101, 102].getD d.toNat 0
theorem hexfig_cases {d : Int} (h0 : 0 ≤ d) (h1 : d < 16) : (d ≤ 9 ∧ hexfig d = 48 + d) ∨ (10 ≤ d ∧ hexfig d = 87 + d) := by
  obtain ⟨n, rfl⟩ : ∃ n : Nat, d = n := ⟨d.toNat, by omega⟩
  have hn : n < 16 := by omega
  have : ∀ n : Nat, n < 16 → ((n : Int) ≤ 9 ∧ hexfig n = 48 + n) ∨ (10 ≤ (n : Int) ∧ hexfig n = 87 + n) := by decide
  exact this n hn
theorem hexv_hexfig {d : Int} (h0 : 0 ≤ d) (h1 : d < 16) : hexv (hexfig d) = some d := by
  unfold hexv
  rcases hexfig_cases h0 h1 with ⟨h, e⟩ | ⟨h, e⟩
  · rw [if_pos (by omega)]; congr 1; omega
  · rw [if_neg (by omega), if_neg (by omega), if_pos (by omega)]; congr 1; omega
theorem hexfig_range {d : Int} (h0 : 0 ≤ d) (h1 : d < 16) : 48 ≤ hexfig d ∧ hexfig d ≤ 102 ∧ ¬ (58 ≤ hexfig d ∧ hexfig d ≤ 96) := by
  rcases hexfig_cases h0 h1 with ⟨h, e⟩ | ⟨h, e⟩ <;> omega
section
variable {prog : Program} {w : World} {M : Model} {A : Around} {E : Value → Shared → Prop} {s : Shared} {value slice : Expr} {t ui : Tok} {Q : Value → Shared → Prop}
theorem figs_item {i d : Int} (hi : i = d) (h0 : 0 ≤ d) (h1 : d < 16) (h : ∀ t' k, Q (.int (hexfig d) t') { s with toks := k })
    (hs : subscripted slice false (.bytes #[48, 49, 50, 51, 52, 53, 54, 55, 56, 57, 97, 98, 99, 100, 101, 102] t) (.int i ui) = operate [.bytes #[48, 49, 50, 51, 52, 53, 54, 55, 56, 57, 97, 98, 99, 100, 101, 102] t, .int i ui] (getItem (.bytes #[48, 49, 50, 51, 52, 53, 54, 55, 56, 57, 97, 98, 99, 100, 101, 102] t) (.int i ui)) := by with_unfolding_all rfl)
    (ht : ∀ r, letTemporaryGo value (.bytes #[48, 49, 50, 51, 52, 53, 54, 55, 56, 57, 97, 98, 99, 100, 101, 102] t) r = pure () := by intro _; with_unfolding_all rfl) :
    wpAny (model prog w) A (subscriptTail value slice (.bytes #[48, 49, 50, 51, 52, 53, 54, 55, 56, 57, 97, 98, 99, 100, 101, 102] t) (.int i ui)) Q E s := by
  subst hi
  exact KBw.item_K (ks := [48, 49, 50, 51, 52, 53, 54, 55, 56, 57, 97, 98, 99, 100, 101, 102]) (by decide) (by decide) h0 (by simpa using h1) (fun t' k _ _ => h t' k) hs ht
theorem nib_hi {x a b : Int} (h : x = 16 * a + b) (h0 : 0 ≤ b) (h1 : b < 16) : x.fdiv (2 ^ Int.toNat 4) = a := by
  rw [show ((2 : Int) ^ Int.toNat 4) = 16 from rfl, Int.fdiv_eq_ediv_of_nonneg _ (by decide)]; omega
theorem nib_lo {x a b : Int} (h : x = 16 * a + b) (h0 : 0 ≤ b) (h1 : b < 16) : Builtin.bitAnd x 15 = b := by rw [bitAnd_m4]; omega
end
theorem in_two {a b : Int} (ha : 0 ≤ a ∧ a < 16) (hb : 0 ≤ b ∧ b < 16) : ∀ n ∈ [hexfig a, hexfig b], 0 ≤ n ∧ n < 256 := by
  intro n hn
  have h1 := hexfig_range ha.1 ha.2
  have h2 := hexfig_range hb.1 hb.2
  rcases List.mem_cons.mp hn with rfl | hn
  · omega
  · rw [List.mem_singleton.mp hn]; omega
theorem in_one {a : Int} (h0 : 0 ≤ a) (h1 : a < 256) : ∀ n ∈ [a], 0 ≤ n ∧ n < 256 := by
  intro n hn
  rw [List.mem_singleton.mp hn]
  exact ⟨h0, h1⟩

local macro_rules | `(tactic| kba_in) => `(tactic| exact in_two (by omega) (by omega))
local macro_rules | `(tactic| kba_in) => `(tactic| exact in_one (by omega) (by omega))
theorem set15 : True := by
  w_top off
  k_with "getMethod bytes" => ((k_here; (with_reducible refine method_join ?_)))
  k_with "getMethod bytes" => ((k_here; (with_reducible refine method_split ?_)))
  k_with "my ints" => (first | kba_ints | exact (rfl : KBw.bInts _ = ([47] : List Int)) | exact (rfl : KBw.bInts _ = ([] : List Int)) | kba_ints2)
  k_with "my list" => (first | exact News.isList (by k_asm) (by k_mem) | is_list)
  k_with "call builtin:bytes.join" => ((k_here; k_dflt (first
      | (refine' join3 ?lv28 ?hsv28 ?h1v28 ?h2v28 ?h3v28 ?hzv28 ?_; (case lv28 => walk_at "my list"); (case hsv28 => walk_at "my ints"); (case h1v28 => walk_at "my ints"); (case h2v28 => walk_at "my ints"); (case h3v28 => walk_at "my ints"); (case hzv28 => kba_size))); intro B9w t9w k9w hB9w; (try simp only [List.nil_append, List.cons_append, List.append_assoc] at hB9w)))
  k_with "call ref" => ((k_here; k_dflt (refine' rgb_c ?h1v29 ?h2v29 ?h3v29 ?h4v29 ?h5v29 (fun D9w t9w u9w v9w h9w tk9w o9w F9w N9w => ?_) ?kSv29; (case h1v29 => assumption); (case h2v29 => first | assumption | decide | omega); (case h3v29 => first | assumption | omega); (case h4v29 => first | assumption | omega); (case h5v29 => first | assumption | omega); (case kSv29 => walk_at "my site")); (try simp only [LCg.Off1, and_true] at o9w); (try dsimp only); (try k_fold)))
  k_with "call builtin:bytes.split" => ((k_here; k_dflt (refine' split_call ?h1v30 ?h2v30 ?h3v30 ?h4v30 (fun D9w b1 b2 b3 t1 t2 t3 k1 k2 k3 h9w tk9w hsg e1 e2 e3 z1 z2 z3 F9w N9w l9w => ?_) (fun D9w vs9w h9w tk9w hsg e1 z1 F9w N9w l9w => ?_); (case h1v30 => k_asm); (case h2v30 => k_asm); (case h3v30 => walk_at "my ints"); (case h4v30 => kba_size)); all_goals ((try k_lt l9w); (try simp only [List.length_take, List.length_drop] at z1 z2 z3))))
  k_with "subscriptTail" => ((k_here; (with_reducible show wpAny _ _ (subscriptTail _ _ (Value.bytes _ _) (Value.int _ _)) _ _ _); (first
      | (refine' figs_item (nib_hi ?h1v31 ?h2v31 ?h3v31) ?h4v31 ?h5v31 (fun t9w k9w => ?_); (case h1v31 => assumption); (case h2v31 => omega); (case h3v31 => omega); (case h4v31 => omega); (case h5v31 => omega))
      | (refine' figs_item (nib_lo ?h1v31 ?h2v31 ?h3v31) ?h4v31 ?h5v31 (fun t9w k9w => ?_); (case h1v31 => assumption); (case h2v31 => omega); (case h3v31 => omega); (case h4v31 => omega); (case h5v31 => omega)))))
  exact trivial
noncomputable def rgbOct (a b c d e f : Int) : List Int := [114, 103, 98, 58, hexfig a, hexfig b, hexfig a, hexfig b, 47, hexfig c, hexfig d, hexfig c, hexfig d, 47, hexfig e, hexfig f, hexfig e, hexfig f]
theorem colo_c {prog : Program} {w : World} {p : Program} {loose : List Str} {mean : ExcName → Option Value} {mg mb : Str → Option Value} {dp un : Nat} {gd : Option (List Code)} {cn : Str} {cs : Scope} {a : Addr} {ccd : Value} {cl : List (Str × Addr)} {outer : List Env} {A₀ : Around} {base h₀ : Heap} {L : Addr} {m : Str → Option Value} {s : Shared} {Q E : Value → Shared → Prop} {news : List (Addr × Obj)}
    {r g b c r1 r0 g1 g0 b1 b0 : Int} {t : Tok} (hc : c = 16777216 * 0 + 65536 * r + 256 * g + b) (hr : r = 16 * r1 + r0) (hg : g = 16 * g1 + g0) (hb : b = 16 * b1 + b0) (hn1 : 0 ≤ r1 ∧ r1 < 16) (hn2 : 0 ≤ r0 ∧ r0 < 16) (hn3 : 0 ≤ g1 ∧ g1 < 16) (hn4 : 0 ≤ g0 ∧ g0 < 16) (hn5 : 0 ≤ b1 ∧ b1 < 16) (hn6 : 0 ≤ b0 ∧ b0 < 16)
    (hS : ∀ B t' h' tk', KBw.bInts B = rgbOct r1 r0 g1 g0 b1 b0 → Fr h₀ L h' m → News h₀ L h' news → Q (.bytes B t') { s with heap := h', toks := tk' })
    (S : Site w p loose mean mg mb dp un 3 cs outer A₀ base h₀ L s.heap m news) :
    wpAny (model prog w) (ktrTop dp un gd cn cs L a ccd cl outer) (call (.ref 150) [.int c t]) Q E s := by
  obtain ⟨B, F, X, N, T, hk, hd, hu⟩ := S
  have N0 : News h₀ L s.heap [] := News.sub N led_nil
  have kN0 : KeptN h₀ L s.heap [] := N0
  (walk_at "my enter"; intro g9 L9 h9 FG9 F9 N9 B9 X9 T9 kG9; clear N0; (try dsimp only); (try k_lift B9); (try k_fold); k_steps)
  (rename News g9 _ _ _ => N'); (rename Fr g9 _ _ _ => F'); (rename Fr h₀ _ _ _ => kF); (rename News h₀ _ _ _ => kN)
  refine hS _ _ _ _ ?_ kF (N.grown (grow_led kG9 kN0 F' N' (by first | exact led_nil | exact led_cons (by k_mem) led_nil)))
  first | assumption | (simp only [bInts_app, *]; rfl)

theorem set16 : True := by
  w_top off
  exact trivial
noncomputable def sixteen (i : Int) : Int := [0, 13434880, 52480, 13487360, 238, 13435085, 52685, 15066597, 8355711, 16711680, 65280, 16776960, 6053119, 16711935, 65535, 16777215].getD i.toNat 0
theorem pal_c {prog : Program} {w : World} {p : Program} {loose : List Str} {mean : ExcName → Option Value} {mg mb : Str → Option Value} {dp un : Nat} {gd : Option (List Code)} {cn : Str} {cs : Scope} {a : Addr} {ccd : Value} {cl : List (Str × Addr)} {outer : List Env} {A₀ : Around} {base h₀ : Heap} {L : Addr} {m : Str → Option Value} {s : Shared} {Q E : Value → Shared → Prop} {news : List (Addr × Obj)}
    {c : Int} {t : Tok} (h0 : 0 ≤ c) (h1 : c < 16)
    (hS : ∀ t' h' tk', Fr h₀ L h' m → News h₀ L h' news → Q (.int (sixteen c) t') { s with heap := h', toks := tk' })
    (S : Site w p loose mean mg mb dp un 3 cs outer A₀ base h₀ L s.heap m news) :
    wpAny (model prog w) (ktrTop dp un gd cn cs L a ccd cl outer) (call (.ref 171) [.int c t]) Q E s := by
  obtain ⟨B, F, X, N, T, hk, hd, hu⟩ := S
  have N0 : News h₀ L s.heap [] := News.sub N led_nil
  have kN0 : KeptN h₀ L s.heap [] := N0
  (walk_at "my enter"; intro g9 L9 h9 FG9 F9 N9 B9 X9 T9 kG9; clear N0; (try dsimp only); (try k_lift B9); (try k_fold); k_steps)
  all_goals ((rename News g9 _ _ _ => N'); (rename Fr g9 _ _ _ => F'); (rename Fr h₀ _ _ _ => kF); (rename News h₀ _ _ _ => kN); exact hS _ _ _ kF (N.grown (grow_led kG9 kN0 F' N' (by first | exact led_nil | exact led_cons (by k_mem) led_nil))))

theorem set17 : True := by
  w_top off
  exact trivial
theorem figs_bound {ks : List Int} {v : Int} (h : figs ks = some v) : 1 ≤ ks.length ∧ ks.length ≤ 4 ∧ 0 ≤ v ∧ v < 16 ^ ks.length := by
  unfold figs at h
  have step : ∀ {o : Int} {r : List Int} {f w : Int}, figsFold (o :: r) f = some w → ∃ d, 0 ≤ d ∧ d < 16 ∧ figsFold r (f * 16 + d) = some w := by
    intro o r f w h
    unfold figsFold at h
    cases e : hexv o with
    | none => rw [e] at h; cases h
    | some d => rw [e] at h; exact ⟨d, (hexv_lo e).1, (hexv_lo e).2, h⟩
  have fin : ∀ {f w : Int}, figsFold [] f = some w → f = w := fun h => by unfold figsFold at h; exact Option.some.inj h
  split at h
  · rename_i hl
    refine ⟨hl.1, hl.2, ?_⟩
    rcases ks with _ | ⟨x, _ | ⟨y, _ | ⟨z, _ | ⟨u, _ | ⟨q, r⟩⟩⟩⟩⟩
    · simp at hl
    · obtain ⟨d1, a1, b1, h⟩ := step h
      have := fin h
      exact ⟨by omega, by rw [show (16 : Int) ^ ([x] : List Int).length = 16 by simp]; omega⟩
    · obtain ⟨d1, a1, b1, h⟩ := step h
      obtain ⟨d2, a2, b2, h⟩ := step h
      have := fin h
      exact ⟨by omega, by rw [show (16 : Int) ^ ([x, y] : List Int).length = 256 by simp]; omega⟩
    · obtain ⟨d1, a1, b1, h⟩ := step h
      obtain ⟨d2, a2, b2, h⟩ := step h
      obtain ⟨d3, a3, b3, h⟩ := step h
      have := fin h
      exact ⟨by omega, by rw [show (16 : Int) ^ ([x, y, z] : List Int).length = 4096 by simp]; omega⟩
    · obtain ⟨d1, a1, b1, h⟩ := step h
      obtain ⟨d2, a2, b2, h⟩ := step h
      obtain ⟨d3, a3, b3, h⟩ := step h
      obtain ⟨d4, a4, b4, h⟩ := step h
      have := fin h
      exact ⟨by omega, by rw [show (16 : Int) ^ ([x, y, z, u] : List Int).length = 65536 by simp]; omega⟩
    · simp at hl
  · cases h
theorem pow_cases {n : Nat} (h1 : 1 ≤ n) (h2 : n ≤ 4) : (n = 1 ∧ (16 : Int) ^ n = 16) ∨ (n = 2 ∧ (16 : Int) ^ n = 256) ∨ (n = 3 ∧ (16 : Int) ^ n = 4096) ∨ (n = 4 ∧ (16 : Int) ^ n = 65536) := by
  have : n = 1 ∨ n = 2 ∨ n = 3 ∨ n = 4 := by omega
  rcases this with rfl | rfl | rfl | rfl <;> simp
noncomputable def partV (ks : List Int) : Option Int := match figs ks with | none => none | some v => some (((v * 65535).fdiv (16 ^ ks.length - 1)).fdiv 256)
noncomputable def partsV (k1 k2 k3 : List Int) : Option Int := match partV k1, partV k2, partV k3 with
  | some a, some b, some c => some ((a * 256 + b) * 256 + c)
  | _, _, _ => none
theorem partV_none {ks : List Int} (h : figs ks = none) : partV ks = none := by unfold partV; rw [h]
section
variable {prog : Program} {w : World} {A : Around} {E : Value → Shared → Prop} {s : Shared} {Q : Value → Shared → Prop}
theorem parts_div {v : Int} {ks : List Int} {tv tn : Tok} (hf : figs ks = some v) (h : ∀ q t k, partV ks = some (q.fdiv 256) → 0 ≤ q → q < 65536 → Q (.int q t) { s with toks := k }) :
    wpAny (model prog w) A (binaryOp .FloorDiv (.int (v * 65535) tv) (.int (16 ^ ((ks.length : Nat) : Int).toNat - 1) tn)) Q E s := by
  obtain ⟨l1, l2, v0, v1⟩ := figs_bound hf
  rw [Int.toNat_natCast]
  have key : ∀ m : Int, 15 ≤ m → m ≤ 65535 → v ≤ m → 0 ≤ (v * 65535).fdiv m ∧ (v * 65535).fdiv m < 65536 := by
    intro m h1 h2 h3
    rw [Int.fdiv_eq_ediv_of_nonneg _ (by omega)]
    have hx : ∃ x, v * 65535 = x := ⟨_, rfl⟩
    obtain ⟨x, hx⟩ := hx
    rw [hx]
    have h4 : ∃ B : Int, B = 65536 := ⟨_, rfl⟩
    obtain ⟨B, hB⟩ := h4
    rw [← hB]
    have h5 : x < B * m := by rw [hB]; omega
    exact ⟨Int.ediv_nonneg (by omega) (by omega), Int.ediv_lt_of_lt_mul (by omega) h5⟩
  have hm : 15 ≤ (16 : Int) ^ ks.length - 1 ∧ (16 : Int) ^ ks.length - 1 ≤ 65535 := by rcases pow_cases l1 l2 with ⟨_, e⟩ | ⟨_, e⟩ | ⟨_, e⟩ | ⟨_, e⟩ <;> rw [e] <;> decide
  have hb := key _ hm.1 hm.2 (by omega)
  exact floordiv_int (by omega) (h _ _ _ (by unfold partV; rw [hf]) hb.1 hb.2) (Or.inl (PyProof.noPylong_small (by omega)))
end
noncomputable def pFold : List (List Int) → Int → Option Int
  | [], f => some f
  | k :: r, f => match partV k with | none => none | some q => pFold r (f * 256 + q)
theorem pFold_three {k1 k2 k3 : List Int} : pFold [k1, k2, k3] 0 = partsV k1 k2 k3 := by
  unfold partsV
  simp only [pFold]
  cases partV k1 with
  | none => cases partV k2 <;> cases partV k3 <;> rfl
  | some a => cases partV k2 with
    | none => cases partV k3 <;> rfl
    | some b => cases partV k3 with
      | none => rfl
      | some c => show some _ = some _; rw [Int.zero_mul, Int.zero_add]
inductive PartBs : List Value → List (List Int) → Prop
  | nil : PartBs [] []
  | cons {b : Array UInt8} {t : Tok} {k : List Int} {vs : List Value} {ks : List (List Int)} : KBw.bInts b = k → k.length ≤ 100 → PartBs vs ks → PartBs (.bytes b t :: vs) (k :: ks)
section
variable {prog : Program} {w : World} {A : Around} {E : Value → Shared → Prop} {s : Shared} {env : Env} {h₀ : Heap} {x : Str} {body : List Stmt} {Q : Flow → Shared → Prop}
theorem parts_rest {I : Addr} {lp : Addr × Obj} {y : Str} {stored : List Str} {m₀ : Str → Option Value} {vs : List Value} {ks : List (List Int)} {t₀ : Tok} {news : List (Addr × Obj)} (hy : m₀ y = some (.int 0 t₀)) (hv : PartBs vs ks) (hlp : lp ∈ news)
    (turn : ∀ (b : Array UInt8) (tb : Tok) (k : List Int) (r : List (List Int)) (f : Int) (t : Tok) (it : Obj) (uu : Str → Option Value) h tk (Rest : (Str → Option Value) → List (Addr × Obj) → Prop), KBw.bInts b = k → k.length ≤ 100 → pFold ks 0 = pFold (k :: r) f →
      Fr h₀ env.locals h (fun z => if z = x then some (.bytes b tb) else if z = y then some (.int f t) else if stored.contains z then uu z else m₀ z) → News h₀ env.locals h ((I, it) :: news) →
      (∀ m' (q : Int) t', partV k = some (q.fdiv 256) → m' y = some (.int (f * 256 + q.fdiv (2 ^ Int.toNat 8)) t') → (∀ z, z ≠ y → stored.contains z = false → m' z = m₀ z) → Rest m' news) →
      wpAny (model prog w) A (execs body env) (UnrPost h₀ env.locals { s with heap := h, toks := tk } I it Rest Q) E { s with heap := h, toks := tk })
    (done : ∀ (f : Int) (t : Tok) (uu : Str → Option Value) h tk, pFold ks 0 = some f → Fr h₀ env.locals h (fun z => if z = y then some (.int f t) else if stored.contains z then uu z else m₀ z) → News h₀ env.locals h news → Q .next { s with heap := h, toks := tk }) :
    ListRest prog w A E h₀ env x body Q s I lp vs m₀ news := by
  have key : ∀ (ws : List Value) (l : List (List Int)), PartBs ws l → ∀ (f : Int) (t : Tok) (m₁ : Str → Option Value), pFold ks 0 = pFold l f → m₁ y = some (.int f t) → (∀ z, z ≠ y → stored.contains z = false → m₁ z = m₀ z) → ListRest prog w A E h₀ env x body Q s I lp ws m₁ news := by
    intro ws l hw
    induction hw with
    | nil =>
      intro f t m₁ e h1 h2
      refine ListRest.zero fun h tk F N => ?_
      rw [shape_of h1 h2] at F
      exact done f t m₁ h tk e F N
    | cons hb hl _ ih =>
      rename_i b tb k ws' r _
      intro f t m₁ e h1 h2
      refine ListRest.succ fun it h tk _ F N => ?_
      rw [shape_of h1 h2] at F
      refine turn b tb k r f t it m₁ h tk _ hb hl e F N fun m' q t' hv h1' h2' => ⟨hlp, ih _ t' m' ?_ h1' h2'⟩
      rw [e, pFold, hv]; (try rfl)
  exact key vs ks hv 0 t₀ m₀ rfl hy fun _ _ _ => rfl
end
theorem parts_bad {k1 k2 k3 k : List Int} {r : List (List Int)} {f : Int} (h : pFold [k1, k2, k3] 0 = pFold (k :: r) f) (hk : figs k = none) : partsV k1 k2 k3 = none := by
  rw [← pFold_three, h, pFold, partV_none hk]
theorem parts_good {k1 k2 k3 : List Int} {f : Int} (h : pFold [k1, k2, k3] 0 = some f) : partsV k1 k2 k3 = some f := pFold_three.symm.trans h

theorem set19 : True := by
  w_top off
  k_with "binaryOp FloorDiv int int" => ((k_here; k_dflt (refine' parts_div ?h1v32 (fun q9w t9w k9w hp9w l9w u9w => ?_); (case h1v32 => assumption))))
  k_with "ListRest" => ((k_here; k_dflt (refine' parts_rest (y := Str.ofString "found") (stored := [Str.ofString "part", Str.ofString "number", Str.ofString "most"]) ?hyv33 hpb9w ?hmv33 (fun b9w tb9w kk9w r9w f9w t9w it9w uu9w h9w tk9w Rest9w hb9w hl9w hf9w F9w N9w hR9w => ?turnv33) (fun f9w t9w uu9w h9w tk9w hf9w F9w N9w => ?donev33); (case hyv33 => with_unfolding_all rfl); (case hmv33 => k_mem)); (all_goals (try k_sweep))))
  k_with "UnrEnd" => ((k_here; (refine' UnrEnd.intro ?Fv34 ?Nv34 _ ?subv34 ?offv34 (hR9w _ _ _ ?ev34 ?yv34 ?zv34)); (case Fv34 => assumption); (case Nv34 => k_asm); (case subv34 => lcg_sub); (case offv34 => walk_at "my offI"); (case ev34 => assumption); (case yv34 => with_unfolding_all rfl); (case zv34 => (intro z h1 h2; (try dsimp (zetaDelta := true) only); repeat (first | rfl | rw [if_neg (show ¬ List.contains _ z = true from fun e => by rw [h2] at e; cases e)] | rw [if_neg (show ¬ z = _ from fun e => by subst e; first | exact h1 rfl | exact absurd h2 (by decide))])))))
  k_with "my offI" => ((intro q hq; (repeat (cases hq with | head => exact neN (by walk_at "my ne") | tail _ hq => ?_)); cases hq))
  exact trivial
theorem parts_c {prog : Program} {w : World} {p : Program} {loose : List Str} {mean : ExcName → Option Value} {mg mb : Str → Option Value} {dp un : Nat} {gd : Option (List Code)} {cn : Str} {cs : Scope} {a : Addr} {ccd : Value} {cl : List (Str × Addr)} {outer : List Env} {A₀ : Around} {base h₀ : Heap} {L : Addr} {m : Str → Option Value} {s : Shared} {Q E : Value → Shared → Prop} {news : List (Addr × Obj)}
    {D : Addr} {nD : Nat} {b1 b2 b3 : Array UInt8} {t1 t2 t3 : Tok} {k1 k2 k3 : List Int} (hb1 : KBw.bInts b1 = k1) (hb2 : KBw.bInts b2 = k2) (hb3 : KBw.bInts b3 = k3) (hl1 : k1.length ≤ 100) (hl2 : k2.length ≤ 100) (hl3 : k3.length ≤ 100) (hD : (D, W.listOf #[.bytes b1 t1, .bytes b2 t2, .bytes b3 t3] nD) ∈ news)
    (hN : partsV k1 k2 k3 = none → ∀ h' tk', Fr h₀ L h' m → News h₀ L h' news → Q .none { s with heap := h', toks := tk' })
    (hS : ∀ v t, partsV k1 k2 k3 = some v → ∀ h' tk', Fr h₀ L h' m → News h₀ L h' news → Q (.int v t) { s with heap := h', toks := tk' })
    (S : Site w p loose mean mg mb dp un 3 cs outer A₀ base h₀ L s.heap m news) :
    wpAny (model prog w) (ktrTop dp un gd cn cs L a ccd cl outer) (call (.ref 129) [.ref D]) Q E s := by
  obtain ⟨B, F, X, N, T, hk, hd, hu⟩ := S
  have N0 : News h₀ L s.heap [(D, W.listOf #[.bytes b1 t1, .bytes b2 t2, .bytes b3 t3] nD)] := News.sub N (by intro q hq; rw [List.mem_singleton.mp hq]; exact hD)
  have kN0 : KeptN h₀ L s.heap [(D, W.listOf #[.bytes b1 t1, .bytes b2 t2, .bytes b3 t3] nD)] := N0
  have hpb9w : PartBs [.bytes b1 t1, .bytes b2 t2, .bytes b3 t3] [k1, k2, k3] := .cons hb1 hl1 (.cons hb2 hl2 (.cons hb3 hl3 .nil))
  (walk_at "my enter"; intro g9 L9 h9 FG9 F9 N9 B9 X9 T9 kG9; clear N0; (try dsimp only); (try k_lift B9); (try k_fold); k_steps)
  all_goals ((rename News g9 _ _ _ => N'); (rename Fr g9 _ _ _ => F'); (rename Fr h₀ _ _ _ => kF); (rename News h₀ _ _ _ => kN))
  all_goals first
    | exact hN (parts_bad (by assumption) (by assumption)) _ _ kF (N.grown (grow_led kG9 kN0 F' N' (led_cons (by k_mem) led_nil)))
    | exact hS _ _ (parts_good (by assumption)) _ _ kF (N.grown (grow_led kG9 kN0 F' N' (led_cons (by k_mem) led_nil)))

theorem set20 : True := by
  k_with_none
  w_top off
  k_with "my site" => ((refine' Site.mk ?s1v1 ?s2v1 ?s3v1 ?s4v1 ?s5v1 ?s6v1 ?s7v1 ?s8v1; (case s1v1 => first | k_asm | fail "site: below"); (case s2v1 => first | k_asm | fail "site: frame"); (case s3v1 => first | k_asm | fail "site: part"); (case s4v1 => first | k_asm | fail "site: ledger"); (case s5v1 => first | k_asm | fail "site: top"); (case s6v1 => first | exact rfl | assumption | fail "site: kind"); (case s7v1 => first | exact room_ok (by assumption) (by decide) | (walk_say "ROOM"; ktr_room) | fail "site: room"); (case s8v1 => first | exact units_ok (by assumption) (by decide) | (walk_say "UNITS"; ktr_units) | fail "site: units")))
  k_with "my enter" => ((refine wpAny_call ?_; k_dflt (refine' code_defG ?k1v2 ?k2v2 ?k3v2 ?k4v2 ?k5v2 ?kAv2 ?kFv2 ?kKv2 ?k6v2 ?k7v2 ?k8v2 ?k9wv2 ?kBv2 ?_ ?c2v2 ?c3v2 ?c4v2 ?c5v2; (case kAv2 => exact rfl); (case kFv2 => exact rfl); (case kKv2 => assumption); (case k1v2 => k_asm); (case k2v2 => k_asm); (case k3v2 => k_asm); (case k4v2 => k_asm); (case k5v2 => k_asm); (case k6v2 => k_is); (case k7v2 => k_is); (case k8v2 => ktr_room); (case k9wv2 => exact BindsTo.of_eq rfl); (case c5v2 => decide); (case kBv2 => exact locs rfl); (case c2v2 => exact rfl); (case c3v2 => exact rfl); (case c4v2 => exact rfl); k_whole)))
  k_with "call ref" => ((k_here; (try dsimp only [List.nil_append, List.append_nil]); refine wpAny_call ?_; k_dflt (refine' code_def ?k1v3 ?k2v3 ?k3v3 ?k4v3 ?k5v3 ?kAv3 ?kFv3 ?kKv3 ?k6v3 ?k7v3 ?k8v3 ?k9wv3 ?kBv3 ?_ ?c2v3 ?c3v3 ?c4v3 ?c5v3; (case kAv3 => exact rfl); (case kFv3 => exact rfl); (case kKv3 => first | exact rfl | assumption); (case k1v3 => k_asm); (case k2v3 => k_asm); (case k3v3 => k_asm); (case k4v3 => k_asm); (case k5v3 => k_asm); (case k6v3 => k_is); (case k7v3 => k_is); (case k8v3 => ktr_room); (case k9wv3 => exact BindsTo.of_eq rfl); (case c5v3 => decide); (case kBv3 => exact locs rfl); (case c2v3 => exact rfl); (case c3v3 => exact rfl); (case c4v3 => exact rfl); k_whole; intro g' L' h' FG' F' N' B' X' T'; (try dsimp only); (try k_lift B'); (try k_fold))))
  k_with "my off" => (((rename (_ ≠ _ ∧ _ ≠ _ ∧ _ ≠ _) ∧ _ => off9w); (simp only [ne_eq] at off9w); (simp only [LCg.Off3, and_true, ne_eq, off9w, not_false_eq_true, and_self, true_and]); (first | done | ((repeat' (refine And.intro ?_ ?_)); all_goals exact neN (by walk_at "my ne")))))
  k_with "ite" => ((k_here; first
      | (refine' ite_posI ?hcv5 ?_; (case hcv5 => k_dflt (exact of_decide_eq_true (by exact rfl))))
      | (refine' ite_negI ?hcv5 ?_; (case hcv5 => k_dflt (exact of_decide_eq_false (by exact rfl))))))
  k_with "my fact" => (first | (with_reducible assumption) | (simp only [ne_eq, not_false_eq_true, *]; done))
  k_with "my ne" => (first | (walk_at "my fact") | exact Ne.symm (by walk_at "my fact") | exact Nat.ne_of_lt (by walk_at "my fact") | exact Nat.ne_of_gt (by walk_at "my fact") | exact Nat.ne_of_lt (Nat.lt_succ_of_lt (by walk_at "my fact")) | exact Nat.ne_of_gt (Nat.lt_succ_of_lt (by walk_at "my fact")) | (walk_say "NE by omega"; omega))
  k_with "my side" => ((with_reducible ((repeat' (refine And.intro ?_ ?_)) <;> first | exact trivial | assumption | (walk_at "my arith"))))
  k_with "my arith" => (first
        | ((show IntMulOk _ _); first | exact PySem.IntMulOk.of_right (PySem.intBits_le_64 (by decide) (by decide)) | exact PySem.IntMulOk.of_left (PySem.intBits_le_64 (by decide) (by decide)) | exact PySem.IntMulOk.of_right (PySem.intBits_le_64 (by omega) (by omega)) | exact PySem.IntMulOk.of_left (PySem.intBits_le_64 (by omega) (by omega)) | mul_fits)
        | ((show Builtin.divisionGoesByPylong _ _ = false); first | exact PyProof.noPylong_of_log2 (by decide +kernel) | exact PyProof.noPylong_small (by omega))
        | omega
        | decide)
  k_with "my no" => (first | with_reducible exact False.elim p9w | with_reducible exact absurd trivial p9w | with_reducible exact absurd rfl p9w | (law_purse 20000 => omega))
  k_with "execs cons" => ((k_here; (first
        | ((with_reducible show wpAny _ _ (execs (Stmt.Return (some _) _ :: _) _) _ _ _); (fail_if_success (with_reducible show wpAny _ _ (execs (Stmt.Return (some (Expr.Tuple _ _ _)) _ :: _) _) _ _ _)); (fail_if_success (with_reducible show wpAny _ _ (execs (Stmt.Return (some (Expr.List _ _)) _ :: _) _) _ _ _)); (fail_if_success (with_reducible show wpAny _ _ (execs (Stmt.Return (some (Expr.Dict _ _ _)) _ :: _) _) _ _ _)); k_dflt ((with_reducible refine' st_retE ?hev11 ?Fv11 ?Xv11 ?Tv11 (fun t => ?ev11) ?hkv11 ?hcv11 (fun t9w tk9w => ?_))); (case hev11 => k_dflt (exact rfl)); (case Fv11 => k_asm); (case Xv11 => k_asm); (case Tv11 => k_asm); (case ev11 => k_dflt (exact rfl)); (case hkv11 => k_dflt (exact rfl)); (case hcv11 => walk_at "my side"); (try dsimp only))
        | ((with_reducible show wpAny _ _ (execs (Stmt.If _ _ [] _ :: _) _) _ _ _); k_dflt ((with_reducible refine' st_if0E ?hev11 ?Fv11 ?Xv11 ?Tv11 ?ev11 ?hkv11 ?hcv11 (fun p9w tk9w => ?_) (fun p9w tk9w => ?_))); (case hev11 => k_dflt (exact rfl)); (case Fv11 => k_asm); (case Xv11 => k_asm); (case Tv11 => k_asm); (case ev11 => k_dflt (exact rfl)); (case hkv11 => k_dflt (exact rfl)); (case hcv11 => walk_at "my side"); all_goals first | (exfalso; walk_at "my no") | (try dsimp only))
        | ((with_reducible show wpAny _ _ (execs (Stmt.If _ _ (_ :: _) _ :: _) _) _ _ _); k_dflt ((with_reducible refine' st_ifE ?hev11 ?Fv11 ?Xv11 ?Tv11 ?ev11 ?hkv11 ?hcv11 (fun p9w tk9w => ?_) (fun p9w tk9w => ?_))); (case hev11 => k_dflt (exact rfl)); (case Fv11 => k_asm); (case Xv11 => k_asm); (case Tv11 => k_asm); (case ev11 => k_dflt (exact rfl)); (case hkv11 => k_dflt (exact rfl)); (case hcv11 => walk_at "my side"); all_goals first | (exfalso; walk_at "my no") | (try dsimp only))
        | ((with_reducible show wpAny _ _ (execs (Stmt.Assign [Expr.Name _ _] _ _ :: _) _) _ _ _); k_dflt ((with_reducible refine' st_assignE ?hev11 ?Fv11 ?Nv11 ?Xv11 ?Tv11 (fun t => ?ev11) ?hkv11 ?hxv11 ?hsv11 ?hcv11 (fun t9w tk9w h9w => ?_))); (case hev11 => k_dflt (exact rfl)); (case Fv11 => k_asm); (case Nv11 => k_asm); (case Xv11 => k_asm); (case Tv11 => k_asm); (case ev11 => k_dflt (exact rfl)); (case hkv11 => k_dflt (exact rfl)); (case hxv11 => k_dflt (exact rfl)); (case hsv11 => k_dflt (exact rfl)); (case hcv11 => walk_at "my side"); intro m9w F9w N9w; (try k_sweep); (try dsimp only)))))
  k_with "eval BinOp" => ((k_here; k_dflt ((with_reducible refine' ev_peE ?hev12 ?Fv12 ?Xv12 ?Tv12 (fun t => ?ev12) ?hkv12 ?hcv12 (fun t9w tk9w => ?_)); (case hev12 => k_dflt (exact rfl)); (case Fv12 => k_asm); (case Xv12 => k_asm); (case Tv12 => k_asm); (case ev12 => k_dflt (exact rfl)); (case hkv12 => k_dflt (exact rfl)); (case hcv12 => walk_at "my side")); (try dsimp only)))
  k_with "eval IfExp" => ((k_here; k_dflt ((with_reducible refine' ev_ifE ?hev13 ?Fv13 ?Xv13 ?Tv13 ?ev13 ?hkv13 ?hcv13 (fun p9w tk9w => ?_) (fun p9w tk9w => ?_)); (case hev13 => k_dflt (exact rfl)); (case Fv13 => k_asm); (case Xv13 => k_asm); (case Tv13 => k_asm); (case ev13 => k_dflt (exact rfl)); (case hkv13 => k_dflt (exact rfl)); (case hcv13 => walk_at "my side"); all_goals first | (exfalso; walk_at "my no") | (try dsimp only))))
  k_with "eval Call" => ((k_here; (with_reducible show wpAny _ _ (eval (Expr.Call (Expr.Name _ _) (_ :: _) [] _) _) _ _ _); k_dflt ((with_reducible refine' ev_callE ?hev14 ?Fv14 ?Xv14 ?Tv14 ?efv14 ?hfv14 (fun t => ?eav14) ?hkv14 ?hcv14 (fun t9w tk9w => ?_)); (case hev14 => k_dflt (exact rfl)); (case Fv14 => k_asm); (case Xv14 => k_asm); (case Tv14 => k_asm); (case efv14 => k_dflt (exact rfl)); (case hfv14 => k_dflt (exact rfl)); (case eav14 => k_dflt (exact rfl)); (case hkv14 => k_dflt (exact rfl)); (case hcv14 => walk_at "my side"))))
  k_with "my nm" => ((k_dflt (refine' nm_ok ?Fv15 ?Xv15 ?Tv15 ?hkv15); (case Fv15 => k_asm); (case Xv15 => k_asm); (case Tv15 => k_asm); (case hkv15 => k_dflt (exact rfl))))
  k_with "spliced" => ((k_here; (with_reducible show wpAny _ _ (spliced (backTo _ (starEach (_ :: _) _))) _ _ _); (fail_if_success (with_reducible show wpAny _ _ (spliced (backTo _ (starEach (_ :: _ :: _ :: _ :: _ :: _ :: _ :: _) _))) _ _ _)); k_dflt ((with_reducible refine' xe_all ?hnv16 (fun tk => ?ev16) ?hcv16 (fun tk9w k9w => ?_))); (case hnv16 => walk_at "my nm"); (case ev16 => k_dflt (exact rfl)); (case hcv16 => walk_at "my side"); (try dsimp only [List.cons_append, List.nil_append])))
  k_with "storeName" => ((k_here; k_dflt ((with_reducible refine' st_storeE ?hev17 ?Fv17 ?Nv17 (fun tk9w h9w => ?_) ?hkv17 ?hxv17)); (case hev17 => k_dflt (exact rfl)); (case Fv17 => k_asm); (case Nv17 => k_asm); (case hkv17 => k_dflt (exact rfl)); (case hxv17 => k_dflt (exact rfl)); intro m9w F9w N9w; (try k_sweep); (try dsimp only)))
  k_with "call ref" => ((k_here; k_dflt (refine' hexv_c ?kSv18 (fun hv9w h9w tk9w F9w N9w => ?_) (fun v9w t9w hv9w h9w tk9w F9w N9w => ?_); (case kSv18 => walk_at "my site")); all_goals ((try dsimp only); (try k_fold))))
  k_with "call ref" => ((k_here; k_dflt (refine' figs_c ?kbv21 ?klv21 ?kSv21 (fun hv9w h9w tk9w F9w N9w => ?_) (fun v9w t9w hv9w h9w tk9w F9w N9w => ?_); (case kbv21 => kba_ints2); (case klv21 => kba_size); (case kSv21 => walk_at "my site")); all_goals ((try dsimp only); (try k_fold))))
  k_with "pyIter ref" => (((with_reducible show wpAny _ _ (pyIter (Value.ref _)) (fun it s₂ => LoopAtV _ _ _ _ _ _ _ _ _ it s₂) _ _); (rename Fr _ _ _ _ => lF'); (rename News _ _ _ _ => lN'); (with_unfolding_all refine iter_tupleUnr (by rfl) lF' lN' (by k_mem) ?_); clear lF' lN'; intro i' l1; (try k_lt l1)))
  k_with "TupRest" => ((with_unfolding_all first | (refine TupRest.succ (fun it' h' tk' hit' F' N' => ?_)) | (refine TupRest.zero (fun h' tk' F' N' => ?_))))
  k_with "getMethod bytes" => ((k_here; (with_reducible refine method_join ?_)))
  k_with "getMethod bytes" => ((k_here; (with_reducible refine method_split ?_)))
  k_with "my ints" => (first | kba_ints | exact (rfl : KBw.bInts _ = ([47] : List Int)) | exact (rfl : KBw.bInts _ = ([] : List Int)) | kba_ints2)
  k_with "my list" => (first | exact News.isList (by k_asm) (by k_mem) | is_list)
  k_with "call builtin:bytes.join" => ((k_here; k_dflt (first
      | (refine' join3 ?lv28 ?hsv28 ?h1v28 ?h2v28 ?h3v28 ?hzv28 ?_; (case lv28 => walk_at "my list"); (case hsv28 => walk_at "my ints"); (case h1v28 => walk_at "my ints"); (case h2v28 => walk_at "my ints"); (case h3v28 => walk_at "my ints"); (case hzv28 => kba_size))); intro B9w t9w k9w hB9w; (try simp only [List.nil_append, List.cons_append, List.append_assoc] at hB9w)))
  k_with "call ref" => ((k_here; k_dflt (refine' rgb_c ?h1v29 ?h2v29 ?h3v29 ?h4v29 ?h5v29 (fun D9w t9w u9w v9w h9w tk9w o9w F9w N9w => ?_) ?kSv29; (case h1v29 => assumption); (case h2v29 => first | assumption | decide | omega); (case h3v29 => first | assumption | omega); (case h4v29 => first | assumption | omega); (case h5v29 => first | assumption | omega); (case kSv29 => walk_at "my site")); (try simp only [LCg.Off1, and_true] at o9w); (try dsimp only); (try k_fold)))
  k_with "call builtin:bytes.split" => ((k_here; k_dflt (refine' split_call ?h1v30 ?h2v30 ?h3v30 ?h4v30 (fun D9w b1 b2 b3 t1 t2 t3 k1 k2 k3 h9w tk9w hsg e1 e2 e3 z1 z2 z3 F9w N9w l9w => ?_) (fun D9w vs9w h9w tk9w hsg e1 z1 F9w N9w l9w => ?_); (case h1v30 => k_asm); (case h2v30 => k_asm); (case h3v30 => walk_at "my ints"); (case h4v30 => kba_size)); all_goals ((try k_lt l9w); (try simp only [List.length_take, List.length_drop] at z1 z2 z3))))
  k_with "subscriptTail" => ((k_here; (with_reducible show wpAny _ _ (subscriptTail _ _ (Value.bytes _ _) (Value.int _ _)) _ _ _); (first
      | (refine' figs_item (nib_hi ?h1v31 ?h2v31 ?h3v31) ?h4v31 ?h5v31 (fun t9w k9w => ?_); (case h1v31 => assumption); (case h2v31 => omega); (case h3v31 => omega); (case h4v31 => omega); (case h5v31 => omega))
      | (refine' figs_item (nib_lo ?h1v31 ?h2v31 ?h3v31) ?h4v31 ?h5v31 (fun t9w k9w => ?_); (case h1v31 => assumption); (case h2v31 => omega); (case h3v31 => omega); (case h4v31 => omega); (case h5v31 => omega)))))
  exact trivial
noncomputable def triV (a b c : Option Int) : Option Int := match a, b, c with
  | some a, some b, some c => some ((a * 256 + b) * 256 + c)
  | _, _, _ => none
noncomputable def digV (m : Nat) (ks : List Int) : Option Int := match figs ks with | none => none | some v => some ((v * 2 ^ (16 - 4 * m)).fdiv 256)
noncomputable def digsV (ks : List Int) : Option Int := if ks.length = 3 ∨ ks.length = 6 ∨ ks.length = 9 ∨ ks.length = 12 then triV (digV (ks.length / 3) (ks.take (ks.length / 3))) (digV (ks.length / 3) ((ks.drop (ks.length / 3)).take (ks.length / 3))) (digV (ks.length / 3) ((ks.drop (2 * (ks.length / 3))).take (ks.length / 3))) else none
theorem digV_none {m : Nat} {ks : List Int} (h : figs ks = none) : digV m ks = none := by unfold digV; rw [h]
section
variable {prog : Program} {w : World} {A : Around} {E : Value → Shared → Prop} {s : Shared} {Q : Value → Shared → Prop} {b : Array UInt8} {t : Tok}
end
theorem figs_small {ks : List Int} {v : Int} (h : figs ks = some v) : 0 ≤ v ∧ v < 65536 := by
  obtain ⟨l1, l2, v0, v1⟩ := figs_bound h
  refine ⟨v0, ?_⟩
  rcases pow_cases l1 l2 with ⟨_, e⟩ | ⟨_, e⟩ | ⟨_, e⟩ | ⟨_, e⟩ <;> omega
theorem figs_cb {prog : Program} {w : World} {p : Program} {loose : List Str} {mean : ExcName → Option Value} {mg mb : Str → Option Value} {dp un : Nat} {gd : Option (List Code)} {cn : Str} {cs : Scope} {a : Addr} {ccd : Value} {cl : List (Str × Addr)} {outer : List Env} {A₀ : Around} {base h₀ : Heap} {L : Addr} {m : Str → Option Value} {s : Shared} {Q E : Value → Shared → Prop} {news : List (Addr × Obj)}
    {b : Array UInt8} {ks : List Int} {to : Tok} (hb : KBw.bInts b = ks) (hl : ks.length ≤ 100) (S : Site w p loose mean mg mb dp un 2 cs outer A₀ base h₀ L s.heap m news)
    (hN : figs ks = none → ∀ h' tk', Fr h₀ L h' m → News h₀ L h' news → Q .none { s with heap := h', toks := tk' })
    (hS : ∀ v t, figs ks = some v → 0 ≤ v → v < 65536 → ∀ h' tk', Fr h₀ L h' m → News h₀ L h' news → Q (.int v t) { s with heap := h', toks := tk' }) :
    wpAny (model prog w) (ktrTop dp un gd cn cs L a ccd cl outer) (call (.ref 122) [.bytes b to]) Q E s :=
  figs_c hb hl S hN fun v t h => hS v t h (figs_small h).1 (figs_small h).2
theorem digs_no {m : Nat} {A B C ks l : List Int} (hk : digsV ks = triV (digV m A) (digV m B) (digV m C)) (h : figs l = none) (e : l = A ∨ l = B ∨ l = C) : digsV ks = none := by
  rw [hk]
  rcases e with rfl | rfl | rfl
  · rw [digV_none h]; rfl
  · rw [digV_none h]; cases digV m A <;> rfl
  · rw [digV_none h]; cases digV m A <;> cases digV m B <;> rfl
theorem digs_so {m c : Nat} {A B C ks l1 l2 l3 : List Int} {v1 v2 v3 : Int} (hk : digsV ks = triV (digV m A) (digV m B) (digV m C)) (h1 : figs l1 = some v1) (h2 : figs l2 = some v2) (h3 : figs l3 = some v3) (e1 : l1 = A) (e2 : l2 = B) (e3 : l3 = C) (hc : c = 16 - 4 * m) :
    digsV ks = some (((0 * 256 + (v1 * 2 ^ c).fdiv (2 ^ Int.toNat 8)) * 256 + (v2 * 2 ^ c).fdiv (2 ^ Int.toNat 8)) * 256 + (v3 * 2 ^ c).fdiv (2 ^ Int.toNat 8)) := by
  subst e1 e2 e3 hc
  rw [hk, digV, digV, digV, h1, h2, h3, show ((2 : Int) ^ Int.toNat 8) = 256 from rfl, Int.zero_mul, Int.zero_add]
  rfl
noncomputable def ThirdOf (ds : List Int) (c : Int) : Prop := (ds.length : Int) = 3 * c ∧ 1 ≤ c ∧ c ≤ 4
theorem each_div {prog : Program} {w : World} {A : Around} {E : Value → Shared → Prop} {s : Shared} {Q : Value → Shared → Prop} {a c : Int} {t u : Tok} {ds : List Int} (h3 : ThirdOf ds c) (ha : a = (ds.length : Int)) (H : ∀ t' k, Q (.int c t') { s with toks := k }) :
    wpAny (model prog w) A (binaryOp .FloorDiv (.int a t) (.int 3 u)) Q E s := by
  obtain ⟨h, h1, h4⟩ := h3
  replace h := ha.trans h
  clear ha
  have e : a.fdiv 3 = c := by
    have hc : c = 1 ∨ c = 2 ∨ c = 3 ∨ c = 4 := by omega
    rcases hc with rfl | rfl | rfl | rfl <;> subst h <;> rfl
  have hp : Builtin.divisionGoesByPylong a 3 = false := by
    have hc : c = 1 ∨ c = 2 ∨ c = 3 ∨ c = 4 := by omega
    rcases hc with rfl | rfl | rfl | rfl <;> subst h <;> decide +kernel
  have z := opI_sound (prog := prog) (w := w) (A := A) (E := E) (h := s.heap) (g := s.gens) (d := s.drawn) (o := s.os) (op := .FloorDiv) (a := a) (b := 3) (i := a.fdiv 3) (q := (3 : Int) ≠ 0 ∧ Builtin.divisionGoesByPylong a 3 = false) rfl ⟨by decide, hp⟩ (t := t) (u := u) (k := s.toks) (Q := Q) (by rw [e]; exact H)
  exact z
theorem third_cases {ks : List Int} : (∃ c, ThirdOf ks c) ∨ (ks.length ≠ 3 ∧ ks.length ≠ 6 ∧ ks.length ≠ 9 ∧ ks.length ≠ 12) := by
  by_cases h3 : ks.length = 3
  · exact .inl ⟨1, by rw [h3]; rfl, by decide, by decide⟩
  by_cases h6 : ks.length = 6
  · exact .inl ⟨2, by rw [h6]; rfl, by decide, by decide⟩
  by_cases h9 : ks.length = 9
  · exact .inl ⟨3, by rw [h9]; rfl, by decide, by decide⟩
  by_cases h12 : ks.length = 12
  · exact .inl ⟨4, by rw [h12]; rfl, by decide, by decide⟩
  exact .inr ⟨h3, h6, h9, h12⟩
theorem third_range {ks : List Int} {b c : Int} (h3 : ThirdOf ks c) (hb : b = (ks.length : Int)) : Builtin.Range.small 0 b c = true ∧ Builtin.Range.rangeSize 0 b c = ((3 : Nat) : Int) := by
  obtain ⟨hl, h1, h4⟩ := h3
  replace hb := hb.trans hl
  clear hl
  have hc : c = 1 ∨ c = 2 ∨ c = 3 ∨ c = 4 := by omega
  rcases hc with rfl | rfl | rfl | rfl <;> subst hb <;> exact ⟨by decide, by decide⟩
noncomputable def seg (ks : List Int) (c : Int) (i : Nat) : List Int := (ks.drop (i * c.toNat)).take c.toNat
noncomputable def shv (c v : Int) : Int := (v * 2 ^ (16 - 4 * c).toNat).fdiv (2 ^ Int.toNat 8)
noncomputable def Acc (ks : List Int) (c : Int) : Nat → Int → Prop
  | 0, f => f = 0
  | i + 1, f => ∃ g v, Acc ks c i g ∧ figs (seg ks c i) = some v ∧ f = g * 256 + shv c v
theorem seg_eq {ks : List Int} {c : Int} {i : Nat} (h3 : ThirdOf ks c) (hi : i < 3) : List.take (clipAt ks.length (0 + (i : Int) * c + c) - clipAt ks.length (0 + (i : Int) * c)) (List.drop (clipAt ks.length (0 + (i : Int) * c)) ks) = seg ks c i := by
  obtain ⟨hl, h1, h4⟩ := h3
  obtain ⟨n, rfl⟩ := Int.eq_ofNat_of_zero_le (Int.le_trans (by decide : (0 : Int) ≤ 1) h1)
  have hn : ks.length = 3 * n := Int.ofNat.inj (by rw [Int.ofNat_eq_natCast, Int.ofNat_eq_natCast, hl, Int.natCast_mul]; rfl)
  have hin : i * n ≤ 2 * n := Nat.mul_le_mul_right n (Nat.le_of_lt_succ hi)
  have e1 : (0 : Int) + (i : Int) * (n : Int) = ((i * n : Nat) : Int) := by rw [Int.zero_add, Int.natCast_mul]
  have e2 : (0 : Int) + (i : Int) * (n : Int) + (n : Int) = ((i * n + n : Nat) : Int) := by rw [e1, ← Int.natCast_add]
  rw [e2, e1, clipAt_nat, clipAt_nat, hn, Nat.min_eq_left (by omega), Nat.min_eq_left (by omega), Nat.add_sub_cancel_left]
  rfl
theorem third_digs {ks : List Int} {c : Int} (h3 : ThirdOf ks c) : digsV ks = triV (digV c.toNat (seg ks c 0)) (digV c.toNat (seg ks c 1)) (digV c.toNat (seg ks c 2)) := by
  obtain ⟨hl, h1, h4⟩ := h3
  obtain ⟨n, rfl⟩ := Int.eq_ofNat_of_zero_le (Int.le_trans (by decide : (0 : Int) ≤ 1) h1)
  have hn : ks.length = 3 * n := Int.ofNat.inj (by rw [Int.ofNat_eq_natCast, Int.ofNat_eq_natCast, hl, Int.natCast_mul]; rfl)
  have hq : ks.length / 3 = n := by rw [hn, Nat.mul_div_cancel_left n (by decide)]
  unfold digsV seg
  rw [if_pos (by omega), hq, Int.toNat_natCast, Nat.zero_mul, Nat.one_mul, List.drop_zero]
theorem digs_bad {ks : List Int} {c : Int} {i : Nat} (h3 : ThirdOf ks c) (hi : i < 3) (h : figs (seg ks c i) = none) : digsV ks = none := by
  refine digs_no (third_digs h3) h ?_
  rcases i with _ | _ | _ | i
  · exact .inl rfl
  · exact .inr (.inl rfl)
  · exact .inr (.inr rfl)
  · omega
theorem digs_good {ks : List Int} {c f : Int} (h3 : ThirdOf ks c) (h : Acc ks c 3 f) : digsV ks = some f := by
  obtain ⟨g2, v2, ⟨g1, v1, ⟨g0, v0, rfl, q0, rfl⟩, q1, rfl⟩, q2, rfl⟩ := h
  have e : (16 - 4 * c).toNat = 16 - 4 * c.toNat := by have := h3.2.1; have := h3.2.2; omega
  unfold shv
  rw [e]
  exact digs_so (third_digs h3) q0 q1 q2 rfl rfl rfl rfl
section
variable {prog : Program} {w : World} {A : Around} {E : Value → Shared → Prop} {s : Shared} {env : Env} {h₀ : Heap} {x : Str} {body : List Stmt} {Q : Flow → Shared → Prop}
theorem digs_rest {I : Addr} {y : Str} {stored : List Str} {m₀ : Str → Option Value} {ks : List Int} {c : Int} {t₀ : Tok} {news : List (Addr × Obj)} (hy : m₀ y = some (.int 0 t₀))
    (turn : ∀ (i : Nat) (f : Int) (u t : Tok) (it : Obj) (uu : Str → Option Value) h tk (Rest : (Str → Option Value) → List (Addr × Obj) → Prop), i < 3 → Acc ks c i f →
      Fr h₀ env.locals h (fun z => if z = x then some (.int (0 + (i : Int) * c) u) else if z = y then some (.int f t) else if stored.contains z then uu z else m₀ z) → News h₀ env.locals h ((I, it) :: news) →
      (∀ m' v t', figs (seg ks c i) = some v → m' y = some (.int (f * 256 + shv c v) t') → (∀ z, z ≠ y → stored.contains z = false → m' z = m₀ z) → Rest m' news) →
      wpAny (model prog w) A (execs body env) (UnrPost h₀ env.locals { s with heap := h, toks := tk } I it Rest Q) E { s with heap := h, toks := tk })
    (done : ∀ (f : Int) (t : Tok) (uu : Str → Option Value) h tk, Acc ks c 3 f → Fr h₀ env.locals h (fun z => if z = y then some (.int f t) else if stored.contains z then uu z else m₀ z) → News h₀ env.locals h news → Q .next { s with heap := h, toks := tk }) :
    KrsRest prog w A E h₀ env x body Q s I 0 c 3 3 0 m₀ news := by
  have key : ∀ (k i : Nat) (f : Int) (t : Tok) (m₁ : Str → Option Value), i + k = 3 → Acc ks c i f → m₁ y = some (.int f t) → (∀ z, z ≠ y → stored.contains z = false → m₁ z = m₀ z) → KrsRest prog w A E h₀ env x body Q s I 0 c 3 k i m₁ news := by
    intro k
    induction k with
    | zero =>
      intro i f t m₁ e ha h1 h2
      refine KrsRest.zero fun h tk F N => ?_
      rw [shape_of h1 h2] at F
      rw [show i = 3 from e] at ha
      exact done f t m₁ h tk ha F N
    | succ k ih =>
      intro i f t m₁ e ha h1 h2
      refine KrsRest.succ rfl fun u h tk F N => ?_
      rw [shape_of h1 h2] at F
      refine turn i f u t _ m₁ h tk _ (by omega) ha F N fun m' v t' hv h1' h2' => ih (i + 1) _ t' m' (by omega) ⟨f, v, ha, hv, rfl⟩ h1' h2'
  exact key 3 0 0 t₀ m₀ rfl rfl hy fun _ _ _ => rfl
end
theorem third_any {ks : List Int} {c : Int} (h3 : ThirdOf ks c) : ([3, 6, 9, 12].any fun x => x == (ks.length : Int)) = true := by
  obtain ⟨hl, h1, h4⟩ := h3
  have hc : c = 1 ∨ c = 2 ∨ c = 3 ∨ c = 4 := by omega
  rcases hc with rfl | rfl | rfl | rfl <;> rw [hl] <;> rfl
theorem other_any {ks : List Int} (l3 : ks.length ≠ 3) (l6 : ks.length ≠ 6) (l9 : ks.length ≠ 9) (l12 : ks.length ≠ 12) : ([3, 6, 9, 12].any fun x => x == (ks.length : Int)) = false := by
  rw [List.any_eq_false]
  intro x hx h
  have e := eq_of_beq h
  simp only [List.mem_cons, List.not_mem_nil, or_false] at hx
  omega

theorem set22 : True := by
  w_top off
  k_with "call ref" => ((k_here; k_dflt (refine' figs_cb ?kbv36 ?klv36 ?kSv36 (fun hv9w h9w tk9w F9w N9w => ?_) (fun v9w t9w hv9w lo9w hi9w h9w tk9w F9w N9w => ?_); (case kbv36 => kba_ints2); (case klv36 => kba_size); (case kSv36 => walk_at "my site")); all_goals ((try dsimp only); (try k_fold))))
  k_with "binaryOp FloorDiv int int" => ((k_here; k_dflt (refine' each_div ?h3v37 ?hav37 (fun t9w k9w => ?_); (case h3v37 => assumption); (case hav37 => omega))))
  k_with "pyIter ref" => ((k_here; (rename Fr _ _ _ _ => lF9w); (rename News _ _ _ _ => lN9w); (with_unfolding_all refine krs_iter (n := 3) (by rfl) (by assumption) (third_range (by assumption) rfl).1 (third_range (by assumption) rfl).2 lF9w lN9w ?_); (intro i9w l19); (try k_lt l19); (refine' digs_rest (y := Str.ofString "found") (stored := [Str.ofString "at", Str.ofString "number"]) ?hyv38 (fun j9w f9w u9w t9w it9w uu9w h9w tk9w Rest9w hj9w ha9w F9w N9w hR9w => ?turnv38) (fun f9w t9w uu9w h9w tk9w ha9w F9w N9w => ?donev38)); (case hyv38 => with_unfolding_all rfl); (all_goals (try k_sweep))))
  k_with "UnrEnd" => ((k_here; (refine' UnrEnd.intro ?Fv39 ?Nv39 _ ?subv39 ?offv39 (hR9w _ _ _ ?ev39 ?yv39 ?zv39)); (case Fv39 => assumption); (case Nv39 => k_asm); (case subv39 => lcg_sub); (case offv39 => walk_at "my offI"); (case ev39 => (rw [← seg_eq (by assumption) (by assumption)]; assumption)); (case yv39 => with_unfolding_all rfl); (case zv39 => (intro z h1 h2; (try dsimp (zetaDelta := true) only); repeat (first | rfl | rw [if_neg (show ¬ List.contains _ z = true from fun e => by rw [h2] at e; cases e)] | rw [if_neg (show ¬ z = _ from fun e => by subst e; first | exact h1 rfl | exact absurd h2 (by decide))])))))
  k_with "my offI" => ((intro q hq; (repeat (cases hq with | head => exact neN (by walk_at "my ne") | tail _ hq => ?_)); cases hq))
  k_with "ite" => ((k_here; first | (refine' ite_posI ?hcv41 ?_; (case hcv41 => (rw [hany9w]; rfl))) | (refine' ite_negI ?hcv41 ?_; (case hcv41 => (rw [hany9w]; decide)))))
  exact trivial
theorem digs_c {prog : Program} {w : World} {p : Program} {loose : List Str} {mean : ExcName → Option Value} {mg mb : Str → Option Value} {dp un : Nat} {gd : Option (List Code)} {cn : Str} {cs : Scope} {a : Addr} {ccd : Value} {cl : List (Str × Addr)} {outer : List Env} {A₀ : Around} {base h₀ : Heap} {L : Addr} {m : Str → Option Value} {s : Shared} {Q E : Value → Shared → Prop} {news : List (Addr × Obj)}
    {b : Array UInt8} {ks : List Int} {to : Tok} (hb : KBw.bInts b = ks) (hl : ks.length ≤ 100)
    (hN : digsV ks = none → ∀ h' tk', Fr h₀ L h' m → News h₀ L h' news → Q .none { s with heap := h', toks := tk' })
    (hS : ∀ v t, digsV ks = some v → ∀ h' tk', Fr h₀ L h' m → News h₀ L h' news → Q (.int v t) { s with heap := h', toks := tk' })
    (S : Site w p loose mean mg mb dp un 3 cs outer A₀ base h₀ L s.heap m news) :
    wpAny (model prog w) (ktrTop dp un gd cn cs L a ccd cl outer) (call (.ref 136) [.bytes b to]) Q E s := by
  obtain ⟨B, F, X, N, T, hk, hd, hu⟩ := S
  have N0 : News h₀ L s.heap [] := News.sub N led_nil
  have kN0 : KeptN h₀ L s.heap [] := N0
  rcases third_cases (ks := ks) with ⟨c, h3⟩ | ⟨l3, l6, l9, l12⟩
  · have hc3 := h3.1
    have hc1 := h3.2.1
    have hc4 := h3.2.2
    have hany9w := third_any h3
    (walk_at "my enter"; intro g9 L9 h9 FG9 F9 N9 B9 X9 T9 kG9; clear N0; (try dsimp only); (try k_lift B9); (try k_fold); k_steps)
    all_goals ((rename News g9 _ _ _ => N'); (rename Fr g9 _ _ _ => F'); (rename Fr h₀ _ _ _ => kF); (rename News h₀ _ _ _ => kN))
    all_goals first
      | exact hN (digs_bad h3 (by assumption) (by rw [← seg_eq (by assumption) (by assumption)]; assumption)) _ _ kF (N.grown (grow_led kG9 kN0 F' N' led_nil))
      | exact hS _ _ (digs_good h3 (by assumption)) _ _ kF (N.grown (grow_led kG9 kN0 F' N' led_nil))
  · have hany9w := other_any l3 l6 l9 l12
    (walk_at "my enter"; intro g9 L9 h9 FG9 F9 N9 B9 X9 T9 kG9; clear N0; (try dsimp only); (try k_lift B9); (try k_fold); k_steps)
    all_goals ((rename News g9 _ _ _ => N'); (rename Fr g9 _ _ _ => F'); (rename Fr h₀ _ _ _ => kF); (rename News h₀ _ _ _ => kN))
    all_goals exact hN (if_neg (by omega)) _ _ kF (N.grown (grow_led kG9 kN0 F' N' led_nil))

theorem set24 : True := by
  k_with_none
  w_top off
  k_with "my site" => ((refine' Site.mk ?s1v1 ?s2v1 ?s3v1 ?s4v1 ?s5v1 ?s6v1 ?s7v1 ?s8v1; (case s1v1 => first | k_asm | fail "site: below"); (case s2v1 => first | k_asm | fail "site: frame"); (case s3v1 => first | k_asm | fail "site: part"); (case s4v1 => first | k_asm | fail "site: ledger"); (case s5v1 => first | k_asm | fail "site: top"); (case s6v1 => first | exact rfl | assumption | fail "site: kind"); (case s7v1 => first | exact room_ok (by assumption) (by decide) | (walk_say "ROOM"; ktr_room) | fail "site: room"); (case s8v1 => first | exact units_ok (by assumption) (by decide) | (walk_say "UNITS"; ktr_units) | fail "site: units")))
  k_with "my enter" => ((refine wpAny_call ?_; k_dflt (refine' code_defG ?k1v2 ?k2v2 ?k3v2 ?k4v2 ?k5v2 ?kAv2 ?kFv2 ?kKv2 ?k6v2 ?k7v2 ?k8v2 ?k9wv2 ?kBv2 ?_ ?c2v2 ?c3v2 ?c4v2 ?c5v2; (case kAv2 => exact rfl); (case kFv2 => exact rfl); (case kKv2 => assumption); (case k1v2 => k_asm); (case k2v2 => k_asm); (case k3v2 => k_asm); (case k4v2 => k_asm); (case k5v2 => k_asm); (case k6v2 => k_is); (case k7v2 => k_is); (case k8v2 => ktr_room); (case k9wv2 => exact BindsTo.of_eq rfl); (case c5v2 => decide); (case kBv2 => exact locs rfl); (case c2v2 => exact rfl); (case c3v2 => exact rfl); (case c4v2 => exact rfl); k_whole)))
  k_with "call ref" => ((k_here; (try dsimp only [List.nil_append, List.append_nil]); refine wpAny_call ?_; k_dflt (refine' code_def ?k1v3 ?k2v3 ?k3v3 ?k4v3 ?k5v3 ?kAv3 ?kFv3 ?kKv3 ?k6v3 ?k7v3 ?k8v3 ?k9wv3 ?kBv3 ?_ ?c2v3 ?c3v3 ?c4v3 ?c5v3; (case kAv3 => exact rfl); (case kFv3 => exact rfl); (case kKv3 => first | exact rfl | assumption); (case k1v3 => k_asm); (case k2v3 => k_asm); (case k3v3 => k_asm); (case k4v3 => k_asm); (case k5v3 => k_asm); (case k6v3 => k_is); (case k7v3 => k_is); (case k8v3 => ktr_room); (case k9wv3 => exact BindsTo.of_eq rfl); (case c5v3 => decide); (case kBv3 => exact locs rfl); (case c2v3 => exact rfl); (case c3v3 => exact rfl); (case c4v3 => exact rfl); k_whole; intro g' L' h' FG' F' N' B' X' T'; (try dsimp only); (try k_lift B'); (try k_fold))))
  k_with "my off" => (((rename (_ ≠ _ ∧ _ ≠ _ ∧ _ ≠ _) ∧ _ => off9w); (simp only [ne_eq] at off9w); (simp only [LCg.Off3, and_true, ne_eq, off9w, not_false_eq_true, and_self, true_and]); (first | done | ((repeat' (refine And.intro ?_ ?_)); all_goals exact neN (by walk_at "my ne")))))
  k_with "ite" => ((k_here; first
      | (refine' ite_posI ?hcv5 ?_; (case hcv5 => k_dflt (exact of_decide_eq_true (by exact rfl))))
      | (refine' ite_negI ?hcv5 ?_; (case hcv5 => k_dflt (exact of_decide_eq_false (by exact rfl))))))
  k_with "my fact" => (first | (with_reducible assumption) | (simp only [ne_eq, not_false_eq_true, *]; done))
  k_with "my ne" => (first | (walk_at "my fact") | exact Ne.symm (by walk_at "my fact") | exact Nat.ne_of_lt (by walk_at "my fact") | exact Nat.ne_of_gt (by walk_at "my fact") | exact Nat.ne_of_lt (Nat.lt_succ_of_lt (by walk_at "my fact")) | exact Nat.ne_of_gt (Nat.lt_succ_of_lt (by walk_at "my fact")) | (walk_say "NE by omega"; omega))
  k_with "my side" => ((with_reducible ((repeat' (refine And.intro ?_ ?_)) <;> first | exact trivial | assumption | (walk_at "my arith"))))
  k_with "my arith" => (first
        | ((show IntMulOk _ _); first | exact PySem.IntMulOk.of_right (PySem.intBits_le_64 (by decide) (by decide)) | exact PySem.IntMulOk.of_left (PySem.intBits_le_64 (by decide) (by decide)) | exact PySem.IntMulOk.of_right (PySem.intBits_le_64 (by omega) (by omega)) | exact PySem.IntMulOk.of_left (PySem.intBits_le_64 (by omega) (by omega)) | mul_fits)
        | ((show Builtin.divisionGoesByPylong _ _ = false); first | exact PyProof.noPylong_of_log2 (by decide +kernel) | exact PyProof.noPylong_small (by omega))
        | omega
        | decide)
  k_with "my no" => (first | with_reducible exact False.elim p9w | with_reducible exact absurd trivial p9w | with_reducible exact absurd rfl p9w | (law_purse 20000 => omega))
  k_with "execs cons" => ((k_here; (first
        | ((with_reducible show wpAny _ _ (execs (Stmt.Return (some _) _ :: _) _) _ _ _); (fail_if_success (with_reducible show wpAny _ _ (execs (Stmt.Return (some (Expr.Tuple _ _ _)) _ :: _) _) _ _ _)); (fail_if_success (with_reducible show wpAny _ _ (execs (Stmt.Return (some (Expr.List _ _)) _ :: _) _) _ _ _)); (fail_if_success (with_reducible show wpAny _ _ (execs (Stmt.Return (some (Expr.Dict _ _ _)) _ :: _) _) _ _ _)); k_dflt ((with_reducible refine' st_retE ?hev11 ?Fv11 ?Xv11 ?Tv11 (fun t => ?ev11) ?hkv11 ?hcv11 (fun t9w tk9w => ?_))); (case hev11 => k_dflt (exact rfl)); (case Fv11 => k_asm); (case Xv11 => k_asm); (case Tv11 => k_asm); (case ev11 => k_dflt (exact rfl)); (case hkv11 => k_dflt (exact rfl)); (case hcv11 => walk_at "my side"); (try dsimp only))
        | ((with_reducible show wpAny _ _ (execs (Stmt.If _ _ [] _ :: _) _) _ _ _); k_dflt ((with_reducible refine' st_if0E ?hev11 ?Fv11 ?Xv11 ?Tv11 ?ev11 ?hkv11 ?hcv11 (fun p9w tk9w => ?_) (fun p9w tk9w => ?_))); (case hev11 => k_dflt (exact rfl)); (case Fv11 => k_asm); (case Xv11 => k_asm); (case Tv11 => k_asm); (case ev11 => k_dflt (exact rfl)); (case hkv11 => k_dflt (exact rfl)); (case hcv11 => walk_at "my side"); all_goals first | (exfalso; walk_at "my no") | (try dsimp only))
        | ((with_reducible show wpAny _ _ (execs (Stmt.If _ _ (_ :: _) _ :: _) _) _ _ _); k_dflt ((with_reducible refine' st_ifE ?hev11 ?Fv11 ?Xv11 ?Tv11 ?ev11 ?hkv11 ?hcv11 (fun p9w tk9w => ?_) (fun p9w tk9w => ?_))); (case hev11 => k_dflt (exact rfl)); (case Fv11 => k_asm); (case Xv11 => k_asm); (case Tv11 => k_asm); (case ev11 => k_dflt (exact rfl)); (case hkv11 => k_dflt (exact rfl)); (case hcv11 => walk_at "my side"); all_goals first | (exfalso; walk_at "my no") | (try dsimp only))
        | ((with_reducible show wpAny _ _ (execs (Stmt.Assign [Expr.Name _ _] _ _ :: _) _) _ _ _); k_dflt ((with_reducible refine' st_assignE ?hev11 ?Fv11 ?Nv11 ?Xv11 ?Tv11 (fun t => ?ev11) ?hkv11 ?hxv11 ?hsv11 ?hcv11 (fun t9w tk9w h9w => ?_))); (case hev11 => k_dflt (exact rfl)); (case Fv11 => k_asm); (case Nv11 => k_asm); (case Xv11 => k_asm); (case Tv11 => k_asm); (case ev11 => k_dflt (exact rfl)); (case hkv11 => k_dflt (exact rfl)); (case hxv11 => k_dflt (exact rfl)); (case hsv11 => k_dflt (exact rfl)); (case hcv11 => walk_at "my side"); intro m9w F9w N9w; (try k_sweep); (try dsimp only)))))
  k_with "eval BinOp" => ((k_here; k_dflt ((with_reducible refine' ev_peE ?hev12 ?Fv12 ?Xv12 ?Tv12 (fun t => ?ev12) ?hkv12 ?hcv12 (fun t9w tk9w => ?_)); (case hev12 => k_dflt (exact rfl)); (case Fv12 => k_asm); (case Xv12 => k_asm); (case Tv12 => k_asm); (case ev12 => k_dflt (exact rfl)); (case hkv12 => k_dflt (exact rfl)); (case hcv12 => walk_at "my side")); (try dsimp only)))
  k_with "eval IfExp" => ((k_here; k_dflt ((with_reducible refine' ev_ifE ?hev13 ?Fv13 ?Xv13 ?Tv13 ?ev13 ?hkv13 ?hcv13 (fun p9w tk9w => ?_) (fun p9w tk9w => ?_)); (case hev13 => k_dflt (exact rfl)); (case Fv13 => k_asm); (case Xv13 => k_asm); (case Tv13 => k_asm); (case ev13 => k_dflt (exact rfl)); (case hkv13 => k_dflt (exact rfl)); (case hcv13 => walk_at "my side"); all_goals first | (exfalso; walk_at "my no") | (try dsimp only))))
  k_with "eval Call" => ((k_here; (with_reducible show wpAny _ _ (eval (Expr.Call (Expr.Name _ _) (_ :: _) [] _) _) _ _ _); k_dflt ((with_reducible refine' ev_callE ?hev14 ?Fv14 ?Xv14 ?Tv14 ?efv14 ?hfv14 (fun t => ?eav14) ?hkv14 ?hcv14 (fun t9w tk9w => ?_)); (case hev14 => k_dflt (exact rfl)); (case Fv14 => k_asm); (case Xv14 => k_asm); (case Tv14 => k_asm); (case efv14 => k_dflt (exact rfl)); (case hfv14 => k_dflt (exact rfl)); (case eav14 => k_dflt (exact rfl)); (case hkv14 => k_dflt (exact rfl)); (case hcv14 => walk_at "my side"))))
  k_with "my nm" => ((k_dflt (refine' nm_ok ?Fv15 ?Xv15 ?Tv15 ?hkv15); (case Fv15 => k_asm); (case Xv15 => k_asm); (case Tv15 => k_asm); (case hkv15 => k_dflt (exact rfl))))
  k_with "spliced" => ((k_here; (with_reducible show wpAny _ _ (spliced (backTo _ (starEach (_ :: _) _))) _ _ _); (fail_if_success (with_reducible show wpAny _ _ (spliced (backTo _ (starEach (_ :: _ :: _ :: _ :: _ :: _ :: _ :: _) _))) _ _ _)); k_dflt ((with_reducible refine' xe_all ?hnv16 (fun tk => ?ev16) ?hcv16 (fun tk9w k9w => ?_))); (case hnv16 => walk_at "my nm"); (case ev16 => k_dflt (exact rfl)); (case hcv16 => walk_at "my side"); (try dsimp only [List.cons_append, List.nil_append])))
  k_with "storeName" => ((k_here; k_dflt ((with_reducible refine' st_storeE ?hev17 ?Fv17 ?Nv17 (fun tk9w h9w => ?_) ?hkv17 ?hxv17)); (case hev17 => k_dflt (exact rfl)); (case Fv17 => k_asm); (case Nv17 => k_asm); (case hkv17 => k_dflt (exact rfl)); (case hxv17 => k_dflt (exact rfl)); intro m9w F9w N9w; (try k_sweep); (try dsimp only)))
  k_with "call ref" => ((k_here; k_dflt (refine' hexv_c ?kSv18 (fun hv9w h9w tk9w F9w N9w => ?_) (fun v9w t9w hv9w h9w tk9w F9w N9w => ?_); (case kSv18 => walk_at "my site")); all_goals ((try dsimp only); (try k_fold))))
  k_with "call ref" => ((k_here; k_dflt (refine' figs_c ?kbv21 ?klv21 ?kSv21 (fun hv9w h9w tk9w F9w N9w => ?_) (fun v9w t9w hv9w h9w tk9w F9w N9w => ?_); (case kbv21 => kba_ints2); (case klv21 => kba_size); (case kSv21 => walk_at "my site")); all_goals ((try dsimp only); (try k_fold))))
  k_with "pyIter ref" => (((with_reducible show wpAny _ _ (pyIter (Value.ref _)) (fun it s₂ => LoopAtV _ _ _ _ _ _ _ _ _ it s₂) _ _); (rename Fr _ _ _ _ => lF'); (rename News _ _ _ _ => lN'); (with_unfolding_all refine iter_tupleUnr (by rfl) lF' lN' (by k_mem) ?_); clear lF' lN'; intro i' l1; (try k_lt l1)))
  k_with "TupRest" => ((with_unfolding_all first | (refine TupRest.succ (fun it' h' tk' hit' F' N' => ?_)) | (refine TupRest.zero (fun h' tk' F' N' => ?_))))
  k_with "getMethod bytes" => ((k_here; (with_reducible refine method_join ?_)))
  k_with "getMethod bytes" => ((k_here; (with_reducible refine method_split ?_)))
  k_with "my ints" => (first | kba_ints | exact (rfl : KBw.bInts _ = ([47] : List Int)) | exact (rfl : KBw.bInts _ = ([] : List Int)) | kba_ints2)
  k_with "my list" => (first | exact News.isList (by k_asm) (by k_mem) | is_list)
  k_with "call builtin:bytes.join" => ((k_here; k_dflt (first
      | (refine' join3 ?lv28 ?hsv28 ?h1v28 ?h2v28 ?h3v28 ?hzv28 ?_; (case lv28 => walk_at "my list"); (case hsv28 => walk_at "my ints"); (case h1v28 => walk_at "my ints"); (case h2v28 => walk_at "my ints"); (case h3v28 => walk_at "my ints"); (case hzv28 => kba_size))); intro B9w t9w k9w hB9w; (try simp only [List.nil_append, List.cons_append, List.append_assoc] at hB9w)))
  k_with "call ref" => ((k_here; k_dflt (refine' rgb_c ?h1v29 ?h2v29 ?h3v29 ?h4v29 ?h5v29 (fun D9w t9w u9w v9w h9w tk9w o9w F9w N9w => ?_) ?kSv29; (case h1v29 => assumption); (case h2v29 => first | assumption | decide | omega); (case h3v29 => first | assumption | omega); (case h4v29 => first | assumption | omega); (case h5v29 => first | assumption | omega); (case kSv29 => walk_at "my site")); (try simp only [LCg.Off1, and_true] at o9w); (try dsimp only); (try k_fold)))
  k_with "call builtin:bytes.split" => ((k_here; k_dflt (refine' split_call ?h1v30 ?h2v30 ?h3v30 ?h4v30 (fun D9w b1 b2 b3 t1 t2 t3 k1 k2 k3 h9w tk9w hsg e1 e2 e3 z1 z2 z3 F9w N9w l9w => ?_) (fun D9w vs9w h9w tk9w hsg e1 z1 F9w N9w l9w => ?_); (case h1v30 => k_asm); (case h2v30 => k_asm); (case h3v30 => walk_at "my ints"); (case h4v30 => kba_size)); all_goals ((try k_lt l9w); (try simp only [List.length_take, List.length_drop] at z1 z2 z3))))
  k_with "subscriptTail" => ((k_here; (with_reducible show wpAny _ _ (subscriptTail _ _ (Value.bytes _ _) (Value.int _ _)) _ _ _); (first
      | (refine' figs_item (nib_hi ?h1v31 ?h2v31 ?h3v31) ?h4v31 ?h5v31 (fun t9w k9w => ?_); (case h1v31 => assumption); (case h2v31 => omega); (case h3v31 => omega); (case h4v31 => omega); (case h5v31 => omega))
      | (refine' figs_item (nib_lo ?h1v31 ?h2v31 ?h3v31) ?h4v31 ?h5v31 (fun t9w k9w => ?_); (case h1v31 => assumption); (case h2v31 => omega); (case h3v31 => omega); (case h4v31 => omega); (case h5v31 => omega)))))
  k_with "call ref" => ((k_here; k_dflt (refine' figs_cb ?kbv36 ?klv36 ?kSv36 (fun hv9w h9w tk9w F9w N9w => ?_) (fun v9w t9w hv9w lo9w hi9w h9w tk9w F9w N9w => ?_); (case kbv36 => kba_ints2); (case klv36 => kba_size); (case kSv36 => walk_at "my site")); all_goals ((try dsimp only); (try k_fold))))
  exact trivial
noncomputable def bytesPairs : List (Value × Value) → List (List UInt8 × Value)
  | (.bytes x _, v) :: r => (x.toList, v) :: bytesPairs r
  | _ => []
noncomputable def allBytesKeys : List (Value × Value) → Bool
  | (.bytes _ _, _) :: r => allBytesKeys r
  | [] => true
  | _ => false
theorem carries_bytesPairs (prog : Program) (w : World) : ∀ vs : List (Value × Value), allBytesKeys vs = true → Carries (bytesKind prog w) vs (bytesPairs vs)
  | [], _ => trivial
  | (.bytes x t, v) :: r, h => ⟨by simp [bytesKind, isBytes], rfl, carries_bytesPairs prog w r h⟩
  | (.none, _) :: _, h | (.ellipsis, _) :: _, h | (.notImplemented, _) :: _, h | (.bool _, _) :: _, h | (.int _ _, _) :: _, h | (.float _ _, _) :: _, h | (.str _ _, _) :: _, h | (.type _, _) :: _, h
  | (.builtin _, _) :: _, h | (.ref _, _) :: _, h => by simp [allBytesKeys] at h
theorem made_bytes {prog : Program} {w : World} {h₀ h : Heap} {L : Addr} {m : Str → Option Value} {news : List (Addr × Obj)} {vs : List (Value × Value)} {P : Heap → Prop} (F : Fr h₀ L h m) (N : News h₀ L h news) (hbig : h₀.NoLimit) (hk : allBytesKeys vs = true) (hn : ((bytesPairs vs).map (·.1)).Nodup)
    (k : ∀ h' o, Fr h₀ L h' m → News h₀ L h' ((h.objs.size, o) :: news) → (∀ p ∈ news, p.1 < h.objs.size) → (h.objs.size == sysModules) = false → o.IsDictOf (bytesKind prog w) (bytesPairs vs) → P h') :
    ∃ kvs, Carries (bytesKind prog w) vs kvs ∧ (h.push { cls := .type "dict", data := .dict #[] }).DictOf (bytesKind prog w) h.objs.size [] ∧
      ∀ h', h'.DictOf (bytesKind prog w) h.objs.size (merged [] kvs) → Heap.SameBut h.objs.size (h.push { cls := .type "dict", data := .dict #[] }) h' → P h' :=
  ⟨bytesPairs vs, carries_bytesPairs prog w vs hk, Heap.DictOf.new h, fun h' hm hs => by
    rw [merged_nil_of_nodup _ hn] at hm
    obtain ⟨o, ho, hd⟩ := Heap.dictOf_iff.mp hm
    exact k h' o (F.filled hs) (N.filled F hs ho) (fun p hp => Heap.lt_size (N p hp).1) (F.notModules (modules_low hbig)) hd⟩
/-- what a dict of ints by bytes tells -/
inductive IntTabB : List (List UInt8 × Value) → List (List Int × Int) → Prop
  | nil : IntTabB [] []
  | cons {k v t r kl r'} : (k.map fun c => (c.toNat : Int)) = kl → IntTabB r r' → IntTabB ((k, .int v t) :: r) ((kl, v) :: r')
noncomputable def lookB (k : List Int) : List (List Int × Int) → Option Int
  | [] => none
  | (x, v) :: r => if x = k then some v else lookB k r
noncomputable def bytesLits : List (Option Expr) → Bool
  | some (.Constant (.bytes _) _ _) :: r => bytesLits r
  | [] => true
  | _ => false
theorem Dict_made_bytes {prog : Program} {w : World} {A : Around} {E : Value → Shared → Prop} {s : Shared} {env : Env} {h₀ : Heap} {L : Addr} {m : Str → Option Value} {keys : List (Option Expr)} {values : List Expr} {pos : Pos} {Q : Value → Shared → Prop} (_ : bytesLits keys = true) (F : Fr h₀ L s.heap m)
    (hall : keys.all (·.isSome) = true) (hl : keys.length = values.length) (h0 : keys ≠ []) (hlen : keys.length ≤ 15)
    (h : Fr h₀ L (s.heap.push { cls := .type "dict", data := .dict #[] }) m →
      wpAny (model prog w) A (evalPairs (pairTrees keys values env pos)) (fun vs s₁ => ∃ kvs, Carries (bytesKind prog w) vs kvs ∧ s₁.heap.DictOf (bytesKind prog w) s.heap.objs.size [] ∧
        ∀ h', h'.DictOf (bytesKind prog w) s.heap.objs.size (merged [] kvs) → Heap.SameBut s.heap.objs.size s₁.heap h' → Q (.ref s.heap.objs.size) { s₁ with heap := h', toks := s₁.toks + vs.length }) E
        { s with heap := s.heap.push { cls := .type "dict", data := .dict #[] } }) :
    wpAny (model prog w) A (eval (.Dict keys values pos) env) Q E s := Dict_made F hall hl h0 hlen h

theorem set26 : True := by
  w_top off
  k_with "Exists" => ((k_here; (refine made_bytes (by k_asm) (by first | k_asm | exact News.nil) (Top.nolimit (by k_asm)) (by rfl) (of_decide_eq_true (by rfl)) ?_; intro h' o' F' N' l1 lo' hd'; (try k_lt l1))))
  k_with "eval Dict" => ((k_here; (with_reducible refine Dict_made_bytes (by with_unfolding_all rfl) (by with_unfolding_all assumption) (by with_unfolding_all rfl) (by with_unfolding_all rfl) (List.cons_ne_nil _ _) (by with_unfolding_all decide) ?_; intro _)))
  exact trivial
noncomputable def namesTab : List (List Int × Int) := [([98, 108, 97, 99, 107], 0), ([114, 101, 100], 16711680), ([103, 114, 101, 101, 110], 65280), ([121, 101, 108, 108, 111, 119], 16776960), ([98, 108, 117, 101], 255), ([109, 97, 103, 101, 110, 116, 97], 16711935), ([99, 121, 97, 110], 65535), ([119, 104, 105, 116, 101], 16777215), ([103, 114, 97, 121], 12500670), ([103, 114, 101, 121], 12500670), ([111, 114, 97, 110, 103, 101], 16753920), ([98, 114, 111, 119, 110], 10824234), ([112, 105, 110, 107], 16761035), ([112, 117, 114, 112, 108, 101], 10494192), ([110, 97, 118, 121], 128)]
theorem names_c {prog : Program} {w : World} {p : Program} {loose : List Str} {mean : ExcName → Option Value} {mg mb : Str → Option Value} {dp un : Nat} {gd : Option (List Code)} {cn : Str} {cs : Scope} {a : Addr} {ccd : Value} {cl : List (Str × Addr)} {outer : List Env} {A₀ : Around} {base h₀ : Heap} {L : Addr} {m : Str → Option Value} {s : Shared} {Q E : Value → Shared → Prop} {news : List (Addr × Obj)}
    (hS : ∀ D o kvs h' tk', LCg.Off1 D news → (D == sysModules) = false → o.IsDictOf (bytesKind prog w) kvs → IntTabB kvs namesTab → Fr h₀ L h' m → News h₀ L h' ((D, o) :: news) → Q (.ref D) { s with heap := h', toks := tk' })
    (S : Site w p loose mean mg mb dp un 1 cs outer A₀ base h₀ L s.heap m news) :
    wpAny (model prog w) (ktrTop dp un gd cn cs L a ccd cl outer) (call (.ref 110) []) Q E s := by
  obtain ⟨B, F, X, N, T, hk, hd, hu⟩ := S
  have N0 : News h₀ L s.heap [] := News.sub N led_nil
  have kN0 : KeptN h₀ L s.heap [] := N0
  (walk_at "my enter"; intro g9 L9 h9 FG9 F9 N9 B9 X9 T9 kG9; clear N0; (try dsimp only); (try k_lift B9); (try k_fold); k_steps)
  (rename News g9 _ _ _ => N'); (rename Fr g9 _ _ _ => F'); (rename Fr h₀ _ _ _ => kF); (rename News h₀ _ _ _ => kN); (rename Obj.IsDictOf _ _ _ => hD); (rename ((_ == sysModules) = false) => hL)
  refine hS _ _ _ _ _ (off_of (led := []) kG9 N' (by k_mem) (by simp) N) hL hD (by repeat (first | exact IntTabB.nil | refine IntTabB.cons (by rfl) ?_)) kF (News.one kN (by k_mem) (N.grown (grow_led kG9 kN0 F' N' led_nil)))
theorem lnames_c {prog : Program} {w : World} {p : Program} {loose : List Str} {mean : ExcName → Option Value} {mg mb : Str → Option Value} {dp un : Nat} {gd : Option (List Code)} {cn : Str} {cs : Scope} {a : Addr} {ccd : Value} {cl : List (Str × Addr)} {outer : List Env} {A₀ : Around} {base h₀ : Heap} {L : Addr} {m : Str → Option Value} {s : Shared} {Q E : Value → Shared → Prop} {news : List (Addr × Obj)}
    (hS : ∀ D o kvs h' tk', LCg.Off1 D news → (D == sysModules) = false → o.IsDictOf (bytesKind prog w) kvs → IntTabB kvs namesTab → Fr h₀ L h' m → News h₀ L h' ((D, o) :: news) → Q (.ref D) { s with heap := h', toks := tk' })
    (S : Site w p loose mean mg mb dp un 1 cs outer A₀ base h₀ L s.heap m news) :
    wpAny (model prog w) (ktrTop dp un gd cn cs L a ccd cl outer) (call (.ref 178) []) Q E s := by
  obtain ⟨B, F, X, N, T, hk, hd, hu⟩ := S
  have N0 : News h₀ L s.heap [] := News.sub N led_nil
  have kN0 : KeptN h₀ L s.heap [] := N0
  (walk_at "my enter"; intro g9 L9 h9 FG9 F9 N9 B9 X9 T9 kG9; clear N0; (try dsimp only); (try k_lift B9); (try k_fold); k_steps)
  (rename News g9 _ _ _ => N'); (rename Fr g9 _ _ _ => F'); (rename Fr h₀ _ _ _ => kF); (rename News h₀ _ _ _ => kN); (rename Obj.IsDictOf _ _ _ => hD); (rename ((_ == sysModules) = false) => hL)
  refine hS _ _ _ _ _ (off_of (led := []) kG9 N' (by k_mem) (by simp) N) hL hD (by repeat (first | exact IntTabB.nil | refine IntTabB.cons (by rfl) ?_)) kF (News.one kN (by k_mem) (N.grown (grow_led kG9 kN0 F' N' led_nil)))

theorem set27 : True := by
  w_top off
  exact trivial
/-- a def that keeps names in cells, entered: what stood (but the ledger's) stands in the ground -/
theorem code_defCG {prog : Program} {w : World} {A₀ A : Around} {s : Shared} {base h₀ : Heap} {outer : List Env} {L : Addr} {m : Str → Option Value} {env : Env} {news : List (Addr × Obj)}
    {K : Frag} {p : Program} {loose : List Str} {mean : ExcName → Option Value} {mg mb : Str → Option Value} {R : Result → Shared → Prop} {name qual : Str} {params : Arguments} {body : List Stmt} {scope : Scope} {dV kV doc pm cdv ct oc : Value} {an od : Option Addr} {osl : Array (Option Value)} {f : Addr} {args : Args} {binds : List (Str × Value)}
    (B : Below A₀ base outer h₀) (F : Fr h₀ L s.heap m) (X₀ : K.In h₀) (N : News h₀ L s.heap news) (T : Top p loose mean mg mb h₀) (hA : A.frames = some (env :: outer)) (hf : env.frame = some L) (hke : env.scope.kind = .function)
    (ho : K.lookup f = some ⟨oc, od, .func (fnOf name qual params body scope dV kV doc pm an cdv ct), osl⟩) (hcd : codeIn K cdv qual = true) (hroom : A.depth < recursionLimit)
    (hbind : BindsTo s (fnOf name qual params body scope dV kV doc pm an cdv ct) args binds) (hkind : (binds.all fun y => scope.names.lookup y.1 == some .local || scope.names.lookup y.1 == some .cell) = true)
    (hnd : ((cellsFrom 0 scope.names []).map (·.1)).Nodup)
    (h : ∀ g L' h₁ tk cells, Fr h₀ L g m → Fr g L' h₁ (bindL (envOfC qual scope L' f cdv).kindOf binds fun _ => none) → News g L' h₁ (cells ++ news) →
      CellsAre (bindC (envOfC qual scope L' f cdv).kindOf binds fun _ => none) (cellsFrom (L' + 1) scope.names []) cells → Below A base (env :: outer) g → K.In g → Top p loose mean mg mb g → (∀ p ∈ news, p.1 < L') → GSub s.heap g (news.map (·.1)) →
      wpAny (model prog w) (A.deeper (envOfC qual scope L' f cdv)) (execs body (envOfC qual scope L' f cdv))
        (fun fl s' => LeaveK h₀ L m g R (match fl with | .ret v => v | _ => .none) s')
        (fun e s' => wpAny (model prog w) (A.deeper (envOfC qual scope L' f cdv)) (leaving (envOfC qual scope L' f cdv) e) (fun _ s'' => R (.error e) s'') (fun e' s'' => R (.error e') s'') s')
        { s with heap := h₁, toks := tk })
    (hco : scope.isCoroutine = false) (hgen : scope.isGenerator = false) (hk : scope.kind = .function) : codeAny (model prog w) A (.call (.ref f) args) R s := by
  obtain ⟨FG, BG, st, lv⟩ := groundX (R := R) B F N hA hf hke
  refine codeAny_call_function (fd := fnX name qual params body scope [] dV kV doc pm an cdv ct) hroom ((X₀.keeps F.keep) _ _ ho) rfl hco hgen rfl (codeRec_of (X₀.keeps F.keep) hcd) (hbind _ _ _ _ ?_)
  refine wpAny_newFunctionEnv_cells hk (kindsX hkind _) fun env' he s' x => ?_
  subst he
  refine ⟨(T.nolimit.keeps F.keep).keeps x.toInCall.keep, codeAny_func ?_⟩
  obtain ⟨h₁, tk, rfl, _⟩ := x.done
  have hk₁ := x.toInCall.keep
  obtain ⟨cells, NC, Y⟩ := Cl.news (h₀ := s.heap) (Nat.le_refl _) fun n c hm => ⟨x.cell n c (lookup_of_mem_nodup (cellsFrom_names scope.names 0 (s.heap.objs.size + 1) [] [] rfl ▸ hnd) hm), x.above n c hm⟩
  refine wpAny_mono (h _ s.heap.objs.size h₁ tk cells FG ⟨x.toInCall.ns, fun b o e => hk₁ b o (of_hideAll _ e), Nat.le_of_eq (hideAll_size _ _)⟩ (fun p hp => ?_) Y BG (X₀.keeps st) (T.keeps st) (fun p hp => Heap.lt_size (N p hp).1) (fun b o e n => hideAll_get _ e n)) (fun fl s' hl => lv _ _ hl) fun _ _ y => y
  rcases List.mem_append.mp hp with hp | hp
  · refine ⟨(NC p hp).1, (NC p hp).2.1, ?_⟩
    cases q : (hideAll s.heap (news.map (·.1))).get? p.1 with
    | none => rfl
    | some o => have := of_hideAll _ q; rw [(NC p hp).2.2] at this; cases this
  · exact ⟨hk₁ _ _ (N p hp).1, Nat.ne_of_lt (Heap.lt_size (N p hp).1), hideAll_none _ (List.mem_map_of_mem hp)⟩

theorem set30 : True := by
  w_top off
  k_with "my enterC" => ((refine wpAny_call ?_; k_dflt (refine' code_defCG ?k1v44 ?k2v44 ?k3v44 ?k4v44 ?k5v44 ?kAv44 ?kFv44 ?kKv44 ?k6v44 ?k7v44 ?k8v44 ?k9wv44 ?kBv44 ?kDv44 ?_ ?c2v44 ?c3v44 ?c4v44; (case kAv44 => exact rfl); (case kFv44 => exact rfl); (case kKv44 => assumption); (case k1v44 => k_asm); (case k2v44 => k_asm); (case k3v44 => k_asm); (case k4v44 => k_asm); (case k5v44 => k_asm); (case k6v44 => k_is); (case k7v44 => k_is); (case k8v44 => ktr_room); (case k9wv44 => exact BindsTo.of_eq rfl); (case kBv44 => exact rfl); (case kDv44 => decide +kernel); (case c2v44 => exact rfl); (case c3v44 => exact rfl); (case c4v44 => exact rfl); k_whole)))
  exact trivial
theorem off1_mem {D : Addr} : ∀ {l : List (Addr × Obj)}, LCg.Off1 D l → ∀ q ∈ l, q.1 ≠ D
  | [], _, _, h => nomatch h
  | _ :: _, h, q, hq => by
    rcases List.mem_cons.mp hq with rfl | hq
    · exact h.1
    · exact off1_mem h.2 q hq
/-- what the draw at k, of c, is -/
noncomputable def drawV (ns : List Int) (k c : Int) : Int := if k < (ns.length : Int) then (ns.getD k.toNat 0).fmod c else (43 * k + 19).fmod c
theorem draw_c {prog : Program} {w : World} {p : Program} {loose : List Str} {mean : ExcName → Option Value} {mg mb : Str → Option Value} {dp un : Nat} {gd : Option (List Code)} {cn : Str} {cs : Scope} {a : Addr} {ccd : Value} {cl : List (Str × Addr)} {outer : List Env} {A₀ : Around} {base h₀ : Heap} {L : Addr} {m : Str → Option Value} {s : Shared} {Q E : Value → Shared → Prop} {news : List (Addr × Obj)}
    {pa b : Addr} {k c : Int} {t tc : Tok} {n nb : Nat} {vs : List Value} {ns : List Int} {n1 rest : List (Addr × Obj)}
    (P1 : Pull (pa, W.listOf #[.ref b, .int k t] n) news n1) (P2 : Pull (b, W.listOf vs.toArray nb) n1 rest) (hI : IntsAre vs ns) (hlen : ns.length ≤ 63) (hk0 : 0 ≤ k) (hk1 : k ≤ 100000) (hc0 : 0 < c) (hc1 : c ≤ 4503599627370496) (hpb : @Ne Nat pa b) (hne : LCg.Off1 pa rest)
    (hS : ∀ k' v t t' h' tk', k' = k + 1 → 0 ≤ v → v < c → v = drawV ns k c → Fr h₀ L h' m → News h₀ L h' ((pa, W.listOf #[.ref b, .int k' t'] n) :: (b, W.listOf vs.toArray nb) :: rest) → Q (.int v t) { s with heap := h', toks := tk' })
    (S : Site w p loose mean mg mb dp un 1 cs outer A₀ base h₀ L s.heap m news) :
    wpAny (model prog w) (ktrTop dp un gd cn cs L a ccd cl outer) (call (.ref 187) [.ref pa, .int c tc]) Q E s := by
  obtain ⟨B, F, X, N, T, hk, hd, hu⟩ := S
  have N0 : News h₀ L s.heap [(pa, W.listOf #[.ref b, .int k t] n), (b, W.listOf vs.toArray nb)] := fun q hq => N q (by
    rcases List.mem_cons.mp hq with rfl | hq
    · exact P1.mem _ (List.mem_cons_self ..)
    · rw [List.mem_singleton.mp hq]; exact P1.mem _ (List.mem_cons_of_mem _ (P2.mem _ (List.mem_cons_self ..))))
  have kN0 : KeptN h₀ L s.heap [(pa, W.listOf #[.ref b, .int k t] n), (b, W.listOf vs.toArray nb)] := N0
  (walk_at "my enter"; intro g9 L9 h9 FG9 F9 N9 B9 X9 T9 kG9; clear N0; (try dsimp only); (try k_lift B9); (try k_fold); k_steps)
  all_goals ((rename News g9 _ _ _ => N'); (rename Fr g9 _ _ _ => F'); (rename Fr h₀ _ _ _ => kF); (rename News h₀ _ _ _ => kN))
  all_goals exact hS _ _ _ _ _ _ rfl (Int.fmod_nonneg_of_pos _ hc0) (Int.fmod_lt_of_pos _ hc0) (by unfold drawV; first | rw [if_pos (by omega)] | rw [if_neg (by omega)]) kF (rest_of kG9 F' N' N P1 P2 (off1_mem hne) (by k_mem) (by k_mem))
theorem pow16_pos (n : Nat) : (0 : Int) < 16 ^ n := Int.pow_pos (by decide)
theorem pow16_le {n : Nat} (h : n ≤ 13) : (16 : Int) ^ n ≤ 4503599627370496 := by
  have : ∀ n : Nat, n < 14 → (16 : Int) ^ n ≤ 4503599627370496 := by decide
  exact this n (by omega)
theorem pow16_log {n : Nat} (h : n ≤ 13) : ((16 : Int) ^ n).natAbs.log2 < 9000 := by
  have : ∀ n : Nat, n < 14 → ((16 : Int) ^ n).natAbs.log2 < 9000 := by decide +kernel
  exact this n (by omega)
theorem pow_div {prog : Program} {w : World} {A : Around} {E : Value → Shared → Prop} {s : Shared} {Q : Value → Shared → Prop} {v : Int} {e : Nat} {tv tn : Tok} (he : e ≤ 13) (h : ∀ t k, Q (.int (v.fdiv (16 ^ e)) t) { s with toks := k }) :
    wpAny (model prog w) A (binaryOp .FloorDiv (.int v tv) (.int (16 ^ e) tn)) Q E s :=
  floordiv_int (Int.ne_of_gt (pow16_pos e)) (h _ _) (Or.inl (PyProof.noPylong_of_log2 (pow16_log he)))
theorem figU (i : Int) : ((([48, 49, 50, 51, 52, 53, 54, 55, 56, 57, 97, 98, 99, 100, 101, 102] : List UInt8).getD i.toNat 0).toNat : Int) = hexfig i := by
  unfold hexfig
  by_cases h : i.toNat < 16
  · have : ∀ n : Nat, n < 16 → ((([48, 49, 50, 51, 52, 53, 54, 55, 56, 57, 97, 98, 99, 100, 101, 102] : List UInt8).getD n 0).toNat : Int) = ([48, 49, 50, 51, 52, 53, 54, 55, 56, 57, 97, 98, 99, 100, 101, 102] : List Int).getD n 0 := by decide +kernel
    exact this _ h
  · rw [List.getD_eq_getElem?_getD, List.getD_eq_getElem?_getD, List.getElem?_eq_none (by simp; omega), List.getElem?_eq_none (by simp; omega)]
    rfl
/-- the figures of v, n of them -/
noncomputable def figList (v c : Int) : List Int := (rangeKs 0 (c - 0).toNat).map fun k => (v.fdiv (16 ^ (c - 1 - k).toNat)).fmod 16
theorem figList_in {v c : Int} : ∀ d ∈ figList v c, 0 ≤ d ∧ d < 16 := by
  intro d hd
  obtain ⟨k, _, rfl⟩ := List.mem_map.mp hd
  exact ⟨Int.fmod_nonneg_of_pos _ (by decide), Int.fmod_lt_of_pos _ (by decide)⟩
theorem figList_len {v c : Int} (h : 0 ≤ c) : ((figList v c).length : Int) = c := by
  unfold figList
  rw [List.length_map, rangeKs_length]
  omega
theorem figList_bytes {v c : Int} {f : Int → Int} (hf : ∀ k, f k = ((([48, 49, 50, 51, 52, 53, 54, 55, 56, 57, 97, 98, 99, 100, 101, 102] : List UInt8).getD ((v.fdiv (16 ^ (c - 1 - k).toNat)).fmod 16).toNat 0).toNat : Int)) (hr : KBa.In (List.map f (rangeKs 0 (c - 0).toNat))) :
    KBw.bInts (byteArr (List.map f (rangeKs 0 (c - 0).toNat))) = (figList v c).map hexfig := by
  rw [KBa.ints_make hr]
  unfold figList
  rw [List.map_map]
  refine List.map_congr_left fun k _ => ?_
  rw [hf, figU]
  rfl
theorem u8_in {f : Int → UInt8} {l : List Int} : KBa.In (l.map fun k => ((f k).toNat : Int)) := by
  intro n hn
  obtain ⟨j, _, rfl⟩ := List.mem_map.1 hn
  have := (f j).toNat_lt
  exact ⟨Int.natCast_nonneg _, by omega⟩
theorem pow_lo {c k : Int} (h0 : 0 ≤ k) (h : k < 0 + ((c - 0).toNat : Int)) : 0 ≤ c - 1 - k := by omega
theorem pow_hi {c k : Int} (h0 : 0 ≤ k) (h : c ≤ 13) : c - 1 - k ≤ 1000000 := by omega
theorem pow_top {c : Int} (h : c ≤ 13) : c ≤ 1000000 := by omega

section
local macro_rules | `(tactic| kba_in) => `(tactic| exact u8_in)
theorem set32 : True := by
  w_top off
  k_with "my pull" => (first | exact Pull.head | (refine' Pull.tail ?ptlv49; (case ptlv49 => walk_at "my pull")))
  k_with "my off" => (((try simp only [LCg.Off1, and_true]); (repeat' (refine And.intro ?_ ?_)); all_goals first | exact trivial | (walk_at "my ne")))
  k_with "my pow" => (first | omega | exact pow16_pos _ | exact pow16_le (by omega) | decide)
  k_with "call ref" => ((k_here; k_dflt (refine' draw_c ?P1v52 ?P2v52 ?hIv52 ?h1v52 ?h2v52 ?h3v52 ?h4v52 ?h5v52 ?h6v52 ?h7v52 (fun k9w v9w t9w u9w h9w tk9w hk9w lo9w hi9w dv9w F9w N9w => ?_) ?kSv52; (case kSv52 => walk_at "my site"); (case P1v52 => walk_at "my pull"); (case P2v52 => walk_at "my pull"); (case hIv52 => l_ints); (case h1v52 => first | assumption | omega); (case h2v52 => omega); (case h3v52 => omega); (case h4v52 => walk_at "my pow"); (case h5v52 => walk_at "my pow"); (case h6v52 => omega); (case h7v52 => walk_at "my off")); (try dsimp only); (try k_fold)))
  k_with "binaryOp FloorDiv int int" => ((k_here; (with_reducible show wpAny _ _ (binaryOp Operator.FloorDiv (Value.int _ _) (Value.int (16 ^ _) _)) _ _ _); (with_reducible refine pow_div ?kbpv45 (fun t9w k9w => ?_)); (case kbpv45 => omega)))
  k_with "binaryOp Pow int int" => ((k_here; (with_reducible refine pow_int_small ?kb1v46 ?kb2v46 ?kb3v46 ?_); (case kb1v46 => first | assumption | exact pow_lo (by assumption) (by assumption)); (case kb2v46 => first | exact pow_top (by assumption) | exact pow_hi (by assumption) (by assumption)); (case kb3v46 => decide)))
  k_with "CompSrc" => ((k_here; k_dflt (refine LCg.CompSrc.range (n := 0) (by rfl) (by k_asm) (by k_asm) (by assumption) (by decide) (by decide) (by rw [PySem.sizeLine_eq]; decide) ?_; intro g9w; refine LCg.CompRest.zero ?_)))
  k_with "call type:bytes" => ((k_here; (with_reducible show wpAny _ _ (call (Value.type "bytes") [Value.ref _]) _ _ _); k_dflt (refine' KBa.make_K (vs := []) (ns := []) ?Fv48 ?Nv48 ?hv48 ?lv48 .nil ?rv48 ?nv48 ?qv48; (case Fv48 => k_asm); (case Nv48 => k_asm); (case hv48 => rfl); (case lv48 => kba_isList); (case rv48 => exact fun _ h => nomatch h); (case nv48 => decide)); intro _ _ _ F' N' kbaIn))
  exact trivial
theorem hex_c {prog : Program} {w : World} {p : Program} {loose : List Str} {mean : ExcName → Option Value} {mg mb : Str → Option Value} {dp un : Nat} {gd : Option (List Code)} {cn : Str} {cs : Scope} {a : Addr} {ccd : Value} {cl : List (Str × Addr)} {outer : List Env} {A₀ : Around} {base h₀ : Heap} {L : Addr} {m : Str → Option Value} {s : Shared} {Q E : Value → Shared → Prop} {news : List (Addr × Obj)}
    {pa b : Addr} {k c : Int} {t tc : Tok} {n nb : Nat} {vs : List Value} {ns : List Int} {n1 rest : List (Addr × Obj)}
    (P1 : Pull (pa, W.listOf #[.ref b, .int k t] n) news n1) (P2 : Pull (b, W.listOf vs.toArray nb) n1 rest) (hI : IntsAre vs ns) (hlen : ns.length ≤ 63) (hk0 : 0 ≤ k) (hk1 : k ≤ 90000) (hc0 : 0 ≤ c) (hc1 : c ≤ 13) (hpb : @Ne Nat pa b) (hne : LCg.Off1 pa rest)
    (hS : ∀ (k' : Int) (B : Array UInt8) (ds : List Int) (t t' : Tok) (h' : Heap) (tk' : Nat), k ≤ k' → k' ≤ k + 1 → (∀ d ∈ ds, 0 ≤ d ∧ d < 16) → (ds.length : Int) = c → KBw.bInts B = ds.map hexfig → Fr h₀ L h' m → News h₀ L h' ((pa, W.listOf #[.ref b, .int k' t'] n) :: (b, W.listOf vs.toArray nb) :: rest) → Q (.bytes B t) { s with heap := h', toks := tk' })
    (S : Site w p loose mean mg mb dp un 2 cs outer A₀ base h₀ L s.heap m news) :
    wpAny (model prog w) (ktrTop dp un gd cn cs L a ccd cl outer) (call (.ref 192) [.ref pa, .int c tc]) Q E s := by
  obtain ⟨B, F, X, N, T, hk, hd, hu⟩ := S
  have N0 : News h₀ L s.heap [(pa, W.listOf #[.ref b, .int k t] n), (b, W.listOf vs.toArray nb)] := fun q hq => N q (by
    rcases List.mem_cons.mp hq with rfl | hq
    · exact P1.mem _ (List.mem_cons_self ..)
    · rw [List.mem_singleton.mp hq]; exact P1.mem _ (List.mem_cons_of_mem _ (P2.mem _ (List.mem_cons_self ..))))
  have kN0 : KeptN h₀ L s.heap [(pa, W.listOf #[.ref b, .int k t] n), (b, W.listOf vs.toArray nb)] := N0
  rcases Int.lt_or_le 0 c with hcp | hcz
  · (walk_at "my enterC"; intro g9 L9 h9 tk9 cells9 FG9 F9 N9 Y9 B9 X9 T9 l9 kG9; clear N0; (try k_lt l9); k_cells Y9; (try simp only [List.cons_append, List.nil_append] at N9); (try dsimp only); (try k_lift B9); (try k_fold); k_steps)
    all_goals ((rename News g9 _ _ _ => N'); (rename Fr g9 _ _ _ => F'); (rename Fr h₀ _ _ _ => kF); (rename News h₀ _ _ _ => kN))
    all_goals (rename KBa.In _ => hr)
    all_goals (have hb := figList_bytes (fun _ => rfl) hr)
    all_goals (refine' hS _ _ (figList _ _) _ _ _ _ ?pa1 ?pa2 figList_in (figList_len hc0) hb kF (rest_of kG9 F' N' N P1 P2 (off1_mem hne) ?pa3 ?pa4); (case pa3 => k_mem); (case pa4 => k_mem); (case pa1 => omega); (case pa2 => omega))
  · have hc00 : c = 0 := Int.le_antisymm hcz hc0
    subst hc00
    (walk_at "my enterC"; intro g9 L9 h9 tk9 cells9 FG9 F9 N9 Y9 B9 X9 T9 l9 kG9; clear N0; (try k_lt l9); k_cells Y9; (try simp only [List.cons_append, List.nil_append] at N9); (try dsimp only); (try k_lift B9); (try k_fold); k_steps)
    all_goals ((rename News g9 _ _ _ => N'); (rename Fr g9 _ _ _ => F'); (rename Fr h₀ _ _ _ => kF); (rename News h₀ _ _ _ => kN))
    all_goals (refine' hS _ _ [] _ _ _ _ ?pa1 ?pa2 (fun _ h => nomatch h) rfl ?hb kF (rest_of kG9 F' N' N P1 P2 (off1_mem hne) ?pa3 ?pa4); (case pa3 => k_mem); (case pa4 => k_mem); (case pa1 => omega); (case pa2 => omega); (case hb => rfl))

end
theorem set33 : True := by
  k_with_none
  w_top off
  k_with "my site" => ((refine' Site.mk ?s1v1 ?s2v1 ?s3v1 ?s4v1 ?s5v1 ?s6v1 ?s7v1 ?s8v1; (case s1v1 => first | k_asm | fail "site: below"); (case s2v1 => first | k_asm | fail "site: frame"); (case s3v1 => first | k_asm | fail "site: part"); (case s4v1 => first | k_asm | fail "site: ledger"); (case s5v1 => first | k_asm | fail "site: top"); (case s6v1 => first | exact rfl | assumption | fail "site: kind"); (case s7v1 => first | exact room_ok (by assumption) (by decide) | (walk_say "ROOM"; ktr_room) | fail "site: room"); (case s8v1 => first | exact units_ok (by assumption) (by decide) | (walk_say "UNITS"; ktr_units) | fail "site: units")))
  k_with "my enter" => ((refine wpAny_call ?_; k_dflt (refine' code_defG ?k1v2 ?k2v2 ?k3v2 ?k4v2 ?k5v2 ?kAv2 ?kFv2 ?kKv2 ?k6v2 ?k7v2 ?k8v2 ?k9wv2 ?kBv2 ?_ ?c2v2 ?c3v2 ?c4v2 ?c5v2; (case kAv2 => exact rfl); (case kFv2 => exact rfl); (case kKv2 => assumption); (case k1v2 => k_asm); (case k2v2 => k_asm); (case k3v2 => k_asm); (case k4v2 => k_asm); (case k5v2 => k_asm); (case k6v2 => k_is); (case k7v2 => k_is); (case k8v2 => ktr_room); (case k9wv2 => exact BindsTo.of_eq rfl); (case c5v2 => decide); (case kBv2 => exact locs rfl); (case c2v2 => exact rfl); (case c3v2 => exact rfl); (case c4v2 => exact rfl); k_whole)))
  k_with "call ref" => ((k_here; (try dsimp only [List.nil_append, List.append_nil]); refine wpAny_call ?_; k_dflt (refine' code_def ?k1v3 ?k2v3 ?k3v3 ?k4v3 ?k5v3 ?kAv3 ?kFv3 ?kKv3 ?k6v3 ?k7v3 ?k8v3 ?k9wv3 ?kBv3 ?_ ?c2v3 ?c3v3 ?c4v3 ?c5v3; (case kAv3 => exact rfl); (case kFv3 => exact rfl); (case kKv3 => first | exact rfl | assumption); (case k1v3 => k_asm); (case k2v3 => k_asm); (case k3v3 => k_asm); (case k4v3 => k_asm); (case k5v3 => k_asm); (case k6v3 => k_is); (case k7v3 => k_is); (case k8v3 => ktr_room); (case k9wv3 => exact BindsTo.of_eq rfl); (case c5v3 => decide); (case kBv3 => exact locs rfl); (case c2v3 => exact rfl); (case c3v3 => exact rfl); (case c4v3 => exact rfl); k_whole; intro g' L' h' FG' F' N' B' X' T'; (try dsimp only); (try k_lift B'); (try k_fold))))
  k_with "my off" => (((rename (_ ≠ _ ∧ _ ≠ _ ∧ _ ≠ _) ∧ _ => off9w); (simp only [ne_eq] at off9w); (simp only [LCg.Off3, and_true, ne_eq, off9w, not_false_eq_true, and_self, true_and]); (first | done | ((repeat' (refine And.intro ?_ ?_)); all_goals exact neN (by walk_at "my ne")))))
  k_with "ite" => ((k_here; first
      | (refine' ite_posI ?hcv5 ?_; (case hcv5 => k_dflt (exact of_decide_eq_true (by exact rfl))))
      | (refine' ite_negI ?hcv5 ?_; (case hcv5 => k_dflt (exact of_decide_eq_false (by exact rfl))))))
  k_with "my fact" => (first | (with_reducible assumption) | (simp only [ne_eq, not_false_eq_true, *]; done))
  k_with "my ne" => (first | (walk_at "my fact") | exact Ne.symm (by walk_at "my fact") | exact Nat.ne_of_lt (by walk_at "my fact") | exact Nat.ne_of_gt (by walk_at "my fact") | exact Nat.ne_of_lt (Nat.lt_succ_of_lt (by walk_at "my fact")) | exact Nat.ne_of_gt (Nat.lt_succ_of_lt (by walk_at "my fact")) | (walk_say "NE by omega"; omega))
  k_with "my side" => ((with_reducible ((repeat' (refine And.intro ?_ ?_)) <;> first | exact trivial | assumption | (walk_at "my arith"))))
  k_with "my arith" => (first
        | ((show IntMulOk _ _); first | exact PySem.IntMulOk.of_right (PySem.intBits_le_64 (by decide) (by decide)) | exact PySem.IntMulOk.of_left (PySem.intBits_le_64 (by decide) (by decide)) | exact PySem.IntMulOk.of_right (PySem.intBits_le_64 (by omega) (by omega)) | exact PySem.IntMulOk.of_left (PySem.intBits_le_64 (by omega) (by omega)) | mul_fits)
        | ((show Builtin.divisionGoesByPylong _ _ = false); first | exact PyProof.noPylong_of_log2 (by decide +kernel) | exact PyProof.noPylong_small (by omega))
        | omega
        | decide)
  k_with "my no" => (first | with_reducible exact False.elim p9w | with_reducible exact absurd trivial p9w | with_reducible exact absurd rfl p9w | (law_purse 20000 => omega))
  k_with "execs cons" => ((k_here; (first
        | ((with_reducible show wpAny _ _ (execs (Stmt.Return (some _) _ :: _) _) _ _ _); (fail_if_success (with_reducible show wpAny _ _ (execs (Stmt.Return (some (Expr.Tuple _ _ _)) _ :: _) _) _ _ _)); (fail_if_success (with_reducible show wpAny _ _ (execs (Stmt.Return (some (Expr.List _ _)) _ :: _) _) _ _ _)); (fail_if_success (with_reducible show wpAny _ _ (execs (Stmt.Return (some (Expr.Dict _ _ _)) _ :: _) _) _ _ _)); k_dflt ((with_reducible refine' st_retE ?hev11 ?Fv11 ?Xv11 ?Tv11 (fun t => ?ev11) ?hkv11 ?hcv11 (fun t9w tk9w => ?_))); (case hev11 => k_dflt (exact rfl)); (case Fv11 => k_asm); (case Xv11 => k_asm); (case Tv11 => k_asm); (case ev11 => k_dflt (exact rfl)); (case hkv11 => k_dflt (exact rfl)); (case hcv11 => walk_at "my side"); (try dsimp only))
        | ((with_reducible show wpAny _ _ (execs (Stmt.If _ _ [] _ :: _) _) _ _ _); k_dflt ((with_reducible refine' st_if0E ?hev11 ?Fv11 ?Xv11 ?Tv11 ?ev11 ?hkv11 ?hcv11 (fun p9w tk9w => ?_) (fun p9w tk9w => ?_))); (case hev11 => k_dflt (exact rfl)); (case Fv11 => k_asm); (case Xv11 => k_asm); (case Tv11 => k_asm); (case ev11 => k_dflt (exact rfl)); (case hkv11 => k_dflt (exact rfl)); (case hcv11 => walk_at "my side"); all_goals first | (exfalso; walk_at "my no") | (try dsimp only))
        | ((with_reducible show wpAny _ _ (execs (Stmt.If _ _ (_ :: _) _ :: _) _) _ _ _); k_dflt ((with_reducible refine' st_ifE ?hev11 ?Fv11 ?Xv11 ?Tv11 ?ev11 ?hkv11 ?hcv11 (fun p9w tk9w => ?_) (fun p9w tk9w => ?_))); (case hev11 => k_dflt (exact rfl)); (case Fv11 => k_asm); (case Xv11 => k_asm); (case Tv11 => k_asm); (case ev11 => k_dflt (exact rfl)); (case hkv11 => k_dflt (exact rfl)); (case hcv11 => walk_at "my side"); all_goals first | (exfalso; walk_at "my no") | (try dsimp only))
        | ((with_reducible show wpAny _ _ (execs (Stmt.Assign [Expr.Name _ _] _ _ :: _) _) _ _ _); k_dflt ((with_reducible refine' st_assignE ?hev11 ?Fv11 ?Nv11 ?Xv11 ?Tv11 (fun t => ?ev11) ?hkv11 ?hxv11 ?hsv11 ?hcv11 (fun t9w tk9w h9w => ?_))); (case hev11 => k_dflt (exact rfl)); (case Fv11 => k_asm); (case Nv11 => k_asm); (case Xv11 => k_asm); (case Tv11 => k_asm); (case ev11 => k_dflt (exact rfl)); (case hkv11 => k_dflt (exact rfl)); (case hxv11 => k_dflt (exact rfl)); (case hsv11 => k_dflt (exact rfl)); (case hcv11 => walk_at "my side"); intro m9w F9w N9w; (try k_sweep); (try dsimp only)))))
  k_with "eval BinOp" => ((k_here; k_dflt ((with_reducible refine' ev_peE ?hev12 ?Fv12 ?Xv12 ?Tv12 (fun t => ?ev12) ?hkv12 ?hcv12 (fun t9w tk9w => ?_)); (case hev12 => k_dflt (exact rfl)); (case Fv12 => k_asm); (case Xv12 => k_asm); (case Tv12 => k_asm); (case ev12 => k_dflt (exact rfl)); (case hkv12 => k_dflt (exact rfl)); (case hcv12 => walk_at "my side")); (try dsimp only)))
  k_with "eval IfExp" => ((k_here; k_dflt ((with_reducible refine' ev_ifE ?hev13 ?Fv13 ?Xv13 ?Tv13 ?ev13 ?hkv13 ?hcv13 (fun p9w tk9w => ?_) (fun p9w tk9w => ?_)); (case hev13 => k_dflt (exact rfl)); (case Fv13 => k_asm); (case Xv13 => k_asm); (case Tv13 => k_asm); (case ev13 => k_dflt (exact rfl)); (case hkv13 => k_dflt (exact rfl)); (case hcv13 => walk_at "my side"); all_goals first | (exfalso; walk_at "my no") | (try dsimp only))))
  k_with "eval Call" => ((k_here; (with_reducible show wpAny _ _ (eval (Expr.Call (Expr.Name _ _) (_ :: _) [] _) _) _ _ _); k_dflt ((with_reducible refine' ev_callE ?hev14 ?Fv14 ?Xv14 ?Tv14 ?efv14 ?hfv14 (fun t => ?eav14) ?hkv14 ?hcv14 (fun t9w tk9w => ?_)); (case hev14 => k_dflt (exact rfl)); (case Fv14 => k_asm); (case Xv14 => k_asm); (case Tv14 => k_asm); (case efv14 => k_dflt (exact rfl)); (case hfv14 => k_dflt (exact rfl)); (case eav14 => k_dflt (exact rfl)); (case hkv14 => k_dflt (exact rfl)); (case hcv14 => walk_at "my side"))))
  k_with "my nm" => ((k_dflt (refine' nm_ok ?Fv15 ?Xv15 ?Tv15 ?hkv15); (case Fv15 => k_asm); (case Xv15 => k_asm); (case Tv15 => k_asm); (case hkv15 => k_dflt (exact rfl))))
  k_with "spliced" => ((k_here; (with_reducible show wpAny _ _ (spliced (backTo _ (starEach (_ :: _) _))) _ _ _); (fail_if_success (with_reducible show wpAny _ _ (spliced (backTo _ (starEach (_ :: _ :: _ :: _ :: _ :: _ :: _ :: _) _))) _ _ _)); k_dflt ((with_reducible refine' xe_all ?hnv16 (fun tk => ?ev16) ?hcv16 (fun tk9w k9w => ?_))); (case hnv16 => walk_at "my nm"); (case ev16 => k_dflt (exact rfl)); (case hcv16 => walk_at "my side"); (try dsimp only [List.cons_append, List.nil_append])))
  k_with "storeName" => ((k_here; k_dflt ((with_reducible refine' st_storeE ?hev17 ?Fv17 ?Nv17 (fun tk9w h9w => ?_) ?hkv17 ?hxv17)); (case hev17 => k_dflt (exact rfl)); (case Fv17 => k_asm); (case Nv17 => k_asm); (case hkv17 => k_dflt (exact rfl)); (case hxv17 => k_dflt (exact rfl)); intro m9w F9w N9w; (try k_sweep); (try dsimp only)))
  k_with "call ref" => ((k_here; k_dflt (refine' hexv_c ?kSv18 (fun hv9w h9w tk9w F9w N9w => ?_) (fun v9w t9w hv9w h9w tk9w F9w N9w => ?_); (case kSv18 => walk_at "my site")); all_goals ((try dsimp only); (try k_fold))))
  k_with "call ref" => ((k_here; k_dflt (refine' figs_c ?kbv21 ?klv21 ?kSv21 (fun hv9w h9w tk9w F9w N9w => ?_) (fun v9w t9w hv9w h9w tk9w F9w N9w => ?_); (case kbv21 => kba_ints2); (case klv21 => kba_size); (case kSv21 => walk_at "my site")); all_goals ((try dsimp only); (try k_fold))))
  k_with "pyIter ref" => (((with_reducible show wpAny _ _ (pyIter (Value.ref _)) (fun it s₂ => LoopAtV _ _ _ _ _ _ _ _ _ it s₂) _ _); (rename Fr _ _ _ _ => lF'); (rename News _ _ _ _ => lN'); (with_unfolding_all refine iter_tupleUnr (by rfl) lF' lN' (by k_mem) ?_); clear lF' lN'; intro i' l1; (try k_lt l1)))
  k_with "TupRest" => ((with_unfolding_all first | (refine TupRest.succ (fun it' h' tk' hit' F' N' => ?_)) | (refine TupRest.zero (fun h' tk' F' N' => ?_))))
  k_with "getMethod bytes" => ((k_here; (with_reducible refine method_join ?_)))
  k_with "getMethod bytes" => ((k_here; (with_reducible refine method_split ?_)))
  k_with "my ints" => (first | kba_ints | exact (rfl : KBw.bInts _ = ([47] : List Int)) | exact (rfl : KBw.bInts _ = ([] : List Int)) | kba_ints2)
  k_with "my list" => (first | exact News.isList (by k_asm) (by k_mem) | is_list)
  k_with "call builtin:bytes.join" => ((k_here; k_dflt (first
      | (refine' join3 ?lv28 ?hsv28 ?h1v28 ?h2v28 ?h3v28 ?hzv28 ?_; (case lv28 => walk_at "my list"); (case hsv28 => walk_at "my ints"); (case h1v28 => walk_at "my ints"); (case h2v28 => walk_at "my ints"); (case h3v28 => walk_at "my ints"); (case hzv28 => kba_size))); intro B9w t9w k9w hB9w; (try simp only [List.nil_append, List.cons_append, List.append_assoc] at hB9w)))
  k_with "call ref" => ((k_here; k_dflt (refine' rgb_c ?h1v29 ?h2v29 ?h3v29 ?h4v29 ?h5v29 (fun D9w t9w u9w v9w h9w tk9w o9w F9w N9w => ?_) ?kSv29; (case h1v29 => assumption); (case h2v29 => first | assumption | decide | omega); (case h3v29 => first | assumption | omega); (case h4v29 => first | assumption | omega); (case h5v29 => first | assumption | omega); (case kSv29 => walk_at "my site")); (try simp only [LCg.Off1, and_true] at o9w); (try dsimp only); (try k_fold)))
  k_with "call builtin:bytes.split" => ((k_here; k_dflt (refine' split_call ?h1v30 ?h2v30 ?h3v30 ?h4v30 (fun D9w b1 b2 b3 t1 t2 t3 k1 k2 k3 h9w tk9w hsg e1 e2 e3 z1 z2 z3 F9w N9w l9w => ?_) (fun D9w vs9w h9w tk9w hsg e1 z1 F9w N9w l9w => ?_); (case h1v30 => k_asm); (case h2v30 => k_asm); (case h3v30 => walk_at "my ints"); (case h4v30 => kba_size)); all_goals ((try k_lt l9w); (try simp only [List.length_take, List.length_drop] at z1 z2 z3))))
  k_with "subscriptTail" => ((k_here; (with_reducible show wpAny _ _ (subscriptTail _ _ (Value.bytes _ _) (Value.int _ _)) _ _ _); (first
      | (refine' figs_item (nib_hi ?h1v31 ?h2v31 ?h3v31) ?h4v31 ?h5v31 (fun t9w k9w => ?_); (case h1v31 => assumption); (case h2v31 => omega); (case h3v31 => omega); (case h4v31 => omega); (case h5v31 => omega))
      | (refine' figs_item (nib_lo ?h1v31 ?h2v31 ?h3v31) ?h4v31 ?h5v31 (fun t9w k9w => ?_); (case h1v31 => assumption); (case h2v31 => omega); (case h3v31 => omega); (case h4v31 => omega); (case h5v31 => omega)))))
  k_with "call ref" => ((k_here; k_dflt (refine' figs_cb ?kbv36 ?klv36 ?kSv36 (fun hv9w h9w tk9w F9w N9w => ?_) (fun v9w t9w hv9w lo9w hi9w h9w tk9w F9w N9w => ?_); (case kbv36 => kba_ints2); (case klv36 => kba_size); (case kSv36 => walk_at "my site")); all_goals ((try dsimp only); (try k_fold))))
  k_with "Exists" => ((k_here; (refine made_bytes (by k_asm) (by first | k_asm | exact News.nil) (Top.nolimit (by k_asm)) (by rfl) (of_decide_eq_true (by rfl)) ?_; intro h' o' F' N' l1 lo' hd'; (try k_lt l1))))
  k_with "eval Dict" => ((k_here; (with_reducible refine Dict_made_bytes (by with_unfolding_all rfl) (by with_unfolding_all assumption) (by with_unfolding_all rfl) (by with_unfolding_all rfl) (List.cons_ne_nil _ _) (by with_unfolding_all decide) ?_; intro _)))
  k_with "my enterC" => ((refine wpAny_call ?_; k_dflt (refine' code_defCG ?k1v44 ?k2v44 ?k3v44 ?k4v44 ?k5v44 ?kAv44 ?kFv44 ?kKv44 ?k6v44 ?k7v44 ?k8v44 ?k9wv44 ?kBv44 ?kDv44 ?_ ?c2v44 ?c3v44 ?c4v44; (case kAv44 => exact rfl); (case kFv44 => exact rfl); (case kKv44 => assumption); (case k1v44 => k_asm); (case k2v44 => k_asm); (case k3v44 => k_asm); (case k4v44 => k_asm); (case k5v44 => k_asm); (case k6v44 => k_is); (case k7v44 => k_is); (case k8v44 => ktr_room); (case k9wv44 => exact BindsTo.of_eq rfl); (case kBv44 => exact rfl); (case kDv44 => decide +kernel); (case c2v44 => exact rfl); (case c3v44 => exact rfl); (case c4v44 => exact rfl); k_whole)))
  k_with "my pull" => (first | exact Pull.head | (refine' Pull.tail ?ptlv49; (case ptlv49 => walk_at "my pull")))
  k_with "my off" => (((try simp only [LCg.Off1, and_true]); (repeat' (refine And.intro ?_ ?_)); all_goals first | exact trivial | (walk_at "my ne")))
  k_with "my pow" => (first | omega | exact pow16_pos _ | exact pow16_le (by omega) | decide)
  k_with "call ref" => ((k_here; k_dflt (refine' draw_c ?P1v52 ?P2v52 ?hIv52 ?h1v52 ?h2v52 ?h3v52 ?h4v52 ?h5v52 ?h6v52 ?h7v52 (fun k9w v9w t9w u9w h9w tk9w hk9w lo9w hi9w dv9w F9w N9w => ?_) ?kSv52; (case kSv52 => walk_at "my site"); (case P1v52 => walk_at "my pull"); (case P2v52 => walk_at "my pull"); (case hIv52 => l_ints); (case h1v52 => first | assumption | omega); (case h2v52 => omega); (case h3v52 => omega); (case h4v52 => walk_at "my pow"); (case h5v52 => walk_at "my pow"); (case h6v52 => omega); (case h7v52 => walk_at "my off")); (try dsimp only); (try k_fold)))
  exact trivial
section
open PySem.Builtin PySem.Builtin.Bytes
theorem meets_index (b sub : Array UInt8) (t u : Tok) (i : Nat) (hf : find? b sub 0 b.size = some i) (hs : sub.size ≤ b.size) : Meets («bytes.index» ⟨[.bytes b t, .bytes sub u], []⟩) (fun _ R s => ∀ t' k, R (.ok (.ret (.int (i : Nat) t'))) { s with toks := k }) := by
  refine .of_wp fun prog w A R s h => ?_
  show wpAny _ _ (searchArgs .bytes "index" _ >>= _) _ _ s
  refine wpAny_bind ?_
  unfold searchArgs
  refine wpAny_bind (wpAny_of_eq (a := (Value.bytes b t, [Value.bytes sub u])) rfl ?_)
  dsimp only
  refine wpAny_bind (wpAny_of_eq (a := (none : Option Int)) rfl ?_)
  refine wpAny_bind (wpAny_of_eq (a := (none : Option Int)) rfl ?_)
  refine wpAny_bind (wpAny_of_eq (a := some sub) buffer_full ?_)
  dsimp only
  refine wpAny_bind (wpAny_pure ?_)
  refine wpAny_bind (wpAny_of_eq (a := b) rfl ?_)
  have hw : window b.size none none = (0, (b.size : Int)) := by
    unfold window
    simp only [Option.getD_none]
    rw [if_neg (by omega), if_neg (by omega)]
    simp
  rw [hw]
  dsimp only
  rw [if_neg (by omega)]
  refine wpAny_pure ?_
  dsimp only [Option.bind_some]
  rw [show (Int.toNat 0) = 0 from rfl, Int.toNat_natCast]
  simp only [Bool.false_eq_true, if_false]
  rw [hf]
  dsimp only
  exact wpAny_bind (wpAny_mkInt (wpAny_pure ⟨_, rfl, h _ _⟩))
theorem slot_bytes_index : Slot "bytes" "index" "bytes.index" :=
  .of (owner := "bytes") (n := "index") (by rw [typeLookup_type, builtinLookup_eq_fast]; kernel_rfl) (by decide +kernel) (by decide +kernel) (by decide +kernel)
    (by first | exact .inl (by decide +kernel) | exact .inr (by decide +kernel)) (by rw [isSubtype_type]; kernel_rfl)
theorem type_bytes_index : typeOf (.builtin "bytes.index") = pure (.type "method_descriptor") := by show builtinType _ = _; rw [builtinType_eq_fast]; kernel_rfl
theorem entry_bytes_index : entryFor table "bytes.index" = some Builtin.«bytes.index» := entryFor_of_tree (by kernel_rfl)
theorem args_bytes_index_2 (a b : Value) : argsOk "bytes.index" ⟨[a, b], []⟩ := by
  unfold argsOk; rw [signature?_of (id := "bytes.index") (n := ['x', 'e', 'd', 'n', 'i']) (o := ['s', 'e', 't', 'y', 'b']) (by kernel_rfl) FB.owner_bytes]; kernel_rfl
section
variable {prog : Program} {w : World} {M : Model} {A : Around} {E : Value → Shared → Prop} {s : Shared}
theorem method_index {b : Array UInt8} {t : Tok} {pl : Sem Bool} {Q : Value × List Value → Shared → Prop} (h : Q (.builtin "bytes.index", [.bytes b t]) s) : wpAny M A (getMethod (.bytes b t) "index" pl) Q E s := by
  with_reducible exact KBd.method_of (.bytes b t) (typeIs_bytes _ _ _) slot_bytes_index type_bytes_index KBd.noRef h
theorem find_fig {d : Int} {sub : Array UInt8} (h0 : 0 ≤ d) (h1 : d < 16) (hs : KBw.bInts sub = [hexfig d]) : find? #[48, 49, 50, 51, 52, 53, 54, 55, 56, 57, 97, 98, 99, 100, 101, 102] sub 0 16 = some d.toNat := by
  have hl : sub.size = 1 := by rw [← KBw.ints_length, hs]; rfl
  obtain ⟨c, rfl⟩ : ∃ c, sub = #[c] := by
    rcases sub with ⟨l⟩
    rcases l with _ | ⟨c, _ | ⟨x, r⟩⟩ <;> simp at hl
    exact ⟨c, rfl⟩
  have hc : (c.toNat : Int) = hexfig d := by
    have := hs
    simpa [KBw.bInts] using this
  have key : ∀ n : Nat, n < 16 → find? #[48, 49, 50, 51, 52, 53, 54, 55, 56, 57, 97, 98, 99, 100, 101, 102] #[(hexfig n).toNat.toUInt8] 0 16 = some n := by decide +kernel
  obtain ⟨n, rfl⟩ : ∃ n : Nat, d = n := ⟨d.toNat, by omega⟩
  have hcc : c = (hexfig n).toNat.toUInt8 := by
    rw [← hc, Int.toNat_natCast]
    simp
  rw [hcc, Int.toNat_natCast]
  exact key n (by omega)
theorem index_fig {sub : Array UInt8} {t u : Tok} {d : Int} {Q : Value → Shared → Prop} (hs : KBw.bInts sub = [hexfig d]) (h0 : 0 ≤ d) (h1 : d < 16) (h : ∀ t' k, Q (.int d t') { s with toks := k }) :
    wpAny (model prog w) A (call (.builtin "bytes.index") [.bytes #[48, 49, 50, 51, 52, 53, 54, 55, 56, 57, 97, 98, 99, 100, 101, 102] t, .bytes sub u]) Q E s := by
  refine call_meets slot_bytes_index (typeIs_bytes _ _ _) entry_bytes_index (args_bytes_index_2 _ _) (meets_index _ sub t u d.toNat (find_fig h0 h1 hs) ?_) fun t' k => ?_
  · have hl : sub.size = 1 := by rw [← KBw.ints_length, hs]; rfl
    rw [hl]; decide
  · have e : ((d.toNat : Nat) : Int) = d := by omega
    rw [e]
    exact h t' k
end
end
noncomputable def numFold (l : List Int) (n : Int) : Int := l.foldl (fun n d => 16 * n + d) n
section
variable {prog : Program} {w : World} {A : Around} {E : Value → Shared → Prop} {s : Shared} {env : Env} {h₀ : Heap} {x : Str} {body : List Stmt} {Q : Flow → Shared → Prop}
theorem num_rest {I : Addr} {y : Str} {stored : List Str} {m₀ : Str → Option Value} {ds : List Int} {t₀ : Tok} {news : List (Addr × Obj)} (hy : m₀ y = some (.int 0 t₀)) (hd : ∀ d ∈ ds, 0 ≤ d ∧ d < 16)
    (turn : ∀ (d n : Int) (u t : Tok) (it : Obj) (uu : Str → Option Value) h tk (Rest : (Str → Option Value) → List (Addr × Obj) → Prop), 0 ≤ d → d < 16 → 48 ≤ hexfig d ∧ hexfig d ≤ 102 →
      Fr h₀ env.locals h (fun z => if z = x then some (.int (hexfig d) u) else if z = y then some (.int n t) else if stored.contains z then uu z else m₀ z) → News h₀ env.locals h ((I, it) :: news) →
      (∀ m' t', m' y = some (.int (16 * n + d) t') → (∀ z, z ≠ y → stored.contains z = false → m' z = m₀ z) → Rest m' news) →
      wpAny (model prog w) A (execs body env) (UnrPost h₀ env.locals { s with heap := h, toks := tk } I it Rest Q) E { s with heap := h, toks := tk })
    (done : ∀ (n : Int) (t : Tok) (uu : Str → Option Value) h tk, n = numFold ds 0 → Fr h₀ env.locals h (fun z => if z = y then some (.int n t) else if stored.contains z then uu z else m₀ z) → News h₀ env.locals h news → Q .next { s with heap := h, toks := tk }) :
    BytesRest prog w A E h₀ env x body Q s I (ds.map hexfig) m₀ news := by
  have key : ∀ (l : List Int) (n : Int) (t : Tok) (m₁ : Str → Option Value), (∀ d ∈ l, 0 ≤ d ∧ d < 16) → numFold ds 0 = numFold l n → m₁ y = some (.int n t) → (∀ z, z ≠ y → stored.contains z = false → m₁ z = m₀ z) → BytesRest prog w A E h₀ env x body Q s I (l.map hexfig) m₁ news := by
    intro l
    induction l with
    | nil =>
      intro n t m₁ _ e h1 h2
      refine BytesRest.zero fun h tk F N => ?_
      rw [shape_of h1 h2] at F
      exact done n t m₁ h tk e.symm F N
    | cons d r ih =>
      intro n t m₁ hl e h1 h2
      have hd := hl d (List.mem_cons_self ..)
      refine BytesRest.succ fun _ _ u it h tk F N => ?_
      rw [shape_of h1 h2] at F
      have z := hexfig_range hd.1 hd.2
      exact turn d n u t it m₁ h tk _ hd.1 hd.2 ⟨z.1, z.2.1⟩ F N fun m' t' h1' h2' => ih (16 * n + d) t' m' (fun q hq => hl q (List.mem_cons_of_mem _ hq)) e h1' h2'
  exact key ds 0 t₀ m₀ hd rfl hy fun _ _ _ => rfl
end

theorem set35 : True := by
  w_top off
  k_with "getMethod bytes" => ((k_here; (with_reducible refine method_index ?_)))
  k_with "call builtin:bytes.index" => ((k_here; k_dflt (refine' index_fig ?h1v54 ?h2v54 ?h3v54 (fun t9w k9w => ?_); (case h1v54 => kba_ints); (case h2v54 => omega); (case h3v54 => omega))))
  k_with "pyIter bytes" => ((k_here; (rename Fr _ _ _ _ => lF9w); (rename News _ _ _ _ => lN9w); (with_unfolding_all refine iter_bytesUnr (l := List.map hexfig _) (by rfl) lF9w lN9w (by assumption) ?_); (intro i9w l19); (refine' num_rest (y := Str.ofString "number") (stored := [Str.ofString "figure"]) ?hyv55 hds9w (fun d9w n9w u9w t9w it9w uu9w h9w tk9w Rest9w lo9w hi9w hx9w F9w N9w hR9w => ?turnv55) (fun n9w t9w uu9w h9w tk9w hn9w F9w N9w => ?donev55)); (case hyv55 => with_unfolding_all rfl); (all_goals (try k_sweep))))
  k_with "UnrEnd" => ((k_here; (refine' UnrEnd.intro ?Fv56 ?Nv56 [] ?subv56 ?offv56 (hR9w _ _ ?yv56 ?zv56)); (case Fv56 => assumption); (case Nv56 => k_asm); (case subv56 => lcg_sub); (case offv56 => exact fun _ h => nomatch h); (case yv56 => with_unfolding_all rfl); (case zv56 => (intro z h1 h2; (try dsimp (zetaDelta := true) only); repeat (first | rfl | rw [if_neg (show ¬ List.contains _ z = true from fun e => by rw [h2] at e; cases e)] | rw [if_neg (show ¬ z = _ from fun e => by subst e; first | exact h1 rfl | exact absurd h2 (by decide))])))))
  exact trivial
theorem num_c {prog : Program} {w : World} {p : Program} {loose : List Str} {mean : ExcName → Option Value} {mg mb : Str → Option Value} {dp un : Nat} {gd : Option (List Code)} {cn : Str} {cs : Scope} {a : Addr} {ccd : Value} {cl : List (Str × Addr)} {outer : List Env} {A₀ : Around} {base h₀ : Heap} {L : Addr} {m : Str → Option Value} {s : Shared} {Q E : Value → Shared → Prop} {news : List (Addr × Obj)}
    {b : Array UInt8} {t : Tok} {d1 d2 d3 d4 d5 d6 : Int} (hb : KBw.bInts b = [hexfig d1, hexfig d2, hexfig d3, hexfig d4, hexfig d5, hexfig d6])
    (r1 : 0 ≤ d1 ∧ d1 < 16) (r2 : 0 ≤ d2 ∧ d2 < 16) (r3 : 0 ≤ d3 ∧ d3 < 16) (r4 : 0 ≤ d4 ∧ d4 < 16) (r5 : 0 ≤ d5 ∧ d5 < 16) (r6 : 0 ≤ d6 ∧ d6 < 16)
    (hS : ∀ (v : Int) (t : Tok) (h' : Heap) (tk' : Nat), v = 1048576 * d1 + 65536 * d2 + 4096 * d3 + 256 * d4 + 16 * d5 + d6 → Fr h₀ L h' m → News h₀ L h' news → Q (.int v t) { s with heap := h', toks := tk' })
    (S : Site w p loose mean mg mb dp un 1 cs outer A₀ base h₀ L s.heap m news) :
    wpAny (model prog w) (ktrTop dp un gd cn cs L a ccd cl outer) (call (.ref 199) [.bytes b t]) Q E s := by
  obtain ⟨B, F, X, N, T, hk, hd, hu⟩ := S
  have N0 : News h₀ L s.heap [] := News.sub N led_nil
  have kN0 : KeptN h₀ L s.heap [] := N0
  have hds9w : ∀ d ∈ [d1, d2, d3, d4, d5, d6], 0 ≤ d ∧ d < 16 := List.forall_mem_cons.mpr ⟨r1, List.forall_mem_cons.mpr ⟨r2, List.forall_mem_cons.mpr ⟨r3, List.forall_mem_cons.mpr ⟨r4, List.forall_mem_cons.mpr ⟨r5, List.forall_mem_cons.mpr ⟨r6, List.forall_mem_nil _⟩⟩⟩⟩⟩⟩
  replace hb : KBw.bInts b = List.map hexfig [d1, d2, d3, d4, d5, d6] := hb
  have hv6 : ∀ n, n = numFold [d1, d2, d3, d4, d5, d6] 0 → n = 1048576 * d1 + 65536 * d2 + 4096 * d3 + 256 * d4 + 16 * d5 + d6 := fun n h => by rw [h]; unfold numFold; simp only [List.foldl_cons, List.foldl_nil]; omega
  (walk_at "my enter"; intro g9 L9 h9 FG9 F9 N9 B9 X9 T9 kG9; clear N0; (try dsimp only); (try k_lift B9); (try k_fold); k_steps)
  all_goals ((rename News g9 _ _ _ => N'); (rename Fr g9 _ _ _ => F'); (rename Fr h₀ _ _ _ => kF); (rename News h₀ _ _ _ => kN))
  all_goals exact hS _ _ _ _ (hv6 _ (by assumption)) kF (N.grown (grow_led kG9 kN0 F' N' led_nil))

theorem set36 : True := by
  k_with_none
  w_top off
  k_with "my site" => ((refine' Site.mk ?s1v1 ?s2v1 ?s3v1 ?s4v1 ?s5v1 ?s6v1 ?s7v1 ?s8v1; (case s1v1 => first | k_asm | fail "site: below"); (case s2v1 => first | k_asm | fail "site: frame"); (case s3v1 => first | k_asm | fail "site: part"); (case s4v1 => first | k_asm | fail "site: ledger"); (case s5v1 => first | k_asm | fail "site: top"); (case s6v1 => first | exact rfl | assumption | fail "site: kind"); (case s7v1 => first | exact room_ok (by assumption) (by decide) | (walk_say "ROOM"; ktr_room) | fail "site: room"); (case s8v1 => first | exact units_ok (by assumption) (by decide) | (walk_say "UNITS"; ktr_units) | fail "site: units")))
  k_with "my enter" => ((refine wpAny_call ?_; k_dflt (refine' code_defG ?k1v2 ?k2v2 ?k3v2 ?k4v2 ?k5v2 ?kAv2 ?kFv2 ?kKv2 ?k6v2 ?k7v2 ?k8v2 ?k9wv2 ?kBv2 ?_ ?c2v2 ?c3v2 ?c4v2 ?c5v2; (case kAv2 => exact rfl); (case kFv2 => exact rfl); (case kKv2 => assumption); (case k1v2 => k_asm); (case k2v2 => k_asm); (case k3v2 => k_asm); (case k4v2 => k_asm); (case k5v2 => k_asm); (case k6v2 => k_is); (case k7v2 => k_is); (case k8v2 => ktr_room); (case k9wv2 => exact BindsTo.of_eq rfl); (case c5v2 => decide); (case kBv2 => exact locs rfl); (case c2v2 => exact rfl); (case c3v2 => exact rfl); (case c4v2 => exact rfl); k_whole)))
  k_with "call ref" => ((k_here; (try dsimp only [List.nil_append, List.append_nil]); refine wpAny_call ?_; k_dflt (refine' code_def ?k1v3 ?k2v3 ?k3v3 ?k4v3 ?k5v3 ?kAv3 ?kFv3 ?kKv3 ?k6v3 ?k7v3 ?k8v3 ?k9wv3 ?kBv3 ?_ ?c2v3 ?c3v3 ?c4v3 ?c5v3; (case kAv3 => exact rfl); (case kFv3 => exact rfl); (case kKv3 => first | exact rfl | assumption); (case k1v3 => k_asm); (case k2v3 => k_asm); (case k3v3 => k_asm); (case k4v3 => k_asm); (case k5v3 => k_asm); (case k6v3 => k_is); (case k7v3 => k_is); (case k8v3 => ktr_room); (case k9wv3 => exact BindsTo.of_eq rfl); (case c5v3 => decide); (case kBv3 => exact locs rfl); (case c2v3 => exact rfl); (case c3v3 => exact rfl); (case c4v3 => exact rfl); k_whole; intro g' L' h' FG' F' N' B' X' T'; (try dsimp only); (try k_lift B'); (try k_fold))))
  k_with "my off" => (((rename (_ ≠ _ ∧ _ ≠ _ ∧ _ ≠ _) ∧ _ => off9w); (simp only [ne_eq] at off9w); (simp only [LCg.Off3, and_true, ne_eq, off9w, not_false_eq_true, and_self, true_and]); (first | done | ((repeat' (refine And.intro ?_ ?_)); all_goals exact neN (by walk_at "my ne")))))
  k_with "ite" => ((k_here; first
      | (refine' ite_posI ?hcv5 ?_; (case hcv5 => k_dflt (exact of_decide_eq_true (by exact rfl))))
      | (refine' ite_negI ?hcv5 ?_; (case hcv5 => k_dflt (exact of_decide_eq_false (by exact rfl))))))
  k_with "my fact" => (first | (with_reducible assumption) | (simp only [ne_eq, not_false_eq_true, *]; done))
  k_with "my ne" => (first | (walk_at "my fact") | exact Ne.symm (by walk_at "my fact") | exact Nat.ne_of_lt (by walk_at "my fact") | exact Nat.ne_of_gt (by walk_at "my fact") | exact Nat.ne_of_lt (Nat.lt_succ_of_lt (by walk_at "my fact")) | exact Nat.ne_of_gt (Nat.lt_succ_of_lt (by walk_at "my fact")) | (walk_say "NE by omega"; omega))
  k_with "my side" => ((with_reducible ((repeat' (refine And.intro ?_ ?_)) <;> first | exact trivial | assumption | (walk_at "my arith"))))
  k_with "my arith" => (first
        | ((show IntMulOk _ _); first | exact PySem.IntMulOk.of_right (PySem.intBits_le_64 (by decide) (by decide)) | exact PySem.IntMulOk.of_left (PySem.intBits_le_64 (by decide) (by decide)) | exact PySem.IntMulOk.of_right (PySem.intBits_le_64 (by omega) (by omega)) | exact PySem.IntMulOk.of_left (PySem.intBits_le_64 (by omega) (by omega)) | mul_fits)
        | ((show Builtin.divisionGoesByPylong _ _ = false); first | exact PyProof.noPylong_of_log2 (by decide +kernel) | exact PyProof.noPylong_small (by omega))
        | omega
        | decide)
  k_with "my no" => (first | with_reducible exact False.elim p9w | with_reducible exact absurd trivial p9w | with_reducible exact absurd rfl p9w | (law_purse 20000 => omega))
  k_with "execs cons" => ((k_here; (first
        | ((with_reducible show wpAny _ _ (execs (Stmt.Return (some _) _ :: _) _) _ _ _); (fail_if_success (with_reducible show wpAny _ _ (execs (Stmt.Return (some (Expr.Tuple _ _ _)) _ :: _) _) _ _ _)); (fail_if_success (with_reducible show wpAny _ _ (execs (Stmt.Return (some (Expr.List _ _)) _ :: _) _) _ _ _)); (fail_if_success (with_reducible show wpAny _ _ (execs (Stmt.Return (some (Expr.Dict _ _ _)) _ :: _) _) _ _ _)); k_dflt ((with_reducible refine' st_retE ?hev11 ?Fv11 ?Xv11 ?Tv11 (fun t => ?ev11) ?hkv11 ?hcv11 (fun t9w tk9w => ?_))); (case hev11 => k_dflt (exact rfl)); (case Fv11 => k_asm); (case Xv11 => k_asm); (case Tv11 => k_asm); (case ev11 => k_dflt (exact rfl)); (case hkv11 => k_dflt (exact rfl)); (case hcv11 => walk_at "my side"); (try dsimp only))
        | ((with_reducible show wpAny _ _ (execs (Stmt.If _ _ [] _ :: _) _) _ _ _); k_dflt ((with_reducible refine' st_if0E ?hev11 ?Fv11 ?Xv11 ?Tv11 ?ev11 ?hkv11 ?hcv11 (fun p9w tk9w => ?_) (fun p9w tk9w => ?_))); (case hev11 => k_dflt (exact rfl)); (case Fv11 => k_asm); (case Xv11 => k_asm); (case Tv11 => k_asm); (case ev11 => k_dflt (exact rfl)); (case hkv11 => k_dflt (exact rfl)); (case hcv11 => walk_at "my side"); all_goals first | (exfalso; walk_at "my no") | (try dsimp only))
        | ((with_reducible show wpAny _ _ (execs (Stmt.If _ _ (_ :: _) _ :: _) _) _ _ _); k_dflt ((with_reducible refine' st_ifE ?hev11 ?Fv11 ?Xv11 ?Tv11 ?ev11 ?hkv11 ?hcv11 (fun p9w tk9w => ?_) (fun p9w tk9w => ?_))); (case hev11 => k_dflt (exact rfl)); (case Fv11 => k_asm); (case Xv11 => k_asm); (case Tv11 => k_asm); (case ev11 => k_dflt (exact rfl)); (case hkv11 => k_dflt (exact rfl)); (case hcv11 => walk_at "my side"); all_goals first | (exfalso; walk_at "my no") | (try dsimp only))
        | ((with_reducible show wpAny _ _ (execs (Stmt.Assign [Expr.Name _ _] _ _ :: _) _) _ _ _); k_dflt ((with_reducible refine' st_assignE ?hev11 ?Fv11 ?Nv11 ?Xv11 ?Tv11 (fun t => ?ev11) ?hkv11 ?hxv11 ?hsv11 ?hcv11 (fun t9w tk9w h9w => ?_))); (case hev11 => k_dflt (exact rfl)); (case Fv11 => k_asm); (case Nv11 => k_asm); (case Xv11 => k_asm); (case Tv11 => k_asm); (case ev11 => k_dflt (exact rfl)); (case hkv11 => k_dflt (exact rfl)); (case hxv11 => k_dflt (exact rfl)); (case hsv11 => k_dflt (exact rfl)); (case hcv11 => walk_at "my side"); intro m9w F9w N9w; (try k_sweep); (try dsimp only)))))
  k_with "eval BinOp" => ((k_here; k_dflt ((with_reducible refine' ev_peE ?hev12 ?Fv12 ?Xv12 ?Tv12 (fun t => ?ev12) ?hkv12 ?hcv12 (fun t9w tk9w => ?_)); (case hev12 => k_dflt (exact rfl)); (case Fv12 => k_asm); (case Xv12 => k_asm); (case Tv12 => k_asm); (case ev12 => k_dflt (exact rfl)); (case hkv12 => k_dflt (exact rfl)); (case hcv12 => walk_at "my side")); (try dsimp only)))
  k_with "eval IfExp" => ((k_here; k_dflt ((with_reducible refine' ev_ifE ?hev13 ?Fv13 ?Xv13 ?Tv13 ?ev13 ?hkv13 ?hcv13 (fun p9w tk9w => ?_) (fun p9w tk9w => ?_)); (case hev13 => k_dflt (exact rfl)); (case Fv13 => k_asm); (case Xv13 => k_asm); (case Tv13 => k_asm); (case ev13 => k_dflt (exact rfl)); (case hkv13 => k_dflt (exact rfl)); (case hcv13 => walk_at "my side"); all_goals first | (exfalso; walk_at "my no") | (try dsimp only))))
  k_with "eval Call" => ((k_here; (with_reducible show wpAny _ _ (eval (Expr.Call (Expr.Name _ _) (_ :: _) [] _) _) _ _ _); k_dflt ((with_reducible refine' ev_callE ?hev14 ?Fv14 ?Xv14 ?Tv14 ?efv14 ?hfv14 (fun t => ?eav14) ?hkv14 ?hcv14 (fun t9w tk9w => ?_)); (case hev14 => k_dflt (exact rfl)); (case Fv14 => k_asm); (case Xv14 => k_asm); (case Tv14 => k_asm); (case efv14 => k_dflt (exact rfl)); (case hfv14 => k_dflt (exact rfl)); (case eav14 => k_dflt (exact rfl)); (case hkv14 => k_dflt (exact rfl)); (case hcv14 => walk_at "my side"))))
  k_with "my nm" => ((k_dflt (refine' nm_ok ?Fv15 ?Xv15 ?Tv15 ?hkv15); (case Fv15 => k_asm); (case Xv15 => k_asm); (case Tv15 => k_asm); (case hkv15 => k_dflt (exact rfl))))
  k_with "spliced" => ((k_here; (with_reducible show wpAny _ _ (spliced (backTo _ (starEach (_ :: _) _))) _ _ _); (fail_if_success (with_reducible show wpAny _ _ (spliced (backTo _ (starEach (_ :: _ :: _ :: _ :: _ :: _ :: _ :: _) _))) _ _ _)); k_dflt ((with_reducible refine' xe_all ?hnv16 (fun tk => ?ev16) ?hcv16 (fun tk9w k9w => ?_))); (case hnv16 => walk_at "my nm"); (case ev16 => k_dflt (exact rfl)); (case hcv16 => walk_at "my side"); (try dsimp only [List.cons_append, List.nil_append])))
  k_with "storeName" => ((k_here; k_dflt ((with_reducible refine' st_storeE ?hev17 ?Fv17 ?Nv17 (fun tk9w h9w => ?_) ?hkv17 ?hxv17)); (case hev17 => k_dflt (exact rfl)); (case Fv17 => k_asm); (case Nv17 => k_asm); (case hkv17 => k_dflt (exact rfl)); (case hxv17 => k_dflt (exact rfl)); intro m9w F9w N9w; (try k_sweep); (try dsimp only)))
  k_with "call ref" => ((k_here; k_dflt (refine' hexv_c ?kSv18 (fun hv9w h9w tk9w F9w N9w => ?_) (fun v9w t9w hv9w h9w tk9w F9w N9w => ?_); (case kSv18 => walk_at "my site")); all_goals ((try dsimp only); (try k_fold))))
  k_with "call ref" => ((k_here; k_dflt (refine' figs_c ?kbv21 ?klv21 ?kSv21 (fun hv9w h9w tk9w F9w N9w => ?_) (fun v9w t9w hv9w h9w tk9w F9w N9w => ?_); (case kbv21 => kba_ints2); (case klv21 => kba_size); (case kSv21 => walk_at "my site")); all_goals ((try dsimp only); (try k_fold))))
  k_with "pyIter ref" => (((with_reducible show wpAny _ _ (pyIter (Value.ref _)) (fun it s₂ => LoopAtV _ _ _ _ _ _ _ _ _ it s₂) _ _); (rename Fr _ _ _ _ => lF'); (rename News _ _ _ _ => lN'); (with_unfolding_all refine iter_tupleUnr (by rfl) lF' lN' (by k_mem) ?_); clear lF' lN'; intro i' l1; (try k_lt l1)))
  k_with "TupRest" => ((with_unfolding_all first | (refine TupRest.succ (fun it' h' tk' hit' F' N' => ?_)) | (refine TupRest.zero (fun h' tk' F' N' => ?_))))
  k_with "getMethod bytes" => ((k_here; (with_reducible refine method_join ?_)))
  k_with "getMethod bytes" => ((k_here; (with_reducible refine method_split ?_)))
  k_with "my ints" => (first | kba_ints | exact (rfl : KBw.bInts _ = ([47] : List Int)) | exact (rfl : KBw.bInts _ = ([] : List Int)) | kba_ints2)
  k_with "my list" => (first | exact News.isList (by k_asm) (by k_mem) | is_list)
  k_with "call builtin:bytes.join" => ((k_here; k_dflt (first
      | (refine' join3 ?lv28 ?hsv28 ?h1v28 ?h2v28 ?h3v28 ?hzv28 ?_; (case lv28 => walk_at "my list"); (case hsv28 => walk_at "my ints"); (case h1v28 => walk_at "my ints"); (case h2v28 => walk_at "my ints"); (case h3v28 => walk_at "my ints"); (case hzv28 => kba_size))); intro B9w t9w k9w hB9w; (try simp only [List.nil_append, List.cons_append, List.append_assoc] at hB9w)))
  k_with "call ref" => ((k_here; k_dflt (refine' rgb_c ?h1v29 ?h2v29 ?h3v29 ?h4v29 ?h5v29 (fun D9w t9w u9w v9w h9w tk9w o9w F9w N9w => ?_) ?kSv29; (case h1v29 => assumption); (case h2v29 => first | assumption | decide | omega); (case h3v29 => first | assumption | omega); (case h4v29 => first | assumption | omega); (case h5v29 => first | assumption | omega); (case kSv29 => walk_at "my site")); (try simp only [LCg.Off1, and_true] at o9w); (try dsimp only); (try k_fold)))
  k_with "call builtin:bytes.split" => ((k_here; k_dflt (refine' split_call ?h1v30 ?h2v30 ?h3v30 ?h4v30 (fun D9w b1 b2 b3 t1 t2 t3 k1 k2 k3 h9w tk9w hsg e1 e2 e3 z1 z2 z3 F9w N9w l9w => ?_) (fun D9w vs9w h9w tk9w hsg e1 z1 F9w N9w l9w => ?_); (case h1v30 => k_asm); (case h2v30 => k_asm); (case h3v30 => walk_at "my ints"); (case h4v30 => kba_size)); all_goals ((try k_lt l9w); (try simp only [List.length_take, List.length_drop] at z1 z2 z3))))
  k_with "subscriptTail" => ((k_here; (with_reducible show wpAny _ _ (subscriptTail _ _ (Value.bytes _ _) (Value.int _ _)) _ _ _); (first
      | (refine' figs_item (nib_hi ?h1v31 ?h2v31 ?h3v31) ?h4v31 ?h5v31 (fun t9w k9w => ?_); (case h1v31 => assumption); (case h2v31 => omega); (case h3v31 => omega); (case h4v31 => omega); (case h5v31 => omega))
      | (refine' figs_item (nib_lo ?h1v31 ?h2v31 ?h3v31) ?h4v31 ?h5v31 (fun t9w k9w => ?_); (case h1v31 => assumption); (case h2v31 => omega); (case h3v31 => omega); (case h4v31 => omega); (case h5v31 => omega)))))
  k_with "call ref" => ((k_here; k_dflt (refine' figs_cb ?kbv36 ?klv36 ?kSv36 (fun hv9w h9w tk9w F9w N9w => ?_) (fun v9w t9w hv9w lo9w hi9w h9w tk9w F9w N9w => ?_); (case kbv36 => kba_ints2); (case klv36 => kba_size); (case kSv36 => walk_at "my site")); all_goals ((try dsimp only); (try k_fold))))
  k_with "Exists" => ((k_here; (refine made_bytes (by k_asm) (by first | k_asm | exact News.nil) (Top.nolimit (by k_asm)) (by rfl) (of_decide_eq_true (by rfl)) ?_; intro h' o' F' N' l1 lo' hd'; (try k_lt l1))))
  k_with "eval Dict" => ((k_here; (with_reducible refine Dict_made_bytes (by with_unfolding_all rfl) (by with_unfolding_all assumption) (by with_unfolding_all rfl) (by with_unfolding_all rfl) (List.cons_ne_nil _ _) (by with_unfolding_all decide) ?_; intro _)))
  k_with "my enterC" => ((refine wpAny_call ?_; k_dflt (refine' code_defCG ?k1v44 ?k2v44 ?k3v44 ?k4v44 ?k5v44 ?kAv44 ?kFv44 ?kKv44 ?k6v44 ?k7v44 ?k8v44 ?k9wv44 ?kBv44 ?kDv44 ?_ ?c2v44 ?c3v44 ?c4v44; (case kAv44 => exact rfl); (case kFv44 => exact rfl); (case kKv44 => assumption); (case k1v44 => k_asm); (case k2v44 => k_asm); (case k3v44 => k_asm); (case k4v44 => k_asm); (case k5v44 => k_asm); (case k6v44 => k_is); (case k7v44 => k_is); (case k8v44 => ktr_room); (case k9wv44 => exact BindsTo.of_eq rfl); (case kBv44 => exact rfl); (case kDv44 => decide +kernel); (case c2v44 => exact rfl); (case c3v44 => exact rfl); (case c4v44 => exact rfl); k_whole)))
  k_with "my pull" => (first | exact Pull.head | (refine' Pull.tail ?ptlv49; (case ptlv49 => walk_at "my pull")))
  k_with "my off" => (((try simp only [LCg.Off1, and_true]); (repeat' (refine And.intro ?_ ?_)); all_goals first | exact trivial | (walk_at "my ne")))
  k_with "my pow" => (first | omega | exact pow16_pos _ | exact pow16_le (by omega) | decide)
  k_with "call ref" => ((k_here; k_dflt (refine' draw_c ?P1v52 ?P2v52 ?hIv52 ?h1v52 ?h2v52 ?h3v52 ?h4v52 ?h5v52 ?h6v52 ?h7v52 (fun k9w v9w t9w u9w h9w tk9w hk9w lo9w hi9w dv9w F9w N9w => ?_) ?kSv52; (case kSv52 => walk_at "my site"); (case P1v52 => walk_at "my pull"); (case P2v52 => walk_at "my pull"); (case hIv52 => l_ints); (case h1v52 => first | assumption | omega); (case h2v52 => omega); (case h3v52 => omega); (case h4v52 => walk_at "my pow"); (case h5v52 => walk_at "my pow"); (case h6v52 => omega); (case h7v52 => walk_at "my off")); (try dsimp only); (try k_fold)))
  exact trivial
noncomputable def smallG (l : List Int) (k : Int) : List Int := if k = 32 then l else if 65 ≤ k ∧ k ≤ 90 then l ++ [k + 32] else l ++ [k]
theorem smallG_up {l : List Int} {k : Int} (h : 65 ≤ k ∧ k ≤ 90) : smallG l k = l ++ [k + 32] := by unfold smallG; rw [if_neg (by omega), if_pos h]
theorem smallG_id {l : List Int} {k : Int} (h : k ≠ 32) (h' : ¬ (65 ≤ k ∧ k ≤ 90)) : smallG l k = l ++ [k] := by unfold smallG; rw [if_neg h, if_neg h']
theorem smallG_no {l : List Int} {k : Int} (h : k = 32) : smallG l k = l := by unfold smallG; rw [if_pos h]
theorem smallG_len : KPfGrows smallG := by
  intro l k
  unfold smallG
  split
  · omega
  · split <;> simp
theorem small_in_of : ∀ (ks l : List Int), (∀ n ∈ ks, 0 ≤ n ∧ n < 256) → (∀ n ∈ l, 0 ≤ n ∧ n < 256) → ∀ n ∈ ks.foldl smallG l, 0 ≤ n ∧ n < 256
  | [], _, _, hl => hl
  | k :: ks, l, hk, hl => by
    rw [List.foldl_cons]
    refine small_in_of ks _ (fun n hn => hk n (List.mem_cons_of_mem _ hn)) ?_
    have h0 := hk k (List.mem_cons_self ..)
    unfold smallG
    split
    · exact hl
    · split
      · intro n hn
        rcases List.mem_append.mp hn with hn | hn
        · exact hl n hn
        · rw [List.mem_singleton.mp hn]; omega
      · intro n hn
        rcases List.mem_append.mp hn with hn | hn
        · exact hl n hn
        · rw [List.mem_singleton.mp hn]; omega
theorem small_in {b : Array UInt8} {ks : List Int} (hb : KBw.bInts b = ks) : KBa.In (ks.foldl smallG []) :=
  small_in_of ks [] (fun _ hn => KBw.ints_in (hb ▸ hn)) fun _ h => nomatch h
theorem small_len : ∀ (ks l : List Int), (ks.foldl smallG l).length ≤ l.length + ks.length
  | [], l => by simp
  | k :: ks, l => by
    rw [List.foldl_cons]
    have h1 := small_len ks (smallG l k)
    have h2 := smallG_len l k
    simp only [List.length_cons]
    omega
theorem kci_bytes {prog : Program} {w : World} {A : Around} {h₀ : Heap} {L : Addr} {m : Str → Option Value} {env : Env} {ct elt : Expr} {x : Str} {scope : Scope} {cl : List (Str × Addr)} {s : Shared} {S : List (Addr × Obj) → Prop} {Fin : List Value → List (Addr × Obj) → Prop} {news : List (Addr × Obj)} {b : Array UInt8} {ks : List Int} (G : List Int → Int → List Int) (hb : KBw.bInts b = ks)
    (turn : ∀ k t I oI C oC D m₂ ys l h tk (E' : Value → Shared → Prop), k ∈ ks → IntsAre ys l → LCg.NsObj oC m₂ → m₂ x = some (.int k t) → Fr h₀ L h m → News h₀ L h ((I, oI) :: (C, oC) :: (D, LCg.lst ys) :: news) → LCg.Off3 I C D news → ((@Ne Nat I C) ∧ (@Ne Nat I D) ∧ (@Ne Nat C D)) → KPfMark →
      wpAny (model prog w) A (isTrue ct (compEnvC scope cl C env) (eval ct (compEnvC scope cl C env))) (fun b s' => if b = true then wpAny (model prog w) A (eval elt (compEnvC scope cl C env)) (LCg.CompEnd h₀ L m { s with heap := h, toks := tk } I oI C oC D (LCg.lst ys) S (fun y news' => KCiEl news l (G l k) y news')) E' s'
        else LCg.CompEnd h₀ L m { s with heap := h, toks := tk } I oI C oC D (LCg.lst ys) S (fun _ news' => KCiNo news l (G l k) news') Value.none s') E' { s with heap := h, toks := tk })
    (fin : KPfDone (∀ ys, IntsAre ys (ks.foldl G []) → ys.length ≤ b.size → Fin ys news)) (hg : KPfGrows G) : LCt.CompRestT prog w A h₀ L m env ct elt x scope cl s S (fun i v => ∃ c u, b[i]? = some c ∧ v = .int ((c.toNat : Nat) : Int) u) Fin b.size 0 [] news :=
  kci_rest (ks := ks) G (by rw [← hb, KBw.ints_length]) (fun i v _ hv => by
    obtain ⟨c, u, hc, rfl⟩ := hv
    exact ⟨_, u, hb ▸ KBw.ints_get hc, rfl⟩) turn fin hg
theorem lookB_of {b : Array UInt8} {k : List Int} (hk : KBw.bInts b = k) : ∀ {kvs : List (List UInt8 × Value)} {tab : List (List Int × Int)}, IntTabB kvs tab →
    (valueAt kvs b.toList = none ∧ lookB k tab = none) ∨ (∃ v t, valueAt kvs b.toList = some (.int v t) ∧ lookB k tab = some v)
  | _, _, .nil => .inl ⟨rfl, rfl⟩
  | _, _, .cons (k := x) (v := v) (t := t) (r := r) (kl := kl) (r' := r') he hr => by
    have hiff : x = b.toList ↔ kl = k := by
      rw [← he, ← hk]
      constructor
      · rintro rfl; rfl
      · intro h
        have inj : ∀ l l' : List UInt8, (l.map fun c => ((c.toNat : Nat) : Int)) = l'.map (fun c => ((c.toNat : Nat) : Int)) → l = l' := by
          intro l
          induction l with
          | nil => intro l' h; cases l' with | nil => rfl | cons _ _ => cases h
          | cons c r ih =>
            intro l' h
            cases l' with
            | nil => cases h
            | cons c' r' =>
              simp only [List.map_cons, List.cons.injEq] at h
              rw [u8_inj _ _ h.1, ih _ h.2]
        exact inj _ _ h
    have hv : valueAt ((x, Value.int v t) :: r) b.toList = if x = b.toList then some (Value.int v t) else valueAt r b.toList := by
      unfold valueAt
      rw [List.find?_cons]
      by_cases h : x = b.toList
      · rw [if_pos h]; simp [h]
      · rw [if_neg h]; simp [h]
    rw [hv, lookB]
    by_cases h : x = b.toList
    · rw [if_pos h, if_pos (hiff.mp h)]
      exact .inr ⟨v, t, rfl, rfl⟩
    · rw [if_neg h, if_neg (fun e => h (hiff.mpr e))]
      exact lookB_of hk hr
section
variable {prog : Program} {w : World} {A : Around} {E : Value → Shared → Prop} {s : Shared} {h₀ : Heap} {L d : Addr} {news : List (Addr × Obj)} {o : Obj} {kvs : List (List UInt8 × Value)} {tab : List (List Int × Int)} {b : Array UInt8} {t : Tok} {k : List Int}
theorem get_names {Q : Value → Shared → Prop} (N : News h₀ L s.heap news) (hp : (d, o) ∈ news) (hd : o.IsDictOf (bytesKind prog w) kvs) (lo : (d == sysModules) = false) (ht : IntTabB kvs tab) (hk : KBw.bInts b = k)
    (hN : lookB k tab = none → ∀ tk, Q .none { s with toks := tk }) (hS : ∀ v t tk, lookB k tab = some v → Q (.int v t) { s with toks := tk }) :
    wpAny (model prog w) A (call (.builtin "dict.get") [.ref d, .bytes b t]) Q E s := by
  have hkey : (bytesKind prog w).is b.toList (.bytes b t) = true := by simp [bytesKind, isBytes]
  rcases lookB_of hk ht with ⟨h1, h2⟩ | ⟨v, t', h1, h2⟩
  · exact kdg_get1 N hp hd lo hkey _ h1 (hN h2 _)
  · exact kdg_get1 N hp hd lo hkey _ h1 (hS v t' _ h2)
end
noncomputable def octP (told : List Int) : Option Int := match segs (47 : Int) [] (told.drop 4) with
  | [k1, k2, k3] => partsV k1 k2 k3
  | _ => none
noncomputable def octV (told : List Int) : Option Int := if told.take 4 = [114, 103, 98, 58] then octP told else if told.take 1 = [35] then digsV (told.drop 1) else lookB told namesTab
theorem suf_eq {told : List Int} (n : Nat) : List.take (told.length - clipAt told.length (n : Int)) (List.drop (clipAt told.length (n : Int)) told) = told.drop n := by
  rw [clipAt_nat, List.take_of_length_le (by rw [List.length_drop]; omega)]
  by_cases h : n ≤ told.length
  · rw [Nat.min_eq_left h]
  · rw [Nat.min_eq_right (by omega), List.drop_of_length_le (by omega), List.drop_of_length_le (by omega)]
theorem pre_eq {told : List Int} (n : Nat) : List.take (clipAt told.length (n : Int)) told = told.take n := by
  rw [clipAt_nat]
  by_cases h : n ≤ told.length
  · rw [Nat.min_eq_left h]
  · rw [Nat.min_eq_right (by omega), List.take_of_length_le (Nat.le_refl _), List.take_of_length_le (by omega)]
theorem bytes_beq {P c : Array UInt8} {ls : List Int} (hl : KBw.bInts P = ls) (h : (P.toList == c.toList) = true) : ls = KBw.bInts c := by
  rw [← hl]
  have e : P.toList = c.toList := by simpa using h
  unfold KBw.bInts
  rw [e]
theorem bytes_bne {P c : Array UInt8} {ls : List Int} (hl : KBw.bInts P = ls) (h : (P.toList == c.toList) = false) : ls ≠ KBw.bInts c := by
  rw [← hl]
  intro e
  have inj : ∀ l l' : List UInt8, (l.map fun c => ((c.toNat : Nat) : Int)) = l'.map (fun c => ((c.toNat : Nat) : Int)) → l = l' := by
    intro l
    induction l with
    | nil => intro l' h; cases l' with | nil => rfl | cons _ _ => cases h
    | cons c r ih =>
      intro l' h
      cases l' with
      | nil => cases h
      | cons c' r' =>
        simp only [List.map_cons, List.cons.injEq] at h
        rw [u8_inj _ _ h.1, ih _ h.2]
  have e2 := inj _ _ e
  rw [e2] at h
  simp at h
theorem oct_rgb {P4 : Array UInt8} {told : List Int} (hB : KBw.bInts P4 = List.take (clipAt told.length 4) told) (h : (P4.toList == (#[114, 103, 98, 58] : Array UInt8).toList) = true) :
    octV told = match segs (47 : Int) [] (List.take (told.length - clipAt told.length 4) (List.drop (clipAt told.length 4) told)) with
      | [k1, k2, k3] => partsV k1 k2 k3
      | _ => none := by
  have h4 := bytes_beq hB h
  rw [show (4 : Int) = ((4 : Nat) : Int) from rfl, pre_eq 4, show KBw.bInts #[114, 103, 98, 58] = [114, 103, 98, 58] from rfl] at h4
  have e := suf_eq (told := told) 4
  rw [show ((4 : Nat) : Int) = 4 from rfl] at e
  unfold octV
  rw [if_pos h4, e]
  rfl
theorem oct_rgb3 {P4 : Array UInt8} {told k1 k2 k3 : List Int} (hB : KBw.bInts P4 = List.take (clipAt told.length 4) told) (h : (P4.toList == (#[114, 103, 98, 58] : Array UInt8).toList) = true)
    (hs : segs (47 : Int) [] (List.take (told.length - clipAt told.length 4) (List.drop (clipAt told.length 4) told)) = [k1, k2, k3]) : octV told = partsV k1 k2 k3 := by
  rw [oct_rgb hB h, hs]
theorem oct_rgbx {P4 : Array UInt8} {told : List Int} (hB : KBw.bInts P4 = List.take (clipAt told.length 4) told) (h : (P4.toList == (#[114, 103, 98, 58] : Array UInt8).toList) = true)
    (hs : (segs (47 : Int) [] (List.take (told.length - clipAt told.length 4) (List.drop (clipAt told.length 4) told))).length ≠ 3) : octV told = none := by
  rw [oct_rgb hB h]
  split
  · rename_i e; rw [e] at hs; exact absurd rfl hs
  · rfl
theorem oct_not {P4 : Array UInt8} {told : List Int} (hB : KBw.bInts P4 = List.take (clipAt told.length 4) told) (h : (P4.toList == (#[114, 103, 98, 58] : Array UInt8).toList) = false) : ¬ told.take 4 = [114, 103, 98, 58] := by
  have h4 := bytes_bne hB h
  rw [show (4 : Int) = ((4 : Nat) : Int) from rfl, pre_eq 4, show KBw.bInts #[114, 103, 98, 58] = [114, 103, 98, 58] from rfl] at h4
  exact h4
theorem oct_hash {P4 P1 : Array UInt8} {told : List Int} (hB : KBw.bInts P4 = List.take (clipAt told.length 4) told) (h : (P4.toList == (#[114, 103, 98, 58] : Array UInt8).toList) = false)
    (hB1 : KBw.bInts P1 = List.take (clipAt told.length 1) told) (h1 : (P1.toList == (#[35] : Array UInt8).toList) = true) : octV told = digsV (List.take (told.length - clipAt told.length 1) (List.drop (clipAt told.length 1) told)) := by
  have q := bytes_beq hB1 h1
  rw [show (1 : Int) = ((1 : Nat) : Int) from rfl, pre_eq 1, show KBw.bInts #[35] = [35] from rfl] at q
  have e := suf_eq (told := told) 1
  rw [show ((1 : Nat) : Int) = 1 from rfl] at e
  unfold octV
  rw [if_neg (oct_not hB h), if_pos q, e]
theorem oct_name {P4 P1 : Array UInt8} {told : List Int} (hB : KBw.bInts P4 = List.take (clipAt told.length 4) told) (h : (P4.toList == (#[114, 103, 98, 58] : Array UInt8).toList) = false)
    (hB1 : KBw.bInts P1 = List.take (clipAt told.length 1) told) (h1 : (P1.toList == (#[35] : Array UInt8).toList) = false) : octV told = lookB told namesTab := by
  have q := bytes_bne hB1 h1
  rw [show (1 : Int) = ((1 : Nat) : Int) from rfl, pre_eq 1, show KBw.bInts #[35] = [35] from rfl] at q
  unfold octV
  rw [if_neg (oct_not hB h), if_neg q]
theorem len_gen {prog : Program} {w : World} {A : Around} {E : Value → Shared → Prop} {s : Shared} {h₀ : Heap} {L D : Addr} {news : List (Addr × Obj)} {vs : List Value} {n : Nat} {Q : Value → Shared → Prop} (N : News h₀ L s.heap news) (hm : (D, W.listOf vs.toArray n) ∈ news) (hz : vs.length ≤ 1000001)
    (h : ∀ t k, Q (.int ((vs.length : Nat) : Int) t) { s with toks := k }) : wpAny (model prog w) A (call (.builtin "len") [.ref D]) Q E s := by
  refine PyProof.Rows.len_list (PySem.IsL.isList (n := n) (N _ hm).1) (by rw [List.size_toArray]; omega) ?_
  rw [List.size_toArray]
  exact h _ _

section
local macro_rules | `(tactic| kba_in) => `(tactic| exact small_in (by assumption))
theorem set38 : True := by
  w_top off
  k_with "eval ListComp" => ((k_here; lct_look; k_dflt (refine ListComp_B (by k_asm) (by with_unfolding_all rfl) (by decide) (by rfl) (by decide) (by rfl) ?_)))
  k_with "SrcB" => ((k_here; k_dflt (refine SrcB.mk' (by rfl) (by k_asm) (by k_asm) ?bszv58 ?_; (case bszv58 => rw [sizeLine_eq, ← KBw.ints_length]; (rename KBw.bInts _ = _ => hbI); rw [hbI]; omega); intro g'; (refine' kci_bytes smallG (by assumption) (fun k' t' I' oI' C' oC' D' m' ys' l' h' tk' E' hk' hI' hC' hx' F' N' off' ne' hMark' => ?_) ?_ smallG_len); (all_goals (try (simp only [LCg.Off3, and_true] at off'))))))
  k_with "KCiEl" => (((refine kci_el ?kcev59 (by with_unfolding_all rfl) (by with_unfolding_all rfl)); (case kcev59 => first | exact smallG_up (by omega) | exact smallG_id (by omega) (by omega))))
  k_with "KCiNo" => (((refine kci_no ?kcev60 (by with_unfolding_all rfl)); (case kcev60 => exact smallG_no (by omega))))
  exact trivial
theorem small_c {prog : Program} {w : World} {p : Program} {loose : List Str} {mean : ExcName → Option Value} {mg mb : Str → Option Value} {dp un : Nat} {gd : Option (List Code)} {cn : Str} {cs : Scope} {a : Addr} {ccd : Value} {cl : List (Str × Addr)} {outer : List Env} {A₀ : Around} {base h₀ : Heap} {L : Addr} {m : Str → Option Value} {s : Shared} {Q E : Value → Shared → Prop} {news : List (Addr × Obj)}
    {b : Array UInt8} {t : Tok} {ks : List Int} (hb : KBw.bInts b = ks) (hl : ks.length ≤ 100)
    (hS : ∀ (B : Array UInt8) (t : Tok) (h' : Heap) (tk' : Nat), KBw.bInts B = ks.foldl smallG [] → Fr h₀ L h' m → News h₀ L h' news → Q (.bytes B t) { s with heap := h', toks := tk' })
    (S : Site w p loose mean mg mb dp un 1 cs outer A₀ base h₀ L s.heap m news) :
    wpAny (model prog w) (ktrTop dp un gd cn cs L a ccd cl outer) (call (.ref 115) [.bytes b t]) Q E s := by
  obtain ⟨B, F, X, N, T, hk, hd, hu⟩ := S
  have N0 : News h₀ L s.heap [] := News.sub N led_nil
  have kN0 : KeptN h₀ L s.heap [] := N0
  have hsm := small_len ks []
  simp only [List.length_nil, Nat.zero_add] at hsm
  (walk_at "my enter"; intro g9 L9 h9 FG9 F9 N9 B9 X9 T9 kG9; clear N0; (try dsimp only); (try k_lift B9); (try k_fold); k_steps)
  all_goals ((rename News g9 _ _ _ => N'); (rename Fr g9 _ _ _ => F'); (rename Fr h₀ _ _ _ => kF); (rename News h₀ _ _ _ => kN))
  all_goals exact hS _ _ _ _ (KBa.ints_make (small_in hb)) kF (N.grown (grow_led kG9 kN0 F' N' led_nil))

end
theorem set40 : True := by
  k_with_none
  w_top off
  k_with "my site" => ((refine' Site.mk ?s1v1 ?s2v1 ?s3v1 ?s4v1 ?s5v1 ?s6v1 ?s7v1 ?s8v1; (case s1v1 => first | k_asm | fail "site: below"); (case s2v1 => first | k_asm | fail "site: frame"); (case s3v1 => first | k_asm | fail "site: part"); (case s4v1 => first | k_asm | fail "site: ledger"); (case s5v1 => first | k_asm | fail "site: top"); (case s6v1 => first | exact rfl | assumption | fail "site: kind"); (case s7v1 => first | exact room_ok (by assumption) (by decide) | (walk_say "ROOM"; ktr_room) | fail "site: room"); (case s8v1 => first | exact units_ok (by assumption) (by decide) | (walk_say "UNITS"; ktr_units) | fail "site: units")))
  k_with "my enter" => ((refine wpAny_call ?_; k_dflt (refine' code_defG ?k1v2 ?k2v2 ?k3v2 ?k4v2 ?k5v2 ?kAv2 ?kFv2 ?kKv2 ?k6v2 ?k7v2 ?k8v2 ?k9wv2 ?kBv2 ?_ ?c2v2 ?c3v2 ?c4v2 ?c5v2; (case kAv2 => exact rfl); (case kFv2 => exact rfl); (case kKv2 => assumption); (case k1v2 => k_asm); (case k2v2 => k_asm); (case k3v2 => k_asm); (case k4v2 => k_asm); (case k5v2 => k_asm); (case k6v2 => k_is); (case k7v2 => k_is); (case k8v2 => ktr_room); (case k9wv2 => exact BindsTo.of_eq rfl); (case c5v2 => decide); (case kBv2 => exact locs rfl); (case c2v2 => exact rfl); (case c3v2 => exact rfl); (case c4v2 => exact rfl); k_whole)))
  k_with "call ref" => ((k_here; (try dsimp only [List.nil_append, List.append_nil]); refine wpAny_call ?_; k_dflt (refine' code_def ?k1v3 ?k2v3 ?k3v3 ?k4v3 ?k5v3 ?kAv3 ?kFv3 ?kKv3 ?k6v3 ?k7v3 ?k8v3 ?k9wv3 ?kBv3 ?_ ?c2v3 ?c3v3 ?c4v3 ?c5v3; (case kAv3 => exact rfl); (case kFv3 => exact rfl); (case kKv3 => first | exact rfl | assumption); (case k1v3 => k_asm); (case k2v3 => k_asm); (case k3v3 => k_asm); (case k4v3 => k_asm); (case k5v3 => k_asm); (case k6v3 => k_is); (case k7v3 => k_is); (case k8v3 => ktr_room); (case k9wv3 => exact BindsTo.of_eq rfl); (case c5v3 => decide); (case kBv3 => exact locs rfl); (case c2v3 => exact rfl); (case c3v3 => exact rfl); (case c4v3 => exact rfl); k_whole; intro g' L' h' FG' F' N' B' X' T'; (try dsimp only); (try k_lift B'); (try k_fold))))
  k_with "my off" => (((rename (_ ≠ _ ∧ _ ≠ _ ∧ _ ≠ _) ∧ _ => off9w); (simp only [ne_eq] at off9w); (simp only [LCg.Off3, and_true, ne_eq, off9w, not_false_eq_true, and_self, true_and]); (first | done | ((repeat' (refine And.intro ?_ ?_)); all_goals exact neN (by walk_at "my ne")))))
  k_with "ite" => ((k_here; first
      | (refine' ite_posI ?hcv5 ?_; (case hcv5 => k_dflt (exact of_decide_eq_true (by exact rfl))))
      | (refine' ite_negI ?hcv5 ?_; (case hcv5 => k_dflt (exact of_decide_eq_false (by exact rfl))))))
  k_with "my fact" => (first | (with_reducible assumption) | (simp only [ne_eq, not_false_eq_true, *]; done))
  k_with "my ne" => (first | (walk_at "my fact") | exact Ne.symm (by walk_at "my fact") | exact Nat.ne_of_lt (by walk_at "my fact") | exact Nat.ne_of_gt (by walk_at "my fact") | exact Nat.ne_of_lt (Nat.lt_succ_of_lt (by walk_at "my fact")) | exact Nat.ne_of_gt (Nat.lt_succ_of_lt (by walk_at "my fact")) | (walk_say "NE by omega"; omega))
  k_with "my side" => ((with_reducible ((repeat' (refine And.intro ?_ ?_)) <;> first | exact trivial | assumption | (walk_at "my arith"))))
  k_with "my arith" => (first
        | ((show IntMulOk _ _); first | exact PySem.IntMulOk.of_right (PySem.intBits_le_64 (by decide) (by decide)) | exact PySem.IntMulOk.of_left (PySem.intBits_le_64 (by decide) (by decide)) | exact PySem.IntMulOk.of_right (PySem.intBits_le_64 (by omega) (by omega)) | exact PySem.IntMulOk.of_left (PySem.intBits_le_64 (by omega) (by omega)) | mul_fits)
        | ((show Builtin.divisionGoesByPylong _ _ = false); first | exact PyProof.noPylong_of_log2 (by decide +kernel) | exact PyProof.noPylong_small (by omega))
        | omega
        | decide)
  k_with "my no" => (first | with_reducible exact False.elim p9w | with_reducible exact absurd trivial p9w | with_reducible exact absurd rfl p9w | (law_purse 20000 => omega))
  k_with "execs cons" => ((k_here; (first
        | ((with_reducible show wpAny _ _ (execs (Stmt.Return (some _) _ :: _) _) _ _ _); (fail_if_success (with_reducible show wpAny _ _ (execs (Stmt.Return (some (Expr.Tuple _ _ _)) _ :: _) _) _ _ _)); (fail_if_success (with_reducible show wpAny _ _ (execs (Stmt.Return (some (Expr.List _ _)) _ :: _) _) _ _ _)); (fail_if_success (with_reducible show wpAny _ _ (execs (Stmt.Return (some (Expr.Dict _ _ _)) _ :: _) _) _ _ _)); k_dflt ((with_reducible refine' st_retE ?hev11 ?Fv11 ?Xv11 ?Tv11 (fun t => ?ev11) ?hkv11 ?hcv11 (fun t9w tk9w => ?_))); (case hev11 => k_dflt (exact rfl)); (case Fv11 => k_asm); (case Xv11 => k_asm); (case Tv11 => k_asm); (case ev11 => k_dflt (exact rfl)); (case hkv11 => k_dflt (exact rfl)); (case hcv11 => walk_at "my side"); (try dsimp only))
        | ((with_reducible show wpAny _ _ (execs (Stmt.If _ _ [] _ :: _) _) _ _ _); k_dflt ((with_reducible refine' st_if0E ?hev11 ?Fv11 ?Xv11 ?Tv11 ?ev11 ?hkv11 ?hcv11 (fun p9w tk9w => ?_) (fun p9w tk9w => ?_))); (case hev11 => k_dflt (exact rfl)); (case Fv11 => k_asm); (case Xv11 => k_asm); (case Tv11 => k_asm); (case ev11 => k_dflt (exact rfl)); (case hkv11 => k_dflt (exact rfl)); (case hcv11 => walk_at "my side"); all_goals first | (exfalso; walk_at "my no") | (try dsimp only))
        | ((with_reducible show wpAny _ _ (execs (Stmt.If _ _ (_ :: _) _ :: _) _) _ _ _); k_dflt ((with_reducible refine' st_ifE ?hev11 ?Fv11 ?Xv11 ?Tv11 ?ev11 ?hkv11 ?hcv11 (fun p9w tk9w => ?_) (fun p9w tk9w => ?_))); (case hev11 => k_dflt (exact rfl)); (case Fv11 => k_asm); (case Xv11 => k_asm); (case Tv11 => k_asm); (case ev11 => k_dflt (exact rfl)); (case hkv11 => k_dflt (exact rfl)); (case hcv11 => walk_at "my side"); all_goals first | (exfalso; walk_at "my no") | (try dsimp only))
        | ((with_reducible show wpAny _ _ (execs (Stmt.Assign [Expr.Name _ _] _ _ :: _) _) _ _ _); k_dflt ((with_reducible refine' st_assignE ?hev11 ?Fv11 ?Nv11 ?Xv11 ?Tv11 (fun t => ?ev11) ?hkv11 ?hxv11 ?hsv11 ?hcv11 (fun t9w tk9w h9w => ?_))); (case hev11 => k_dflt (exact rfl)); (case Fv11 => k_asm); (case Nv11 => k_asm); (case Xv11 => k_asm); (case Tv11 => k_asm); (case ev11 => k_dflt (exact rfl)); (case hkv11 => k_dflt (exact rfl)); (case hxv11 => k_dflt (exact rfl)); (case hsv11 => k_dflt (exact rfl)); (case hcv11 => walk_at "my side"); intro m9w F9w N9w; (try k_sweep); (try dsimp only)))))
  k_with "eval BinOp" => ((k_here; k_dflt ((with_reducible refine' ev_peE ?hev12 ?Fv12 ?Xv12 ?Tv12 (fun t => ?ev12) ?hkv12 ?hcv12 (fun t9w tk9w => ?_)); (case hev12 => k_dflt (exact rfl)); (case Fv12 => k_asm); (case Xv12 => k_asm); (case Tv12 => k_asm); (case ev12 => k_dflt (exact rfl)); (case hkv12 => k_dflt (exact rfl)); (case hcv12 => walk_at "my side")); (try dsimp only)))
  k_with "eval IfExp" => ((k_here; k_dflt ((with_reducible refine' ev_ifE ?hev13 ?Fv13 ?Xv13 ?Tv13 ?ev13 ?hkv13 ?hcv13 (fun p9w tk9w => ?_) (fun p9w tk9w => ?_)); (case hev13 => k_dflt (exact rfl)); (case Fv13 => k_asm); (case Xv13 => k_asm); (case Tv13 => k_asm); (case ev13 => k_dflt (exact rfl)); (case hkv13 => k_dflt (exact rfl)); (case hcv13 => walk_at "my side"); all_goals first | (exfalso; walk_at "my no") | (try dsimp only))))
  k_with "eval Call" => ((k_here; (with_reducible show wpAny _ _ (eval (Expr.Call (Expr.Name _ _) (_ :: _) [] _) _) _ _ _); k_dflt ((with_reducible refine' ev_callE ?hev14 ?Fv14 ?Xv14 ?Tv14 ?efv14 ?hfv14 (fun t => ?eav14) ?hkv14 ?hcv14 (fun t9w tk9w => ?_)); (case hev14 => k_dflt (exact rfl)); (case Fv14 => k_asm); (case Xv14 => k_asm); (case Tv14 => k_asm); (case efv14 => k_dflt (exact rfl)); (case hfv14 => k_dflt (exact rfl)); (case eav14 => k_dflt (exact rfl)); (case hkv14 => k_dflt (exact rfl)); (case hcv14 => walk_at "my side"))))
  k_with "my nm" => ((k_dflt (refine' nm_ok ?Fv15 ?Xv15 ?Tv15 ?hkv15); (case Fv15 => k_asm); (case Xv15 => k_asm); (case Tv15 => k_asm); (case hkv15 => k_dflt (exact rfl))))
  k_with "spliced" => ((k_here; (with_reducible show wpAny _ _ (spliced (backTo _ (starEach (_ :: _) _))) _ _ _); (fail_if_success (with_reducible show wpAny _ _ (spliced (backTo _ (starEach (_ :: _ :: _ :: _ :: _ :: _ :: _ :: _) _))) _ _ _)); k_dflt ((with_reducible refine' xe_all ?hnv16 (fun tk => ?ev16) ?hcv16 (fun tk9w k9w => ?_))); (case hnv16 => walk_at "my nm"); (case ev16 => k_dflt (exact rfl)); (case hcv16 => walk_at "my side"); (try dsimp only [List.cons_append, List.nil_append])))
  k_with "storeName" => ((k_here; k_dflt ((with_reducible refine' st_storeE ?hev17 ?Fv17 ?Nv17 (fun tk9w h9w => ?_) ?hkv17 ?hxv17)); (case hev17 => k_dflt (exact rfl)); (case Fv17 => k_asm); (case Nv17 => k_asm); (case hkv17 => k_dflt (exact rfl)); (case hxv17 => k_dflt (exact rfl)); intro m9w F9w N9w; (try k_sweep); (try dsimp only)))
  k_with "call ref" => ((k_here; k_dflt (refine' hexv_c ?kSv18 (fun hv9w h9w tk9w F9w N9w => ?_) (fun v9w t9w hv9w h9w tk9w F9w N9w => ?_); (case kSv18 => walk_at "my site")); all_goals ((try dsimp only); (try k_fold))))
  k_with "call ref" => ((k_here; k_dflt (refine' figs_c ?kbv21 ?klv21 ?kSv21 (fun hv9w h9w tk9w F9w N9w => ?_) (fun v9w t9w hv9w h9w tk9w F9w N9w => ?_); (case kbv21 => kba_ints2); (case klv21 => kba_size); (case kSv21 => walk_at "my site")); all_goals ((try dsimp only); (try k_fold))))
  k_with "pyIter ref" => (((with_reducible show wpAny _ _ (pyIter (Value.ref _)) (fun it s₂ => LoopAtV _ _ _ _ _ _ _ _ _ it s₂) _ _); (rename Fr _ _ _ _ => lF'); (rename News _ _ _ _ => lN'); (with_unfolding_all refine iter_tupleUnr (by rfl) lF' lN' (by k_mem) ?_); clear lF' lN'; intro i' l1; (try k_lt l1)))
  k_with "TupRest" => ((with_unfolding_all first | (refine TupRest.succ (fun it' h' tk' hit' F' N' => ?_)) | (refine TupRest.zero (fun h' tk' F' N' => ?_))))
  k_with "getMethod bytes" => ((k_here; (with_reducible refine method_join ?_)))
  k_with "getMethod bytes" => ((k_here; (with_reducible refine method_split ?_)))
  k_with "my ints" => (first | kba_ints | exact (rfl : KBw.bInts _ = ([47] : List Int)) | exact (rfl : KBw.bInts _ = ([] : List Int)) | kba_ints2)
  k_with "my list" => (first | exact News.isList (by k_asm) (by k_mem) | is_list)
  k_with "call builtin:bytes.join" => ((k_here; k_dflt (first
      | (refine' join3 ?lv28 ?hsv28 ?h1v28 ?h2v28 ?h3v28 ?hzv28 ?_; (case lv28 => walk_at "my list"); (case hsv28 => walk_at "my ints"); (case h1v28 => walk_at "my ints"); (case h2v28 => walk_at "my ints"); (case h3v28 => walk_at "my ints"); (case hzv28 => kba_size))); intro B9w t9w k9w hB9w; (try simp only [List.nil_append, List.cons_append, List.append_assoc] at hB9w)))
  k_with "call ref" => ((k_here; k_dflt (refine' rgb_c ?h1v29 ?h2v29 ?h3v29 ?h4v29 ?h5v29 (fun D9w t9w u9w v9w h9w tk9w o9w F9w N9w => ?_) ?kSv29; (case h1v29 => assumption); (case h2v29 => first | assumption | decide | omega); (case h3v29 => first | assumption | omega); (case h4v29 => first | assumption | omega); (case h5v29 => first | assumption | omega); (case kSv29 => walk_at "my site")); (try simp only [LCg.Off1, and_true] at o9w); (try dsimp only); (try k_fold)))
  k_with "call builtin:bytes.split" => ((k_here; k_dflt (refine' split_call ?h1v30 ?h2v30 ?h3v30 ?h4v30 (fun D9w b1 b2 b3 t1 t2 t3 k1 k2 k3 h9w tk9w hsg e1 e2 e3 z1 z2 z3 F9w N9w l9w => ?_) (fun D9w vs9w h9w tk9w hsg e1 z1 F9w N9w l9w => ?_); (case h1v30 => k_asm); (case h2v30 => k_asm); (case h3v30 => walk_at "my ints"); (case h4v30 => kba_size)); all_goals ((try k_lt l9w); (try simp only [List.length_take, List.length_drop] at z1 z2 z3))))
  k_with "subscriptTail" => ((k_here; (with_reducible show wpAny _ _ (subscriptTail _ _ (Value.bytes _ _) (Value.int _ _)) _ _ _); (first
      | (refine' figs_item (nib_hi ?h1v31 ?h2v31 ?h3v31) ?h4v31 ?h5v31 (fun t9w k9w => ?_); (case h1v31 => assumption); (case h2v31 => omega); (case h3v31 => omega); (case h4v31 => omega); (case h5v31 => omega))
      | (refine' figs_item (nib_lo ?h1v31 ?h2v31 ?h3v31) ?h4v31 ?h5v31 (fun t9w k9w => ?_); (case h1v31 => assumption); (case h2v31 => omega); (case h3v31 => omega); (case h4v31 => omega); (case h5v31 => omega)))))
  k_with "call ref" => ((k_here; k_dflt (refine' figs_cb ?kbv36 ?klv36 ?kSv36 (fun hv9w h9w tk9w F9w N9w => ?_) (fun v9w t9w hv9w lo9w hi9w h9w tk9w F9w N9w => ?_); (case kbv36 => kba_ints2); (case klv36 => kba_size); (case kSv36 => walk_at "my site")); all_goals ((try dsimp only); (try k_fold))))
  k_with "Exists" => ((k_here; (refine made_bytes (by k_asm) (by first | k_asm | exact News.nil) (Top.nolimit (by k_asm)) (by rfl) (of_decide_eq_true (by rfl)) ?_; intro h' o' F' N' l1 lo' hd'; (try k_lt l1))))
  k_with "eval Dict" => ((k_here; (with_reducible refine Dict_made_bytes (by with_unfolding_all rfl) (by with_unfolding_all assumption) (by with_unfolding_all rfl) (by with_unfolding_all rfl) (List.cons_ne_nil _ _) (by with_unfolding_all decide) ?_; intro _)))
  k_with "my enterC" => ((refine wpAny_call ?_; k_dflt (refine' code_defCG ?k1v44 ?k2v44 ?k3v44 ?k4v44 ?k5v44 ?kAv44 ?kFv44 ?kKv44 ?k6v44 ?k7v44 ?k8v44 ?k9wv44 ?kBv44 ?kDv44 ?_ ?c2v44 ?c3v44 ?c4v44; (case kAv44 => exact rfl); (case kFv44 => exact rfl); (case kKv44 => assumption); (case k1v44 => k_asm); (case k2v44 => k_asm); (case k3v44 => k_asm); (case k4v44 => k_asm); (case k5v44 => k_asm); (case k6v44 => k_is); (case k7v44 => k_is); (case k8v44 => ktr_room); (case k9wv44 => exact BindsTo.of_eq rfl); (case kBv44 => exact rfl); (case kDv44 => decide +kernel); (case c2v44 => exact rfl); (case c3v44 => exact rfl); (case c4v44 => exact rfl); k_whole)))
  k_with "my pull" => (first | exact Pull.head | (refine' Pull.tail ?ptlv49; (case ptlv49 => walk_at "my pull")))
  k_with "my off" => (((try simp only [LCg.Off1, and_true]); (repeat' (refine And.intro ?_ ?_)); all_goals first | exact trivial | (walk_at "my ne")))
  k_with "my pow" => (first | omega | exact pow16_pos _ | exact pow16_le (by omega) | decide)
  k_with "call ref" => ((k_here; k_dflt (refine' draw_c ?P1v52 ?P2v52 ?hIv52 ?h1v52 ?h2v52 ?h3v52 ?h4v52 ?h5v52 ?h6v52 ?h7v52 (fun k9w v9w t9w u9w h9w tk9w hk9w lo9w hi9w dv9w F9w N9w => ?_) ?kSv52; (case kSv52 => walk_at "my site"); (case P1v52 => walk_at "my pull"); (case P2v52 => walk_at "my pull"); (case hIv52 => l_ints); (case h1v52 => first | assumption | omega); (case h2v52 => omega); (case h3v52 => omega); (case h4v52 => walk_at "my pow"); (case h5v52 => walk_at "my pow"); (case h6v52 => omega); (case h7v52 => walk_at "my off")); (try dsimp only); (try k_fold)))
  k_with "call ref" => ((k_here; k_dflt (refine' small_c ?kbv61 ?klv61 (fun B9w t9w h9w tk9w hB9w F9w N9w => ?_) ?kSv61; (case kSv61 => walk_at "my site"); (case kbv61 => walk_at "my ints"); (case klv61 => first | assumption | kba_size)); (try dsimp only); (try k_fold)))
  k_with "call ref" => ((k_here; k_dflt (refine' digs_c ?kbv62 ?klv62 (fun hv9w h9w tk9w F9w N9w => ?_) (fun v9w t9w hv9w h9w tk9w F9w N9w => ?_) ?kSv62; (case kSv62 => walk_at "my site"); (case kbv62 => walk_at "my ints"); (case klv62 => first | assumption | kba_size)); all_goals ((try dsimp only); (try k_fold))))
  k_with "call ref" => ((k_here; k_dflt (refine' parts_c ?kb1v63 ?kb2v63 ?kb3v63 ?kl1v63 ?kl2v63 ?kl3v63 ?kDv63 (fun hv9w h9w tk9w F9w N9w => ?_) (fun v9w t9w hv9w h9w tk9w F9w N9w => ?_) ?kSv63; (case kSv63 => walk_at "my site"); (case kDv63 => k_mem); (case kb1v63 => assumption); (case kb2v63 => assumption); (case kb3v63 => assumption); (case kl1v63 => first | assumption | omega); (case kl2v63 => first | assumption | omega); (case kl3v63 => first | assumption | omega)); all_goals ((try dsimp only); (try k_fold))))
  k_with "call ref" => ((k_here; k_dflt (refine' names_c (fun D9w o9w kvs9w h9w tk9w off9w lo9w hd9w ht9w F9w N9w => ?_) ?kSv64; (case kSv64 => walk_at "my site")); (try simp only [LCg.Off1, and_true] at off9w); (try dsimp only); (try k_fold)))
  k_with "call ref" => ((k_here; k_dflt (refine' lnames_c (fun D9w o9w kvs9w h9w tk9w off9w lo9w hd9w ht9w F9w N9w => ?_) ?kSv65; (case kSv65 => walk_at "my site")); (try simp only [LCg.Off1, and_true] at off9w); (try dsimp only); (try k_fold)))
  k_with "getMethod ref" => ((k_here; kda_here; (with_reducible show wpAny _ _ (getMethod (Value.ref _) (Str.ofString "get") _) _ _ _); k_dflt (refine kdg_method (knd := bytesKind _ _) (by k_asm) (by k_mem) (by k_asm) ?_)))
  k_with "call builtin:dict.get" => ((k_here; kda_here; k_dflt (refine' get_names ?n1v67 ?n2v67 ?n3v67 ?n4v67 ?n5v67 ?n6v67 (fun hv9w t9w => ?_) (fun v9w t9w k9w hv9w => ?_); (case n1v67 => k_asm); (case n2v67 => k_mem); (case n3v67 => k_asm); (case n4v67 => k_asm); (case n5v67 => assumption); (case n6v67 => walk_at "my ints")); all_goals (try dsimp only)))
  k_with "call builtin:len" => ((k_here; (with_reducible show wpAny _ _ (call (Value.builtin "len") [Value.ref _]) _ _ _); k_dflt (refine' len_gen ?n1v68 ?n2v68 ?n3v68 (fun t9w k9w => ?_); (case n1v68 => k_asm); (case n2v68 => k_mem); (case n3v68 => assumption))))
  exact trivial
theorem octs_c {prog : Program} {w : World} {p : Program} {loose : List Str} {mean : ExcName → Option Value} {mg mb : Str → Option Value} {dp un : Nat} {gd : Option (List Code)} {cn : Str} {cs : Scope} {a : Addr} {ccd : Value} {cl : List (Str × Addr)} {outer : List Env} {A₀ : Around} {base h₀ : Heap} {L : Addr} {m : Str → Option Value} {s : Shared} {Q E : Value → Shared → Prop} {news : List (Addr × Obj)}
    {b : Array UInt8} {t : Tok} {ks : List Int} (hb : KBw.bInts b = ks) (hl : ks.length ≤ 100)
    (hN : octV (ks.foldl smallG []) = none → ∀ h' tk', Fr h₀ L h' m → News h₀ L h' news → Q .none { s with heap := h', toks := tk' })
    (hS : ∀ v t, octV (ks.foldl smallG []) = some v → ∀ h' tk', Fr h₀ L h' m → News h₀ L h' news → Q (.int v t) { s with heap := h', toks := tk' })
    (S : Site w p loose mean mg mb dp un 4 cs outer A₀ base h₀ L s.heap m news) :
    wpAny (model prog w) (ktrTop dp un gd cn cs L a ccd cl outer) (call (.ref 143) [.bytes b t]) Q E s := by
  obtain ⟨B, F, X, N, T, hk, hd, hu⟩ := S
  have N0 : News h₀ L s.heap [] := News.sub N led_nil
  have kN0 : KeptN h₀ L s.heap [] := N0
  have hsm := small_len ks []
  simp only [List.length_nil, Nat.zero_add] at hsm
  have hlt : (ks.foldl smallG []).length ≤ 100 := by omega
  (walk_at "my enter"; intro g9 L9 h9 FG9 F9 N9 B9 X9 T9 kG9; clear N0; (try dsimp only); (try k_lift B9); (try k_fold); k_steps)
  all_goals ((rename News g9 _ _ _ => N'); (rename Fr g9 _ _ _ => F'); (rename Fr h₀ _ _ _ => kF); (rename News h₀ _ _ _ => kN))
  all_goals first
    | exact hN ((oct_hash (by assumption) (by assumption) (by assumption) (by assumption)).trans (by assumption)) _ _ kF (N.grown (grow_led kG9 kN0 F' N' led_nil))
    | exact hS _ _ ((oct_hash (by assumption) (by assumption) (by assumption) (by assumption)).trans (by assumption)) _ _ kF (N.grown (grow_led kG9 kN0 F' N' led_nil))
    | exact hN ((oct_name (by assumption) (by assumption) (by assumption) (by assumption)).trans (by assumption)) _ _ kF (N.grown (grow_led kG9 kN0 F' N' led_nil))
    | exact hS _ _ ((oct_name (by assumption) (by assumption) (by assumption) (by assumption)).trans (by assumption)) _ _ kF (N.grown (grow_led kG9 kN0 F' N' led_nil))
    | exact hN ((oct_rgb3 (by assumption) (by assumption) (by assumption)).trans (by assumption)) _ _ kF (N.grown (grow_led kG9 kN0 F' N' led_nil))
    | exact hS _ _ ((oct_rgb3 (by assumption) (by assumption) (by assumption)).trans (by assumption)) _ _ kF (N.grown (grow_led kG9 kN0 F' N' led_nil))
    | exact hN (oct_rgbx (by assumption) (by assumption) (by assumption)) _ _ kF (N.grown (grow_led kG9 kN0 F' N' led_nil))
    | (exfalso; omega)
    | trace_state

theorem set41 : True := by
  w_top off
  exact trivial
section
open PySem.Builtin
theorem order_lt : ∀ a b : List UInt8, (Bytes.order a b == .lt) = decide (a.map UInt8.toNat < b.map UInt8.toNat)
  | [], [] => by decide
  | [], _ :: _ => by simp [Bytes.order]
  | _ :: _, [] => by simp [Bytes.order]
  | x :: a, y :: b => by
    simp only [Bytes.order, List.map_cons, List.cons_lt_cons_iff]
    by_cases h1 : x < y
    · have : x.toNat < y.toNat := UInt8.lt_iff_toNat_lt.mp h1
      simp [h1, this]
    · have h1' : ¬ x.toNat < y.toNat := fun h => h1 (UInt8.lt_iff_toNat_lt.mpr h)
      by_cases h2 : x > y
      · have : y.toNat < x.toNat := UInt8.lt_iff_toNat_lt.mp h2
        have hne : ¬ x.toNat = y.toNat := by omega
        simp [h1, h2, h1', hne]
      · have h2' : ¬ y.toNat < x.toNat := fun h => h2 (UInt8.lt_iff_toNat_lt.mpr h)
        have he : x.toNat = y.toNat := by omega
        have hi := order_lt a b
        simp only [h1, h2, if_false, he, Nat.lt_irrefl, false_or, true_and]
        exact hi
theorem slot_bytes_lt : Slot "bytes" (cmpInfo .Lt).2.1 "bytes.__lt__" :=
  .of (owner := "bytes") (n := "__lt__") (by rw [typeLookup_type, builtinLookup_eq_fast]; kernel_rfl) (by decide +kernel) (by decide +kernel) (by decide +kernel)
    (by first | exact .inl (by decide +kernel) | exact .inr (by decide +kernel)) (by rw [isSubtype_type]; kernel_rfl)
theorem entry_bytes_lt : entryFor table "bytes.__lt__" = some Builtin.«bytes.__lt__» := entryFor_of_tree (by kernel_rfl)
theorem args_bytes_lt (a b : Value) : argsOk "bytes.__lt__" ⟨[a, b], []⟩ := by unfold argsOk; kernel_rfl
section
variable {prog : Program} {w : World} {A : Around} {E : Value → Shared → Prop} {s : Shared}
theorem call_bytes_lt {b c : Array UInt8} {t u : Tok} {Q : Value → Shared → Prop} (h : Q (.bool (decide (b.toList.map UInt8.toNat < c.toList.map UInt8.toNat))) s) :
    wpAny (model prog w) A (call (.builtin "bytes.__lt__") [.bytes b t, .bytes c u]) Q E s := by
  refine wpAny_call_entry slot_bytes_lt (typeIs_bytes s b t) entry_bytes_lt ?_ (args_bytes_lt _ _)
  show wpAny _ _ (isInstance (.bytes c u) (.type "bytes") >>= fun r => _) _ _ s
  refine wpAny_bind (wpAny_isInstance (typeIs_bytes s c u) F.sub_bytes_bytes ?_)
  exact wpAny_pure ⟨_, rfl, by rw [← order_lt] at h; exact h⟩
theorem oneLt_bytes {b c : Array UInt8} {t u : Tok} {Q : Bool → Shared → Prop} (h : Q (decide (b.toList.map UInt8.toNat < c.toList.map UInt8.toNat)) s) : wpAny (model prog w) A (oneLt' true (.bytes b t) (.bytes c u)) Q E s := by
  rw [oneLt'_eq]
  simp only [if_true]
  refine wpAny_bind (wpAny_cRoomFor_byValue rfl ?_)
  refine wpAny_bind (wpAny_callSpecialIfBound?_slot (typeIs_bytes s b t) slot_bytes_lt (call_bytes_lt ?_))
  exact wpAny_truthy_bool h
end
noncomputable def bytesOrd : PyProof.Rows.KeyKind :=
  { toKeyOrd := PyProof.Rows.strKind.toKeyOrd, keyOf := fun v => match v with | .bytes b _ => some (b.toList.map UInt8.toNat) | _ => none, dflt := [] }
theorem bytesOrd_oneLt : bytesOrd.OneLt := by
  intro prog w A E s x y a b Q ha hb h
  cases x <;> simp only [bytesOrd, reduceCtorEq, Option.some.injEq] at ha
  cases y <;> simp only [bytesOrd, reduceCtorEq, Option.some.injEq] at hb
  cases ha; cases hb
  exact oneLt_bytes h
noncomputable def AllBytes (vs : List Value) : Prop := ∀ v ∈ vs, ∃ b t, v = .bytes b t
theorem allBytes_keysOf {vs : List Value} (h : AllBytes vs) : KeysOf bytesOrd (pairsOf vs) := by
  intro p hp
  rw [pairsOf_toList] at hp
  obtain ⟨b, t, e⟩ := h _ (mem_zip_self hp).2
  exact ⟨b.toList.map UInt8.toNat, by rw [e]; rfl⟩
theorem firstOfTuple'_bytes (x : Array UInt8) (t : Tok) : firstOfTuple' (.bytes x t) = pure none := rfl
theorem mapM_first_bytes : ∀ {vs : List Value}, AllBytes vs → vs.mapM firstOfTuple' = pure (vs.map fun _ => none)
  | [], _ => by simp
  | v :: vs, h => by
    obtain ⟨b, t, rfl⟩ := h v (List.mem_cons_self ..)
    rw [List.mapM_cons, firstOfTuple'_bytes, mapM_first_bytes fun u hu => h u (List.mem_cons_of_mem _ hu)]; simp
theorem mapM_typeOf_bytes : ∀ {vs : List Value}, AllBytes vs → vs.mapM typeOf = pure (vs.map fun _ => Value.type "bytes")
  | [], _ => by simp
  | v :: vs, h => by
    obtain ⟨b, t, rfl⟩ := h v (List.mem_cons_self ..)
    rw [List.mapM_cons, mapM_typeOf_bytes fun u hu => h u (List.mem_cons_of_mem _ hu)]
    show (pure (Value.type "bytes") >>= fun b => pure _ >>= fun bs => pure (b :: bs)) = _
    simp
theorem keyKind_bytes {v₁ v₂ : Value} {vs : List Value} (hS : AllBytes (v₁ :: v₂ :: vs)) : keyKind' (v₁ :: v₂ :: vs).toArray = pure oneType' := by
  rw [keyKind'_eq, List.mapM_toArray, mapM_first_bytes hS]
  simp only [map_pure, pure_bind]
  rw [if_neg (by simp), if_neg (by simp)]
  rw [oneTypeOnly'_eq, List.mapM_toArray, mapM_typeOf_bytes hS]
  simp only [map_pure, pure_bind]
  have hall : ((List.map (fun _ => Value.type "bytes") (v₁ :: v₂ :: vs)).toArray.all fun x => x == Value.type "bytes") = true := by
    simp only [List.all_toArray, List.all_map, List.all_eq_true]
    intro _ _
    rfl
  have h0 : (List.map (fun _ => Value.type "bytes") (v₁ :: v₂ :: vs)).toArray[0]? = some (Value.type "bytes") := by simp
  rw [h0]
  simp only [hall, if_true, pure_bind, Option.isSome_some]
theorem intTab_mem : ∀ {kvs : List (List UInt8 × Value)} {tab : List (List Int × Int)}, IntTabB kvs tab → ∀ {i : Nat} {k : List UInt8} {x : Value}, kvs[i]? = some (k, x) → (k.map fun c => (c.toNat : Int)) ∈ tab.map (·.1)
  | _, _, .nil, i, k, x, h => by simp at h
  | _, _, .cons he hr, 0, k, x, h => by
    simp only [List.getElem?_cons_zero, Option.some.injEq, Prod.mk.injEq] at h
    rw [← h.1, he]
    exact List.mem_cons_self ..
  | _, _, .cons he hr, i + 1, k, x, h => by
    rw [List.getElem?_cons_succ] at h
    exact List.mem_cons_of_mem _ (intTab_mem hr h)
theorem intTab_len : ∀ {kvs : List (List UInt8 × Value)} {tab : List (List Int × Int)}, IntTabB kvs tab → kvs.length = tab.length
  | _, _, .nil => rfl
  | _, _, .cons _ hr => by rw [List.length_cons, List.length_cons, intTab_len hr]
section
variable {prog : Program} {w : World} {A : Around} {E : Value → Shared → Prop} {s : Shared} {h₀ : Heap} {L d : Addr} {m : Str → Option Value} {news : List (Addr × Obj)} {o : Obj} {kvs : List (List UInt8 × Value)} {tab : List (List Int × Int)}
theorem sorted_names {Q : Value → Shared → Prop} (hh : A.handled = none) (F : Fr h₀ L s.heap m) (N : News h₀ L s.heap news) (hp : (d, o) ∈ news) (hd : o.IsDictOf (bytesKind prog w) kvs) (lo : (d == sysModules) = false) (ht : IntTabB kvs tab) (hn : tab.length < 64)
    (h : ∀ (B : Addr) (vs : List Value) (e : Nat) (h' : Heap) (tk : Nat), vs.length = tab.length → (∀ v ∈ vs, ∃ b t, v = .bytes b t ∧ KBw.bInts b ∈ tab.map (·.1)) → Fr h₀ L h' m → News h₀ L h' ((B, W.listOf vs.toArray e) :: news) → (∀ q ∈ news, q.1 < B) → Q (.ref B) { s with heap := h', toks := tk }) :
    wpAny (model prog w) A (call (.builtin "sorted") [.ref d]) Q E s := by
  have hD := kda_dict N hp hd
  obtain ⟨ep, hat⟩ := hD.dictAt
  have hlen := intTab_len ht
  refine kdu_sorted (kdl_dict (knd := bytesKind prog w) (kvs := kvs) (ep := ep) lo) hh F N hat (by rw [sizeLine_eq]; omega) fun B h' tk vs F' N' l1 hl hv => ?_
  have hall : ∀ v ∈ vs, ∃ b t, v = .bytes b t ∧ KBw.bInts b ∈ tab.map (·.1) := by
    intro v hvm
    obtain ⟨j, hj⟩ := List.getElem?_of_mem hvm
    obtain ⟨k, x, hx, hk⟩ := hv j v hj
    obtain ⟨t, rfl⟩ := isBytes_shape hk
    exact ⟨_, t, rfl, intTab_mem ht hx⟩
  have hab : AllBytes vs := fun v hvm => let ⟨b, t, e, _⟩ := hall v hvm; ⟨b, t, e⟩
  have hB := N' (B, W.listOf vs.toArray 0) (List.mem_cons_self ..)
  have hoL : h'.get? B = some (seqObj "list" vs.toArray 0) := hB.1
  refine wpAny_call_entry slot_list_sort ⟨_, hoL, rfl⟩ entry_list_sort (list_sort_treeK bytesOrd_oneLt hoL (allBytes_keysOf hab) (fun v₁ v₂ rest e => keyKind_bytes (by rw [← e]; exact hab)) (by omega) fun st' hpm _ => ⟨_, rfl, ?_⟩) (args_list_sort _)
  have hll : (arrOf st').toList.Perm (vs.zip vs) := by rw [← pairsOf_toList]; exact Array.perm_iff_toList_perm.mp hpm
  obtain ⟨e, he⟩ := sortedHeap_at (vs := vs) (out := (arrOf st').map (·.2)) hoL
  have hold : ∀ b, b ≠ B → b < h'.objs.size → (sortedHeap h' B vs ((arrOf st').map (·.2))).get? b = h'.get? b := fun b hb hlt => sortedHeap_old hb hlt
  have hBL : B ≠ L := hB.2.1
  refine h B ((arrOf st').map (·.2)).toList e _ _ ?_ ?_ ?_ ?_ l1
  · rw [Array.toList_map, List.length_map, hll.length_eq, List.length_zip, Nat.min_self, hl, hlen]
  · intro v hvm
    rw [Array.toList_map] at hvm
    obtain ⟨p, hpm', rfl⟩ := List.mem_map.mp hvm
    have hz := mem_zip_self (hll.mem_iff.mp hpm')
    exact hall _ (hz.1 ▸ hz.2)
  · obtain ⟨oL, es, epp, hL, hLd, hLk, hLf⟩ := F'.ns
    refine ⟨⟨oL, es, epp, (hold L (Ne.symm hBL) (Heap.lt_size hL)).trans hL, hLd, hLk, hLf⟩, fun b ob eb => ?_, F'.above⟩
    have hb := F'.keep b ob eb
    refine (hold b (fun q => ?_) (Heap.lt_size hb)).trans hb
    have hz := hB.2.2
    rw [← q] at hz
    rw [eb] at hz
    cases hz
  · intro q hq
    rcases List.mem_cons.mp hq with rfl | hq
    · refine ⟨?_, hB.2⟩
      rw [he]
    · have y := N' q (List.mem_cons_of_mem _ hq)
      exact ⟨(hold q.1 (Nat.ne_of_lt (l1 q hq)) (Heap.lt_size y.1)).trans y.1, y.2⟩
end
end

theorem set42 : True := by
  w_top off
  exact trivial
section
variable {prog : Program} {w : World} {A : Around} {E : Value → Shared → Prop} {s : Shared}
theorem nextOf_bytes_item {it : Addr} {b : Array UInt8} {t : Tok} {i : Nat} {c : UInt8} {Q : Value → Shared → Prop} (hit : KBw.IsBytesIter s.heap it b t i) (hx : b[i]? = some c)
    (hQ : ∀ h', KBw.IsBytesIter h' it b t (i + 1) → Heap.SameBut it s.heap h' → Q (.int (c.toNat : Int) s.toks) { s with heap := h', toks := s.toks + 1 }) : wpAny (model prog w) A (Builtin.SmallTypes.nextOf (.ref it)) Q E s := by
  obtain ⟨o, ho, hc, hd⟩ := id hit
  unfold Builtin.SmallTypes.nextOf
  refine wpAny_bind (wpAny_callSpecial?_slot (name := PySem.Str.ofString "__next__") (KBw.iter_typeIs hit) KBw.slot_next
    (wpAny_call_entry KBw.slot_next (KBw.iter_typeIs hit) KBw.entry_next ?_ (KBw.args_next _)))
  show wpAny _ _ (field (.ref it) 0 >>= _) _ _ s
  refine wpAny_bind (wpAny_field ho hd (x := .bytes b t) rfl ?_)
  show wpAny _ _ (if (Value.bytes b t == Value.none) = true then _ else _) _ _ s
  rw [if_neg (show ¬ ((Value.bytes b t == Value.none) = true) from Bool.false_ne_true)]
  show wpAny _ _ (field (.ref it) 1 >>= _) _ _ s
  refine wpAny_bind (wpAny_field ho hd (x := .int i 0) rfl ?_)
  refine wpAny_bind (wpAny_of_eq (a := b) rfl ?_)
  simp only [Int.toNat_natCast, hx]
  refine wpAny_bind (wpAny_setField ho hd (by simp) (wpAny_bind (wpAny_mkInt (wpAny_pure ⟨_, rfl, wpAny_pure (hQ _ ?_ (Heap.SameBut.update ..))⟩))))
  exact ⟨_, Heap.get?_update_self _ ho (Obj.isFreed_of_fields (Obj.data_mapFields hd _)), (Obj.cls_mapFields ..).trans hc, by
    rw [Obj.data_mapFields hd]; simp [rawInt]⟩
theorem nextOf_bytes_end {it : Addr} {b : Array UInt8} {t : Tok} {i : Nat} {Q : Value → Shared → Prop} (hh : A.handled = none) (hit : KBw.IsBytesIter s.heap it b t i) (hx : b[i]? = none)
    (hE : ∀ h' e, Heap.ExtBut it s.heap h' → (∃ o, h'.get? e = some o ∧ o.cls = .type "StopIteration") → E (.ref e) { s with heap := h' }) : wpAny (model prog w) A (Builtin.SmallTypes.nextOf (.ref it)) Q E s := by
  obtain ⟨o, ho, hc, hd⟩ := id hit
  unfold Builtin.SmallTypes.nextOf
  refine wpAny_bind (wpAny_callSpecial?_slot (name := PySem.Str.ofString "__next__") (KBw.iter_typeIs hit) KBw.slot_next
    (wpAny_call_entry KBw.slot_next (KBw.iter_typeIs hit) KBw.entry_next ?_ (KBw.args_next _)))
  show wpAny _ _ (field (.ref it) 0 >>= _) _ _ s
  refine wpAny_bind (wpAny_field ho hd (x := .bytes b t) rfl ?_)
  show wpAny _ _ (if (Value.bytes b t == Value.none) = true then _ else _) _ _ s
  rw [if_neg (show ¬ ((Value.bytes b t == Value.none) = true) from Bool.false_ne_true)]
  show wpAny _ _ (field (.ref it) 1 >>= _) _ _ s
  refine wpAny_bind (wpAny_field ho hd (x := .int i 0) rfl ?_)
  refine wpAny_bind (wpAny_of_eq (a := b) rfl ?_)
  simp only [Int.toNat_natCast, hx]
  refine wpAny_bind (wpAny_rule (wpAny_bind (wpAny_setField ho hd (by simp) ?_)))
  show wpAny _ _ (newExc (.type "StopIteration") [] >>= _) _ _ _
  refine wpAny_bind ?_
  simp only [newExc, newTuple]
  refine wpAny_bind (wpAny_newObj_type ?_ (by size_fits))
  refine wpAny_bind (m := firstArgMember _ _) (wpAny_of_eq (a := Value.none) (by first | rfl | (simp only [firstArgMember]; rfl)) ?_)
  refine wpAny_newObj_type ?_ (by size_fits)
  simp only [raiseNew]
  refine wpAny_bind (wpAny_handled ?_)
  first | rw [show A.in1.handled = none from hh] | rw [hh]
  refine wpAny_bind (wpAny_pure (wpAny_throw ?_))
  exact hE _ _ (((Heap.SameBut.update ..).extBut.push _).push _) ⟨_, Heap.get?_push_size _ rfl, rfl⟩
end
theorem draws_bytes {prog : Program} {w : World} {A : Around} (hh : A.handled = none) (it : Addr) (b : Array UInt8) (t : Tok) :
    Draws prog w A it [it] b.size (fun i v => ∃ c u, b[i]? = some c ∧ v = .int (c.toNat : Int) u) (fun i h => KBw.IsBytesIter h it b t i) where
  live := fun _ _ st => let ⟨o, ho, _⟩ := st; ⟨o, ho⟩
  frame := fun _ _ _ st hk => let ⟨o, ho, r⟩ := st; ⟨o, hk it (by simp) o ho, r⟩
  item := fun i s Q E hi st hQ => by
    refine nextOf_bytes_item st (c := b[i]) (by simp [hi]) fun h' hit' hs' => ?_
    exact hQ _ h' (s.toks + 1) ⟨_, _, by simp [hi], rfl⟩ hit' hs'
  done := fun s Q E st hE => nextOf_bytes_end hh st (by simp) hE
set_option maxHeartbeats 1000000 in
theorem meets_enumerate_newB (b : Array UInt8) (t : Tok) :
    Meets (Builtin.«enumerate.__new__» ⟨[.type "enumerate", .bytes b t], []⟩) (fun _ R s =>
      R (.ok (.ret (.ref (s.heap.push { cls := .type "bytes_iterator", data := .fields #[.bytes b t, .int 0 0] }).objs.size)))
        { s with heap := (s.heap.push { cls := .type "bytes_iterator", data := .fields #[.bytes b t, .int 0 0] }).push { cls := .type "enumerate", data := .fields #[.none, .bool false, .ref s.heap.objs.size, rawInt 0, .none, .none] } }) :=
  .of_wp fun prog w A R s h => by
    obtain ⟨hp, g, d, tk, os⟩ := s
    have hsub := sub_enumerate
    wp_walk
    refine wpAny_stack_any fun st => wpAny_pure ?_
    split
    · rename_i c _ _ _ _ _
      cases (c == Value.type "enumerate")
      · wp_walk using KBw.pyIter_bytes
        exact ⟨_, rfl, h⟩
      · wp_walk using KBw.pyIter_bytes
        exact ⟨_, rfl, h⟩
    · wp_walk using KBw.pyIter_bytes
      exact ⟨_, rfl, h⟩
section
variable {prog : Program} {w : World} {A : Around} {E : Value → Shared → Prop} {s : Shared}
theorem call_enumerate_bytes {b : Array UInt8} {t : Tok} {Q : Value → Shared → Prop}
    (h : ∀ h', IsEnum h' (s.heap.objs.size + 1) s.heap.objs.size 0 .none → KBw.IsBytesIter h' s.heap.objs.size b t 0 → h'.objs.size = s.heap.objs.size + 2 →
      (∀ b o, s.heap.get? b = some o → h'.get? b = some o) → Q (.ref (s.heap.objs.size + 1)) { s with heap := h' }) :
    wpAny (model prog w) A (call (.type "enumerate") [.bytes b t]) Q E s := by
  refine callType_new F.called_enumerate (by decide) (F.typeCall_enumerate_1 _) (F.newCall_enumerate_1 _) (fun obj => F.args_object_init_2 obj _) F.entry_enumerate_new
    (meets_enumerate_newB b t) ?_
  have hz : (s.heap.push { cls := .type "bytes_iterator", data := .fields #[.bytes b t, .int 0 0] }).objs.size = s.heap.objs.size + 1 := Heap.size_push ..
  show _ ∧ _
  rw [hz]
  have he : IsEnum ((s.heap.push { cls := .type "bytes_iterator", data := .fields #[.bytes b t, .int 0 0] }).push
      { cls := .type "enumerate", data := .fields #[.none, .bool false, .ref s.heap.objs.size, rawInt 0, .none, .none] }) (s.heap.objs.size + 1) s.heap.objs.size 0 .none := by
    have := Heap.get?_push_size (s.heap.push { cls := .type "bytes_iterator", data := .fields #[.bytes b t, .int 0 0] })
      (o := { cls := .type "enumerate", data := .fields #[.none, .bool false, .ref s.heap.objs.size, rawInt 0, .none, .none] }) rfl
    rw [hz] at this; exact this
  refine ⟨⟨_, he, rfl⟩, h _ he ⟨_, Heap.get?_push_of_some _ (Heap.get?_push_size _ rfl), rfl, rfl⟩ (by rw [Heap.size_push, hz]) fun b o y => Heap.get?_push_of_some _ (Heap.get?_push_of_some _ y)⟩
end
noncomputable def enumB : Nat → List Int → List Itm
  | _, [] => []
  | i, k :: r => .pairF (fun t => .int (i : Int) t) (.int k) :: enumB (i + 1) r
theorem enumB_length : ∀ (ks : List Int) (a : Nat), (enumB a ks).length = ks.length
  | [], _ => rfl
  | _ :: r, a => congrArg (· + 1) (enumB_length r (a + 1))
theorem enumB_get : ∀ (ks : List Int) (a i : Nat) {k : Int}, ks[i]? = some k → (enumB a ks)[i]? = some (.pairF (fun t => .int ((a + i : Nat) : Int) t) (.int k))
  | [], _, _, _, h => by simp at h
  | x :: r, a, 0, k, h => by
    have e : x = k := by simpa using h
    subst e
    rfl
  | x :: r, a, i + 1, k, h => by
    have h' : r[i]? = some k := by simpa using h
    have q := enumB_get r (a + 1) i h'
    have e : a + 1 + i = a + (i + 1) := by omega
    rw [e] at q
    simpa [enumB] using q
section
variable {prog : Program} {w : World} {A : Around} {E : Value → Shared → Prop} {s : Shared} {env : Env} {h₀ : Heap} {target : Expr} {body : List Stmt} {Q : Flow → Shared → Prop}
theorem ktu_enumB {elts : List Expr} {k : Nat} {pos : Pos} {b : Array UInt8} {t : Tok} {ks : List Int} {m₀ : Str → Option Value} {news : List (Addr × Obj)}
    (hh : A.handled = none) (F : Fr h₀ env.locals s.heap m₀) (N : News h₀ env.locals s.heap news) (hb : KBw.bInts b = ks)
    (rest₀ : ∀ I : Addr, (∀ p ∈ news, p.1 < I) → ItemsRest prog w A E h₀ env (.Tuple elts k pos) body Q s [(I + 1, "enumerate"), (I, "bytes_iterator")] [] (enumB 0 ks) m₀ news) :
    wpAny (model prog w) A (call (.type "enumerate") [.bytes b t]) (fun xv s₁ => wpAny (model prog w) A (pyIter xv) (fun it s₂ => TurnsAt prog w A h₀ env (.Tuple elts k pos) body Q E it s₂) E s₁) E s := by
  have hLs : env.locals < s.heap.objs.size := F.ns.lt
  have hsz : ks.length = b.size := by rw [← hb, KBw.ints_length]
  refine call_enumerate_bytes fun h' hE hI hsz' hk => ?_
  refine wpAny_pyIter_enum hE ?_
  refine ktu_core (tk0 := s.toks) (keep := []) (KTurns.ofWalksU (WalksT.enumerateD (draws_bytes (A := A.in1) hh s.heap.objs.size b t) (s.heap.objs.size + 1) (Nat.succ_ne_self _) (by simp) (by simp)).toU) (by rw [enumB_length, hsz]) ?_ ?_ ?_ ?_ ?_ ?_ ?_ ?_ (F.keeps hk) (N.grown hk) trivial (rest₀ _ fun p hp => Heap.lt_size (N p hp).1)
  · rintro i v h ⟨T, vals, rfl, ⟨tt, x, ⟨c, u, hx, rfl⟩, rfl⟩, hT⟩
    refine ⟨_, enumB_get ks 0 i (k := (c.toNat : Int)) (hb ▸ KBw.ints_get hx), T, tt, .int (c.toNat : Int) u, rfl, PyProof.V.Flat.int _ _, ?_⟩
    show IsTup h T #[.int ((0 + i : Nat) : Int) tt, .int (c.toNat : Int) u]
    rw [Nat.zero_add]
    exact hT
  · rintro i h ⟨⟨old, he⟩, ⟨oi, hoi, hic, _⟩⟩
    have he' : ∃ oe : Obj, h.get? (s.heap.objs.size + 1) = some oe ∧ oe.cls = .type "enumerate" := ⟨_, he, rfl⟩
    obtain ⟨oe, h1, h2⟩ := he'
    refine ⟨[(s.heap.objs.size + 1, oe), (s.heap.objs.size, oi)], ⟨⟨rfl, h2⟩, ⟨rfl, hic⟩, trivial⟩, fun p hp => ?_⟩
    rcases List.mem_cons.mp hp with rfl | hp
    · exact h1
    · rw [List.mem_singleton.mp hp]; exact hoi
  · intro b hb
    have hb' : b = s.heap.objs.size + 1 ∨ b = s.heap.objs.size := by simpa using hb
    rcases hb' with rfl | rfl
    · exact ⟨by simp, ktu_new F (Nat.le_add_right _ _)⟩
    · exact ⟨by simp, ktu_new F (Nat.le_refl _)⟩
  · intro b hb
    simpa using hb
  · intro b hb
    exact .inl (by simpa using hb)
  · intro hI'
    have hb' : env.locals = s.heap.objs.size + 1 ∨ env.locals = s.heap.objs.size := by simpa using hI'
    rcases hb' with e | e
    · exact ktu_ne 1 hLs e
    · exact Nat.ne_of_lt hLs e
  · intro p hp hI'
    have hb' : p.1 = s.heap.objs.size + 1 ∨ p.1 = s.heap.objs.size := by simpa using hI'
    have hlp := Heap.lt_size (N p hp).1
    rcases hb' with e | e
    · exact ktu_ne 1 hlp e
    · exact Nat.ne_of_lt hlp e
  · exact ⟨⟨.none, hE⟩, hI⟩
theorem allObj_mono {k k' : List (Addr × Obj) → Prop} (h : ∀ its, k its → k' its) : ∀ {ws : List (Addr × String)}, AllObj ws k → AllObj ws k'
  | [], a => h _ a
  | w :: r, a => fun o hc => allObj_mono (ws := r) (k := fun its => k ((w.1, o) :: its)) (k' := fun its => k' ((w.1, o) :: its)) (fun its => h _) (a o hc)
theorem items_made {ws : List (Addr × String)} {ks : List Int} {y : Str} {stored : List Str} {B₀ : Array UInt8} {t₀ : Tok} {m₀ : Str → Option Value} {news : List (Addr × Obj)} (I : Nat → List Int → Prop) (hy : m₀ y = some (.bytes B₀ t₀)) (hI : I 0 (KBw.bInts B₀))
    (turn : ∀ i k t u T B tb (uu : Str → Option Value) h tk, ks[i]? = some k → I i (KBw.bInts B) → IsTup h T #[.int (i : Nat) t, .int k u] → Fr h₀ env.locals h (fun z => if z = y then some (.bytes B tb) else if stored.contains z then uu z else m₀ z) →
      AllObj ws (fun its => News h₀ env.locals h (its ++ news) → wpAny (model prog w) A (assign target env (.ref T)) (fun _ s₂ => wpAny (model prog w) A (execs body env) (UnrPostW h₀ env.locals { s with heap := h, toks := tk } its (fun m' n' => n' = news ∧ (∃ B' t', m' y = some (.bytes B' t') ∧ I (i + 1) (KBw.bInts B')) ∧ ∀ z, z ≠ y → stored.contains z = false → m' z = m₀ z) Q) E s₂) E { s with heap := h, toks := tk }))
    (done : ∀ B tb (uu : Str → Option Value) h tk, I ks.length (KBw.bInts B) → Fr h₀ env.locals h (fun z => if z = y then some (.bytes B tb) else if stored.contains z then uu z else m₀ z) → News h₀ env.locals h news → Q .next { s with heap := h, toks := tk }) :
    ItemsRest prog w A E h₀ env target body Q s ws [] (enumB 0 ks) m₀ news := by
  have shape : ∀ (m₁ : Str → Option Value) (B : Array UInt8) (tb : Tok), m₁ y = some (.bytes B tb) → (∀ z, z ≠ y → stored.contains z = false → m₁ z = m₀ z) → m₁ = fun z => if z = y then some (.bytes B tb) else if stored.contains z then m₁ z else m₀ z := by
    intro m₁ B tb h1 h2
    funext z
    by_cases hz : z = y
    · rw [if_pos hz, hz, h1]
    · rw [if_neg hz]
      cases hc : stored.contains z with
      | true => rw [if_pos rfl]
      | false => rw [if_neg (by decide)]; exact h2 z hz hc
  have key : ∀ (rest : List Int) (i : Nat) (m₁ : Str → Option Value) (B : Array UInt8) (tb : Tok), ks.drop i = rest → i ≤ ks.length → m₁ y = some (.bytes B tb) → I i (KBw.bInts B) → (∀ z, z ≠ y → stored.contains z = false → m₁ z = m₀ z) →
      ItemsRest prog w A E h₀ env target body Q s ws [] (enumB i rest) m₁ news := by
    intro rest
    induction rest with
    | nil =>
      intro i m₁ B tb hr hi h1 h2 h3
      refine ItemsRest.zero fun h tk F N => ?_
      rw [shape m₁ B tb h1 h3] at F
      have hil : i = ks.length := by
        have := congrArg List.length hr
        rw [List.length_drop, List.length_nil] at this
        omega
      exact done B tb m₁ h tk (hil ▸ h2) F N
    | cons k rest ih =>
      intro i m₁ B tb hr hi h1 h2 h3
      have hk : ks[i]? = some k := by
        have := congrArg (fun l => l[0]?) hr
        simpa using this
      have hlt : i < ks.length := by
        have := congrArg List.length hr
        rw [List.length_drop, List.length_cons] at this
        omega
      refine ItemsRest.pairF fun T t x h tk hx hT F => ?_
      obtain ⟨u, rfl⟩ := PyProof.V.Flat.int_inv hx
      rw [shape m₁ B tb h1 h3] at F
      refine allObj_mono (fun its g N => ?_) (turn i k t u T B tb m₁ h tk hk h2 hT F)
      refine wpAny_mono (g N) (fun _ s₂ g2 => wpAny_mono g2 (fun f s₃ p => ?_) fun _ _ e => e) fun _ _ e => e
      have fin : ∀ {s₃}, UnrEndW h₀ env.locals { s with heap := h, toks := tk } its (fun m' n' => n' = news ∧ (∃ B' t', m' y = some (.bytes B' t') ∧ I (i + 1) (KBw.bInts B')) ∧ ∀ z, z ≠ y → stored.contains z = false → m' z = m₀ z) s₃ →
          UnrEndW h₀ env.locals { s with heap := h, toks := tk } its (fun m' n' => SubL [] n' ∧ ItemsRest prog w A E h₀ env target body Q s ws [] (enumB (i + 1) rest) m' n') s₃ := by
        rintro s₃ ⟨h', tk', m', n', e, F', N', off, rfl, ⟨B', t', e1, e2⟩, e3⟩
        exact ⟨h', tk', m', _, e, F', N', off, trivial, ih (i + 1) m' B' t' (by rw [← List.drop_drop, hr]; rfl) hlt e1 e2 e3⟩
      cases f with
      | ret v => exact p
      | brk => exact p
      | next => exact fin p
      | cont => exact fin p
  exact key ks 0 m₀ B₀ t₀ (by rw [List.drop_zero]) (Nat.zero_le _) hy hI fun _ _ _ => rfl
end

theorem set43 : True := by
  w_top off
  exact trivial
noncomputable def dressI (ks : List Int) (i : Nat) (ms : List Int) : Prop := ms.foldl smallG [] = ks.take i ∧ ms.length = i ∧ ms.length ≤ ks.length
theorem dressI_zero {ks : List Int} : dressI ks 0 [] := ⟨rfl, rfl, Nat.zero_le _⟩
theorem dressI_step {ks ms : List Int} {i : Nat} {k x : Int} (h : dressI ks i ms) (hk : ks[i]? = some k) (hx : ∀ l, smallG l x = l ++ [k]) : dressI ks (i + 1) (ms ++ [x]) := by
  obtain ⟨h1, h2, h3⟩ := h
  have hlt : i < ks.length := by
    rcases Nat.lt_or_ge i ks.length with h | h
    · exact h
    · rw [List.getElem?_eq_none h] at hk; cases hk
  refine ⟨?_, by rw [List.length_append, h2]; rfl, by rw [List.length_append, h2]; exact hlt⟩
  rw [List.foldl_append, h1, List.foldl_cons, List.foldl_nil, hx, List.take_add_one, hk]
  rfl
theorem dress_great {ks ms : List Int} {i : Nat} {k : Int} (h : dressI ks i ms) (hk : ks[i]? = some k) (h1 : 97 ≤ k) (h2 : k ≤ 122) : dressI ks (i + 1) (ms ++ [k - 32]) :=
  dressI_step h hk fun l => by rw [smallG_up (by omega), show k - 32 + 32 = k by omega]
theorem dress_same {ks ms : List Int} {i : Nat} {k : Int} (h : dressI ks i ms) (hk : ks[i]? = some k) (hs : ∀ x ∈ ks, x ≠ 32 ∧ ¬ (65 ≤ x ∧ x ≤ 90)) : dressI ks (i + 1) (ms ++ [k]) :=
  have q := hs k (List.mem_of_getElem? hk)
  dressI_step h hk fun l => smallG_id q.1 q.2
theorem dress_end {ks ms : List Int} (h : dressI ks ks.length ms) : ms.foldl smallG [] = ks := by
  have := h.1
  rwa [List.take_length] at this
theorem dress_cut (ms : List Int) (c : Nat) : (ms.take c ++ [32] ++ ms.drop c).foldl smallG [] = ms.foldl smallG [] := by
  rw [List.foldl_append, List.foldl_append, List.foldl_cons, List.foldl_nil, smallG_no rfl, ← List.foldl_append, List.take_append_drop]
theorem pow2_div {prog : Program} {w : World} {A : Around} {E : Value → Shared → Prop} {s : Shared} {Q : Value → Shared → Prop} {v : Int} {e : Nat} {tv tn : Tok} (he : e < 12) (h : ∀ t k, Q (.int (v.fdiv (2 ^ e)) t) { s with toks := k }) :
    wpAny (model prog w) A (binaryOp .FloorDiv (.int v tv) (.int (2 ^ e) tn)) Q E s := by
  have h1 : ∀ n : Nat, n < 12 → ((2 : Int) ^ n).natAbs < 1073741824 := by decide
  exact floordiv_int (Int.ne_of_gt (Int.pow_pos (by decide))) (h _ _) (Or.inl (PyProof.noPylong_small (h1 e he)))
theorem enum_in {ks : List Int} {i : Nat} {k : Int} {b : Array UInt8} (hb : KBw.bInts b = ks) (hk : ks[i]? = some k) : 0 ≤ k ∧ k < 256 ∧ i < ks.length := by
  have := KBw.ints_in (b := b) (k := k) (hb ▸ List.mem_of_getElem? hk)
  refine ⟨this.1, this.2, ?_⟩
  rcases Nat.lt_or_ge i ks.length with h | h
  · exact h
  · rw [List.getElem?_eq_none h] at hk; cases hk
theorem items_dress {prog : Program} {w : World} {A : Around} {E : Value → Shared → Prop} {s : Shared} {env : Env} {h₀ : Heap} {target : Expr} {body : List Stmt} {Q : Flow → Shared → Prop} {ws : List (Addr × String)} {ks : List Int} {y : Str} {stored : List Str} {t₀ : Tok} {m₀ : Str → Option Value} {news : List (Addr × Obj)} (hy : m₀ y = some (.bytes #[] t₀))
    (turn : ∀ i k t u T B tb (uu : Str → Option Value) h tk, ks[i]? = some k → (ms : List Int) → KBw.bInts B = ms → dressI ks i ms → IsTup h T #[.int (i : Nat) t, .int k u] → Fr h₀ env.locals h (fun z => if z = y then some (.bytes B tb) else if stored.contains z then uu z else m₀ z) →
      AllObj ws (fun its => News h₀ env.locals h (its ++ news) → wpAny (model prog w) A (assign target env (.ref T)) (fun _ s₂ => wpAny (model prog w) A (execs body env) (UnrPostW h₀ env.locals { s with heap := h, toks := tk } its (fun m' n' => n' = news ∧ (∃ B' t', m' y = some (.bytes B' t') ∧ ∃ ms', KBw.bInts B' = ms' ∧ dressI ks (i + 1) ms') ∧ ∀ z, z ≠ y → stored.contains z = false → m' z = m₀ z) Q) E s₂) E { s with heap := h, toks := tk }))
    (done : ∀ B tb (uu : Str → Option Value) h tk, (ms : List Int) → KBw.bInts B = ms → dressI ks ks.length ms → Fr h₀ env.locals h (fun z => if z = y then some (.bytes B tb) else if stored.contains z then uu z else m₀ z) → News h₀ env.locals h news → Q .next { s with heap := h, toks := tk }) :
    ItemsRest prog w A E h₀ env target body Q s ws [] (enumB 0 ks) m₀ news :=
  items_made (dressI ks) hy dressI_zero (fun i k t u T B tb uu h tk hk hI hT F => allObj_mono (fun its g N => wpAny_mono (g N) (fun _ s₂ g2 => wpAny_mono g2 (fun f s₃ p => by
      have fin : ∀ {s₃}, UnrEndW h₀ env.locals { s with heap := h, toks := tk } its (fun m' n' => n' = news ∧ (∃ B' t', m' y = some (.bytes B' t') ∧ ∃ ms', KBw.bInts B' = ms' ∧ dressI ks (i + 1) ms') ∧ ∀ z, z ≠ y → stored.contains z = false → m' z = m₀ z) s₃ →
          UnrEndW h₀ env.locals { s with heap := h, toks := tk } its (fun m' n' => n' = news ∧ (∃ B' t', m' y = some (.bytes B' t') ∧ dressI ks (i + 1) (KBw.bInts B')) ∧ ∀ z, z ≠ y → stored.contains z = false → m' z = m₀ z) s₃ := by
        rintro s₃ ⟨h', tk', m', n', e, F', N', off, e0, ⟨B', t', e1, ms', e2, e3⟩, e4⟩
        exact ⟨h', tk', m', n', e, F', N', off, e0, ⟨B', t', e1, e2 ▸ e3⟩, e4⟩
      cases f with
      | ret v => exact p
      | brk => exact p
      | next => exact fin p
      | cont => exact fin p) fun _ _ e => e) fun _ _ e => e) (turn i k t u T B tb uu h tk hk _ rfl hI hT F)) (fun B tb uu h tk hI F N => done B tb uu h tk _ rfl hI F N)
theorem noI_bytes_add : typeLookup (.type "bytes") (dunderI "add") = pure none := by rw [typeLookup_type, builtinLookup_eq_fast]; kernel_rfl
theorem iadd_bytes {prog : Program} {w : World} {A : Around} {E : Value → Shared → Prop} {s : Shared} {b c : Array UInt8} {t u : Tok} {Q : Value → Shared → Prop} {ks ls : List Int} (hb : KBw.bInts b = ks) (hc : KBw.bInts c = ls) (hsz : ks.length + ls.length ≤ 16777216) (h : ∀ t' k, Q (.bytes (b ++ c) t') { s with toks := k }) :
    wpAny (model prog w) A (inplaceOp .Add (.bytes b t) (.bytes c u)) Q E s := by
  have hsz' : b.size + c.size ≤ 16777216 := by rw [← KBw.ints_length b, ← KBw.ints_length c, hb, hc]; exact hsz
  refine iconcat_gives (typeIs_bytes s b t) (typeIs_bytes s c u) noI_bytes_add KBy.noFill_bytes_add KBy.seq_bytes_add FB.slot_bytes_add FB.entry_bytes_add (FB.args_bytes_add_2 _ _) (KBy.gives_bytes_add (KBy.tooLong_not hsz')) ?_
  by_cases hb : b.isEmpty = true
  · rw [if_pos hb]
    have e : b = #[] := Array.isEmpty_iff.1 hb
    have h' := h u s.toks
    rw [e, Array.empty_append] at h'
    exact h'
  · rw [if_neg hb]
    by_cases hc : c.isEmpty = true
    · rw [if_pos hc]
      have e : c = #[] := Array.isEmpty_iff.1 hc
      have h' := h t s.toks
      rw [e, Array.append_empty] at h'
      exact h'
    · rw [if_neg hc]
      exact ⟨by rw [Array.size_append, sizeLine_eq]; exact hsz', h s.toks (s.toks + 1)⟩
theorem dress_cut' {ms : List Int} {v : Int} (h0 : 0 ≤ v) : (List.take (clipAt ms.length v) ms ++ List.map (fun c : UInt8 => ((c.toNat : Nat) : Int)) [32] ++ List.take (ms.length - clipAt ms.length v) (List.drop (clipAt ms.length v) ms)).foldl smallG [] = ms.foldl smallG [] := by
  have e : List.take (ms.length - clipAt ms.length v) (List.drop (clipAt ms.length v) ms) = List.drop (clipAt ms.length v) ms := by
    rw [List.take_of_length_le (by rw [List.length_drop]; omega)]
  rw [e]
  exact dress_cut ms _

theorem set45 : True := by
  w_top off
  k_with "exec For Tuple Call cons nil" => ((k_here; (rename Fr _ _ _ _ => lF'); (with_unfolding_all refine' For_turns lF' ?_; k_whole)))
  k_with "call type:enumerate" => ((k_here; (with_reducible show wpAny _ _ (call (Value.type _) [Value.bytes _ _]) (fun xv s₁ => wpAny _ _ (pyIter xv) (fun it s₂ => TurnsAt _ _ _ _ _ _ _ _ _ it s₂) _ s₁) _ _); (rename Fr _ _ _ _ => lF'); (rename News _ _ _ _ => lN'); (with_unfolding_all refine ktu_enumB (by rfl) lF' lN' (by assumption) ?_); clear lF' lN'; intro i' l1; (try k_lt l1)))
  k_with "ItemsRest" => (((refine' items_dress (y := Str.ofString "made") (stored := [Str.ofString "at", Str.ofString "octet", Str.ofString "is_great"]) ?iyv71 (fun ei9w ek9w et9w eu9w eT9w eB9w etb9w euu9w h9w tk9w hek9w ems9w hms9w hI9w hT9w F9w => ?_) (fun eB9w etb9w euu9w h9w tk9w ems9w hms9w hI9w F9w N9w => ?_)); (case iyv71 => rfl); (all_goals first | ((have hin9w := enum_in (by assumption) hek9w); (have hln9w := hI9w.2.2); ktu_objs) | ((have hln9w := hI9w.2.2)))))
  k_with "UnrEndW" => (((refine' UnrEndW.intro ?uFv72 ?uNv72 _ ?uIv72 ?uSv72 ?uOv72 ?urv72); (case uFv72 => assumption); (case uNv72 => k_asm); (case urv72 => ((refine' ⟨rfl, ⟨_, _, rfl, _, KBw.ints_app (by assumption) (KBa.ints_make (by assumption)), ?uvv72⟩, ?ufv72⟩); (case ufv72 => (intro z h1 h2; (try dsimp (zetaDelta := true) only); repeat (first | rfl | rw [if_neg (show ¬ List.contains _ z = true from fun e => by rw [h2] at e; cases e)] | rw [if_neg (show ¬ z = _ from fun e => by subst e; first | exact h1 rfl | exact absurd h2 (by decide))]))); (case uvv72 => walk_at "my dress"))); (case uIv72 => k_subL); (case uSv72 => k_subL); (case uOv72 => ktu_offL)))
  k_with "my dress" => (first
      | (first | exact dress_great (by assumption) (by assumption) (by omega) (by omega) | exact dress_same (by assumption) (by assumption) (by assumption))
      | skip)
  k_with "binaryOp FloorDiv int int" => ((k_here; (with_reducible show wpAny _ _ (binaryOp Operator.FloorDiv (Value.int _ _) (Value.int (2 ^ _) _)) _ _ _); (with_reducible refine pow2_div ?kbpv74 (fun t9w k9w => ?_)); (case kbpv74 => (have := Int.fmod_lt_of_pos (ei9w : Int) (show (0 : Int) < 12 by decide)); omega)))
  k_with "inplaceOp Add bytes bytes" => ((k_here; k_dflt (refine' iadd_bytes ?ibv75 ?icv75 ?izv75 (fun t9w k9w => ?_); (case ibv75 => assumption); (case icv75 => exact KBa.ints_make (by assumption)); (case izv75 => (simp only [List.length_cons, List.length_nil]; omega)))))
  exact trivial
theorem dress_c {prog : Program} {w : World} {p : Program} {loose : List Str} {mean : ExcName → Option Value} {mg mb : Str → Option Value} {dp un : Nat} {gd : Option (List Code)} {cn : Str} {cs : Scope} {a : Addr} {ccd : Value} {cl : List (Str × Addr)} {outer : List Env} {A₀ : Around} {base h₀ : Heap} {L : Addr} {m : Str → Option Value} {s : Shared} {Q E : Value → Shared → Prop} {news : List (Addr × Obj)}
    {pa b : Addr} {k : Int} {t : Tok} {n nb : Nat} {vs : List Value} {ns : List Int} {n1 rest : List (Addr × Obj)} {ob : Array UInt8} {to : Tok} {ks : List Int}
    (P1 : Pull (pa, W.listOf #[.ref b, .int k t] n) news n1) (P2 : Pull (b, W.listOf vs.toArray nb) n1 rest) (hI : IntsAre vs ns) (hlen : ns.length ≤ 63) (hk0 : 0 ≤ k) (hk1 : k ≤ 90000) (hpb : @Ne Nat pa b) (hne : LCg.Off1 pa rest)
    (hob : KBw.bInts ob = ks) (hks : ks.length ≤ 40) (hsafe : ∀ x ∈ ks, x ≠ 32 ∧ ¬ (65 ≤ x ∧ x ≤ 90))
    (hS : ∀ (k' : Int) (B : Array UInt8) (rs : List Int) (t t' : Tok) (h' : Heap) (tk' : Nat), k ≤ k' → k' ≤ k + 2 → KBw.bInts B = rs → rs.length ≤ 41 → rs.foldl smallG [] = ks → Fr h₀ L h' m → News h₀ L h' ((pa, W.listOf #[.ref b, .int k' t'] n) :: (b, W.listOf vs.toArray nb) :: rest) → Q (.bytes B t) { s with heap := h', toks := tk' })
    (S : Site w p loose mean mg mb dp un 2 cs outer A₀ base h₀ L s.heap m news) :
    wpAny (model prog w) (ktrTop dp un gd cn cs L a ccd cl outer) (call (.ref 211) [.ref pa, .bytes ob to]) Q E s := by
  obtain ⟨B, F, X, N, T, hk, hd, hu⟩ := S
  have N0 : News h₀ L s.heap [(pa, W.listOf #[.ref b, .int k t] n), (b, W.listOf vs.toArray nb)] := fun q hq => N q (by
    rcases List.mem_cons.mp hq with rfl | hq
    · exact P1.mem _ (List.mem_cons_self ..)
    · rw [List.mem_singleton.mp hq]; exact P1.mem _ (List.mem_cons_of_mem _ (P2.mem _ (List.mem_cons_self ..))))
  have kN0 : KeptN h₀ L s.heap [(pa, W.listOf #[.ref b, .int k t] n), (b, W.listOf vs.toArray nb)] := N0
  (walk_at "my enter"; intro g9 L9 h9 FG9 F9 N9 B9 X9 T9 kG9; clear N0; (try dsimp only); (try k_lift B9); (try k_fold); k_steps)
  all_goals ((rename News g9 _ _ _ => N'); (rename Fr g9 _ _ _ => F'); (rename Fr h₀ _ _ _ => kF); (rename News h₀ _ _ _ => kN); (rename dressI _ _ _ => hI9))
  · refine' hS _ _ _ _ _ _ _ ?pa1 ?pa2 (by assumption) ?pa5 (dress_end hI9) kF (rest_of kG9 F' N' N P1 P2 (off1_mem hne) ?pa3 ?pa4)
    (case pa3 => k_mem); (case pa4 => k_mem); (case pa1 => omega); (case pa2 => omega)
    case pa5 => (have := hI9.2.2); omega
  · refine' hS _ _ _ _ _ _ _ ?pa1 ?pa2 (by assumption) ?pa5 ((dress_cut' (by assumption)).trans (dress_end hI9)) kF (rest_of kG9 F' N' N P1 P2 (off1_mem hne) ?pa3 ?pa4)
    (case pa3 => k_mem); (case pa4 => k_mem); (case pa1 => omega); (case pa2 => omega)
    case pa5 => ((have := hI9.2.2); simp only [List.length_append, List.length_map, List.length_cons, List.length_nil, List.length_take, List.length_drop]; omega)

theorem set46 : True := by
  k_with_none
  w_top off
  k_with "my site" => ((refine' Site.mk ?s1v1 ?s2v1 ?s3v1 ?s4v1 ?s5v1 ?s6v1 ?s7v1 ?s8v1; (case s1v1 => first | k_asm | fail "site: below"); (case s2v1 => first | k_asm | fail "site: frame"); (case s3v1 => first | k_asm | fail "site: part"); (case s4v1 => first | k_asm | fail "site: ledger"); (case s5v1 => first | k_asm | fail "site: top"); (case s6v1 => first | exact rfl | assumption | fail "site: kind"); (case s7v1 => first | exact room_ok (by assumption) (by decide) | (walk_say "ROOM"; ktr_room) | fail "site: room"); (case s8v1 => first | exact units_ok (by assumption) (by decide) | (walk_say "UNITS"; ktr_units) | fail "site: units")))
  k_with "my enter" => ((refine wpAny_call ?_; k_dflt (refine' code_defG ?k1v2 ?k2v2 ?k3v2 ?k4v2 ?k5v2 ?kAv2 ?kFv2 ?kKv2 ?k6v2 ?k7v2 ?k8v2 ?k9wv2 ?kBv2 ?_ ?c2v2 ?c3v2 ?c4v2 ?c5v2; (case kAv2 => exact rfl); (case kFv2 => exact rfl); (case kKv2 => assumption); (case k1v2 => k_asm); (case k2v2 => k_asm); (case k3v2 => k_asm); (case k4v2 => k_asm); (case k5v2 => k_asm); (case k6v2 => k_is); (case k7v2 => k_is); (case k8v2 => ktr_room); (case k9wv2 => exact BindsTo.of_eq rfl); (case c5v2 => decide); (case kBv2 => exact locs rfl); (case c2v2 => exact rfl); (case c3v2 => exact rfl); (case c4v2 => exact rfl); k_whole)))
  k_with "call ref" => ((k_here; (try dsimp only [List.nil_append, List.append_nil]); refine wpAny_call ?_; k_dflt (refine' code_def ?k1v3 ?k2v3 ?k3v3 ?k4v3 ?k5v3 ?kAv3 ?kFv3 ?kKv3 ?k6v3 ?k7v3 ?k8v3 ?k9wv3 ?kBv3 ?_ ?c2v3 ?c3v3 ?c4v3 ?c5v3; (case kAv3 => exact rfl); (case kFv3 => exact rfl); (case kKv3 => first | exact rfl | assumption); (case k1v3 => k_asm); (case k2v3 => k_asm); (case k3v3 => k_asm); (case k4v3 => k_asm); (case k5v3 => k_asm); (case k6v3 => k_is); (case k7v3 => k_is); (case k8v3 => ktr_room); (case k9wv3 => exact BindsTo.of_eq rfl); (case c5v3 => decide); (case kBv3 => exact locs rfl); (case c2v3 => exact rfl); (case c3v3 => exact rfl); (case c4v3 => exact rfl); k_whole; intro g' L' h' FG' F' N' B' X' T'; (try dsimp only); (try k_lift B'); (try k_fold))))
  k_with "my off" => (((rename (_ ≠ _ ∧ _ ≠ _ ∧ _ ≠ _) ∧ _ => off9w); (simp only [ne_eq] at off9w); (simp only [LCg.Off3, and_true, ne_eq, off9w, not_false_eq_true, and_self, true_and]); (first | done | ((repeat' (refine And.intro ?_ ?_)); all_goals exact neN (by walk_at "my ne")))))
  k_with "ite" => ((k_here; first
      | (refine' ite_posI ?hcv5 ?_; (case hcv5 => k_dflt (exact of_decide_eq_true (by exact rfl))))
      | (refine' ite_negI ?hcv5 ?_; (case hcv5 => k_dflt (exact of_decide_eq_false (by exact rfl))))))
  k_with "my fact" => (first | (with_reducible assumption) | (simp only [ne_eq, not_false_eq_true, *]; done))
  k_with "my ne" => (first | (walk_at "my fact") | exact Ne.symm (by walk_at "my fact") | exact Nat.ne_of_lt (by walk_at "my fact") | exact Nat.ne_of_gt (by walk_at "my fact") | exact Nat.ne_of_lt (Nat.lt_succ_of_lt (by walk_at "my fact")) | exact Nat.ne_of_gt (Nat.lt_succ_of_lt (by walk_at "my fact")) | (walk_say "NE by omega"; omega))
  k_with "my side" => ((with_reducible ((repeat' (refine And.intro ?_ ?_)) <;> first | exact trivial | assumption | (walk_at "my arith"))))
  k_with "my arith" => (first
        | ((show IntMulOk _ _); first | exact PySem.IntMulOk.of_right (PySem.intBits_le_64 (by decide) (by decide)) | exact PySem.IntMulOk.of_left (PySem.intBits_le_64 (by decide) (by decide)) | exact PySem.IntMulOk.of_right (PySem.intBits_le_64 (by omega) (by omega)) | exact PySem.IntMulOk.of_left (PySem.intBits_le_64 (by omega) (by omega)) | mul_fits)
        | ((show Builtin.divisionGoesByPylong _ _ = false); first | exact PyProof.noPylong_of_log2 (by decide +kernel) | exact PyProof.noPylong_small (by omega))
        | omega
        | decide)
  k_with "my no" => (first | with_reducible exact False.elim p9w | with_reducible exact absurd trivial p9w | with_reducible exact absurd rfl p9w | (law_purse 20000 => omega))
  k_with "execs cons" => ((k_here; (first
        | ((with_reducible show wpAny _ _ (execs (Stmt.Return (some _) _ :: _) _) _ _ _); (fail_if_success (with_reducible show wpAny _ _ (execs (Stmt.Return (some (Expr.Tuple _ _ _)) _ :: _) _) _ _ _)); (fail_if_success (with_reducible show wpAny _ _ (execs (Stmt.Return (some (Expr.List _ _)) _ :: _) _) _ _ _)); (fail_if_success (with_reducible show wpAny _ _ (execs (Stmt.Return (some (Expr.Dict _ _ _)) _ :: _) _) _ _ _)); k_dflt ((with_reducible refine' st_retE ?hev11 ?Fv11 ?Xv11 ?Tv11 (fun t => ?ev11) ?hkv11 ?hcv11 (fun t9w tk9w => ?_))); (case hev11 => k_dflt (exact rfl)); (case Fv11 => k_asm); (case Xv11 => k_asm); (case Tv11 => k_asm); (case ev11 => k_dflt (exact rfl)); (case hkv11 => k_dflt (exact rfl)); (case hcv11 => walk_at "my side"); (try dsimp only))
        | ((with_reducible show wpAny _ _ (execs (Stmt.If _ _ [] _ :: _) _) _ _ _); k_dflt ((with_reducible refine' st_if0E ?hev11 ?Fv11 ?Xv11 ?Tv11 ?ev11 ?hkv11 ?hcv11 (fun p9w tk9w => ?_) (fun p9w tk9w => ?_))); (case hev11 => k_dflt (exact rfl)); (case Fv11 => k_asm); (case Xv11 => k_asm); (case Tv11 => k_asm); (case ev11 => k_dflt (exact rfl)); (case hkv11 => k_dflt (exact rfl)); (case hcv11 => walk_at "my side"); all_goals first | (exfalso; walk_at "my no") | (try dsimp only))
        | ((with_reducible show wpAny _ _ (execs (Stmt.If _ _ (_ :: _) _ :: _) _) _ _ _); k_dflt ((with_reducible refine' st_ifE ?hev11 ?Fv11 ?Xv11 ?Tv11 ?ev11 ?hkv11 ?hcv11 (fun p9w tk9w => ?_) (fun p9w tk9w => ?_))); (case hev11 => k_dflt (exact rfl)); (case Fv11 => k_asm); (case Xv11 => k_asm); (case Tv11 => k_asm); (case ev11 => k_dflt (exact rfl)); (case hkv11 => k_dflt (exact rfl)); (case hcv11 => walk_at "my side"); all_goals first | (exfalso; walk_at "my no") | (try dsimp only))
        | ((with_reducible show wpAny _ _ (execs (Stmt.Assign [Expr.Name _ _] _ _ :: _) _) _ _ _); k_dflt ((with_reducible refine' st_assignE ?hev11 ?Fv11 ?Nv11 ?Xv11 ?Tv11 (fun t => ?ev11) ?hkv11 ?hxv11 ?hsv11 ?hcv11 (fun t9w tk9w h9w => ?_))); (case hev11 => k_dflt (exact rfl)); (case Fv11 => k_asm); (case Nv11 => k_asm); (case Xv11 => k_asm); (case Tv11 => k_asm); (case ev11 => k_dflt (exact rfl)); (case hkv11 => k_dflt (exact rfl)); (case hxv11 => k_dflt (exact rfl)); (case hsv11 => k_dflt (exact rfl)); (case hcv11 => walk_at "my side"); intro m9w F9w N9w; (try k_sweep); (try dsimp only)))))
  k_with "eval BinOp" => ((k_here; k_dflt ((with_reducible refine' ev_peE ?hev12 ?Fv12 ?Xv12 ?Tv12 (fun t => ?ev12) ?hkv12 ?hcv12 (fun t9w tk9w => ?_)); (case hev12 => k_dflt (exact rfl)); (case Fv12 => k_asm); (case Xv12 => k_asm); (case Tv12 => k_asm); (case ev12 => k_dflt (exact rfl)); (case hkv12 => k_dflt (exact rfl)); (case hcv12 => walk_at "my side")); (try dsimp only)))
  k_with "eval IfExp" => ((k_here; k_dflt ((with_reducible refine' ev_ifE ?hev13 ?Fv13 ?Xv13 ?Tv13 ?ev13 ?hkv13 ?hcv13 (fun p9w tk9w => ?_) (fun p9w tk9w => ?_)); (case hev13 => k_dflt (exact rfl)); (case Fv13 => k_asm); (case Xv13 => k_asm); (case Tv13 => k_asm); (case ev13 => k_dflt (exact rfl)); (case hkv13 => k_dflt (exact rfl)); (case hcv13 => walk_at "my side"); all_goals first | (exfalso; walk_at "my no") | (try dsimp only))))
  k_with "eval Call" => ((k_here; (with_reducible show wpAny _ _ (eval (Expr.Call (Expr.Name _ _) (_ :: _) [] _) _) _ _ _); k_dflt ((with_reducible refine' ev_callE ?hev14 ?Fv14 ?Xv14 ?Tv14 ?efv14 ?hfv14 (fun t => ?eav14) ?hkv14 ?hcv14 (fun t9w tk9w => ?_)); (case hev14 => k_dflt (exact rfl)); (case Fv14 => k_asm); (case Xv14 => k_asm); (case Tv14 => k_asm); (case efv14 => k_dflt (exact rfl)); (case hfv14 => k_dflt (exact rfl)); (case eav14 => k_dflt (exact rfl)); (case hkv14 => k_dflt (exact rfl)); (case hcv14 => walk_at "my side"))))
  k_with "my nm" => ((k_dflt (refine' nm_ok ?Fv15 ?Xv15 ?Tv15 ?hkv15); (case Fv15 => k_asm); (case Xv15 => k_asm); (case Tv15 => k_asm); (case hkv15 => k_dflt (exact rfl))))
  k_with "spliced" => ((k_here; (with_reducible show wpAny _ _ (spliced (backTo _ (starEach (_ :: _) _))) _ _ _); (fail_if_success (with_reducible show wpAny _ _ (spliced (backTo _ (starEach (_ :: _ :: _ :: _ :: _ :: _ :: _ :: _) _))) _ _ _)); k_dflt ((with_reducible refine' xe_all ?hnv16 (fun tk => ?ev16) ?hcv16 (fun tk9w k9w => ?_))); (case hnv16 => walk_at "my nm"); (case ev16 => k_dflt (exact rfl)); (case hcv16 => walk_at "my side"); (try dsimp only [List.cons_append, List.nil_append])))
  k_with "storeName" => ((k_here; k_dflt ((with_reducible refine' st_storeE ?hev17 ?Fv17 ?Nv17 (fun tk9w h9w => ?_) ?hkv17 ?hxv17)); (case hev17 => k_dflt (exact rfl)); (case Fv17 => k_asm); (case Nv17 => k_asm); (case hkv17 => k_dflt (exact rfl)); (case hxv17 => k_dflt (exact rfl)); intro m9w F9w N9w; (try k_sweep); (try dsimp only)))
  k_with "call ref" => ((k_here; k_dflt (refine' hexv_c ?kSv18 (fun hv9w h9w tk9w F9w N9w => ?_) (fun v9w t9w hv9w h9w tk9w F9w N9w => ?_); (case kSv18 => walk_at "my site")); all_goals ((try dsimp only); (try k_fold))))
  k_with "call ref" => ((k_here; k_dflt (refine' figs_c ?kbv21 ?klv21 ?kSv21 (fun hv9w h9w tk9w F9w N9w => ?_) (fun v9w t9w hv9w h9w tk9w F9w N9w => ?_); (case kbv21 => kba_ints2); (case klv21 => kba_size); (case kSv21 => walk_at "my site")); all_goals ((try dsimp only); (try k_fold))))
  k_with "pyIter ref" => (((with_reducible show wpAny _ _ (pyIter (Value.ref _)) (fun it s₂ => LoopAtV _ _ _ _ _ _ _ _ _ it s₂) _ _); (rename Fr _ _ _ _ => lF'); (rename News _ _ _ _ => lN'); (with_unfolding_all refine iter_tupleUnr (by rfl) lF' lN' (by k_mem) ?_); clear lF' lN'; intro i' l1; (try k_lt l1)))
  k_with "TupRest" => ((with_unfolding_all first | (refine TupRest.succ (fun it' h' tk' hit' F' N' => ?_)) | (refine TupRest.zero (fun h' tk' F' N' => ?_))))
  k_with "getMethod bytes" => ((k_here; (with_reducible refine method_join ?_)))
  k_with "getMethod bytes" => ((k_here; (with_reducible refine method_split ?_)))
  k_with "my ints" => (first | kba_ints | exact (rfl : KBw.bInts _ = ([47] : List Int)) | exact (rfl : KBw.bInts _ = ([] : List Int)) | kba_ints2)
  k_with "my list" => (first | exact News.isList (by k_asm) (by k_mem) | is_list)
  k_with "call builtin:bytes.join" => ((k_here; k_dflt (first
      | (refine' join3 ?lv28 ?hsv28 ?h1v28 ?h2v28 ?h3v28 ?hzv28 ?_; (case lv28 => walk_at "my list"); (case hsv28 => walk_at "my ints"); (case h1v28 => walk_at "my ints"); (case h2v28 => walk_at "my ints"); (case h3v28 => walk_at "my ints"); (case hzv28 => kba_size))); intro B9w t9w k9w hB9w; (try simp only [List.nil_append, List.cons_append, List.append_assoc] at hB9w)))
  k_with "call ref" => ((k_here; k_dflt (refine' rgb_c ?h1v29 ?h2v29 ?h3v29 ?h4v29 ?h5v29 (fun D9w t9w u9w v9w h9w tk9w o9w F9w N9w => ?_) ?kSv29; (case h1v29 => assumption); (case h2v29 => first | assumption | decide | omega); (case h3v29 => first | assumption | omega); (case h4v29 => first | assumption | omega); (case h5v29 => first | assumption | omega); (case kSv29 => walk_at "my site")); (try simp only [LCg.Off1, and_true] at o9w); (try dsimp only); (try k_fold)))
  k_with "call builtin:bytes.split" => ((k_here; k_dflt (refine' split_call ?h1v30 ?h2v30 ?h3v30 ?h4v30 (fun D9w b1 b2 b3 t1 t2 t3 k1 k2 k3 h9w tk9w hsg e1 e2 e3 z1 z2 z3 F9w N9w l9w => ?_) (fun D9w vs9w h9w tk9w hsg e1 z1 F9w N9w l9w => ?_); (case h1v30 => k_asm); (case h2v30 => k_asm); (case h3v30 => walk_at "my ints"); (case h4v30 => kba_size)); all_goals ((try k_lt l9w); (try simp only [List.length_take, List.length_drop] at z1 z2 z3))))
  k_with "subscriptTail" => ((k_here; (with_reducible show wpAny _ _ (subscriptTail _ _ (Value.bytes _ _) (Value.int _ _)) _ _ _); (first
      | (refine' figs_item (nib_hi ?h1v31 ?h2v31 ?h3v31) ?h4v31 ?h5v31 (fun t9w k9w => ?_); (case h1v31 => assumption); (case h2v31 => omega); (case h3v31 => omega); (case h4v31 => omega); (case h5v31 => omega))
      | (refine' figs_item (nib_lo ?h1v31 ?h2v31 ?h3v31) ?h4v31 ?h5v31 (fun t9w k9w => ?_); (case h1v31 => assumption); (case h2v31 => omega); (case h3v31 => omega); (case h4v31 => omega); (case h5v31 => omega)))))
  k_with "call ref" => ((k_here; k_dflt (refine' figs_cb ?kbv36 ?klv36 ?kSv36 (fun hv9w h9w tk9w F9w N9w => ?_) (fun v9w t9w hv9w lo9w hi9w h9w tk9w F9w N9w => ?_); (case kbv36 => kba_ints2); (case klv36 => kba_size); (case kSv36 => walk_at "my site")); all_goals ((try dsimp only); (try k_fold))))
  k_with "Exists" => ((k_here; (refine made_bytes (by k_asm) (by first | k_asm | exact News.nil) (Top.nolimit (by k_asm)) (by rfl) (of_decide_eq_true (by rfl)) ?_; intro h' o' F' N' l1 lo' hd'; (try k_lt l1))))
  k_with "eval Dict" => ((k_here; (with_reducible refine Dict_made_bytes (by with_unfolding_all rfl) (by with_unfolding_all assumption) (by with_unfolding_all rfl) (by with_unfolding_all rfl) (List.cons_ne_nil _ _) (by with_unfolding_all decide) ?_; intro _)))
  k_with "my enterC" => ((refine wpAny_call ?_; k_dflt (refine' code_defCG ?k1v44 ?k2v44 ?k3v44 ?k4v44 ?k5v44 ?kAv44 ?kFv44 ?kKv44 ?k6v44 ?k7v44 ?k8v44 ?k9wv44 ?kBv44 ?kDv44 ?_ ?c2v44 ?c3v44 ?c4v44; (case kAv44 => exact rfl); (case kFv44 => exact rfl); (case kKv44 => assumption); (case k1v44 => k_asm); (case k2v44 => k_asm); (case k3v44 => k_asm); (case k4v44 => k_asm); (case k5v44 => k_asm); (case k6v44 => k_is); (case k7v44 => k_is); (case k8v44 => ktr_room); (case k9wv44 => exact BindsTo.of_eq rfl); (case kBv44 => exact rfl); (case kDv44 => decide +kernel); (case c2v44 => exact rfl); (case c3v44 => exact rfl); (case c4v44 => exact rfl); k_whole)))
  k_with "my pull" => (first | exact Pull.head | (refine' Pull.tail ?ptlv49; (case ptlv49 => walk_at "my pull")))
  k_with "my off" => (((try simp only [LCg.Off1, and_true]); (repeat' (refine And.intro ?_ ?_)); all_goals first | exact trivial | (walk_at "my ne")))
  k_with "my pow" => (first | omega | exact pow16_pos _ | exact pow16_le (by omega) | decide)
  k_with "call ref" => ((k_here; k_dflt (refine' draw_c ?P1v52 ?P2v52 ?hIv52 ?h1v52 ?h2v52 ?h3v52 ?h4v52 ?h5v52 ?h6v52 ?h7v52 (fun k9w v9w t9w u9w h9w tk9w hk9w lo9w hi9w dv9w F9w N9w => ?_) ?kSv52; (case kSv52 => walk_at "my site"); (case P1v52 => walk_at "my pull"); (case P2v52 => walk_at "my pull"); (case hIv52 => l_ints); (case h1v52 => first | assumption | omega); (case h2v52 => omega); (case h3v52 => omega); (case h4v52 => walk_at "my pow"); (case h5v52 => walk_at "my pow"); (case h6v52 => omega); (case h7v52 => walk_at "my off")); (try dsimp only); (try k_fold)))
  k_with "call ref" => ((k_here; k_dflt (refine' small_c ?kbv61 ?klv61 (fun B9w t9w h9w tk9w hB9w F9w N9w => ?_) ?kSv61; (case kSv61 => walk_at "my site"); (case kbv61 => walk_at "my ints"); (case klv61 => first | assumption | kba_size)); (try dsimp only); (try k_fold)))
  k_with "call ref" => ((k_here; k_dflt (refine' digs_c ?kbv62 ?klv62 (fun hv9w h9w tk9w F9w N9w => ?_) (fun v9w t9w hv9w h9w tk9w F9w N9w => ?_) ?kSv62; (case kSv62 => walk_at "my site"); (case kbv62 => walk_at "my ints"); (case klv62 => first | assumption | kba_size)); all_goals ((try dsimp only); (try k_fold))))
  k_with "call ref" => ((k_here; k_dflt (refine' parts_c ?kb1v63 ?kb2v63 ?kb3v63 ?kl1v63 ?kl2v63 ?kl3v63 ?kDv63 (fun hv9w h9w tk9w F9w N9w => ?_) (fun v9w t9w hv9w h9w tk9w F9w N9w => ?_) ?kSv63; (case kSv63 => walk_at "my site"); (case kDv63 => k_mem); (case kb1v63 => assumption); (case kb2v63 => assumption); (case kb3v63 => assumption); (case kl1v63 => first | assumption | omega); (case kl2v63 => first | assumption | omega); (case kl3v63 => first | assumption | omega)); all_goals ((try dsimp only); (try k_fold))))
  k_with "call ref" => ((k_here; k_dflt (refine' names_c (fun D9w o9w kvs9w h9w tk9w off9w lo9w hd9w ht9w F9w N9w => ?_) ?kSv64; (case kSv64 => walk_at "my site")); (try simp only [LCg.Off1, and_true] at off9w); (try dsimp only); (try k_fold)))
  k_with "call ref" => ((k_here; k_dflt (refine' lnames_c (fun D9w o9w kvs9w h9w tk9w off9w lo9w hd9w ht9w F9w N9w => ?_) ?kSv65; (case kSv65 => walk_at "my site")); (try simp only [LCg.Off1, and_true] at off9w); (try dsimp only); (try k_fold)))
  k_with "getMethod ref" => ((k_here; kda_here; (with_reducible show wpAny _ _ (getMethod (Value.ref _) (Str.ofString "get") _) _ _ _); k_dflt (refine kdg_method (knd := bytesKind _ _) (by k_asm) (by k_mem) (by k_asm) ?_)))
  k_with "call builtin:dict.get" => ((k_here; kda_here; k_dflt (refine' get_names ?n1v67 ?n2v67 ?n3v67 ?n4v67 ?n5v67 ?n6v67 (fun hv9w t9w => ?_) (fun v9w t9w k9w hv9w => ?_); (case n1v67 => k_asm); (case n2v67 => k_mem); (case n3v67 => k_asm); (case n4v67 => k_asm); (case n5v67 => assumption); (case n6v67 => walk_at "my ints")); all_goals (try dsimp only)))
  k_with "call builtin:len" => ((k_here; (with_reducible show wpAny _ _ (call (Value.builtin "len") [Value.ref _]) _ _ _); k_dflt (refine' len_gen ?n1v68 ?n2v68 ?n3v68 (fun t9w k9w => ?_); (case n1v68 => k_asm); (case n2v68 => k_mem); (case n3v68 => assumption))))
  exact trivial
/-- the two figures that stand for a part -/
noncomputable def pairV : List Int → Int
  | [a] => 16 * a + a
  | a :: b :: _ => 16 * a + b
  | [] => 0
noncomputable def Dig (d : Int) : Prop := 0 ≤ d ∧ d < 16
theorem figs1 {a : Int} (ha : Dig a) : figs [hexfig a] = some a := by
  simp only [figs, figsFold, hexv_hexfig ha.1 ha.2, List.length_cons, List.length_nil]
  simp
theorem figs2 {a b : Int} (ha : Dig a) (hb : Dig b) : figs [hexfig a, hexfig b] = some (a * 16 + b) := by
  simp only [figs, figsFold, hexv_hexfig ha.1 ha.2, hexv_hexfig hb.1 hb.2, List.length_cons, List.length_nil]
  simp
theorem figs3 {a b c : Int} (ha : Dig a) (hb : Dig b) (hc : Dig c) : figs [hexfig a, hexfig b, hexfig c] = some ((a * 16 + b) * 16 + c) := by
  simp only [figs, figsFold, hexv_hexfig ha.1 ha.2, hexv_hexfig hb.1 hb.2, hexv_hexfig hc.1 hc.2, List.length_cons, List.length_nil]
  simp
theorem figs4 {a b c d : Int} (ha : Dig a) (hb : Dig b) (hc : Dig c) (hd : Dig d) : figs [hexfig a, hexfig b, hexfig c, hexfig d] = some (((a * 16 + b) * 16 + c) * 16 + d) := by
  simp only [figs, figsFold, hexv_hexfig ha.1 ha.2, hexv_hexfig hb.1 hb.2, hexv_hexfig hc.1 hc.2, hexv_hexfig hd.1 hd.2, List.length_cons, List.length_nil]
  simp
theorem partV_of {ks : List Int} {v n : Int} (h : figs ks = some v) (hn : (16 : Int) ^ ks.length - 1 = n) (hp : 0 ≤ n) : partV ks = some (v * 65535 / n / 256) := by
  unfold partV
  rw [h]
  dsimp only
  rw [hn, Int.fdiv_eq_ediv_of_nonneg _ (show (0 : Int) ≤ 256 by decide), Int.fdiv_eq_ediv_of_nonneg _ hp]
theorem partV_figs {ds : List Int} (hd : ∀ d ∈ ds, Dig d) (h1 : 1 ≤ ds.length) (h4 : ds.length ≤ 4) : partV (ds.map hexfig) = some (pairV ds) := by
  rcases ds with _ | ⟨a, _ | ⟨b, _ | ⟨c, _ | ⟨e, _ | ⟨f, r⟩⟩⟩⟩⟩
  · simp at h1
  · have ha := hd a (by simp)
    rw [List.map_cons, List.map_nil, partV_of (figs1 ha) (n := 15) (by simp) (by decide)]
    unfold Dig at ha
    simp only [pairV]
    congr 1
    omega
  · have ha := hd a (by simp)
    have hb := hd b (by simp)
    simp only [List.map_cons, List.map_nil]
    rw [partV_of (figs2 ha hb) (n := 255) (by simp) (by decide)]
    unfold Dig at *
    simp only [pairV]
    congr 1
    omega
  · have ha := hd a (by simp)
    have hb := hd b (by simp)
    have hc := hd c (by simp)
    simp only [List.map_cons, List.map_nil]
    rw [partV_of (figs3 ha hb hc) (n := 4095) (by simp) (by decide)]
    unfold Dig at *
    simp only [pairV]
    congr 1
    omega
  · have ha := hd a (by simp)
    have hb := hd b (by simp)
    have hc := hd c (by simp)
    have he := hd e (by simp)
    simp only [List.map_cons, List.map_nil]
    rw [partV_of (figs4 ha hb hc he) (n := 65535) (by simp) (by decide)]
    unfold Dig at *
    simp only [pairV]
    congr 1
    omega
  · simp at h4
theorem hexfig_in {ds : List Int} (hd : ∀ d ∈ ds, Dig d) : ∀ x ∈ ds.map hexfig, 48 ≤ x ∧ x ≤ 102 ∧ ¬ (58 ≤ x ∧ x ≤ 96) := by
  intro x hx
  obtain ⟨d, h, rfl⟩ := List.mem_map.mp hx
  exact hexfig_range (hd d h).1 (hd d h).2
theorem no_slash {ds : List Int} (hd : ∀ d ∈ ds, Dig d) : (47 : Int) ∉ ds.map hexfig := fun h => by
  have := hexfig_in hd _ h
  omega
noncomputable def rgbHead : List Int := [114, 103, 98, 58]
theorem octV_rgb {r : List Int} : octV (rgbHead ++ r) = octP (rgbHead ++ r) := by
  unfold octV rgbHead
  rw [if_pos (by simp)]
theorem octV_rgb3 {d1 d2 d3 : List Int} (h1 : ∀ d ∈ d1, Dig d) (h2 : ∀ d ∈ d2, Dig d) (h3 : ∀ d ∈ d3, Dig d) (l1 : 1 ≤ d1.length ∧ d1.length ≤ 4) (l2 : 1 ≤ d2.length ∧ d2.length ≤ 4) (l3 : 1 ≤ d3.length ∧ d3.length ≤ 4) :
    octV (rgbHead ++ (d1.map hexfig ++ ([47] ++ (d2.map hexfig ++ ([47] ++ d3.map hexfig))))) = some ((pairV d1 * 256 + pairV d2) * 256 + pairV d3) := by
  rw [octV_rgb]
  unfold octP
  rw [show List.drop 4 (rgbHead ++ (d1.map hexfig ++ ([47] ++ (d2.map hexfig ++ ([47] ++ d3.map hexfig))))) = d1.map hexfig ++ 47 :: (d2.map hexfig ++ 47 :: d3.map hexfig) by simp [rgbHead]]
  rw [segs_free _ _ _ _ (no_slash h1), segs_free _ _ _ _ (no_slash h2), segs_last _ _ _ (no_slash h3)]
  simp only [List.nil_append]
  unfold partsV
  rw [partV_figs h1 l1.1 l1.2, partV_figs h2 l2.1 l2.2, partV_figs h3 l3.1 l3.2]
theorem octV_rgb2 {d1 d2 : List Int} (h1 : ∀ d ∈ d1, Dig d) (h2 : ∀ d ∈ d2, Dig d) :
    octV (rgbHead ++ (d1.map hexfig ++ ([47] ++ d2.map hexfig))) = none := by
  rw [octV_rgb]
  unfold octP
  rw [show List.drop 4 (rgbHead ++ (d1.map hexfig ++ ([47] ++ d2.map hexfig))) = d1.map hexfig ++ 47 :: d2.map hexfig by simp [rgbHead]]
  rw [segs_free _ _ _ _ (no_slash h1), segs_last _ _ _ (no_slash h2)]
theorem octV_rgb4 {d1 d2 d3 d4 : List Int} (h1 : ∀ d ∈ d1, Dig d) (h2 : ∀ d ∈ d2, Dig d) (h3 : ∀ d ∈ d3, Dig d) (h4 : ∀ d ∈ d4, Dig d) :
    octV (rgbHead ++ (d1.map hexfig ++ ([47] ++ (d2.map hexfig ++ ([47] ++ (d3.map hexfig ++ ([47] ++ d4.map hexfig))))))) = none := by
  rw [octV_rgb]
  unfold octP
  rw [show List.drop 4 (rgbHead ++ (d1.map hexfig ++ ([47] ++ (d2.map hexfig ++ ([47] ++ (d3.map hexfig ++ ([47] ++ d4.map hexfig))))))) = d1.map hexfig ++ 47 :: (d2.map hexfig ++ 47 :: (d3.map hexfig ++ 47 :: d4.map hexfig)) by simp [rgbHead]]
  rw [segs_free _ _ _ _ (no_slash h1), segs_free _ _ _ _ (no_slash h2), segs_free _ _ _ _ (no_slash h3), segs_last _ _ _ (no_slash h4)]
theorem octV_hash {r : List Int} : octV (35 :: r) = digsV r := by
  unfold octV
  rw [if_neg (by intro h; cases r <;> simp at h), if_pos (by simp)]
  rfl
theorem digV_of {ks : List Int} {m : Nat} {v : Int} (h : figs ks = some v) : digV m ks = some (v * 2 ^ (16 - 4 * m) / 256) := by
  unfold digV
  rw [h]
  dsimp only
  rw [Int.fdiv_eq_ediv_of_nonneg _ (show (0 : Int) ≤ 256 by decide)]
theorem digs_no_len {ks : List Int} (h : ¬ (ks.length = 3 ∨ ks.length = 6 ∨ ks.length = 9 ∨ ks.length = 12)) : digsV ks = none := if_neg h
/-- no capital, no blank -/
noncomputable def Safe (ks : List Int) : Prop := ∀ x ∈ ks, x ≠ 32 ∧ ¬ (65 ≤ x ∧ x ≤ 90)
theorem Safe.app {a b : List Int} (ha : Safe a) (hb : Safe b) : Safe (a ++ b) := fun x hx => (List.mem_append.mp hx).elim (ha x) (hb x)
theorem safe_figs {ds : List Int} (hd : ∀ d ∈ ds, Dig d) : Safe (ds.map hexfig) := fun x hx => by
  have := hexfig_in hd x hx
  omega
theorem small_safe : ∀ {ks l : List Int}, Safe ks → ks.foldl smallG l = l ++ ks
  | [], l, _ => by simp
  | k :: ks, l, h => by
    have hk := h k (List.mem_cons_self ..)
    rw [List.foldl_cons, smallG_id hk.1 hk.2, small_safe fun x hx => h x (List.mem_cons_of_mem _ hx)]
    simp
theorem nib_split {v : Int} (h0 : 0 ≤ v) (h1 : v < 16777216) : ∃ r g b r1 r0 g1 g0 b1 b0 : Int, v = 16777216 * 0 + 65536 * r + 256 * g + b ∧ r = 16 * r1 + r0 ∧ g = 16 * g1 + g0 ∧ b = 16 * b1 + b0 ∧ Dig r1 ∧ Dig r0 ∧ Dig g1 ∧ Dig g0 ∧ Dig b1 ∧ Dig b0 := by
  refine ⟨v / 65536, v / 256 % 256, v % 256, v / 65536 / 16, v / 65536 % 16, v / 256 % 256 / 16, v / 256 % 256 % 16, v % 256 / 16, v % 256 % 16, ?_, ?_, ?_, ?_, ?_, ?_, ?_, ?_, ?_, ?_⟩ <;> (try unfold Dig) <;> omega
theorem octV_back {v r g b r1 r0 g1 g0 b1 b0 : Int} (hv : v = 16777216 * 0 + 65536 * r + 256 * g + b) (hr : r = 16 * r1 + r0) (hg : g = 16 * g1 + g0) (hb : b = 16 * b1 + b0) (q1 : Dig r1) (q2 : Dig r0) (q3 : Dig g1) (q4 : Dig g0) (q5 : Dig b1) (q6 : Dig b0) :
    octV ((rgbOct r1 r0 g1 g0 b1 b0).foldl smallG []) = some v ∧ (rgbOct r1 r0 g1 g0 b1 b0).length ≤ 100 := by
  have all : ∀ {x y : Int}, Dig x → Dig y → ∀ d ∈ [x, y, x, y], Dig d := by
    intro x y hx hy d hd
    simp only [List.mem_cons, List.not_mem_nil, or_false] at hd
    rcases hd with rfl | rfl | rfl | rfl <;> assumption
  have e : rgbOct r1 r0 g1 g0 b1 b0 = rgbHead ++ ([r1, r0, r1, r0].map hexfig ++ ([47] ++ ([g1, g0, g1, g0].map hexfig ++ ([47] ++ [b1, b0, b1, b0].map hexfig)))) := rfl
  have hs : Safe (rgbOct r1 r0 g1 g0 b1 b0) := by
    rw [e]
    refine Safe.app (by intro x hx; revert x hx; unfold rgbHead; decide) (Safe.app (safe_figs (all q1 q2)) (Safe.app (by unfold Safe; decide) (Safe.app (safe_figs (all q3 q4)) (Safe.app (by unfold Safe; decide) (safe_figs (all q5 q6))))))
  refine ⟨?_, by simp [rgbOct]⟩
  rw [small_safe hs, List.nil_append, e, octV_rgb3 (all q1 q2) (all q3 q4) (all q5 q6) ⟨by simp, by simp⟩ ⟨by simp, by simp⟩ ⟨by simp, by simp⟩]
  simp only [pairV]
  congr 1
  omega

theorem set47 : True := by
  w_top off
  exact trivial
section
variable {prog : Program} {w : World} {A : Around} {E : Value → Shared → Prop} {s : Shared} {value slice : Expr} {h₀ : Heap} {L : Addr} {m : Str → Option Value} {news : List (Addr × Obj)} {k : Int} {u : Tok} {Q : Value → Shared → Prop}
theorem tup_any {t : Addr} {l : List Value} (ht : IsTup s.heap t l.toArray) (h0 : 0 ≤ k) (h1 : k < (l.length : Int)) (hz : l.length ≤ 1000) (h : ∀ x, l[k.toNat]? = some x → Q x s)
    (hs : subscripted slice false (.ref t) (.int k u) = operate [.ref t, .int k u] (getItem (.ref t) (.int k u)) := by with_unfolding_all rfl) :
    wpAny (model prog w) A (subscriptTail value slice (.ref t) (.int k u)) Q E s := by
  have hlt : k.toNat < l.length := by omega
  have hn : ¬ k < 0 := by omega
  have a1 : -(2 ^ 63) ≤ k := by omega
  have a2 : k < 2 ^ 63 := by omega
  have a3 : seqIndex? k l.length = some k.toNat := by simp [seqIndex?, hn, h0, h1]
  exact item_tupleT (j := k.toNat) (x := l[k.toNat]) ht a1 a2 a3 (by simp [hlt]) (h _ (by simp [hlt])) hs
theorem menu_many {t : Addr} {t1 t2 t3 t4 t5 : Tok} (ht : IsTup s.heap t #[.int 3 t1, .int 3 t2, .int 3 t3, .int 2 t4, .int 4 t5]) (h0 : 0 ≤ k) (h1 : k < 5) (h3 : k ≤ 2 → ∀ t, Q (.int 3 t) s) (h2 : k = 3 → ∀ t, Q (.int 2 t) s) (h4 : k = 4 → ∀ t, Q (.int 4 t) s)
    (hs : subscripted slice false (.ref t) (.int k u) = operate [.ref t, .int k u] (getItem (.ref t) (.int k u)) := by with_unfolding_all rfl) :
    wpAny (model prog w) A (subscriptTail value slice (.ref t) (.int k u)) Q E s := by
  refine tup_any (l := [.int 3 t1, .int 3 t2, .int 3 t3, .int 2 t4, .int 4 t5]) ht h0 (by simpa using h1) (by simp) (fun x hx => ?_) hs
  obtain ⟨n, hn⟩ : ∃ n : Nat, k.toNat = n := ⟨_, rfl⟩
  have hn5 : n < 5 := by omega
  rw [hn] at hx
  have : n = 0 ∨ n = 1 ∨ n = 2 ∨ n = 3 ∨ n = 4 := by omega
  rcases this with rfl | rfl | rfl | rfl | rfl <;> cases hx
  · exact h3 (by omega) _
  · exact h3 (by omega) _
  · exact h3 (by omega) _
  · exact h2 (by omega) _
  · exact h4 (by omega) _
theorem menu_sfx {t : Addr} {t1 t2 t3 : Tok} (ht : IsTup s.heap t #[.bytes #[] t1, .bytes #[] t2, .bytes #[115] t3]) (h0 : 0 ≤ k) (h1 : k < 3) (hE : ∀ t, Q (.bytes #[] t) s) (hs' : ∀ t, Q (.bytes #[115] t) s)
    (hs : subscripted slice false (.ref t) (.int k u) = operate [.ref t, .int k u] (getItem (.ref t) (.int k u)) := by with_unfolding_all rfl) :
    wpAny (model prog w) A (subscriptTail value slice (.ref t) (.int k u)) Q E s := by
  refine tup_any (l := [.bytes #[] t1, .bytes #[] t2, .bytes #[115] t3]) ht h0 (by simpa using h1) (by simp) (fun x hx => ?_) hs
  obtain ⟨n, hn⟩ : ∃ n : Nat, k.toNat = n := ⟨_, rfl⟩
  have hn5 : n < 3 := by omega
  rw [hn] at hx
  have : n = 0 ∨ n = 1 ∨ n = 2 := by omega
  rcases this with rfl | rfl | rfl <;> cases hx
  · exact hE _
  · exact hE _
  · exact hs' _
theorem name_item {D : Addr} {vs : List Value} {n : Nat} {tab : List (List Int × Int)} (N : News h₀ L s.heap news) (hm : (D, W.listOf vs.toArray n) ∈ news) (hv : ∀ v ∈ vs, ∃ b t, v = .bytes b t ∧ KBw.bInts b ∈ tab.map (·.1)) (h0 : 0 ≤ k) (h1 : k < (vs.length : Int)) (hz : vs.length ≤ 1000)
    (h : ∀ B t kn, KBw.bInts B = kn → kn ∈ tab.map (·.1) → Q (.bytes B t) s)
    (hs : subscripted slice false (.ref D) (.int k u) = operate [.ref D, .int k u] (getItem (.ref D) (.int k u)) := by with_unfolding_all rfl) :
    wpAny (model prog w) A (subscriptTail value slice (.ref D) (.int k u)) Q E s := by
  have hlt : k.toNat < vs.length := by omega
  have hl : s.heap.IsList D vs.toArray := PySem.IsL.isList (n := n) (N _ hm).1
  obtain ⟨b, t, e, hb⟩ := hv _ (List.getElem_mem hlt)
  exact tail_any hl.typeIs slot_list_getitem.lookup (wpAny_getItem_list (x := .bytes b t) hl h0 (by omega) (by simp [hlt, e]) (h b t _ rfl hb)) hs
noncomputable def bents : List (List Int) := [[], [114, 103, 98, 58], [114, 103, 98, 58, 49, 47, 47, 50], [35], [114, 103, 98, 58, 49, 47, 50, 47, 103], [114, 103, 98, 58, 49, 9, 47, 50, 47, 51], [35, 49, 50, 103], [114, 103, 98, 49, 47, 50, 47, 51], [114, 103, 98, 58, 49, 50, 51, 52, 53, 47, 49, 47, 49], [114, 101, 9, 100]]
theorem bent_item {K : Frag} {t : Addr} {l : List Value} {n : Nat} {tab : List (List Int)} (X : K.In h₀) (F : Fr h₀ L s.heap m) (ho : K.lookup t = some { cls := .type "tuple", data := .seq l.toArray n }) (h0 : 0 ≤ k) (h1 : k < (l.length : Int)) (hz : l.length ≤ 1000)
    (hv : ∀ v ∈ l, ∃ b t, v = .bytes b t ∧ KBw.bInts b ∈ tab) (h : ∀ B t kn, KBw.bInts B = kn → kn ∈ tab → Q (.bytes B t) s)
    (hs : subscripted slice false (.ref t) (.int k u) = operate [.ref t, .int k u] (getItem (.ref t) (.int k u)) := by with_unfolding_all rfl) :
    wpAny (model prog w) A (subscriptTail value slice (.ref t) (.int k u)) Q E s := by
  have ht : IsTup s.heap t l.toArray := ⟨_, (X.keeps F.keep) _ _ ho, rfl, n, rfl⟩
  refine tup_any ht h0 h1 hz (fun x hx => ?_) hs
  obtain ⟨b, tt, e, hb⟩ := hv x (List.mem_of_getElem? hx)
  rw [e]
  exact h b tt _ rfl hb
/-- the first and the second figure of a pair -/
noncomputable def hiF (ds : List Int) : Int := ds.headD 0
noncomputable def loF (ds : List Int) : Int := if ds.length = 1 then ds.headD 0 else (ds.drop 1).headD 0
noncomputable def PairP (h₀ : Heap) (L : Addr) (m : Str → Option Value) (s : Shared) (news : List (Addr × Obj)) (ds : List Int) (v : Value) (s' : Shared) : Prop :=
  ∃ B' t' h' k, v = .bytes B' t' ∧ s' = { s with heap := h', toks := k } ∧ Fr h₀ L h' m ∧ News h₀ L h' news ∧ KBw.bInts B' = [hexfig (hiF ds), hexfig (loF ds)]
theorem pair_join {M : Model} {B : Array UInt8} {t : Tok} {ds : List Int} {x : Str} {mm : Str → Option Value} (hx_ : mm x = some (.bytes B t)) (hB_ : KBw.bInts B = ds.map hexfig) (F_ : Fr h₀ L s.heap m) (N_ : News h₀ L s.heap news) {T : Sem Value} (h1 : wpAny M A T (PairP h₀ L m s news ds) E s)
    (h2 : ∀ B' t' h' k, KBw.bInts B' = [hexfig (hiF ds), hexfig (loF ds)] → Fr h₀ L h' m → News h₀ L h' news → Q (.bytes B' t') { s with heap := h', toks := k }) : wpAny M A T Q E s :=
  wpAny_mono h1 (fun v s' ⟨B', t', h', k, e1, e2, F', N', hb⟩ => by rw [e1, e2]; exact h2 B' t' h' k hb F' N') fun _ _ e => e
theorem pair_one {ds : List Int} (h : ds.length = 1) : ds.map hexfig ++ ds.map hexfig = [hexfig (hiF ds), hexfig (loF ds)] := by
  rcases ds with _ | ⟨a, _ | ⟨b, r⟩⟩ <;> simp at h
  rfl
theorem pair_two {ds : List Int} (h1 : 1 ≤ ds.length) (h : ds.length ≠ 1) : List.take (clipAt (ds.map hexfig).length 2) (ds.map hexfig) = [hexfig (hiF ds), hexfig (loF ds)] := by
  rw [show (2 : Int) = ((2 : Nat) : Int) from rfl, pre_eq 2]
  rcases ds with _ | ⟨a, _ | ⟨b, r⟩⟩
  · simp at h1
  · simp at h
  · simp [hiF, loF]
theorem pairV_hilo {ds : List Int} (h1 : 1 ≤ ds.length) : pairV ds = 16 * hiF ds + loF ds := by
  rcases ds with _ | ⟨a, _ | ⟨b, r⟩⟩
  · simp at h1
  · simp [pairV, hiF, loF]
  · simp [pairV, hiF, loF]
theorem hilo_dig {ds : List Int} (hd : ∀ d ∈ ds, 0 ≤ d ∧ d < 16) : Dig (hiF ds) ∧ Dig (loF ds) := by
  rcases ds with _ | ⟨a, _ | ⟨b, r⟩⟩
  · exact ⟨by unfold Dig hiF; decide, by unfold Dig loF; decide⟩
  · have := hd a (by simp)
    exact ⟨this, this⟩
  · refine ⟨hd a (by simp), ?_⟩
    have e : loF (a :: b :: r) = b := by simp [loF]
    rw [e]
    exact hd b (by simp)
end
theorem names_ok : ∀ kn ∈ namesTab.map (·.1), ∀ sfx ∈ ([[], [115]] : List (List Int)), octV (kn ++ sfx) = lookB (kn ++ sfx) namesTab ∧ (kn ++ sfx).length ≤ 40 ∧ (kn ++ sfx).all (fun x => x != 32 && !(decide (65 ≤ x) && decide (x ≤ 90))) = true ∧ (match lookB (kn ++ sfx) namesTab with | some v => decide (0 ≤ v ∧ v < 16777216) | none => true) = true := by decide +kernel
theorem bents_ok : ∀ kn ∈ bents, octV kn = none ∧ kn.length ≤ 40 ∧ kn.all (fun x => x != 32 && !(decide (65 ≤ x) && decide (x ≤ 90))) = true := by decide +kernel
theorem safe_of_all {ks : List Int} (h : ks.all (fun x => x != 32 && !(decide (65 ≤ x) && decide (x ≤ 90))) = true) : Safe ks := by
  intro x hx
  have := List.all_eq_true.mp h x hx
  simp at this
  omega
section
variable {prog : Program} {w : World} {A : Around} {E : Value → Shared → Prop} {s : Shared} {h₀ : Heap} {L : Addr} {m : Str → Option Value} {env : Env}
/-- a comprehension over a range by steps -/
noncomputable def SrcS (prog : Program) (w : World) (A : Around) (h₀ : Heap) (L : Addr) (m : Str → Option Value) (env : Env) (elt : Expr) (x : Str) (scope : Scope) (cl : List (Str × Addr)) (Fin : Shared → List Value → List (Addr × Obj) → Prop) (xv : Value) (s₁ : Shared) : Prop :=
  ∃ r a b c t u v n news, xv = .ref r ∧ A.handled = none ∧ Fr h₀ L s₁.heap m ∧ News h₀ L s₁.heap news ∧ IsRange s₁.heap r a b c t u v ∧ Builtin.Range.small a b c = true ∧ Builtin.Range.rangeSize a b c = ((n : Nat) : Int) ∧ n ≤ sizeLine ∧
    ∀ s₂ : Shared, (∃ h, s₂ = { s₁ with heap := h }) → LCg.CompRest prog w A h₀ L m env elt x scope cl s₂ (fun _ => True) (fun i v => ∃ t, v = .int (a + (i : Int) * c) t) (Fin s₂) n 0 [] news
theorem SrcS.mk' {elt : Expr} {x : Str} {scope : Scope} {cl : List (Str × Addr)} {Fin : Shared → List Value → List (Addr × Obj) → Prop} {r : Addr} {a b c : Int} {t u v : Tok} {n : Nat} {news : List (Addr × Obj)} {s₁ : Shared}
    (hh : A.handled = none) (F : Fr h₀ L s₁.heap m) (N : News h₀ L s₁.heap news) (hr : IsRange s₁.heap r a b c t u v) (hsm : Builtin.Range.small a b c = true) (hn : Builtin.Range.rangeSize a b c = ((n : Nat) : Int)) (hsz : n ≤ sizeLine)
    (h : ∀ g, LCg.CompRest prog w A h₀ L m env elt x scope cl { s₁ with heap := g } (fun _ => True) (fun i v => ∃ t, v = .int (a + (i : Int) * c) t) (Fin { s₁ with heap := g }) n 0 [] news) :
    SrcS prog w A h₀ L m env elt x scope cl Fin (.ref r) s₁ := ⟨r, a, b, c, t, u, v, n, news, rfl, hh, F, N, hr, hsm, hn, hsz, fun _ ⟨g, e⟩ => e ▸ h g⟩
theorem Assign_ListComp_S {elt iter : Expr} {x y : Str} {px py : Pos} {scope : Scope} {cl : List (Str × Addr)} {pos spos : Pos} {Q : Flow → Shared → Prop} (F₀_ : Fr h₀ L s.heap m) (hLe : env.locals = L)
    (hsw : swapsWith (.ListComp elt [⟨.Name x px, iter, [], 0⟩] scope pos) (some (.Name y py)) spos.line env = pure true)
    (hclos : closureFor scope env = pure cl) (hcell : ∀ z ∈ scope.names, z.2 ≠ .cell) (hkind : scope.kind = .function)
    (hnames : ∀ z ∈ scope.names, z.2 = .local → scope.names.lookup z.1 = some .local) (hx : scope.names.lookup x = some .local)
    (hy : env.kindOf y = some .local) (hp : (env.scope.kind == .class || (env.scope.kind == .module && env.locals != env.globals)) = false)
    (h : wpAny (model prog w) A (eval iter env) (SrcS prog w A h₀ L m env elt x scope cl (fun s₂ => LCg.FinA h₀ L m s₂ y Q)) E s)
    (hs : ∀ x, foldedSetIterable iter env x = pure x := by intro _; rfl) :
    wpAny (model prog w) A (exec (.Assign [.Name y py] (.ListComp elt [⟨.Name x px, iter, [], 0⟩] scope pos) spos) env) Q E s := by
  subst hLe
  rw [exec_Assign_Name_used _ _ _ _ hsw]
  refine wpAny_bind (wpAny_standAt (wpAny_bind ?_))
  show wpAny _ A (do let _ ← comprehension (.ListComp elt [⟨.Name x px, iter, [], 0⟩] scope pos) scope env _ (newList []) false (eval iter env) (some (assign (.Name y py) env))) _ _ s
  refine wpAny_bind (wpAny_mono (wpAny_comprehension_free (use := some (assign (.Name y py) env)) (Q := fun _ s' => Q .next s') rfl hs hclos hkind hnames
    (wpAny_mono h (fun xv s₁ h₁ => ?_) fun _ _ e => e)) (fun _ s' hq => wpAny_pure (wpAny_pure hq)) fun _ _ e => e)
  obtain ⟨r, a, b, c, t, u, v, n, news, rfl, hh, F, N, hr, hsm, hn, hsz, R⟩ := h₁
  refine wpAny_pyIter_range hr hsm ?_
  refine LCg.block_U (Walks.range hh s₁.heap.objs.size a c n) hsz (fun i h st => ⟨_, st⟩) (fun i h h' o nw st e e' _ _ _ => by
      have st' : h.get? s₁.heap.objs.size = some _ := st
      show h'.get? s₁.heap.objs.size = some _
      rw [e', ← e]; exact st') hcell hkind hx (by show IsRangeIter _ _ _ _ _; rw [hn]; simpa using Heap.get?_push_size _ rfl) (fun b hb => ?_)
    (F.keeps fun _ _ e => Heap.get?_push_of_some _ e) (N.grown fun _ _ e => Heap.get?_push_of_some _ e) (Nat.ne_of_lt F.ns.lt) (next_is_new F) (fun p hp => Nat.ne_of_lt (Heap.lt_size (N p hp).1)) trivial (R _ ⟨_, rfl⟩) ?_
  · rw [List.mem_singleton.mp hb]
    show s₁.heap.objs.size < (s₁.heap.push _).objs.size
    rw [Heap.size_push]; exact Nat.lt_succ_self _
  · intro D C h' tk m' ys news' F' N' o1 hn' hC₀ hD₀ hCL hDL hCD offC fin
    show wpAny _ A (assign (.Name y py) env (.ref D)) _ _ _
    refine wpAny_assign_Name (wpAny_storeName_local hy F'.ns (fun h₂ hn₂ hs₂ => ?_) hp)
    have hL₀ : h₀.get? env.locals = none := Heap.get?_none_of_le F'.above
    have F₂ : Fr h₀ env.locals h₂ (fun z => if z = y then some (.ref D) else m z) := ⟨hn₂, fun b o e => hs₂.extBut b o (fun q => by rw [q, hL₀] at e; cases e) (F'.keep b o e), F'.above⟩
    refine ⟨m', hn'.sameBut hs₂ hCL, fun h'' hs'' => fin D h'' _ (F₂.change hs'' hCL hC₀) (fun p hp => ?_) o1⟩
    have z : h₂.get? p.1 = some p.2 := hs₂.extBut _ _ (N' p hp).2.1 (N' p hp).1
    refine ⟨hs''.extBut _ _ ?_ z, (N' p hp).2⟩
    rcases List.mem_cons.mp hp with rfl | hp
    · exact Ne.symm hCD
    · exact offC p hp
end
theorem names_len : ∀ kn ∈ namesTab.map (·.1), kn.length ≤ 20 := by decide
theorem add_name {prog : Program} {w : World} {A : Around} {E : Value → Shared → Prop} {s : Shared} {b c : Array UInt8} {t u : Tok} {Q : Value → Shared → Prop} {kn ls : List Int} (hb : KBw.bInts b = kn) (hc : KBw.bInts c = ls) (hk : kn ∈ namesTab.map (·.1)) (hl : ls.length ≤ 1)
    (h : ∀ t' k, KBw.bInts (b ++ c) = kn ++ ls → Q (.bytes (b ++ c) t') { s with toks := k }) : wpAny (model prog w) A (binaryOp .Add (.bytes b t) (.bytes c u)) Q E s :=
  KBa.add_K hb hc (by have := names_len kn hk; omega) h
/-- what a told row of octets answers -/
structure ToldEnds (h₀ : Heap) (L : Addr) (m : Str → Option Value) (news rest : List (Addr × Obj)) (pa b : Addr) (n nb : Nat) (vs : List Value) (k : Int) (s : Shared) (Q : Value → Shared → Prop) : Prop where
  none : ∀ (k' : Int) (D : Addr) (B : Array UInt8) (tb t' : Tok) (ks : List Int) (h' : Heap) (tk' : Nat), k ≤ k' → k' ≤ k + 20 → KBw.bInts B = ks → Safe ks → ks.length ≤ 40 → octV ks = Option.none → LCg.Off1 D news → Fr h₀ L h' m → News h₀ L h' ((D, tupOf #[.bytes B tb, .none]) :: (pa, W.listOf #[.ref b, .int k' t'] n) :: (b, W.listOf vs.toArray nb) :: rest) → Q (.ref D) { s with heap := h', toks := tk' }
  some : ∀ (k' v : Int) (tv : Tok) (D : Addr) (B : Array UInt8) (tb t' : Tok) (ks : List Int) (h' : Heap) (tk' : Nat), k ≤ k' → k' ≤ k + 20 → KBw.bInts B = ks → Safe ks → ks.length ≤ 40 → octV ks = Option.some v → 0 ≤ v → v < 16777216 → LCg.Off1 D news → Fr h₀ L h' m → News h₀ L h' ((D, tupOf #[.bytes B tb, .int v tv]) :: (pa, W.listOf #[.ref b, .int k' t'] n) :: (b, W.listOf vs.toArray nb) :: rest) → Q (.ref D) { s with heap := h', toks := tk' }
theorem notin2 {D pa b : Addr} {o o' : Obj} (h : @LT.lt Nat _ pa D) (h' : @LT.lt Nat _ b D) : D ∉ [(pa, o), (b, o')].map (·.1) := by
  simp only [List.map_cons, List.map_nil, List.mem_cons, List.not_mem_nil, or_false, not_or]
  exact ⟨Nat.ne_of_gt h, Nat.ne_of_gt h'⟩
theorem sfx_none {kn : List Int} {c : Array UInt8} (h : kn ∈ namesTab.map (·.1)) (hv : lookB (kn ++ KBw.bInts c) namesTab = none) (hc : KBw.bInts c ∈ ([[], [115]] : List (List Int))) : Safe (kn ++ KBw.bInts c) ∧ (kn ++ KBw.bInts c).length ≤ 40 ∧ octV (kn ++ KBw.bInts c) = none := by
  have z := names_ok kn h _ hc
  exact ⟨safe_of_all z.2.2.1, z.2.1, z.1.trans hv⟩
theorem sfx_some {kn : List Int} {c : Array UInt8} {v : Int} (h : kn ∈ namesTab.map (·.1)) (hv : lookB (kn ++ KBw.bInts c) namesTab = some v) (hc : KBw.bInts c ∈ ([[], [115]] : List (List Int))) : Safe (kn ++ KBw.bInts c) ∧ (kn ++ KBw.bInts c).length ≤ 40 ∧ octV (kn ++ KBw.bInts c) = some v ∧ 0 ≤ v ∧ v < 16777216 := by
  have z := names_ok kn h _ hc
  have y := z.2.2.2
  rw [hv] at y
  have y' := of_decide_eq_true y
  exact ⟨safe_of_all z.2.2.1, z.2.1, z.1.trans hv, y'.1, y'.2⟩
theorem hash_safe {ds : List Int} (hd : ∀ d ∈ ds, Dig d) : Safe (35 :: ds.map hexfig) := fun x hx => by
  rcases List.mem_cons.mp hx with rfl | hx
  · decide
  · exact safe_figs hd x hx
theorem hash_none {ds : List Int} (hd : ∀ d ∈ ds, 0 ≤ d ∧ d < 16) (hl : ds.length ≤ 13) (h : ds.length ≠ 3 ∧ ds.length ≠ 6 ∧ ds.length ≠ 9 ∧ ds.length ≠ 12) : Safe (35 :: ds.map hexfig) ∧ (35 :: ds.map hexfig).length ≤ 40 ∧ octV (35 :: ds.map hexfig) = none := by
  refine ⟨hash_safe hd, by rw [List.length_cons, List.length_map]; omega, ?_⟩
  rw [octV_hash]
  refine digs_no_len ?_
  rw [List.length_map]
  omega
noncomputable def sl (l : List UInt8) : List Int := l.map fun c => (c.toNat : Int)
theorem rgb_safe {r : List Int} (h : Safe r) : Safe (rgbHead ++ r) := Safe.app (by intro x hx; revert x hx; unfold rgbHead; decide) h
theorem slash_safe {ds r : List Int} (hd : ∀ d ∈ ds, Dig d) (h : Safe r) : Safe (ds.map hexfig ++ ([47] ++ r)) := Safe.app (safe_figs hd) (Safe.app (by unfold Safe; decide) h)
theorem rgb2_none {X d1 d2 : List Int} (hX : X = sl [114, 103, 98, 58] ++ (d1.map hexfig ++ (sl [47] ++ d2.map hexfig))) (h1 : ∀ d ∈ d1, 0 ≤ d ∧ d < 16) (h2 : ∀ d ∈ d2, 0 ≤ d ∧ d < 16) (l1 : d1.length ≤ 4) (l2 : d2.length ≤ 4) :
    Safe X ∧ X.length ≤ 40 ∧ octV X = none := by
  replace hX : X = rgbHead ++ (d1.map hexfig ++ ([47] ++ d2.map hexfig)) := hX
  subst hX
  refine ⟨rgb_safe (slash_safe h1 (safe_figs h2)), ?_, octV_rgb2 h1 h2⟩
  simp only [rgbHead, List.length_append, List.length_cons, List.length_nil, List.length_map]; omega
theorem rgb4_none {X d1 d2 d3 d4 : List Int} (hX : X = sl [114, 103, 98, 58] ++ (d1.map hexfig ++ (sl [47] ++ (d2.map hexfig ++ (sl [47] ++ (d3.map hexfig ++ (sl [47] ++ d4.map hexfig))))))) (h1 : ∀ d ∈ d1, 0 ≤ d ∧ d < 16) (h2 : ∀ d ∈ d2, 0 ≤ d ∧ d < 16) (h3 : ∀ d ∈ d3, 0 ≤ d ∧ d < 16) (h4 : ∀ d ∈ d4, 0 ≤ d ∧ d < 16)
    (l1 : d1.length ≤ 4) (l2 : d2.length ≤ 4) (l3 : d3.length ≤ 4) (l4 : d4.length ≤ 4) : Safe X ∧ X.length ≤ 40 ∧ octV X = none := by
  replace hX : X = rgbHead ++ (d1.map hexfig ++ ([47] ++ (d2.map hexfig ++ ([47] ++ (d3.map hexfig ++ ([47] ++ d4.map hexfig)))))) := hX
  subst hX
  refine ⟨rgb_safe (slash_safe h1 (slash_safe h2 (slash_safe h3 (safe_figs h4)))), ?_, octV_rgb4 h1 h2 h3 h4⟩
  simp only [rgbHead, List.length_append, List.length_cons, List.length_nil, List.length_map]; omega
theorem rgb3_some {X d1 d2 d3 : List Int} {v : Int} (hX : X = sl [114, 103, 98, 58] ++ (d1.map hexfig ++ (sl [47] ++ (d2.map hexfig ++ (sl [47] ++ d3.map hexfig))))) (hv : v = 1048576 * hiF d1 + 65536 * loF d1 + 4096 * hiF d2 + 256 * loF d2 + 16 * hiF d3 + loF d3)
    (h1 : ∀ d ∈ d1, 0 ≤ d ∧ d < 16) (h2 : ∀ d ∈ d2, 0 ≤ d ∧ d < 16) (h3 : ∀ d ∈ d3, 0 ≤ d ∧ d < 16) (l1 : 1 ≤ d1.length ∧ d1.length ≤ 4) (l2 : 1 ≤ d2.length ∧ d2.length ≤ 4) (l3 : 1 ≤ d3.length ∧ d3.length ≤ 4) :
    Safe X ∧ X.length ≤ 40 ∧ octV X = some v ∧ 0 ≤ v ∧ v < 16777216 := by
  replace hX : X = rgbHead ++ (d1.map hexfig ++ ([47] ++ (d2.map hexfig ++ ([47] ++ d3.map hexfig)))) := hX
  subst hX
  refine ⟨rgb_safe (slash_safe h1 (slash_safe h2 (safe_figs h3))), ?_, ?_, ?_⟩
  · simp only [rgbHead, List.length_append, List.length_cons, List.length_nil, List.length_map]; omega
  · rw [octV_rgb3 h1 h2 h3 l1 l2 l3, pairV_hilo l1.1, pairV_hilo l2.1, pairV_hilo l3.1]; congr 1; omega
  · have a := hilo_dig h1; have b := hilo_dig h2; have c := hilo_dig h3
    unfold Dig at a b c
    omega

theorem set47x : True := by
  w_top off
  exact trivial
/-- a made list whose values tell the things of a list -/
inductive Are {α : Type} (R : Value → α → Prop) : List Value → List α → Prop
  | nil : Are R [] []
  | cons {v : Value} {x : α} {vs : List Value} {xs : List α} : R v x → Are R vs xs → Are R (v :: vs) (x :: xs)
section
variable {α : Type} {R : Value → α → Prop}
theorem Are.length {vs : List Value} {xs : List α} (h : Are R vs xs) : vs.length = xs.length := by
  induction h with
  | nil => rfl
  | cons _ _ ih => exact congrArg (· + 1) ih
theorem Are.at {vs : List Value} {xs : List α} (h : Are R vs xs) : ∀ (i : Nat) (v : Value), vs[i]? = some v → ∃ x, xs[i]? = some x ∧ R v x := by
  induction h with
  | nil => intro i v e; simp at e
  | cons r _ ih =>
    intro i v e
    cases i with
    | zero =>
      simp only [List.getElem?_cons_zero, Option.some.injEq] at e
      exact ⟨_, rfl, e ▸ r⟩
    | succ i =>
      simp only [List.getElem?_cons_succ] at e ⊢
      exact ih i v e
theorem Are.snoc {v : Value} {x : α} (r : R v x) {vs : List Value} {xs : List α} (h : Are R vs xs) : Are R (vs ++ [v]) (xs ++ [x]) := by
  induction h with
  | nil => exact .cons r .nil
  | cons r' _ ih => exact .cons r' ih
end
section
variable {prog : Program} {w : World} {A : Around} {h₀ : Heap} {L : Addr} {m : Str → Option Value} {env : Env} {x : Str} {scope : Scope} {cl : List (Str × Addr)} {news base : List (Addr × Obj)} {elt : Expr} {Fin : Shared → List Value → List (Addr × Obj) → Prop} {s : Shared}
/-- a turn for each of a made list, walked once -/
theorem comp_src {α : Type} {R R' : Value → α → Prop} {ax : Addr} {vs : List Value} {xs : List α} {nl : Nat}
    (F : Fr h₀ L s.heap m) (N : News h₀ L s.heap news) (hh : A.handled = none) (hm : (ax, W.listOf vs.toArray nl) ∈ news) (hv : Are R vs xs) (hl : xs.length ≤ 1000)
    (turn : ∀ v z I oI C oC D m₂ ys h tk (E' : Value → Shared → Prop) (Cont : Value → List (Addr × Obj) → Prop), R v z → LCg.NsObj oC m₂ → m₂ x = some v → Fr h₀ L h m → News h₀ L h ((I, oI) :: (C, oC) :: (D, LCg.lst ys) :: news) → LCg.Off3 I C D news → ((@Ne Nat I C) ∧ (@Ne Nat I D) ∧ (@Ne Nat C D)) →
      (∀ y, R' y z → Cont y news) → wpAny (model prog w) A (eval elt (compEnvC scope cl C env)) (LCg.CompEnd h₀ L m { s with heap := h, toks := tk } I oI C oC D (LCg.lst ys) (LCg.SrcAt h₀ ax vs.toArray) Cont) E' { s with heap := h, toks := tk })
    (fin : ∀ g ys, Are R' ys xs → Fin { s with heap := g } ys news) : LCg.CompSrc prog w A h₀ L m env elt x scope cl Fin (.ref ax) s := by
  have hsz : vs.toArray.size ≤ sizeLine := by
    rw [List.size_toArray, hv.length]
    exact Nat.le_trans hl (by rw [PySem.sizeLine_eq]; decide)
  refine LCg.CompSrc.ledger hh F N hm hsz fun g => ?_
  have key : ∀ (j i : Nat) (ys : List Value), i + j = vs.length → Are R' ys (xs.take i) →
      LCg.CompRest prog w A h₀ L m env elt x scope cl { s with heap := g } (LCg.SrcAt h₀ ax vs.toArray) (fun i v => vs.toArray[i]? = some v) (Fin { s with heap := g }) j i ys news := by
    intro j
    induction j with
    | zero =>
      intro i ys hi hy
      rw [show i = xs.length by rw [← hv.length]; exact hi, List.take_length] at hy
      exact LCg.CompRest.zero (fin g ys hy)
    | succ j ih =>
      intro i ys hi hy
      refine LCg.CompRest.succ ?_
      intro v I oI C oC D m₂ h tk E' hq hC hx' F' N' off ne
      obtain ⟨z, hz, r⟩ := hv.at i v (by simpa using hq)
      refine turn v z I oI C oC D m₂ ys h tk E' _ r hC hx' F' N' off ne fun y r' => ?_
      refine ih (i + 1) _ (by rw [Nat.add_right_comm]; exact hi) ?_
      rw [List.take_add_one, hz]
      exact hy.snoc r'
  exact key vs.length 0 [] (Nat.zero_add _) .nil
/-- a list drawn one by one, a turn walked once -/
theorem draw_src {α : Type} {R : Value → α → Prop} {r pa b : Addr} {nn : Nat} {v k : Int} {t tr ur vr : Tok}
    (F : Fr h₀ L s.heap m) (N : News h₀ L s.heap news) (hh : A.handled = none) (hr : IsRange s.heap r 0 v 1 tr ur vr) (h0 : 0 ≤ v) (h5 : v < 5) (P : Pull (pa, penObj b k t nn) news base)
    (turn : ∀ (k' : Int) (t' : Tok) I oI C oC D m₂ ys h tk (E' : Value → Shared → Prop) (Cont : Value → List (Addr × Obj) → Prop), k ≤ k' → k' ≤ k + 8 → LCg.NsObj oC m₂ → Fr h₀ L h m → News h₀ L h ((I, oI) :: (C, oC) :: (D, LCg.lst ys) :: (pa, penObj b k' t' nn) :: base) →
      LCg.Off3 I C D ((pa, penObj b k' t' nn) :: base) → ((@Ne Nat I C) ∧ (@Ne Nat I D) ∧ (@Ne Nat C D)) →
      (∀ y z k'' t'', k' ≤ k'' → k'' ≤ k' + 2 → R y z → Cont y ((pa, penObj b k'' t'' nn) :: base)) →
      wpAny (model prog w) A (eval elt (compEnvC scope cl C env)) (LCg.CompEnd h₀ L m { s with heap := h, toks := tk } I oI C oC D (LCg.lst ys) (fun _ => True) Cont) E' { s with heap := h, toks := tk })
    (fin : ∀ g ys xs k' t', Are R ys xs → (xs.length : Int) = v → k ≤ k' → k' ≤ k + 8 → Fin { s with heap := g } ys ((pa, penObj b k' t' nn) :: base)) :
    LCg.CompSrc prog w A h₀ L m env elt x scope cl Fin (.ref r) s := by
  obtain ⟨n, rfl⟩ := Int.eq_ofNat_of_zero_le h0
  have hn : n < 5 := Int.ofNat_lt.mp h5
  refine LCg.CompSrc.range (n := n) hh F (news := (pa, penObj b k t nn) :: base) (fun q hq => N q (P.mem q hq)) hr (small_one (by decide) (by decide) (Int.le_trans (by decide) h0) (Int.lt_trans h5 (by decide)))
    ((rangeSize_nat 0 (n : Int)).trans (by rw [Int.sub_zero, Int.toNat_natCast])) (Nat.le_trans (Nat.le_of_lt hn) (by rw [PySem.sizeLine_eq]; decide)) fun g => ?_
  have key : ∀ (j i : Nat) (ys : List Value) (xs : List α) (k' : Int) (t' : Tok), i + j = n → Are R ys xs → xs.length = i → k ≤ k' → k' ≤ k + 2 * (i : Int) →
      LCg.CompRest prog w A h₀ L m env elt x scope cl { s with heap := g } (fun _ => True) (fun i v => ∃ t, v = .int (0 + (i : Int)) t) (Fin { s with heap := g }) j i ys ((pa, penObj b k' t' nn) :: base) := by
    intro j
    induction j with
    | zero =>
      intro i ys xs k' t' hi hy ho hk hk'
      exact LCg.CompRest.zero (fin g ys xs k' t' hy (by rw [ho]; exact congrArg _ hi) hk (by omega))
    | succ j ih =>
      intro i ys xs k' t' hi hy ho hk hk'
      refine LCg.CompRest.succ ?_
      intro v I oI C oC D m₂ h tk E' _ hC _ F' N' off ne
      refine turn k' t' I oI C oC D m₂ ys h tk E' _ hk (by omega) hC F' N' off ne fun y z k'' t'' l1 l2 r => ?_
      exact ih (i + 1) _ _ _ t'' (by omega) (hy.snoc r) (by rw [List.length_append, ho]; rfl) (by omega) (by push_cast; omega)
  exact key n 0 [] [] k t (Nat.zero_add _) .nil rfl (Int.le_refl _) (by omega)
/-- three turns by steps -/
theorem cuts_src {R' : Value → Nat → Prop} {r : Addr} {b c : Int} {t u v : Tok}
    (F : Fr h₀ L s.heap m) (N : News h₀ L s.heap news) (hh : A.handled = none) (hr : IsRange s.heap r 0 b c t u v) (hb : b = 3 * c) (h1 : 1 ≤ c) (h4 : c ≤ 4)
    (turn : ∀ (i : Nat) (t' : Tok) I oI C oC D m₂ ys h tk (E' : Value → Shared → Prop) (Cont : Value → List (Addr × Obj) → Prop), i < 3 → LCg.NsObj oC m₂ → m₂ x = some (.int (0 + (i : Int) * c) t') → Fr h₀ L h m → News h₀ L h ((I, oI) :: (C, oC) :: (D, LCg.lst ys) :: news) →
      LCg.Off3 I C D news → ((@Ne Nat I C) ∧ (@Ne Nat I D) ∧ (@Ne Nat C D)) →
      (∀ y, R' y i → Cont y news) → wpAny (model prog w) A (eval elt (compEnvC scope cl C env)) (LCg.CompEnd h₀ L m { s with heap := h, toks := tk } I oI C oC D (LCg.lst ys) (fun _ => True) Cont) E' { s with heap := h, toks := tk })
    (fin : ∀ g ys, Are R' ys [0, 1, 2] → Fin { s with heap := g } ys news) : SrcS prog w A h₀ L m env elt x scope cl Fin (.ref r) s := by
  have hc : c = 1 ∨ c = 2 ∨ c = 3 ∨ c = 4 := by omega
  have hsm : Builtin.Range.small 0 b c = true ∧ Builtin.Range.rangeSize 0 b c = ((3 : Nat) : Int) := by
    rcases hc with rfl | rfl | rfl | rfl <;> subst hb <;> exact ⟨by decide, by decide⟩
  refine SrcS.mk' hh F N hr hsm.1 hsm.2 (by rw [PySem.sizeLine_eq]; decide) fun g => ?_
  have key : ∀ (j i : Nat) (ys : List Value), i + j = 3 → Are R' ys ([0, 1, 2].take i) →
      LCg.CompRest prog w A h₀ L m env elt x scope cl { s with heap := g } (fun _ => True) (fun i v => ∃ t, v = .int (0 + (i : Int) * c) t) (Fin { s with heap := g }) j i ys news := by
    intro j
    induction j with
    | zero =>
      intro i ys hi hy
      rw [show i = 3 from hi] at hy
      exact LCg.CompRest.zero (fin g ys hy)
    | succ j ih =>
      intro i ys hi hy
      refine LCg.CompRest.succ ?_
      intro v I oI C oC D m₂ h tk E' hq hC hx' F' N' off ne
      obtain ⟨t', rfl⟩ := hq
      refine turn i t' I oI C oC D m₂ ys h tk E' _ (by omega) hC hx' F' N' off ne fun y r' => ?_
      refine ih (i + 1) _ (by rw [Nat.add_right_comm]; exact hi) ?_
      rw [List.take_add_one, show ([0, 1, 2] : List Nat)[i]? = some i by rcases i with _ | _ | _ | i <;> first | rfl | omega]
      exact hy.snoc r'
  exact key 3 0 [] rfl .nil
end
noncomputable def PartR (v : Value) (ds : List Int) : Prop := (∃ B t, v = .bytes B t ∧ KBw.bInts B = ds.map hexfig) ∧ (∀ d ∈ ds, 0 ≤ d ∧ d < 16) ∧ 1 ≤ ds.length ∧ ds.length ≤ 4
noncomputable def PairR (v : Value) (ds : List Int) : Prop := ∃ B t, v = .bytes B t ∧ KBw.bInts B = [hexfig (hiF ds), hexfig (loF ds)]
theorem Are.all {α : Type} {R : Value → α → Prop} {P : α → Prop} (hP : ∀ v x, R v x → P x) {vs : List Value} {xs : List α} (h : Are R vs xs) : ∀ x ∈ xs, P x := by
  induction h with
  | nil => exact fun _ h => nomatch h
  | cons r _ ih =>
    intro y hy
    rcases List.mem_cons.mp hy with rfl | hy
    · exact hP _ _ r
    · exact ih y hy
theorem are_parts {vs : List Value} {dss : List (List Int)} (h : Are PartR vs dss) : (∀ ds ∈ dss, ∀ d ∈ ds, 0 ≤ d ∧ d < 16) ∧ (∀ ds ∈ dss, 1 ≤ ds.length ∧ ds.length ≤ 4) := ⟨h.all fun _ _ r => r.2.1, h.all fun _ _ r => r.2.2⟩
theorem are_bytes {α : Type} {R : Value → α → Prop} {f : α → List Int} (hR : ∀ v x, R v x → ∃ B t, v = .bytes B t ∧ KBw.bInts B = f x) {vs : List Value} {xs : List α} (h : Are R vs xs) :
    ∃ l : List (Array UInt8 × Tok), vs = bvals l ∧ l.map (fun q => KBw.bInts q.1) = xs.map f ∧ l.length = xs.length := by
  induction h with
  | nil => exact ⟨[], rfl, rfl, rfl⟩
  | cons r _ ih =>
    obtain ⟨B, t, rfl, e⟩ := hR _ _ r
    obtain ⟨l, rfl, e', e''⟩ := ih
    exact ⟨(B, t) :: l, rfl, by rw [List.map_cons, List.map_cons, e', e], congrArg (· + 1) e''⟩
theorem sum_le4 {ks : List (List Int)} (h : ∀ k ∈ ks, k.length ≤ 4) : (ks.map List.length).sum ≤ 4 * ks.length := by
  induction ks with
  | nil => exact Nat.le_refl _
  | cons k r ih =>
    have a := ih fun x hx => h x (List.mem_cons_of_mem _ hx)
    have b := h k (List.mem_cons_self ..)
    rw [List.map_cons, List.sum_cons, List.length_cons]
    omega
theorem join_are {prog : Program} {w : World} {A : Around} {E : Value → Shared → Prop} {s : Shared} {α : Type} {R : Value → α → Prop} {f : α → List Int} {sep : Array UInt8} {t : Tok} {D : Addr} {vs : List Value} {xs : List α} {sk : List Int} {Q : Value → Shared → Prop}
    (hR : ∀ v x, R v x → ∃ B t, v = .bytes B t ∧ KBw.bInts B = f x) (hf : ∀ v x, R v x → (f x).length ≤ 4) (hl : s.heap.IsList D vs.toArray) (hv : Are R vs xs) (hs : KBw.bInts sep = sk) (hsk : sk.length ≤ 1) (h2 : 2 ≤ xs.length) (h4 : xs.length ≤ 4)
    (h : ∀ B t' k, KBw.bInts B = joinI sk (xs.map f) → (joinI sk (xs.map f)).length ≤ 20 → Q (.bytes B t') { s with toks := k }) : wpAny (model prog w) A (call (.builtin "bytes.join") [.bytes sep t, .ref D]) Q E s := by
  obtain ⟨l, e, e', e''⟩ := are_bytes hR hv
  rcases l with _ | ⟨q1, _ | ⟨q2, l'⟩⟩
  · rw [← e''] at h2; exact absurd (show 2 ≤ 0 from h2) (by decide)
  · rw [← e''] at h2; exact absurd (show 2 ≤ 1 from h2) (by decide)
  · have jl : (joinI sk (xs.map f)).length ≤ 20 := by
      have a := joinI_length sk (xs.map f)
      have z := sum_le4 (ks := xs.map f) (fun k hk => by
        obtain ⟨x, hx, rfl⟩ := List.mem_map.mp hk
        exact hv.all hf x hx)
      rw [List.length_map] at a z
      have c : sk.length * xs.length ≤ 1 * 4 := Nat.mul_le_mul hsk h4
      omega
    refine join_call hl e hs e' ?_ fun B t' k hB => h B t' k hB jl
    have z := sum_le4 (ks := xs.map f) (fun k hk => by
      obtain ⟨x, hx, rfl⟩ := List.mem_map.mp hk
      exact hv.all hf x hx)
    rw [List.length_map] at z ⊢
    have a : (sk.length + 1) * (xs.length + 1) ≤ 2 * 5 := Nat.mul_le_mul (by omega) (by omega)
    omega
theorem part_len {v : Value} {ds : List Int} (h : PartR v ds) : (ds.map hexfig).length ≤ 4 := by rw [List.length_map]; exact h.2.2.2
theorem hilo_all {dss : List (List Int)} (h : ∀ ds ∈ dss, ∀ d ∈ ds, 0 ≤ d ∧ d < 16) (i : Nat) : Dig (hiF (dss.getD i [])) ∧ Dig (loF (dss.getD i [])) := hilo_dig fun d hd => by
  rw [List.getD_eq_getElem?_getD] at hd
  cases e : dss[i]? with
  | none => rw [e] at hd; exact nomatch hd
  | some x => rw [e] at hd; exact h x (List.mem_of_getElem? e) d hd
theorem shape3 {α : Type} {l : List α} (h : (l.length : Int) = 3) : ∃ a b c, l = [a, b, c] := by
  rcases l with _ | ⟨a, _ | ⟨b, _ | ⟨c, _ | ⟨d, r⟩⟩⟩⟩
  · exact absurd (show 0 = 3 from Int.ofNat.inj h) (by decide)
  · exact absurd (show 1 = 3 from Int.ofNat.inj h) (by decide)
  · exact absurd (show 2 = 3 from Int.ofNat.inj h) (by decide)
  · exact ⟨a, b, c, rfl⟩
  · exact absurd (show r.length + 1 + 1 + 1 + 1 = 3 from Int.ofNat.inj h) (by omega)
theorem pairs_six {dss : List (List Int)} (h : (dss.length : Int) = 3) : joinI [] (dss.map fun ds => [hexfig (hiF ds), hexfig (loF ds)]) = [hexfig (hiF (dss.getD 0 [])), hexfig (loF (dss.getD 0 [])), hexfig (hiF (dss.getD 1 [])), hexfig (loF (dss.getD 1 [])), hexfig (hiF (dss.getD 2 [])), hexfig (loF (dss.getD 2 []))] := by
  obtain ⟨a, b, c, rfl⟩ := shape3 h
  rfl
theorem rgb_some {X : List Int} {dss : List (List Int)} {v : Int} (hX : X = sl [114, 103, 98, 58] ++ joinI (sl [47]) (dss.map fun ds => ds.map hexfig)) (h : (dss.length : Int) = 3)
    (hv : v = 1048576 * hiF (dss.getD 0 []) + 65536 * loF (dss.getD 0 []) + 4096 * hiF (dss.getD 1 []) + 256 * loF (dss.getD 1 []) + 16 * hiF (dss.getD 2 []) + loF (dss.getD 2 []))
    (hd : ∀ ds ∈ dss, ∀ d ∈ ds, 0 ≤ d ∧ d < 16) (hl : ∀ ds ∈ dss, 1 ≤ ds.length ∧ ds.length ≤ 4) : Safe X ∧ X.length ≤ 40 ∧ octV X = some v ∧ 0 ≤ v ∧ v < 16777216 := by
  obtain ⟨a, b, c, rfl⟩ := shape3 h
  have m1 : a ∈ [a, b, c] := List.mem_cons_self ..
  have m2 : b ∈ [a, b, c] := List.mem_cons_of_mem _ (List.mem_cons_self ..)
  have m3 : c ∈ [a, b, c] := List.mem_cons_of_mem _ (List.mem_cons_of_mem _ (List.mem_cons_self ..))
  exact rgb3_some (hX.trans (by simp only [joinI, List.map_cons, List.map_nil, List.append_assoc]; try rfl)) hv (hd _ m1) (hd _ m2) (hd _ m3) (hl _ m1) (hl _ m2) (hl _ m3)
theorem rgb_none {X : List Int} {dss : List (List Int)} {v : Int} (hX : X = sl [114, 103, 98, 58] ++ joinI (sl [47]) (dss.map fun ds => ds.map hexfig)) (h : (dss.length : Int) = v) (h3 : v = 3 ∨ v = 2 ∨ v = 4) (hn : ¬ v = 3)
    (hd : ∀ ds ∈ dss, ∀ d ∈ ds, 0 ≤ d ∧ d < 16) (hl : ∀ ds ∈ dss, 1 ≤ ds.length ∧ ds.length ≤ 4) : Safe X ∧ X.length ≤ 40 ∧ octV X = none := by
  subst h
  rcases dss with _ | ⟨a, _ | ⟨b, _ | ⟨c, _ | ⟨d, _ | ⟨e, r⟩⟩⟩⟩⟩
  · exact absurd h3 (by decide)
  · exact absurd (show (1 : Int) = 3 ∨ (1 : Int) = 2 ∨ (1 : Int) = 4 from h3) (by decide)
  · have m1 : a ∈ [a, b] := List.mem_cons_self ..
    have m2 : b ∈ [a, b] := List.mem_cons_of_mem _ (List.mem_cons_self ..)
    exact rgb2_none (hX.trans (by simp only [joinI, List.map_cons, List.map_nil, List.append_assoc]; try rfl)) (hd _ m1) (hd _ m2) (hl _ m1).2 (hl _ m2).2
  · exact absurd rfl hn
  · have m1 : a ∈ [a, b, c, d] := List.mem_cons_self ..
    have m2 : b ∈ [a, b, c, d] := List.mem_cons_of_mem _ (List.mem_cons_self ..)
    have m3 : c ∈ [a, b, c, d] := List.mem_cons_of_mem _ (List.mem_cons_of_mem _ (List.mem_cons_self ..))
    have m4 : d ∈ [a, b, c, d] := List.mem_cons_of_mem _ (List.mem_cons_of_mem _ (List.mem_cons_of_mem _ (List.mem_cons_self ..)))
    exact rgb4_none (hX.trans (by simp only [joinI, List.map_cons, List.map_nil, List.append_assoc]; try rfl)) (hd _ m1) (hd _ m2) (hd _ m3) (hd _ m4) (hl _ m1).2 (hl _ m2).2 (hl _ m3).2 (hl _ m4).2
  · have z : ((a :: b :: c :: d :: e :: r).length : Int) = (r.length : Int) + 5 := by simp only [List.length_cons]; push_cast; omega
    omega
theorem menu_many3 {prog : Program} {w : World} {A : Around} {E : Value → Shared → Prop} {s : Shared} {value slice : Expr} {k : Int} {u : Tok} {Q : Value → Shared → Prop} {t : Addr} {t1 t2 t3 t4 t5 : Tok} (ht : IsTup s.heap t #[.int 3 t1, .int 3 t2, .int 3 t3, .int 2 t4, .int 4 t5]) (h0 : 0 ≤ k) (h1 : k < 5) (h : ∀ v t, (v = 3 ∨ v = 2 ∨ v = 4) → Q (.int v t) s)
    (hs : subscripted slice false (.ref t) (.int k u) = operate [.ref t, .int k u] (getItem (.ref t) (.int k u)) := by with_unfolding_all rfl) :
    wpAny (model prog w) A (subscriptTail value slice (.ref t) (.int k u)) Q E s :=
  menu_many ht h0 h1 (fun _ t => h 3 t (.inl rfl)) (fun _ t => h 2 t (.inr (.inl rfl))) (fun _ t => h 4 t (.inr (.inr rfl))) hs
/-- a third of the figures behind #, its first two ones -/
noncomputable def ciH (ds : List Int) (c : Int) (i : Nat) : Int := ds.getD (i * c.toNat) 0
noncomputable def ciL (ds : List Int) (c : Int) (i : Nat) : Int := if c = 1 then 0 else ds.getD (i * c.toNat + 1) 0
noncomputable def CutR (ds : List Int) (c : Int) (v : Value) (i : Nat) : Prop := ∃ B t, v = .bytes B t ∧ KBw.bInts B = [hexfig (ciH ds c i), hexfig (ciL ds c i)]
theorem digs_third {ds : List Int} {n : Int} (h : (ds.length : Int) = n) : (∃ c, ThirdOf ds c) ∨ (ds.length ≠ 3 ∧ ds.length ≠ 6 ∧ ds.length ≠ 9 ∧ ds.length ≠ 12) := third_cases
theorem hexfig_getD {ds : List Int} (i : Nat) (h : i < ds.length) : (ds.map hexfig).getD i 0 = hexfig (ds.getD i 0) := by
  rw [List.getD_eq_getElem?_getD, List.getD_eq_getElem?_getD, List.getElem?_map, List.getElem?_eq_getElem h]
  rfl
theorem many_lo {v : Int} (h : v = 3 ∨ v = 2 ∨ v = 4) : 0 ≤ v := by omega
theorem many_hi {v : Int} (h : v = 3 ∨ v = 2 ∨ v = 4) : v < 5 := by omega
theorem many_len {α : Type} {xs : List α} {v : Int} (h : v = 3 ∨ v = 2 ∨ v = 4) (e : (xs.length : Int) = v) : 2 ≤ xs.length ∧ xs.length ≤ 4 := by omega
section
variable {prog : Program} {w : World} {A : Around} {h₀ : Heap} {L : Addr} {m : Str → Option Value} {env : Env} {x : Str} {scope : Scope} {cl : List (Str × Addr)} {news base : List (Addr × Obj)} {elt : Expr} {Fin : Shared → List Value → List (Addr × Obj) → Prop} {s : Shared}
theorem draw_parts {r pa b : Addr} {nn : Nat} {v k : Int} {t tr ur vr : Tok}
    (F : Fr h₀ L s.heap m) (N : News h₀ L s.heap news) (hh : A.handled = none) (hr : IsRange s.heap r 0 v 1 tr ur vr) (hv : v = 3 ∨ v = 2 ∨ v = 4) (P : Pull (pa, W.listOf #[.ref b, .int k t] nn) news base)
    (turn : ∀ (k' : Int) (t' : Tok) I oI C oC D m₂ ys h tk (E' : Value → Shared → Prop) (Cont : Value → List (Addr × Obj) → Prop), k ≤ k' → k' ≤ k + 8 → LCg.NsObj oC m₂ → Fr h₀ L h m → News h₀ L h ((I, oI) :: (C, oC) :: (D, LCg.lst ys) :: (pa, W.listOf #[.ref b, .int k' t'] nn) :: base) →
      LCg.Off3 I C D ((pa, W.listOf #[.ref b, .int k' t'] nn) :: base) → ((@Ne Nat I C) ∧ (@Ne Nat I D) ∧ (@Ne Nat C D)) →
      (∀ (B : Array UInt8) (t : Tok) (ds : List Int) (k'' : Int) (t'' : Tok), k' ≤ k'' → k'' ≤ k' + 2 → KBw.bInts B = ds.map hexfig → (∀ d ∈ ds, 0 ≤ d ∧ d < 16) → 1 ≤ ds.length → ds.length ≤ 4 → Cont (.bytes B t) ((pa, W.listOf #[.ref b, .int k'' t''] nn) :: base)) →
      wpAny (model prog w) A (eval elt (compEnvC scope cl C env)) (LCg.CompEnd h₀ L m { s with heap := h, toks := tk } I oI C oC D (LCg.lst ys) (fun _ => True) Cont) E' { s with heap := h, toks := tk })
    (fin : ∀ g ys dss k' t', Are PartR ys dss → (dss.length : Int) = v → (∀ ds ∈ dss, ∀ d ∈ ds, 0 ≤ d ∧ d < 16) → (∀ ds ∈ dss, 1 ≤ ds.length ∧ ds.length ≤ 4) → k ≤ k' → k' ≤ k + 8 → Fin { s with heap := g } ys ((pa, W.listOf #[.ref b, .int k' t'] nn) :: base)) :
    LCg.CompSrc prog w A h₀ L m env elt x scope cl Fin (.ref r) s :=
  draw_src (R := PartR) F N hh hr (many_lo hv) (many_hi hv) P
    (fun k' t' I oI C oC D m₂ ys h tk E' Cont l1 l2 hC F' N' off ne hc => turn k' t' I oI C oC D m₂ ys h tk E' Cont l1 l2 hC F' N' off ne fun B t ds k'' t'' l1 l2 hB hd a b => hc _ ds k'' t'' l1 l2 ⟨⟨B, t, rfl, hB⟩, hd, a, b⟩)
    fun g ys dss k' t' ha hn l1 l2 => fin g ys dss k' t' ha hn (are_parts ha).1 (are_parts ha).2 l1 l2
theorem comp_pairs {ax : Addr} {vs : List Value} {dss : List (List Int)} {nl : Nat} {v : Int}
    (F : Fr h₀ L s.heap m) (N : News h₀ L s.heap news) (hh : A.handled = none) (hm : (ax, W.listOf vs.toArray nl) ∈ news) (ha : Are PartR vs dss) (hv : v = 3 ∨ v = 2 ∨ v = 4) (hn : (dss.length : Int) = v)
    (turn : ∀ (B : Array UInt8) (t : Tok) (ds : List Int) I oI C oC D m₂ ys h tk (E' : Value → Shared → Prop) (Cont : Value → List (Addr × Obj) → Prop), KBw.bInts B = ds.map hexfig → (∀ d ∈ ds, 0 ≤ d ∧ d < 16) → 1 ≤ ds.length → ds.length ≤ 4 → LCg.NsObj oC m₂ → m₂ x = some (.bytes B t) → Fr h₀ L h m →
      News h₀ L h ((I, oI) :: (C, oC) :: (D, LCg.lst ys) :: news) → LCg.Off3 I C D news → ((@Ne Nat I C) ∧ (@Ne Nat I D) ∧ (@Ne Nat C D)) →
      (∀ B' t', KBw.bInts B' = [hexfig (hiF ds), hexfig (loF ds)] → Cont (.bytes B' t') news) → wpAny (model prog w) A (eval elt (compEnvC scope cl C env)) (LCg.CompEnd h₀ L m { s with heap := h, toks := tk } I oI C oC D (LCg.lst ys) (LCg.SrcAt h₀ ax vs.toArray) Cont) E' { s with heap := h, toks := tk })
    (fin : ∀ g ys, Are PairR ys dss → Fin { s with heap := g } ys news) : LCg.CompSrc prog w A h₀ L m env elt x scope cl Fin (.ref ax) s :=
  comp_src (R := PartR) (R' := PairR) F N hh hm ha (Nat.le_trans (many_len hv hn).2 (by decide))
    (fun v ds I oI C oC D m₂ ys h tk E' Cont r hC hx F' N' off ne hc => by
      obtain ⟨⟨B, t, rfl, hB⟩, hd, a, b⟩ := r
      exact turn B t ds I oI C oC D m₂ ys h tk E' Cont hB hd a b hC hx F' N' off ne fun B' t' hB' => hc _ ⟨B', t', rfl, hB'⟩)
    fin
theorem cuts_third {ds : List Int} {r : Addr} {b c : Int} {t u v : Tok}
    (F : Fr h₀ L s.heap m) (N : News h₀ L s.heap news) (hh : A.handled = none) (hr : IsRange s.heap r 0 b c t u v) (hb : b = (ds.length : Int)) (h3 : ThirdOf ds c)
    (turn : ∀ (i : Nat) (t' : Tok) I oI C oC D m₂ ys h tk (E' : Value → Shared → Prop) (Cont : Value → List (Addr × Obj) → Prop), i < 3 → LCg.NsObj oC m₂ → m₂ x = some (.int (0 + (i : Int) * c) t') → Fr h₀ L h m → News h₀ L h ((I, oI) :: (C, oC) :: (D, LCg.lst ys) :: news) →
      LCg.Off3 I C D news → ((@Ne Nat I C) ∧ (@Ne Nat I D) ∧ (@Ne Nat C D)) →
      (∀ B' t', KBw.bInts B' = [hexfig (ciH ds c i), hexfig (ciL ds c i)] → Cont (.bytes B' t') news) → wpAny (model prog w) A (eval elt (compEnvC scope cl C env)) (LCg.CompEnd h₀ L m { s with heap := h, toks := tk } I oI C oC D (LCg.lst ys) (fun _ => True) Cont) E' { s with heap := h, toks := tk })
    (fin : ∀ g ys, Are (CutR ds c) ys [0, 1, 2] → Fin { s with heap := g } ys news) : SrcS prog w A h₀ L m env elt x scope cl Fin (.ref r) s :=
  cuts_src (R' := CutR ds c) F N hh hr (hb.trans h3.1) h3.2.1 h3.2.2
    (fun i t' I oI C oC D m₂ ys h tk E' Cont hi hC hx F' N' off ne hc => turn i t' I oI C oC D m₂ ys h tk E' Cont hi hC hx F' N' off ne fun B' t' hB' => hc _ ⟨B', t', rfl, hB'⟩)
    fin
end
theorem add_rgb {prog : Program} {w : World} {A : Around} {E : Value → Shared → Prop} {s : Shared} {c : Array UInt8} {t u : Tok} {Q : Value → Shared → Prop} {ls : List Int} (hc : KBw.bInts c = ls) (hl : ls.length ≤ 20)
    (h : ∀ t' k, KBw.bInts (#[114, 103, 98, 58] ++ c) = sl [114, 103, 98, 58] ++ ls → Q (.bytes (#[114, 103, 98, 58] ++ c) t') { s with toks := k }) : wpAny (model prog w) A (binaryOp .Add (.bytes #[114, 103, 98, 58] t) (.bytes c u)) Q E s :=
  KBa.add_K (ks := sl [114, 103, 98, 58]) rfl hc (by have z : (sl [114, 103, 98, 58]).length = 4 := rfl; omega) h
theorem third_eq {ds : List Int} {c : Int} (h : ThirdOf ds c) : (ds.length : Int) = 3 * c ∧ 1 ≤ c ∧ c ≤ 4 := h
theorem takeS {l : List Int} {j k : Nat} (h : j < l.length) : (l.drop j).take (k + 1) = l.getD j 0 :: (l.drop (j + 1)).take k := by
  rw [List.drop_eq_getElem_cons h, List.take_succ_cons, List.getD_eq_getElem?_getD, List.getElem?_eq_getElem h]; rfl
theorem cut_fin {ds X : List Int} {c : Int} {i : Nat} (h3 : ThirdOf ds c) (hi : i < 3)
    (e : X = List.take (clipAt (List.take (clipAt (ds.map hexfig).length (0 + (i : Int) * c + c) - clipAt (ds.map hexfig).length (0 + (i : Int) * c)) (List.drop (clipAt (ds.map hexfig).length (0 + (i : Int) * c)) (ds.map hexfig)) ++ List.map (fun c : UInt8 => (c.toNat : Int)) [48]).length 2)
      (List.take (clipAt (ds.map hexfig).length (0 + (i : Int) * c + c) - clipAt (ds.map hexfig).length (0 + (i : Int) * c)) (List.drop (clipAt (ds.map hexfig).length (0 + (i : Int) * c)) (ds.map hexfig)) ++ List.map (fun c : UInt8 => (c.toNat : Int)) [48])) :
    X = [hexfig (ciH ds c i), hexfig (ciL ds c i)] := by
  obtain ⟨hl, h1, h4⟩ := h3
  obtain ⟨n, rfl⟩ := Int.eq_ofNat_of_zero_le (Int.le_trans (by decide : (0 : Int) ≤ 1) h1)
  have hn : ds.length = 3 * n := by omega
  have hn1 : 1 ≤ n := Int.ofNat_le.mp h1
  have hin : i * n ≤ 2 * n := Nat.mul_le_mul_right n (Nat.le_of_lt_succ hi)
  have e1 : (0 : Int) + (i : Int) * (n : Int) = ((i * n : Nat) : Int) := by rw [Int.zero_add, Int.natCast_mul]
  have e2 : (0 : Int) + (i : Int) * (n : Int) + (n : Int) = ((i * n + n : Nat) : Int) := by rw [e1, ← Int.natCast_add]
  rw [show (2 : Int) = ((2 : Nat) : Int) from rfl, pre_eq 2, e2, e1, clipAt_nat, clipAt_nat, List.length_map, hn, Nat.min_eq_left (by omega), Nat.min_eq_left (by omega), Nat.add_sub_cancel_left] at e
  have hkl : (ds.map hexfig).length = 3 * n := by rw [List.length_map, hn]
  rw [e]
  unfold ciH ciL
  rw [Int.toNat_natCast]
  by_cases hc : n = 1
  · subst hc
    rw [takeS (by rw [hkl]; omega), List.take_zero, hexfig_getD _ (by rw [hn]; omega), if_pos (show ((1 : Nat) : Int) = 1 from rfl)]
    rfl
  · have hn2 : 2 ≤ n := by omega
    rw [List.take_append_of_le_length (by rw [List.length_take, List.length_drop, hkl]; omega), List.take_take, Nat.min_eq_left hn2, takeS (by rw [hkl]; omega), takeS (by rw [hkl]; omega), List.take_zero, hexfig_getD _ (by rw [hn]; omega), hexfig_getD _ (by rw [hn]; omega), if_neg (show ¬ ((n : Int) = 1) from fun z => hc (Int.ofNat.inj z))]
theorem dig_at {ds : List Int} (h : ∀ d ∈ ds, 0 ≤ d ∧ d < 16) (j : Nat) : Dig (ds.getD j 0) := by
  rw [List.getD_eq_getElem?_getD]
  cases e : ds[j]? with
  | none => exact ⟨by decide, by decide⟩
  | some x => exact h x (List.mem_of_getElem? e)
theorem cut_dig {ds : List Int} {c : Int} {i : Nat} (h : ∀ d ∈ ds, 0 ≤ d ∧ d < 16) : Dig (ciH ds c i) ∧ Dig (ciL ds c i) := by
  refine ⟨dig_at h _, ?_⟩
  unfold ciL
  split
  · exact ⟨by decide, by decide⟩
  · exact dig_at h _
theorem cuts_six {ds : List Int} {c : Int} : joinI [] ([0, 1, 2].map fun i => [hexfig (ciH ds c i), hexfig (ciL ds c i)]) = [hexfig (ciH ds c 0), hexfig (ciL ds c 0), hexfig (ciH ds c 1), hexfig (ciL ds c 1), hexfig (ciH ds c 2), hexfig (ciL ds c 2)] := rfl
theorem seg_val {ds : List Int} {c : Int} {i : Nat} (h3 : ThirdOf ds c) (hi : i < 3) (hd : ∀ d ∈ ds, 0 ≤ d ∧ d < 16) : digV c.toNat (seg (ds.map hexfig) c i) = some (16 * ciH ds c i + ciL ds c i) := by
  obtain ⟨hl, h1, h4⟩ := h3
  obtain ⟨n, rfl⟩ := Int.eq_ofNat_of_zero_le (Int.le_trans (by decide : (0 : Int) ≤ 1) h1)
  have hn : ds.length = 3 * n := by omega
  have hj : i * n + n ≤ ds.length := by rw [hn]; have := Nat.mul_le_mul_right n (Nat.le_of_lt_succ hi); omega
  unfold seg
  rw [Int.toNat_natCast, ← List.map_drop, ← List.map_take]
  have da := dig_at hd (i * n)
  have db := dig_at hd (i * n + 1)
  have dc := dig_at hd (i * n + 1 + 1)
  have de := dig_at hd (i * n + 1 + 1 + 1)
  have eH : ciH ds (n : Int) i = ds.getD (i * n) 0 := by unfold ciH; rw [Int.toNat_natCast]
  have eL : ciL ds (n : Int) i = if (n : Int) = 1 then 0 else ds.getD (i * n + 1) 0 := by unfold ciL; rw [Int.toNat_natCast]
  rw [eH, eL]
  clear eH eL
  have hc : n = 1 ∨ n = 2 ∨ n = 3 ∨ n = 4 := by omega
  rcases hc with rfl | rfl | rfl | rfl
  · rw [takeS (by omega), List.take_zero, if_pos (by rfl), List.map_cons, List.map_nil]
    generalize ds.getD (i * 1) 0 = a at da
    rw [digV_of (figs1 da)]
    unfold Dig at da
    congr 1
    omega
  · rw [takeS (by omega), takeS (by omega), List.take_zero, if_neg (by decide)]
    simp only [List.map_cons, List.map_nil]
    generalize ds.getD (i * 2) 0 = a at da
    generalize ds.getD (i * 2 + 1) 0 = b at db
    rw [digV_of (figs2 da db)]
    unfold Dig at da db
    congr 1
    omega
  · rw [takeS (by omega), takeS (by omega), takeS (by omega), List.take_zero, if_neg (by decide)]
    simp only [List.map_cons, List.map_nil]
    generalize ds.getD (i * 3) 0 = a at da
    generalize ds.getD (i * 3 + 1) 0 = b at db
    generalize ds.getD (i * 3 + 1 + 1) 0 = e at dc
    rw [digV_of (figs3 da db dc)]
    unfold Dig at da db dc
    congr 1
    omega
  · rw [takeS (by omega), takeS (by omega), takeS (by omega), takeS (by omega), List.take_zero, if_neg (by decide)]
    simp only [List.map_cons, List.map_nil]
    generalize ds.getD (i * 4) 0 = a at da
    generalize ds.getD (i * 4 + 1) 0 = b at db
    generalize ds.getD (i * 4 + 1 + 1) 0 = e at dc
    generalize ds.getD (i * 4 + 1 + 1 + 1) 0 = g at de
    rw [digV_of (figs4 da db dc de)]
    unfold Dig at da db dc de
    congr 1
    omega
theorem hash_some {ds : List Int} {c v : Int} (h3 : ThirdOf ds c) (hd : ∀ d ∈ ds, 0 ≤ d ∧ d < 16) (hv : v = 1048576 * ciH ds c 0 + 65536 * ciL ds c 0 + 4096 * ciH ds c 1 + 256 * ciL ds c 1 + 16 * ciH ds c 2 + ciL ds c 2) :
    Safe (35 :: ds.map hexfig) ∧ (35 :: ds.map hexfig).length ≤ 40 ∧ octV (35 :: ds.map hexfig) = some v ∧ 0 ≤ v ∧ v < 16777216 := by
  have h3' : ThirdOf (ds.map hexfig) c := by unfold ThirdOf; rw [List.length_map]; exact h3
  have d0 := cut_dig (c := c) (i := 0) hd
  have d1 := cut_dig (c := c) (i := 1) hd
  have d2 := cut_dig (c := c) (i := 2) hd
  have hlen : (35 :: ds.map hexfig).length ≤ 40 := by
    obtain ⟨hl, h1, h4⟩ := h3
    rw [List.length_cons, List.length_map]
    omega
  refine ⟨hash_safe hd, hlen, ?_, ?_⟩
  · rw [octV_hash, third_digs h3', seg_val h3 (by decide) hd, seg_val h3 (by decide) hd, seg_val h3 (by decide) hd]
    show some _ = some v
    rw [hv]
    congr 1
    omega
  · unfold Dig at d0 d1 d2
    clear h3 h3' hlen hd
    omega

theorem set50 : True := by
  w_top off
  k_with "call ref" => ((k_here; (with_reducible show wpAny _ _ (call _ [_, Value.int (1 + _) _]) _ _ _); k_dflt (refine' hex_c ?P1v76 ?P2v76 ?hIv76 ?h1v76 ?h2v76 ?h3v76 ?h4v76 ?h5v76 ?h6v76 ?h7v76 (fun k9w B9w ds9w t9w u9w h9w tk9w lo9w hi9w din9w dl9w hB9w F9w N9w => ?_) ?kSv76; (case kSv76 => walk_at "my site"); (case P1v76 => walk_at "my pull"); (case P2v76 => walk_at "my pull"); (case hIv76 => l_ints); (case h1v76 => first | assumption | omega); (case h2v76 => omega); (case h3v76 => omega); (case h4v76 => omega); (case h5v76 => omega); (case h6v76 => omega); (case h7v76 => walk_at "my off")); (have hlo9w := hilo_dig din9w); (try dsimp only); (try k_fold)))
  k_with "call ref" => ((k_here; (with_reducible show wpAny _ _ (call (Value.ref 192) _) _ _ _); (fail_if_success (with_reducible show wpAny _ _ (call _ [_, Value.int (1 + _) _]) _ _ _)); k_dflt (refine' hex_c ?P1v77 ?P2v77 ?hIv77 ?h1v77 ?h2v77 ?h3v77 ?h4v77 ?h5v77 ?h6v77 ?h7v77 (fun k9w B9w ds9w t9w u9w h9w tk9w lo9w hi9w din9w dl9w hB9w F9w N9w => ?_) ?kSv77; (case kSv77 => walk_at "my site"); (case P1v77 => walk_at "my pull"); (case P2v77 => walk_at "my pull"); (case hIv77 => l_ints); (case h1v77 => first | assumption | omega); (case h2v77 => omega); (case h3v77 => omega); (case h4v77 => omega); (case h5v77 => omega); (case h6v77 => omega); (case h7v77 => walk_at "my off")); (try dsimp only); (try k_fold); (rcases digs_cases din9w with ⟨d1, d2, d3, e9w, q1, q2, q3⟩ | ⟨d1, d2, d3, d4, d5, d6, e9w, q1, q2, q3, q4, q5, q6⟩ | ⟨d1, d2, d3, d4, d5, d6, d7, d8, d9w, e9w, q1, q2, q3, q4, q5, q6, q7, q8, q9w⟩ | ⟨d1, d2, d3, d4, d5, d6, d7, d8, d9w, d10, d11, d12, e9w, q1, q2, q3, q4, q5, q6, q7, q8, q9w, q10, q11, q12⟩ | ⟨n3, n6, n9w, n12⟩); all_goals (try (subst e9w; simp only [List.map_cons, List.map_nil, List.length_cons, List.length_nil] at hB9w dl9w)); all_goals (try (exfalso; omega))))
  k_with "call builtin:sorted" => ((k_here; (with_reducible show wpAny _ _ (call (Value.builtin "sorted") [Value.ref _]) _ _ _); k_dflt (refine' sorted_names ?s1v78 ?s2v78 ?s3v78 ?s4v78 ?s5v78 ?s6v78 ?s7v78 ?s8v78 (fun D9w vs9w e9w h9w tk9w vl9w vm9w F9w N9w l9w => ?_); (case s1v78 => rfl); (case s2v78 => k_asm); (case s3v78 => k_asm); (case s4v78 => k_mem); (case s5v78 => k_asm); (case s6v78 => k_asm); (case s7v78 => assumption); (case s8v78 => decide)); (have vz9w : vs9w.length = 15 := vl9w); (try k_lt l9w)))
  k_with "call builtin:len" => ((k_here; (with_reducible show wpAny _ _ (call (Value.builtin "len") [Value.ref _]) _ _ _); k_dflt (refine' len_gen ?n1v79 ?n2v79 ?n3v79 (fun t9w k9w => ?_); (case n1v79 => k_asm); (case n2v79 => k_mem); (case n3v79 => omega))))
  k_with "subscriptTail" => ((k_here; (with_reducible show wpAny _ _ (subscriptTail _ _ (Value.ref _) (Value.int _ _)) _ _ _); k_dflt (first
      | (refine' menu_many ?tv80 ?av80 ?bv80 (fun hw9w t9w => ?_) (fun hw9w t9w => ?_) (fun hw9w t9w => ?_); (case tv80 => exact News.isTup (by k_asm) (by k_mem)); (case av80 => omega); (case bv80 => omega); all_goals (try (exfalso; omega)))
      | (refine' menu_sfx ?tv80 ?av80 ?bv80 (fun t9w => ?_) (fun t9w => ?_); (case tv80 => exact News.isTup (by k_asm) (by k_mem)); (case av80 => omega); (case bv80 => omega))
      | (refine' name_item ?nv80 ?mv80 ?vv80 ?av80 ?bv80 ?zv80 (fun B9w t9w kn9w hb9w hk9w => ?_); (case nv80 => k_asm); (case mv80 => k_mem); (case vv80 => assumption); (case av80 => omega); (case bv80 => omega); (case zv80 => omega))
      | (refine' bent_item (t := 179) (tab := bents) ?xv80 ?fv80 ?ov80 ?av80 ?bv80 ?zv80 ?vv80 (fun B9w t9w kn9w hb9w hk9w => ?_); (case xv80 => k_asm); (case fv80 => k_asm); (case ov80 => exact rfl); (case av80 => omega); (case bv80 => (simp only [List.length_cons, List.length_nil]; omega)); (case zv80 => (simp only [List.length_cons, List.length_nil]; omega)); (case vv80 => repeat (first | exact List.forall_mem_nil _ | refine List.forall_mem_cons.mpr ⟨⟨_, _, rfl, by decide⟩, ?_⟩))))))
  k_with "eval IfExp" => ((k_here; (with_reducible show wpAny _ _ (eval (Expr.IfExp (Expr.Compare (Expr.Call _ _ _ _) _ _ _) _ _ _) _) _ _ _); (fail_if_success (with_reducible show wpAny _ _ _ (PairP _ _ _ _ _ _) _ _)); (rename _ = some (Value.bytes _ _) => hx9w); (rename Fr _ _ _ _ => jF9w); (rename News _ _ _ _ => jN9w); (refine pair_join hx9w (by assumption) jF9w jN9w ?_ (fun B9w t9w h9w k9w hB9w F9w N9w => ?_))))
  k_with "PairP" => (first
      | (refine ⟨_, _, _, _, rfl, rfl, by assumption, by assumption, ?_⟩; first
        | (rw [bInts_app, ‹KBw.bInts _ = _›]; exact pair_one (by simp only [List.length_map] at *; omega))
        | (refine Eq.trans (by assumption) (pair_two ?_ ?_) <;> (simp only [List.length_map] at *; omega))))
  k_with "call ref" => ((k_here; (with_reducible show wpAny _ _ (call (Value.ref 199) _) _ _ _); k_dflt (first
      | (refine' num_c ?hbv83 ?r1v83 ?r2v83 ?r3v83 ?r4v83 ?r5v83 ?r6v83 (fun v9w t9w h9w tk9w hv9w F9w N9w => ?_) ?kSv83; (case kSv83 => walk_at "my site"); (case hbv83 => assumption); (case r1v83 => walk_at "my dig"); (case r2v83 => walk_at "my dig"); (case r3v83 => walk_at "my dig"); (case r4v83 => walk_at "my dig"); (case r5v83 => walk_at "my dig"); (case r6v83 => walk_at "my dig"))
      | (refine' num_c ?hbv83 ?r1v83 ?r2v83 ?r3v83 ?r4v83 ?r5v83 ?r6v83 (fun v9w t9w h9w tk9w hv9w F9w N9w => ?_) ?kSv83; (case kSv83 => walk_at "my site"); (case hbv83 => ((rename KBw.bInts _ = _ => hj9w); exact hj9w.trans rfl)); (case r1v83 => walk_at "my dig"); (case r2v83 => walk_at "my dig"); (case r3v83 => walk_at "my dig"); (case r4v83 => walk_at "my dig"); (case r5v83 => walk_at "my dig"); (case r6v83 => walk_at "my dig"))
      | (refine' num_c (d2 := 0) (d4 := 0) (d6 := 0) ?hbv83 ?r1v83 ?r2v83 ?r3v83 ?r4v83 ?r5v83 ?r6v83 (fun v9w t9w h9w tk9w hv9w F9w N9w => ?_) ?kSv83; (case kSv83 => walk_at "my site"); (case hbv83 => ((rename KBw.bInts _ = _ => hj9w); exact hj9w.trans rfl)); (case r1v83 => walk_at "my dig"); (case r2v83 => walk_at "my dig"); (case r3v83 => walk_at "my dig"); (case r4v83 => walk_at "my dig"); (case r5v83 => walk_at "my dig"); (case r6v83 => walk_at "my dig"))); (try dsimp only); (try k_fold)))
  k_with "my dig" => (first | assumption | exact And.left (by assumption) | exact And.right (by assumption) | exact ⟨by decide, by decide⟩)
  k_with "CompSrc" => ((k_here; k_dflt (first
      | (refine LCg.CompSrc.ledger (by rfl) (by k_asm) (by k_asm) (by k_mem) (by first | size_fits | exact Nat.le_of_ble_eq_true rfl) ?_; intro g'; lcg_lit)
      | (refine LCg.CompSrc.range (by rfl) (by k_asm) (by k_asm) (by assumption) (by first | decide | rfl) (by first | rfl | decide) (by first | size_fits | exact Nat.le_of_ble_eq_true rfl) ?_; intro g'; lcg_lit))))
  k_with "exec Assign cons ListComp" => ((k_here; (with_reducible show wpAny _ _ (exec (Stmt.Assign _ (Expr.ListComp _ [⟨_, Expr.Call _ [_, _, _] _ _, _, _⟩] _ _) _) _) _ _ _); k_dflt (refine Assign_ListComp_S (by k_asm) (by rfl) (by with_unfolding_all rfl) (by with_unfolding_all rfl) (by decide) (by rfl) (by decide) (by rfl) (by rfl) (by rfl) ?_)))
  k_with "SrcS" => ((k_here; k_dflt (refine SrcS.mk' (by rfl) (by k_asm) (by k_asm) (by assumption) (by first | decide | rfl) (by first | rfl | decide) (by first | size_fits | exact Nat.le_of_ble_eq_true rfl) ?_; intro g'; lcg_lit)))
  k_with "binaryOp Add bytes bytes" => ((k_here; (with_reducible show wpAny _ _ (binaryOp Operator.Add (Value.bytes _ _) (Value.bytes _ _)) _ _ _); k_dflt (refine' add_name ?n1v88 ?n2v88 ?n3v88 ?n4v88 (fun t9w k9w hb9w => ?_); (case n1v88 => assumption); (case n2v88 => exact rfl); (case n3v88 => assumption); (case n4v88 => first | decide | (simp only [List.length_cons, List.length_nil]; omega)))))
  k_with "my dec" => (first | omega | (simp only [decide_eq_true_eq, beq_iff_eq, bne_iff_ne, Bool.not_eq_true', decide_eq_false_iff_not, beq_eq_false_iff_ne, ne_eq]; omega) | (simp only [List.any_cons, List.any_nil, Bool.or_false, Bool.not_eq_true', Bool.or_eq_false_iff, beq_eq_false_iff_ne, ne_eq]; omega))
  k_with "ite" => ((k_here; (fail_if_success (goal_has PairP)); first | (refine ite_pos ?decv90 ?_; (case decv90 => walk_at "my dec"); walk_say "PRUNED mine") | (refine ite_neg ?decv90 ?_; (case decv90 => walk_at "my dec"); walk_say "PRUNED mine")))
  k_with "call ref" => ((k_here; k_dflt (refine' draw_c ?P1v91 ?P2v91 ?hIv91 ?h1v91 ?h2v91 ?h3v91 ?h4v91 ?h5v91 ?h6v91 ?h7v91 (fun k9w v9w t9w u9w h9w tk9w hk9w lo9w hi9w dv9w F9w N9w => ?_) ?kSv91; (case kSv91 => walk_at "my site"); (case P1v91 => walk_at "my pull"); (case P2v91 => walk_at "my pull"); (case hIv91 => l_ints); (case h1v91 => first | assumption | omega); (case h2v91 => omega); (case h3v91 => omega); (case h4v91 => walk_at "my pow"); (case h5v91 => walk_at "my pow"); (case h6v91 => omega); (case h7v91 => walk_at "my off")); subst hk9w; (try dsimp only); (try k_fold)))
  k_with "my sfx" => (first | exact List.mem_cons_self .. | exact List.mem_cons_of_mem _ (List.mem_cons_self ..))
  k_with "eval Subscript" => ((k_here; (with_reducible show wpAny _ _ (eval (Expr.Subscript (Expr.BinOp _ _ _ _) _ _) _) _ _ _); (fail_if_success (with_reducible show wpAny _ _ _ (CutP _ _ _ _ _ _ _) _ _)); (rename KBw.bInts _ = hexfig _ :: hexfig _ :: hexfig _ :: _ => hb9w); (rename _ = some (Value.int (0 + _ * _) _) => hx9w); (rename Fr _ _ _ _ => jF9w); (rename News _ _ _ _ => jN9w); (refine cut_join hx9w hb9w jF9w jN9w ?_ (fun B9w t9w h9w k9w hB9w F9w N9w => ?_)); rotate_left; (simp [cutL] at hB9w); rotate_left))
  k_with "CutP" => (((refine ⟨_, _, _, _, rfl, rfl, by assumption, by assumption, ?_⟩); (refine Eq.trans (by assumption) ?_); (with_unfolding_all rfl)))
  k_with "my ints" => (first | (with_reducible assumption) | exact (rfl : KBw.bInts _ = ([] : List Int)) | exact (rfl : KBw.bInts _ = ([47] : List Int)))
  exact trivial
theorem told_3 {prog : Program} {w : World} {p : Program} {loose : List Str} {mean : ExcName → Option Value} {mg mb : Str → Option Value} {dp un : Nat} {gd : Option (List Code)} {cn : Str} {cs : Scope} {a : Addr} {ccd : Value} {cl : List (Str × Addr)} {outer : List Env} {A₀ : Around} {base h₀ : Heap} {L : Addr} {m : Str → Option Value} {s : Shared} {Q E : Value → Shared → Prop} {news : List (Addr × Obj)}
    {pa b : Addr} {k : Int} {t : Tok} {n nb : Nat} {vs : List Value} {ns : List Int} {n1 rest : List (Addr × Obj)}
    (P1 : Pull (pa, W.listOf #[.ref b, .int k t] n) news n1) (P2 : Pull (b, W.listOf vs.toArray nb) n1 rest) (hI : IntsAre vs ns) (hlen : ns.length ≤ 63) (hk0 : 0 ≤ k) (hk1 : k ≤ 80000) (hpb : @Ne Nat pa b) (hne : LCg.Off1 pa rest)
    (hw : drawV ns k 4 = 3)
    (hT : ToldEnds h₀ L m news rest pa b n nb vs k s Q)
    (S : Site w p loose mean mg mb dp un 3 cs outer A₀ base h₀ L s.heap m news) :
    wpAny (model prog w) (ktrTop dp un gd cn cs L a ccd cl outer) (call (.ref 204) [.ref pa]) Q E s := by
  obtain ⟨B, F, X, N, T, hk, hd, hu⟩ := S
  have N0 : News h₀ L s.heap [(pa, W.listOf #[.ref b, .int k t] n), (b, W.listOf vs.toArray nb)] := fun q hq => N q (by
    rcases List.mem_cons.mp hq with rfl | hq
    · exact P1.mem _ (List.mem_cons_self ..)
    · rw [List.mem_singleton.mp hq]; exact P1.mem _ (List.mem_cons_of_mem _ (P2.mem _ (List.mem_cons_self ..))))
  have kN0 : KeptN h₀ L s.heap [(pa, W.listOf #[.ref b, .int k t] n), (b, W.listOf vs.toArray nb)] := N0
  (walk_at "my enterC"; intro g9 L9 h9 tk9 cells9 FG9 F9 N9 Y9 B9 X9 T9 l9 kG9; clear N0; (try k_lt l9); k_cells Y9; (try simp only [List.cons_append, List.nil_append] at N9); (try dsimp only); (try k_lift B9); (try k_fold); k_steps)
  ((rename News g9 _ _ _ => N'); (rename Fr g9 _ _ _ => F'); (rename Fr h₀ _ _ _ => kF); (rename News h₀ _ _ _ => kN))
  (rename _ ∈ bents => hk8)
  (refine' hT.none _ _ _ _ _ _ _ _ ?pa1 ?pa2 ?pv1 ?pv2 ?pv3 ?pv4 (off_of kG9 N' ?pa5 ?pa6 N) kF (News.one kN ?pa7 (rest_of kG9 F' N' N P1 P2 (off1_mem hne) ?pa3 ?pa4)); (case pa3 => k_mem); (case pa4 => k_mem); (case pa5 => k_mem); (case pa7 => k_mem); (case pa1 => omega); (case pa2 => omega); (case pa6 => exact notin2 (by omega) (by omega)))
  case pv1 => assumption
  case pv2 => exact safe_of_all (bents_ok _ hk8).2.2
  case pv3 => exact (bents_ok _ hk8).2.1
  case pv4 => exact (bents_ok _ hk8).1

theorem set51 : True := by
  w_top off
  exact trivial
theorem told_2 {prog : Program} {w : World} {p : Program} {loose : List Str} {mean : ExcName → Option Value} {mg mb : Str → Option Value} {dp un : Nat} {gd : Option (List Code)} {cn : Str} {cs : Scope} {a : Addr} {ccd : Value} {cl : List (Str × Addr)} {outer : List Env} {A₀ : Around} {base h₀ : Heap} {L : Addr} {m : Str → Option Value} {s : Shared} {Q E : Value → Shared → Prop} {news : List (Addr × Obj)}
    {pa b : Addr} {k : Int} {t : Tok} {n nb : Nat} {vs : List Value} {ns : List Int} {n1 rest : List (Addr × Obj)}
    (P1 : Pull (pa, W.listOf #[.ref b, .int k t] n) news n1) (P2 : Pull (b, W.listOf vs.toArray nb) n1 rest) (hI : IntsAre vs ns) (hlen : ns.length ≤ 63) (hk0 : 0 ≤ k) (hk1 : k ≤ 80000) (hpb : @Ne Nat pa b) (hne : LCg.Off1 pa rest)
    (hw : drawV ns k 4 = 2)
    (hT : ToldEnds h₀ L m news rest pa b n nb vs k s Q)
    (S : Site w p loose mean mg mb dp un 3 cs outer A₀ base h₀ L s.heap m news) :
    wpAny (model prog w) (ktrTop dp un gd cn cs L a ccd cl outer) (call (.ref 204) [.ref pa]) Q E s := by
  obtain ⟨B, F, X, N, T, hk, hd, hu⟩ := S
  have N0 : News h₀ L s.heap [(pa, W.listOf #[.ref b, .int k t] n), (b, W.listOf vs.toArray nb)] := fun q hq => N q (by
    rcases List.mem_cons.mp hq with rfl | hq
    · exact P1.mem _ (List.mem_cons_self ..)
    · rw [List.mem_singleton.mp hq]; exact P1.mem _ (List.mem_cons_of_mem _ (P2.mem _ (List.mem_cons_self ..))))
  have kN0 : KeptN h₀ L s.heap [(pa, W.listOf #[.ref b, .int k t] n), (b, W.listOf vs.toArray nb)] := N0
  (walk_at "my enterC"; intro g9 L9 h9 tk9 cells9 FG9 F9 N9 Y9 B9 X9 T9 l9 kG9; clear N0; (try k_lt l9); k_cells Y9; (try simp only [List.cons_append, List.nil_append] at N9); (try dsimp only); (try k_lift B9); (try k_fold); k_steps)
  all_goals ((rename News g9 _ _ _ => N'); (rename Fr g9 _ _ _ => F'); (rename Fr h₀ _ _ _ => kF); (rename News h₀ _ _ _ => kN))
  all_goals (rename _ ∈ List.map _ _ => hk8)
  all_goals first
    | ((refine' hT.none _ _ _ _ _ _ _ _ ?pa1 ?pa2 ?pv1 ?pv2 ?pv3 ?pv4 (off_of kG9 N' ?pa5 ?pa6 N) kF (News.one kN ?pa7 (rest_of kG9 F' N' N P1 P2 (off1_mem hne) ?pa3 ?pa4)); (case pa3 => k_mem); (case pa4 => k_mem); (case pa5 => k_mem); (case pa7 => k_mem); (case pa1 => omega); (case pa2 => omega); (case pa6 => exact notin2 (by omega) (by omega))); (case pv1 => assumption); (case pv2 => exact (sfx_none hk8 (by assumption) (by walk_at "my sfx")).1); (case pv3 => exact (sfx_none hk8 (by assumption) (by walk_at "my sfx")).2.1); (case pv4 => exact (sfx_none hk8 (by assumption) (by walk_at "my sfx")).2.2))
    | ((refine' hT.some _ _ _ _ _ _ _ _ _ _ ?pa1 ?pa2 ?pv1 ?pv2 ?pv3 ?pv4 ?pv5 ?pv6 (off_of kG9 N' ?pa5 ?pa6 N) kF (News.one kN ?pa7 (rest_of kG9 F' N' N P1 P2 (off1_mem hne) ?pa3 ?pa4)); (case pa3 => k_mem); (case pa4 => k_mem); (case pa5 => k_mem); (case pa7 => k_mem); (case pa1 => omega); (case pa2 => omega); (case pa6 => exact notin2 (by omega) (by omega))); (case pv1 => assumption); (case pv2 => exact (sfx_some hk8 (by assumption) (by walk_at "my sfx")).1); (case pv3 => exact (sfx_some hk8 (by assumption) (by walk_at "my sfx")).2.1); (case pv4 => exact (sfx_some hk8 (by assumption) (by walk_at "my sfx")).2.2.1); (case pv5 => exact (sfx_some hk8 (by assumption) (by walk_at "my sfx")).2.2.2.1); (case pv6 => exact (sfx_some hk8 (by assumption) (by walk_at "my sfx")).2.2.2.2))

theorem set53 : True := by
  w_top off
  k_with "call ref" => ((k_here; (with_reducible show wpAny _ _ (call (Value.ref 192) _) _ _ _); k_dflt (refine' hex_c ?P1v96 ?P2v96 ?hIv96 ?h1v96 ?h2v96 ?h3v96 ?h4v96 ?h5v96 ?h6v96 ?h7v96 (fun k9w B9w ds9w t9w u9w h9w tk9w lo9w hi9w din9w dl9w hB9w F9w N9w => ?_) ?kSv96; (case kSv96 => walk_at "my site"); (case P1v96 => walk_at "my pull"); (case P2v96 => walk_at "my pull"); (case hIv96 => l_ints); (case h1v96 => first | assumption | omega); (case h2v96 => omega); (case h3v96 => omega); (case h4v96 => omega); (case h5v96 => omega); (case h6v96 => omega); (case h7v96 => walk_at "my off")); (try dsimp only); (try k_fold); (have hm9w := (List.length_map hexfig : (ds9w.map hexfig).length = ds9w.length)); (rcases digs_third dl9w with ⟨c9w, h39⟩ | hno9w); (have hlc9w := third_eq h39); (have hany9w := third_any h39); rotate_left; (have hany9w := other_any hno9w.1 hno9w.2.1 hno9w.2.2.1 hno9w.2.2.2); rotate_left))
  k_with "binaryOp FloorDiv int int" => ((k_here; k_dflt (refine' each_div ?h3v97 ?hav97 (fun t9w k9w => ?_); (case h3v97 => assumption); (case hav97 => omega))))
  k_with "SrcS" => ((k_here; k_dflt (refine' cuts_third ?Fv98 ?Nv98 ?hhv98 ?hrv98 ?hbv98 ?h3v98 (fun i9w t9w I9w oI9w C9w oC9w D9w m9w ys9w h9w tk9w E9w Cont9w hi9w hC9w hx9w F9w N9w off9w ne9w hc9w => ?turnv98) (fun g9w ys9w ha9w => ?finv98); (case Fv98 => k_asm); (case Nv98 => k_asm); (case hhv98 => exact rfl); (case hrv98 => assumption); (case h3v98 => assumption); (case hbv98 => omega)); (try simp only [LCg.Off3, and_true] at off9w); (try k_fold)))
  k_with "CompEnd" => ((k_here; ((refine' LCg.CompEnd.intro ?Fv99 ?Nv99 _ ?subv99 ?offv99 ?Sv99 (hc9w _ _ ?rv99)); (case rv99 => walk_at "my cut"); (case Fv99 => assumption); (case Nv99 => k_asm); (case subv99 => lcg_sub); (case offv99 => walk_at "my off3"); (case Sv99 => exact trivial))))
  k_with "my off3" => (((simp only [LCg.Off3, and_true]); assumption))
  k_with "my cut" => (exact cut_fin (by assumption) (by assumption) (by assumption))
  k_with "call builtin:bytes.join" => ((k_here; k_dflt (refine' join_are (R := CutR ds9w c9w) (f := fun i => [hexfig (ciH ds9w c9w i), hexfig (ciL ds9w c9w i)]) (fun _ _ r => r) (fun _ _ _ => Nat.le_of_ble_eq_true rfl) ?lv102 ?vv102 ?hsv102 ?hzv102 ?h2v102 ?h4v102 (fun B9w t9w k9w hB9w jl9w => ?_); (case lv102 => walk_at "my list"); (case vv102 => assumption); (case hsv102 => exact Eq.refl ([] : List Int)); (case hzv102 => decide); (case h2v102 => decide); (case h4v102 => decide))))
  k_with "call ref" => ((k_here; (with_reducible show wpAny _ _ (call (Value.ref 199) _) _ _ _); k_dflt (refine' num_c ?hbv103 ?r1v103 ?r2v103 ?r3v103 ?r4v103 ?r5v103 ?r6v103 (fun v9w t9w h9w tk9w hv9w F9w N9w => ?_) ?kSv103; (case kSv103 => walk_at "my site"); (case hbv103 => (refine Eq.trans (by assumption) cuts_six)); (case r1v103 => exact (cut_dig (by assumption)).1); (case r2v103 => exact (cut_dig (by assumption)).2); (case r3v103 => exact (cut_dig (by assumption)).1); (case r4v103 => exact (cut_dig (by assumption)).2); (case r5v103 => exact (cut_dig (by assumption)).1); (case r6v103 => exact (cut_dig (by assumption)).2)); (try dsimp only); (try k_fold)))
  k_with "ite" => ((k_here; first | (refine' ite_posI ?hcv104 ?_; (case hcv104 => (rw [hany9w]; rfl))) | (refine' ite_negI ?hcv104 ?_; (case hcv104 => (rw [hany9w]; decide)))))
  exact trivial
theorem told_1 {prog : Program} {w : World} {p : Program} {loose : List Str} {mean : ExcName → Option Value} {mg mb : Str → Option Value} {dp un : Nat} {gd : Option (List Code)} {cn : Str} {cs : Scope} {a : Addr} {ccd : Value} {cl : List (Str × Addr)} {outer : List Env} {A₀ : Around} {base h₀ : Heap} {L : Addr} {m : Str → Option Value} {s : Shared} {Q E : Value → Shared → Prop} {news : List (Addr × Obj)}
    {pa b : Addr} {k : Int} {t : Tok} {n nb : Nat} {vs : List Value} {ns : List Int} {n1 rest : List (Addr × Obj)}
    (P1 : Pull (pa, W.listOf #[.ref b, .int k t] n) news n1) (P2 : Pull (b, W.listOf vs.toArray nb) n1 rest) (hI : IntsAre vs ns) (hlen : ns.length ≤ 63) (hk0 : 0 ≤ k) (hk1 : k ≤ 80000) (hpb : @Ne Nat pa b) (hne : LCg.Off1 pa rest)
    (hw : drawV ns k 4 = 1)
    (hT : ToldEnds h₀ L m news rest pa b n nb vs k s Q)
    (S : Site w p loose mean mg mb dp un 3 cs outer A₀ base h₀ L s.heap m news) :
    wpAny (model prog w) (ktrTop dp un gd cn cs L a ccd cl outer) (call (.ref 204) [.ref pa]) Q E s := by
  obtain ⟨B, F, X, N, T, hk, hd, hu⟩ := S
  have N0 : News h₀ L s.heap [(pa, W.listOf #[.ref b, .int k t] n), (b, W.listOf vs.toArray nb)] := fun q hq => N q (by
    rcases List.mem_cons.mp hq with rfl | hq
    · exact P1.mem _ (List.mem_cons_self ..)
    · rw [List.mem_singleton.mp hq]; exact P1.mem _ (List.mem_cons_of_mem _ (P2.mem _ (List.mem_cons_self ..))))
  have kN0 : KeptN h₀ L s.heap [(pa, W.listOf #[.ref b, .int k t] n), (b, W.listOf vs.toArray nb)] := N0
  (walk_at "my enterC"; intro g9 L9 h9 tk9 cells9 FG9 F9 N9 Y9 B9 X9 T9 l9 kG9; clear N0; (try k_lt l9); k_cells Y9; (try simp only [List.cons_append, List.nil_append] at N9); (try dsimp only); (try k_lift B9); (try k_fold); k_steps)
  all_goals ((rename News g9 _ _ _ => N'); (rename Fr g9 _ _ _ => F'); (rename Fr h₀ _ _ _ => kF); (rename News h₀ _ _ _ => kN); (rename KBw.bInts (_ ++ _) = _ => hk8))
  all_goals first
    | ((rename _ = 1048576 * _ + _ + _ + _ + _ + _ => hv8);
       (have hz8 := hash_some (by assumption) (by assumption) hv8);
       (refine' hT.some _ _ _ _ _ _ _ _ _ _ ?pa1 ?pa2 ?pv1 ?pv2 ?pv3 ?pv4 ?pv5 ?pv6 (off_of kG9 N' ?pa5 ?pa6 N) kF (News.one kN ?pa7 (rest_of kG9 F' N' N P1 P2 (off1_mem hne) ?pa3 ?pa4)); (case pa3 => k_mem); (case pa4 => k_mem); (case pa5 => k_mem); (case pa7 => k_mem); (case pa1 => omega); (case pa2 => omega); (case pa6 => exact notin2 (by omega) (by omega)));
       (case pv1 => exact hk8);
       (case pv2 => exact hz8.1);
       (case pv3 => exact hz8.2.1);
       (case pv4 => exact hz8.2.2.1);
       (case pv5 => exact hz8.2.2.2.1);
       (case pv6 => exact hz8.2.2.2.2))
    | ((have hz8 := hash_none (by assumption) (by omega) (by assumption));
       (refine' hT.none _ _ _ _ _ _ _ _ ?pa1 ?pa2 ?pv1 ?pv2 ?pv3 ?pv4 (off_of kG9 N' ?pa5 ?pa6 N) kF (News.one kN ?pa7 (rest_of kG9 F' N' N P1 P2 (off1_mem hne) ?pa3 ?pa4)); (case pa3 => k_mem); (case pa4 => k_mem); (case pa5 => k_mem); (case pa7 => k_mem); (case pa1 => omega); (case pa2 => omega); (case pa6 => exact notin2 (by omega) (by omega)));
       (case pv1 => exact hk8);
       (case pv2 => exact hz8.1);
       (case pv3 => exact hz8.2.1);
       (case pv4 => exact hz8.2.2))

theorem set57 : True := by
  k_with_none
  w_top off
  k_with "my site" => ((refine' Site.mk ?s1v1 ?s2v1 ?s3v1 ?s4v1 ?s5v1 ?s6v1 ?s7v1 ?s8v1; (case s1v1 => first | k_asm | fail "site: below"); (case s2v1 => first | k_asm | fail "site: frame"); (case s3v1 => first | k_asm | fail "site: part"); (case s4v1 => first | k_asm | fail "site: ledger"); (case s5v1 => first | k_asm | fail "site: top"); (case s6v1 => first | exact rfl | assumption | fail "site: kind"); (case s7v1 => first | exact room_ok (by assumption) (by decide) | (walk_say "ROOM"; ktr_room) | fail "site: room"); (case s8v1 => first | exact units_ok (by assumption) (by decide) | (walk_say "UNITS"; ktr_units) | fail "site: units")))
  k_with "my enter" => ((refine wpAny_call ?_; k_dflt (refine' code_defG ?k1v2 ?k2v2 ?k3v2 ?k4v2 ?k5v2 ?kAv2 ?kFv2 ?kKv2 ?k6v2 ?k7v2 ?k8v2 ?k9wv2 ?kBv2 ?_ ?c2v2 ?c3v2 ?c4v2 ?c5v2; (case kAv2 => exact rfl); (case kFv2 => exact rfl); (case kKv2 => assumption); (case k1v2 => k_asm); (case k2v2 => k_asm); (case k3v2 => k_asm); (case k4v2 => k_asm); (case k5v2 => k_asm); (case k6v2 => k_is); (case k7v2 => k_is); (case k8v2 => ktr_room); (case k9wv2 => exact BindsTo.of_eq rfl); (case c5v2 => decide); (case kBv2 => exact locs rfl); (case c2v2 => exact rfl); (case c3v2 => exact rfl); (case c4v2 => exact rfl); k_whole)))
  k_with "call ref" => ((k_here; (try dsimp only [List.nil_append, List.append_nil]); refine wpAny_call ?_; k_dflt (refine' code_def ?k1v3 ?k2v3 ?k3v3 ?k4v3 ?k5v3 ?kAv3 ?kFv3 ?kKv3 ?k6v3 ?k7v3 ?k8v3 ?k9wv3 ?kBv3 ?_ ?c2v3 ?c3v3 ?c4v3 ?c5v3; (case kAv3 => exact rfl); (case kFv3 => exact rfl); (case kKv3 => first | exact rfl | assumption); (case k1v3 => k_asm); (case k2v3 => k_asm); (case k3v3 => k_asm); (case k4v3 => k_asm); (case k5v3 => k_asm); (case k6v3 => k_is); (case k7v3 => k_is); (case k8v3 => ktr_room); (case k9wv3 => exact BindsTo.of_eq rfl); (case c5v3 => decide); (case kBv3 => exact locs rfl); (case c2v3 => exact rfl); (case c3v3 => exact rfl); (case c4v3 => exact rfl); k_whole; intro g' L' h' FG' F' N' B' X' T'; (try dsimp only); (try k_lift B'); (try k_fold))))
  k_with "my off" => (((rename (_ ≠ _ ∧ _ ≠ _ ∧ _ ≠ _) ∧ _ => off9w); (simp only [ne_eq] at off9w); (simp only [LCg.Off3, and_true, ne_eq, off9w, not_false_eq_true, and_self, true_and]); (first | done | ((repeat' (refine And.intro ?_ ?_)); all_goals exact neN (by walk_at "my ne")))))
  k_with "ite" => ((k_here; first
      | (refine' ite_posI ?hcv5 ?_; (case hcv5 => k_dflt (exact of_decide_eq_true (by exact rfl))))
      | (refine' ite_negI ?hcv5 ?_; (case hcv5 => k_dflt (exact of_decide_eq_false (by exact rfl))))))
  k_with "my fact" => (first | (with_reducible assumption) | (simp only [ne_eq, not_false_eq_true, *]; done))
  k_with "my ne" => (first | (walk_at "my fact") | exact Ne.symm (by walk_at "my fact") | exact Nat.ne_of_lt (by walk_at "my fact") | exact Nat.ne_of_gt (by walk_at "my fact") | exact Nat.ne_of_lt (Nat.lt_succ_of_lt (by walk_at "my fact")) | exact Nat.ne_of_gt (Nat.lt_succ_of_lt (by walk_at "my fact")) | (walk_say "NE by omega"; omega))
  k_with "my side" => ((with_reducible ((repeat' (refine And.intro ?_ ?_)) <;> first | exact trivial | assumption | (walk_at "my arith"))))
  k_with "my arith" => (first
        | ((show IntMulOk _ _); first | exact PySem.IntMulOk.of_right (PySem.intBits_le_64 (by decide) (by decide)) | exact PySem.IntMulOk.of_left (PySem.intBits_le_64 (by decide) (by decide)) | exact PySem.IntMulOk.of_right (PySem.intBits_le_64 (by omega) (by omega)) | exact PySem.IntMulOk.of_left (PySem.intBits_le_64 (by omega) (by omega)) | mul_fits)
        | ((show Builtin.divisionGoesByPylong _ _ = false); first | exact PyProof.noPylong_of_log2 (by decide +kernel) | exact PyProof.noPylong_small (by omega))
        | omega
        | decide)
  k_with "my no" => (first | with_reducible exact False.elim p9w | with_reducible exact absurd trivial p9w | with_reducible exact absurd rfl p9w | (law_purse 20000 => omega))
  k_with "execs cons" => ((k_here; (first
        | ((with_reducible show wpAny _ _ (execs (Stmt.Return (some _) _ :: _) _) _ _ _); (fail_if_success (with_reducible show wpAny _ _ (execs (Stmt.Return (some (Expr.Tuple _ _ _)) _ :: _) _) _ _ _)); (fail_if_success (with_reducible show wpAny _ _ (execs (Stmt.Return (some (Expr.List _ _)) _ :: _) _) _ _ _)); (fail_if_success (with_reducible show wpAny _ _ (execs (Stmt.Return (some (Expr.Dict _ _ _)) _ :: _) _) _ _ _)); k_dflt ((with_reducible refine' st_retE ?hev11 ?Fv11 ?Xv11 ?Tv11 (fun t => ?ev11) ?hkv11 ?hcv11 (fun t9w tk9w => ?_))); (case hev11 => k_dflt (exact rfl)); (case Fv11 => k_asm); (case Xv11 => k_asm); (case Tv11 => k_asm); (case ev11 => k_dflt (exact rfl)); (case hkv11 => k_dflt (exact rfl)); (case hcv11 => walk_at "my side"); (try dsimp only))
        | ((with_reducible show wpAny _ _ (execs (Stmt.If _ _ [] _ :: _) _) _ _ _); k_dflt ((with_reducible refine' st_if0E ?hev11 ?Fv11 ?Xv11 ?Tv11 ?ev11 ?hkv11 ?hcv11 (fun p9w tk9w => ?_) (fun p9w tk9w => ?_))); (case hev11 => k_dflt (exact rfl)); (case Fv11 => k_asm); (case Xv11 => k_asm); (case Tv11 => k_asm); (case ev11 => k_dflt (exact rfl)); (case hkv11 => k_dflt (exact rfl)); (case hcv11 => walk_at "my side"); all_goals first | (exfalso; walk_at "my no") | (try dsimp only))
        | ((with_reducible show wpAny _ _ (execs (Stmt.If _ _ (_ :: _) _ :: _) _) _ _ _); k_dflt ((with_reducible refine' st_ifE ?hev11 ?Fv11 ?Xv11 ?Tv11 ?ev11 ?hkv11 ?hcv11 (fun p9w tk9w => ?_) (fun p9w tk9w => ?_))); (case hev11 => k_dflt (exact rfl)); (case Fv11 => k_asm); (case Xv11 => k_asm); (case Tv11 => k_asm); (case ev11 => k_dflt (exact rfl)); (case hkv11 => k_dflt (exact rfl)); (case hcv11 => walk_at "my side"); all_goals first | (exfalso; walk_at "my no") | (try dsimp only))
        | ((with_reducible show wpAny _ _ (execs (Stmt.Assign [Expr.Name _ _] _ _ :: _) _) _ _ _); k_dflt ((with_reducible refine' st_assignE ?hev11 ?Fv11 ?Nv11 ?Xv11 ?Tv11 (fun t => ?ev11) ?hkv11 ?hxv11 ?hsv11 ?hcv11 (fun t9w tk9w h9w => ?_))); (case hev11 => k_dflt (exact rfl)); (case Fv11 => k_asm); (case Nv11 => k_asm); (case Xv11 => k_asm); (case Tv11 => k_asm); (case ev11 => k_dflt (exact rfl)); (case hkv11 => k_dflt (exact rfl)); (case hxv11 => k_dflt (exact rfl)); (case hsv11 => k_dflt (exact rfl)); (case hcv11 => walk_at "my side"); intro m9w F9w N9w; (try k_sweep); (try dsimp only)))))
  k_with "eval BinOp" => ((k_here; k_dflt ((with_reducible refine' ev_peE ?hev12 ?Fv12 ?Xv12 ?Tv12 (fun t => ?ev12) ?hkv12 ?hcv12 (fun t9w tk9w => ?_)); (case hev12 => k_dflt (exact rfl)); (case Fv12 => k_asm); (case Xv12 => k_asm); (case Tv12 => k_asm); (case ev12 => k_dflt (exact rfl)); (case hkv12 => k_dflt (exact rfl)); (case hcv12 => walk_at "my side")); (try dsimp only)))
  k_with "eval IfExp" => ((k_here; k_dflt ((with_reducible refine' ev_ifE ?hev13 ?Fv13 ?Xv13 ?Tv13 ?ev13 ?hkv13 ?hcv13 (fun p9w tk9w => ?_) (fun p9w tk9w => ?_)); (case hev13 => k_dflt (exact rfl)); (case Fv13 => k_asm); (case Xv13 => k_asm); (case Tv13 => k_asm); (case ev13 => k_dflt (exact rfl)); (case hkv13 => k_dflt (exact rfl)); (case hcv13 => walk_at "my side"); all_goals first | (exfalso; walk_at "my no") | (try dsimp only))))
  k_with "eval Call" => ((k_here; (with_reducible show wpAny _ _ (eval (Expr.Call (Expr.Name _ _) (_ :: _) [] _) _) _ _ _); k_dflt ((with_reducible refine' ev_callE ?hev14 ?Fv14 ?Xv14 ?Tv14 ?efv14 ?hfv14 (fun t => ?eav14) ?hkv14 ?hcv14 (fun t9w tk9w => ?_)); (case hev14 => k_dflt (exact rfl)); (case Fv14 => k_asm); (case Xv14 => k_asm); (case Tv14 => k_asm); (case efv14 => k_dflt (exact rfl)); (case hfv14 => k_dflt (exact rfl)); (case eav14 => k_dflt (exact rfl)); (case hkv14 => k_dflt (exact rfl)); (case hcv14 => walk_at "my side"))))
  k_with "my nm" => ((k_dflt (refine' nm_ok ?Fv15 ?Xv15 ?Tv15 ?hkv15); (case Fv15 => k_asm); (case Xv15 => k_asm); (case Tv15 => k_asm); (case hkv15 => k_dflt (exact rfl))))
  k_with "spliced" => ((k_here; (with_reducible show wpAny _ _ (spliced (backTo _ (starEach (_ :: _) _))) _ _ _); (fail_if_success (with_reducible show wpAny _ _ (spliced (backTo _ (starEach (_ :: _ :: _ :: _ :: _ :: _ :: _ :: _) _))) _ _ _)); k_dflt ((with_reducible refine' xe_all ?hnv16 (fun tk => ?ev16) ?hcv16 (fun tk9w k9w => ?_))); (case hnv16 => walk_at "my nm"); (case ev16 => k_dflt (exact rfl)); (case hcv16 => walk_at "my side"); (try dsimp only [List.cons_append, List.nil_append])))
  k_with "storeName" => ((k_here; k_dflt ((with_reducible refine' st_storeE ?hev17 ?Fv17 ?Nv17 (fun tk9w h9w => ?_) ?hkv17 ?hxv17)); (case hev17 => k_dflt (exact rfl)); (case Fv17 => k_asm); (case Nv17 => k_asm); (case hkv17 => k_dflt (exact rfl)); (case hxv17 => k_dflt (exact rfl)); intro m9w F9w N9w; (try k_sweep); (try dsimp only)))
  k_with "call ref" => ((k_here; k_dflt (refine' hexv_c ?kSv18 (fun hv9w h9w tk9w F9w N9w => ?_) (fun v9w t9w hv9w h9w tk9w F9w N9w => ?_); (case kSv18 => walk_at "my site")); all_goals ((try dsimp only); (try k_fold))))
  k_with "call ref" => ((k_here; k_dflt (refine' figs_c ?kbv21 ?klv21 ?kSv21 (fun hv9w h9w tk9w F9w N9w => ?_) (fun v9w t9w hv9w h9w tk9w F9w N9w => ?_); (case kbv21 => kba_ints2); (case klv21 => kba_size); (case kSv21 => walk_at "my site")); all_goals ((try dsimp only); (try k_fold))))
  k_with "pyIter ref" => (((with_reducible show wpAny _ _ (pyIter (Value.ref _)) (fun it s₂ => LoopAtV _ _ _ _ _ _ _ _ _ it s₂) _ _); (rename Fr _ _ _ _ => lF'); (rename News _ _ _ _ => lN'); (with_unfolding_all refine iter_tupleUnr (by rfl) lF' lN' (by k_mem) ?_); clear lF' lN'; intro i' l1; (try k_lt l1)))
  k_with "TupRest" => ((with_unfolding_all first | (refine TupRest.succ (fun it' h' tk' hit' F' N' => ?_)) | (refine TupRest.zero (fun h' tk' F' N' => ?_))))
  k_with "getMethod bytes" => ((k_here; (with_reducible refine method_join ?_)))
  k_with "getMethod bytes" => ((k_here; (with_reducible refine method_split ?_)))
  k_with "my ints" => (first | kba_ints | exact (rfl : KBw.bInts _ = ([47] : List Int)) | exact (rfl : KBw.bInts _ = ([] : List Int)) | kba_ints2)
  k_with "my list" => (first | exact News.isList (by k_asm) (by k_mem) | is_list)
  k_with "call builtin:bytes.join" => ((k_here; k_dflt (first
      | (refine' join3 ?lv28 ?hsv28 ?h1v28 ?h2v28 ?h3v28 ?hzv28 ?_; (case lv28 => walk_at "my list"); (case hsv28 => walk_at "my ints"); (case h1v28 => walk_at "my ints"); (case h2v28 => walk_at "my ints"); (case h3v28 => walk_at "my ints"); (case hzv28 => kba_size))); intro B9w t9w k9w hB9w; (try simp only [List.nil_append, List.cons_append, List.append_assoc] at hB9w)))
  k_with "call ref" => ((k_here; k_dflt (refine' rgb_c ?h1v29 ?h2v29 ?h3v29 ?h4v29 ?h5v29 (fun D9w t9w u9w v9w h9w tk9w o9w F9w N9w => ?_) ?kSv29; (case h1v29 => assumption); (case h2v29 => first | assumption | decide | omega); (case h3v29 => first | assumption | omega); (case h4v29 => first | assumption | omega); (case h5v29 => first | assumption | omega); (case kSv29 => walk_at "my site")); (try simp only [LCg.Off1, and_true] at o9w); (try dsimp only); (try k_fold)))
  k_with "call builtin:bytes.split" => ((k_here; k_dflt (refine' split_call ?h1v30 ?h2v30 ?h3v30 ?h4v30 (fun D9w b1 b2 b3 t1 t2 t3 k1 k2 k3 h9w tk9w hsg e1 e2 e3 z1 z2 z3 F9w N9w l9w => ?_) (fun D9w vs9w h9w tk9w hsg e1 z1 F9w N9w l9w => ?_); (case h1v30 => k_asm); (case h2v30 => k_asm); (case h3v30 => walk_at "my ints"); (case h4v30 => kba_size)); all_goals ((try k_lt l9w); (try simp only [List.length_take, List.length_drop] at z1 z2 z3))))
  k_with "subscriptTail" => ((k_here; (with_reducible show wpAny _ _ (subscriptTail _ _ (Value.bytes _ _) (Value.int _ _)) _ _ _); (first
      | (refine' figs_item (nib_hi ?h1v31 ?h2v31 ?h3v31) ?h4v31 ?h5v31 (fun t9w k9w => ?_); (case h1v31 => assumption); (case h2v31 => omega); (case h3v31 => omega); (case h4v31 => omega); (case h5v31 => omega))
      | (refine' figs_item (nib_lo ?h1v31 ?h2v31 ?h3v31) ?h4v31 ?h5v31 (fun t9w k9w => ?_); (case h1v31 => assumption); (case h2v31 => omega); (case h3v31 => omega); (case h4v31 => omega); (case h5v31 => omega)))))
  k_with "call ref" => ((k_here; k_dflt (refine' figs_cb ?kbv36 ?klv36 ?kSv36 (fun hv9w h9w tk9w F9w N9w => ?_) (fun v9w t9w hv9w lo9w hi9w h9w tk9w F9w N9w => ?_); (case kbv36 => kba_ints2); (case klv36 => kba_size); (case kSv36 => walk_at "my site")); all_goals ((try dsimp only); (try k_fold))))
  k_with "Exists" => ((k_here; (refine made_bytes (by k_asm) (by first | k_asm | exact News.nil) (Top.nolimit (by k_asm)) (by rfl) (of_decide_eq_true (by rfl)) ?_; intro h' o' F' N' l1 lo' hd'; (try k_lt l1))))
  k_with "eval Dict" => ((k_here; (with_reducible refine Dict_made_bytes (by with_unfolding_all rfl) (by with_unfolding_all assumption) (by with_unfolding_all rfl) (by with_unfolding_all rfl) (List.cons_ne_nil _ _) (by with_unfolding_all decide) ?_; intro _)))
  k_with "my enterC" => ((refine wpAny_call ?_; k_dflt (refine' code_defCG ?k1v44 ?k2v44 ?k3v44 ?k4v44 ?k5v44 ?kAv44 ?kFv44 ?kKv44 ?k6v44 ?k7v44 ?k8v44 ?k9wv44 ?kBv44 ?kDv44 ?_ ?c2v44 ?c3v44 ?c4v44; (case kAv44 => exact rfl); (case kFv44 => exact rfl); (case kKv44 => assumption); (case k1v44 => k_asm); (case k2v44 => k_asm); (case k3v44 => k_asm); (case k4v44 => k_asm); (case k5v44 => k_asm); (case k6v44 => k_is); (case k7v44 => k_is); (case k8v44 => ktr_room); (case k9wv44 => exact BindsTo.of_eq rfl); (case kBv44 => exact rfl); (case kDv44 => decide +kernel); (case c2v44 => exact rfl); (case c3v44 => exact rfl); (case c4v44 => exact rfl); k_whole)))
  k_with "my pull" => (first | exact Pull.head | (refine' Pull.tail ?ptlv49; (case ptlv49 => walk_at "my pull")))
  k_with "my off" => (((try simp only [LCg.Off1, and_true]); (repeat' (refine And.intro ?_ ?_)); all_goals first | exact trivial | (walk_at "my ne")))
  k_with "my pow" => (first | omega | exact pow16_pos _ | exact pow16_le (by omega) | decide)
  k_with "call ref" => ((k_here; k_dflt (refine' draw_c ?P1v52 ?P2v52 ?hIv52 ?h1v52 ?h2v52 ?h3v52 ?h4v52 ?h5v52 ?h6v52 ?h7v52 (fun k9w v9w t9w u9w h9w tk9w hk9w lo9w hi9w dv9w F9w N9w => ?_) ?kSv52; (case kSv52 => walk_at "my site"); (case P1v52 => walk_at "my pull"); (case P2v52 => walk_at "my pull"); (case hIv52 => l_ints); (case h1v52 => first | assumption | omega); (case h2v52 => omega); (case h3v52 => omega); (case h4v52 => walk_at "my pow"); (case h5v52 => walk_at "my pow"); (case h6v52 => omega); (case h7v52 => walk_at "my off")); (try dsimp only); (try k_fold)))
  k_with "call ref" => ((k_here; k_dflt (refine' small_c ?kbv61 ?klv61 (fun B9w t9w h9w tk9w hB9w F9w N9w => ?_) ?kSv61; (case kSv61 => walk_at "my site"); (case kbv61 => walk_at "my ints"); (case klv61 => first | assumption | kba_size)); (try dsimp only); (try k_fold)))
  k_with "call ref" => ((k_here; k_dflt (refine' digs_c ?kbv62 ?klv62 (fun hv9w h9w tk9w F9w N9w => ?_) (fun v9w t9w hv9w h9w tk9w F9w N9w => ?_) ?kSv62; (case kSv62 => walk_at "my site"); (case kbv62 => walk_at "my ints"); (case klv62 => first | assumption | kba_size)); all_goals ((try dsimp only); (try k_fold))))
  k_with "call ref" => ((k_here; k_dflt (refine' parts_c ?kb1v63 ?kb2v63 ?kb3v63 ?kl1v63 ?kl2v63 ?kl3v63 ?kDv63 (fun hv9w h9w tk9w F9w N9w => ?_) (fun v9w t9w hv9w h9w tk9w F9w N9w => ?_) ?kSv63; (case kSv63 => walk_at "my site"); (case kDv63 => k_mem); (case kb1v63 => assumption); (case kb2v63 => assumption); (case kb3v63 => assumption); (case kl1v63 => first | assumption | omega); (case kl2v63 => first | assumption | omega); (case kl3v63 => first | assumption | omega)); all_goals ((try dsimp only); (try k_fold))))
  k_with "call ref" => ((k_here; k_dflt (refine' names_c (fun D9w o9w kvs9w h9w tk9w off9w lo9w hd9w ht9w F9w N9w => ?_) ?kSv64; (case kSv64 => walk_at "my site")); (try simp only [LCg.Off1, and_true] at off9w); (try dsimp only); (try k_fold)))
  k_with "call ref" => ((k_here; k_dflt (refine' lnames_c (fun D9w o9w kvs9w h9w tk9w off9w lo9w hd9w ht9w F9w N9w => ?_) ?kSv65; (case kSv65 => walk_at "my site")); (try simp only [LCg.Off1, and_true] at off9w); (try dsimp only); (try k_fold)))
  k_with "getMethod ref" => ((k_here; kda_here; (with_reducible show wpAny _ _ (getMethod (Value.ref _) (Str.ofString "get") _) _ _ _); k_dflt (refine kdg_method (knd := bytesKind _ _) (by k_asm) (by k_mem) (by k_asm) ?_)))
  k_with "call builtin:dict.get" => ((k_here; kda_here; k_dflt (refine' get_names ?n1v67 ?n2v67 ?n3v67 ?n4v67 ?n5v67 ?n6v67 (fun hv9w t9w => ?_) (fun v9w t9w k9w hv9w => ?_); (case n1v67 => k_asm); (case n2v67 => k_mem); (case n3v67 => k_asm); (case n4v67 => k_asm); (case n5v67 => assumption); (case n6v67 => walk_at "my ints")); all_goals (try dsimp only)))
  k_with "call builtin:len" => ((k_here; (with_reducible show wpAny _ _ (call (Value.builtin "len") [Value.ref _]) _ _ _); k_dflt (refine' len_gen ?n1v68 ?n2v68 ?n3v68 (fun t9w k9w => ?_); (case n1v68 => k_asm); (case n2v68 => k_mem); (case n3v68 => assumption))))
  k_with "call ref" => ((k_here; (with_reducible show wpAny _ _ (call _ [_, Value.int (1 + _) _]) _ _ _); k_dflt (refine' hex_c ?P1v76 ?P2v76 ?hIv76 ?h1v76 ?h2v76 ?h3v76 ?h4v76 ?h5v76 ?h6v76 ?h7v76 (fun k9w B9w ds9w t9w u9w h9w tk9w lo9w hi9w din9w dl9w hB9w F9w N9w => ?_) ?kSv76; (case kSv76 => walk_at "my site"); (case P1v76 => walk_at "my pull"); (case P2v76 => walk_at "my pull"); (case hIv76 => l_ints); (case h1v76 => first | assumption | omega); (case h2v76 => omega); (case h3v76 => omega); (case h4v76 => omega); (case h5v76 => omega); (case h6v76 => omega); (case h7v76 => walk_at "my off")); (have hlo9w := hilo_dig din9w); (try dsimp only); (try k_fold)))
  k_with "call ref" => ((k_here; (with_reducible show wpAny _ _ (call (Value.ref 192) _) _ _ _); (fail_if_success (with_reducible show wpAny _ _ (call _ [_, Value.int (1 + _) _]) _ _ _)); k_dflt (refine' hex_c ?P1v77 ?P2v77 ?hIv77 ?h1v77 ?h2v77 ?h3v77 ?h4v77 ?h5v77 ?h6v77 ?h7v77 (fun k9w B9w ds9w t9w u9w h9w tk9w lo9w hi9w din9w dl9w hB9w F9w N9w => ?_) ?kSv77; (case kSv77 => walk_at "my site"); (case P1v77 => walk_at "my pull"); (case P2v77 => walk_at "my pull"); (case hIv77 => l_ints); (case h1v77 => first | assumption | omega); (case h2v77 => omega); (case h3v77 => omega); (case h4v77 => omega); (case h5v77 => omega); (case h6v77 => omega); (case h7v77 => walk_at "my off")); (try dsimp only); (try k_fold); (rcases digs_cases din9w with ⟨d1, d2, d3, e9w, q1, q2, q3⟩ | ⟨d1, d2, d3, d4, d5, d6, e9w, q1, q2, q3, q4, q5, q6⟩ | ⟨d1, d2, d3, d4, d5, d6, d7, d8, d9w, e9w, q1, q2, q3, q4, q5, q6, q7, q8, q9w⟩ | ⟨d1, d2, d3, d4, d5, d6, d7, d8, d9w, d10, d11, d12, e9w, q1, q2, q3, q4, q5, q6, q7, q8, q9w, q10, q11, q12⟩ | ⟨n3, n6, n9w, n12⟩); all_goals (try (subst e9w; simp only [List.map_cons, List.map_nil, List.length_cons, List.length_nil] at hB9w dl9w)); all_goals (try (exfalso; omega))))
  k_with "call builtin:sorted" => ((k_here; (with_reducible show wpAny _ _ (call (Value.builtin "sorted") [Value.ref _]) _ _ _); k_dflt (refine' sorted_names ?s1v78 ?s2v78 ?s3v78 ?s4v78 ?s5v78 ?s6v78 ?s7v78 ?s8v78 (fun D9w vs9w e9w h9w tk9w vl9w vm9w F9w N9w l9w => ?_); (case s1v78 => rfl); (case s2v78 => k_asm); (case s3v78 => k_asm); (case s4v78 => k_mem); (case s5v78 => k_asm); (case s6v78 => k_asm); (case s7v78 => assumption); (case s8v78 => decide)); (have vz9w : vs9w.length = 15 := vl9w); (try k_lt l9w)))
  k_with "call builtin:len" => ((k_here; (with_reducible show wpAny _ _ (call (Value.builtin "len") [Value.ref _]) _ _ _); k_dflt (refine' len_gen ?n1v79 ?n2v79 ?n3v79 (fun t9w k9w => ?_); (case n1v79 => k_asm); (case n2v79 => k_mem); (case n3v79 => omega))))
  k_with "subscriptTail" => ((k_here; (with_reducible show wpAny _ _ (subscriptTail _ _ (Value.ref _) (Value.int _ _)) _ _ _); k_dflt (first
      | (refine' menu_many ?tv80 ?av80 ?bv80 (fun hw9w t9w => ?_) (fun hw9w t9w => ?_) (fun hw9w t9w => ?_); (case tv80 => exact News.isTup (by k_asm) (by k_mem)); (case av80 => omega); (case bv80 => omega); all_goals (try (exfalso; omega)))
      | (refine' menu_sfx ?tv80 ?av80 ?bv80 (fun t9w => ?_) (fun t9w => ?_); (case tv80 => exact News.isTup (by k_asm) (by k_mem)); (case av80 => omega); (case bv80 => omega))
      | (refine' name_item ?nv80 ?mv80 ?vv80 ?av80 ?bv80 ?zv80 (fun B9w t9w kn9w hb9w hk9w => ?_); (case nv80 => k_asm); (case mv80 => k_mem); (case vv80 => assumption); (case av80 => omega); (case bv80 => omega); (case zv80 => omega))
      | (refine' bent_item (t := 179) (tab := bents) ?xv80 ?fv80 ?ov80 ?av80 ?bv80 ?zv80 ?vv80 (fun B9w t9w kn9w hb9w hk9w => ?_); (case xv80 => k_asm); (case fv80 => k_asm); (case ov80 => exact rfl); (case av80 => omega); (case bv80 => (simp only [List.length_cons, List.length_nil]; omega)); (case zv80 => (simp only [List.length_cons, List.length_nil]; omega)); (case vv80 => repeat (first | exact List.forall_mem_nil _ | refine List.forall_mem_cons.mpr ⟨⟨_, _, rfl, by decide⟩, ?_⟩))))))
  k_with "eval IfExp" => ((k_here; (with_reducible show wpAny _ _ (eval (Expr.IfExp (Expr.Compare (Expr.Call _ _ _ _) _ _ _) _ _ _) _) _ _ _); (fail_if_success (with_reducible show wpAny _ _ _ (PairP _ _ _ _ _ _) _ _)); (rename _ = some (Value.bytes _ _) => hx9w); (rename Fr _ _ _ _ => jF9w); (rename News _ _ _ _ => jN9w); (refine pair_join hx9w (by assumption) jF9w jN9w ?_ (fun B9w t9w h9w k9w hB9w F9w N9w => ?_))))
  k_with "PairP" => (first
      | (refine ⟨_, _, _, _, rfl, rfl, by assumption, by assumption, ?_⟩; first
        | (rw [bInts_app, ‹KBw.bInts _ = _›]; exact pair_one (by simp only [List.length_map] at *; omega))
        | (refine Eq.trans (by assumption) (pair_two ?_ ?_) <;> (simp only [List.length_map] at *; omega))))
  k_with "call ref" => ((k_here; (with_reducible show wpAny _ _ (call (Value.ref 199) _) _ _ _); k_dflt (first
      | (refine' num_c ?hbv83 ?r1v83 ?r2v83 ?r3v83 ?r4v83 ?r5v83 ?r6v83 (fun v9w t9w h9w tk9w hv9w F9w N9w => ?_) ?kSv83; (case kSv83 => walk_at "my site"); (case hbv83 => assumption); (case r1v83 => walk_at "my dig"); (case r2v83 => walk_at "my dig"); (case r3v83 => walk_at "my dig"); (case r4v83 => walk_at "my dig"); (case r5v83 => walk_at "my dig"); (case r6v83 => walk_at "my dig"))
      | (refine' num_c ?hbv83 ?r1v83 ?r2v83 ?r3v83 ?r4v83 ?r5v83 ?r6v83 (fun v9w t9w h9w tk9w hv9w F9w N9w => ?_) ?kSv83; (case kSv83 => walk_at "my site"); (case hbv83 => ((rename KBw.bInts _ = _ => hj9w); exact hj9w.trans rfl)); (case r1v83 => walk_at "my dig"); (case r2v83 => walk_at "my dig"); (case r3v83 => walk_at "my dig"); (case r4v83 => walk_at "my dig"); (case r5v83 => walk_at "my dig"); (case r6v83 => walk_at "my dig"))
      | (refine' num_c (d2 := 0) (d4 := 0) (d6 := 0) ?hbv83 ?r1v83 ?r2v83 ?r3v83 ?r4v83 ?r5v83 ?r6v83 (fun v9w t9w h9w tk9w hv9w F9w N9w => ?_) ?kSv83; (case kSv83 => walk_at "my site"); (case hbv83 => ((rename KBw.bInts _ = _ => hj9w); exact hj9w.trans rfl)); (case r1v83 => walk_at "my dig"); (case r2v83 => walk_at "my dig"); (case r3v83 => walk_at "my dig"); (case r4v83 => walk_at "my dig"); (case r5v83 => walk_at "my dig"); (case r6v83 => walk_at "my dig"))); (try dsimp only); (try k_fold)))
  k_with "my dig" => (first | assumption | exact And.left (by assumption) | exact And.right (by assumption) | exact ⟨by decide, by decide⟩)
  k_with "CompSrc" => ((k_here; k_dflt (first
      | (refine LCg.CompSrc.ledger (by rfl) (by k_asm) (by k_asm) (by k_mem) (by first | size_fits | exact Nat.le_of_ble_eq_true rfl) ?_; intro g'; lcg_lit)
      | (refine LCg.CompSrc.range (by rfl) (by k_asm) (by k_asm) (by assumption) (by first | decide | rfl) (by first | rfl | decide) (by first | size_fits | exact Nat.le_of_ble_eq_true rfl) ?_; intro g'; lcg_lit))))
  k_with "exec Assign cons ListComp" => ((k_here; (with_reducible show wpAny _ _ (exec (Stmt.Assign _ (Expr.ListComp _ [⟨_, Expr.Call _ [_, _, _] _ _, _, _⟩] _ _) _) _) _ _ _); k_dflt (refine Assign_ListComp_S (by k_asm) (by rfl) (by with_unfolding_all rfl) (by with_unfolding_all rfl) (by decide) (by rfl) (by decide) (by rfl) (by rfl) (by rfl) ?_)))
  k_with "SrcS" => ((k_here; k_dflt (refine SrcS.mk' (by rfl) (by k_asm) (by k_asm) (by assumption) (by first | decide | rfl) (by first | rfl | decide) (by first | size_fits | exact Nat.le_of_ble_eq_true rfl) ?_; intro g'; lcg_lit)))
  k_with "binaryOp Add bytes bytes" => ((k_here; (with_reducible show wpAny _ _ (binaryOp Operator.Add (Value.bytes _ _) (Value.bytes _ _)) _ _ _); k_dflt (refine' add_name ?n1v88 ?n2v88 ?n3v88 ?n4v88 (fun t9w k9w hb9w => ?_); (case n1v88 => assumption); (case n2v88 => exact rfl); (case n3v88 => assumption); (case n4v88 => first | decide | (simp only [List.length_cons, List.length_nil]; omega)))))
  k_with "my dec" => (first | omega | (simp only [decide_eq_true_eq, beq_iff_eq, bne_iff_ne, Bool.not_eq_true', decide_eq_false_iff_not, beq_eq_false_iff_ne, ne_eq]; omega) | (simp only [List.any_cons, List.any_nil, Bool.or_false, Bool.not_eq_true', Bool.or_eq_false_iff, beq_eq_false_iff_ne, ne_eq]; omega))
  k_with "ite" => ((k_here; (fail_if_success (goal_has PairP)); first | (refine ite_pos ?decv90 ?_; (case decv90 => walk_at "my dec"); walk_say "PRUNED mine") | (refine ite_neg ?decv90 ?_; (case decv90 => walk_at "my dec"); walk_say "PRUNED mine")))
  k_with "call ref" => ((k_here; k_dflt (refine' draw_c ?P1v91 ?P2v91 ?hIv91 ?h1v91 ?h2v91 ?h3v91 ?h4v91 ?h5v91 ?h6v91 ?h7v91 (fun k9w v9w t9w u9w h9w tk9w hk9w lo9w hi9w dv9w F9w N9w => ?_) ?kSv91; (case kSv91 => walk_at "my site"); (case P1v91 => walk_at "my pull"); (case P2v91 => walk_at "my pull"); (case hIv91 => l_ints); (case h1v91 => first | assumption | omega); (case h2v91 => omega); (case h3v91 => omega); (case h4v91 => walk_at "my pow"); (case h5v91 => walk_at "my pow"); (case h6v91 => omega); (case h7v91 => walk_at "my off")); subst hk9w; (try dsimp only); (try k_fold)))
  k_with "my sfx" => (first | exact List.mem_cons_self .. | exact List.mem_cons_of_mem _ (List.mem_cons_self ..))
  k_with "eval Subscript" => ((k_here; (with_reducible show wpAny _ _ (eval (Expr.Subscript (Expr.BinOp _ _ _ _) _ _) _) _ _ _); (fail_if_success (with_reducible show wpAny _ _ _ (CutP _ _ _ _ _ _ _) _ _)); (rename KBw.bInts _ = hexfig _ :: hexfig _ :: hexfig _ :: _ => hb9w); (rename _ = some (Value.int (0 + _ * _) _) => hx9w); (rename Fr _ _ _ _ => jF9w); (rename News _ _ _ _ => jN9w); (refine cut_join hx9w hb9w jF9w jN9w ?_ (fun B9w t9w h9w k9w hB9w F9w N9w => ?_)); rotate_left; (simp [cutL] at hB9w); rotate_left))
  k_with "CutP" => (((refine ⟨_, _, _, _, rfl, rfl, by assumption, by assumption, ?_⟩); (refine Eq.trans (by assumption) ?_); (with_unfolding_all rfl)))
  k_with "my ints" => (first | (with_reducible assumption) | exact (rfl : KBw.bInts _ = ([] : List Int)) | exact (rfl : KBw.bInts _ = ([47] : List Int)))
  k_with "subscriptTail" => ((k_here; (with_reducible show wpAny _ _ (subscriptTail _ _ (Value.ref _) (Value.int _ _)) _ _ _); k_dflt (refine' menu_many3 ?tv105 ?av105 ?bv105 (fun v9w t9w hv9w => ?_); (case tv105 => exact News.isTup (by k_asm) (by k_mem)); (case av105 => omega); (case bv105 => omega))))
  k_with "CompSrc" => ((k_here; k_dflt (refine' draw_parts ?Fv106 ?Nv106 ?hhv106 ?hrv106 ?hvv106 ?Pv106 (fun k9w t9w I9w oI9w C9w oC9w D9w m9w ys9w h9w tk9w E9w Cont9w lo9w hi9w hC9w F9w N9w off9w ne9w hc9w => ?turnv106) (fun g9w ys9w xs9w k9w t9w ha9w hn9w hd9w hl9w lo9w hi9w => ?finv106); (case Fv106 => k_asm); (case Nv106 => k_asm); (case hhv106 => exact rfl); (case hrv106 => assumption); (case hvv106 => assumption); (case Pv106 => walk_at "my pull")); (try simp only [LCg.Off3, and_true] at off9w); (try k_fold)))
  k_with "CompSrc" => ((k_here; k_dflt (refine' comp_pairs ?Fv107 ?Nv107 ?hhv107 ?hmv107 ?hav107 ?hvv107 ?hnv107 (fun B9w t9w ds9w I9w oI9w C9w oC9w D9w m9w ys9w h9w tk9w E9w Cont9w hB9w hd9w l19 l29 hC9w hx9w F9w N9w off9w ne9w hc9w => ?turnv107) (fun g9w ys9w ha9w => ?finv107); (case Fv107 => k_asm); (case Nv107 => k_asm); (case hhv107 => exact rfl); (case hmv107 => k_mem); (case hav107 => assumption); (case hvv107 => assumption); (case hnv107 => assumption)); (try simp only [LCg.Off3, and_true] at off9w); (try k_fold)))
  k_with "CompEnd" => ((k_here; first
      | ((refine' LCg.CompEnd.intro ?Fv108 ?Nv108 _ ?subv108 ?offv108 ?Sv108 (hc9w _ _ _ k9w u9w ?l1v108 ?l2v108 ?r1v108 ?r2v108 ?r3v108 ?r4v108)); (case r1v108 => assumption); (case r2v108 => assumption); (case l1v108 => omega); (case l2v108 => omega); (case r3v108 => omega); (case r4v108 => omega); (case Fv108 => assumption); (case Nv108 => k_asm); (case subv108 => lcg_sub); (case offv108 => walk_at "my off3"); (case Sv108 => exact trivial))
      | ((refine' LCg.CompEnd.intro ?Fv108 ?Nv108 _ ?subv108 ?offv108 ?Sv108 (hc9w _ _ ?rv108)); (case rv108 => assumption); (case Fv108 => assumption); (case Nv108 => k_asm); (case subv108 => lcg_sub); (case offv108 => walk_at "my off3"); (case Sv108 => lcg_src))))
  k_with "my off3" => (((simp only [LCg.Off3, and_true]); assumption))
  k_with "call builtin:bytes.join" => ((k_here; k_dflt (first
      | (refine' join_are (R := PartR) (f := fun ds => ds.map hexfig) (fun _ _ r => r.1) (fun _ _ r => part_len r) ?lv110 ?vv110 ?hsv110 ?hzv110 ?h2v110 ?h4v110 (fun B9w t9w k9w hB9w jl9w => ?_); (case lv110 => walk_at "my list"); (case vv110 => assumption); (case hsv110 => exact (rfl : KBw.bInts _ = sl [47])); (case hzv110 => decide); (case h2v110 => exact (many_len (by assumption) (by assumption)).1); (case h4v110 => exact (many_len (by assumption) (by assumption)).2))
      | (refine' join_are (R := PairR) (f := fun ds => [hexfig (hiF ds), hexfig (loF ds)]) (fun _ _ r => r) (fun _ _ _ => Nat.le_of_ble_eq_true rfl) ?lv110 ?vv110 ?hsv110 ?hzv110 ?h2v110 ?h4v110 (fun B9w t9w k9w hB9w jl9w => ?_); (case lv110 => walk_at "my list"); (case vv110 => assumption); (case hsv110 => exact Eq.refl ([] : List Int)); (case hzv110 => decide); (case h2v110 => exact (many_len (by assumption) (by assumption)).1); (case h4v110 => exact (many_len (by assumption) (by assumption)).2)))))
  k_with "call ref" => ((k_here; (with_reducible show wpAny _ _ (call (Value.ref 199) _) _ _ _); k_dflt (refine' num_c ?hbv111 ?r1v111 ?r2v111 ?r3v111 ?r4v111 ?r5v111 ?r6v111 (fun v9w t9w h9w tk9w hv9w F9w N9w => ?_) ?kSv111; (case kSv111 => walk_at "my site"); (case hbv111 => ((refine Eq.trans (by assumption) (pairs_six ?_)); omega)); (case r1v111 => exact (hilo_all (by assumption) _).1); (case r2v111 => exact (hilo_all (by assumption) _).2); (case r3v111 => exact (hilo_all (by assumption) _).1); (case r4v111 => exact (hilo_all (by assumption) _).2); (case r5v111 => exact (hilo_all (by assumption) _).1); (case r6v111 => exact (hilo_all (by assumption) _).2)); (try dsimp only); (try k_fold)))
  k_with "binaryOp Add bytes bytes" => ((k_here; (with_reducible show wpAny _ _ (binaryOp Operator.Add (Value.bytes _ _) (Value.bytes _ _)) _ _ _); (fail_if_success (goal_has PairP)); k_dflt (refine' add_rgb ?n1v112 ?n2v112 (fun t9w k9w hb9w => ?_); (case n1v112 => assumption); (case n2v112 => assumption))))
  exact trivial
theorem told_0 {prog : Program} {w : World} {p : Program} {loose : List Str} {mean : ExcName → Option Value} {mg mb : Str → Option Value} {dp un : Nat} {gd : Option (List Code)} {cn : Str} {cs : Scope} {a : Addr} {ccd : Value} {cl : List (Str × Addr)} {outer : List Env} {A₀ : Around} {base h₀ : Heap} {L : Addr} {m : Str → Option Value} {s : Shared} {Q E : Value → Shared → Prop} {news : List (Addr × Obj)}
    {pa b : Addr} {k : Int} {t : Tok} {n nb : Nat} {vs : List Value} {ns : List Int} {n1 rest : List (Addr × Obj)}
    (P1 : Pull (pa, W.listOf #[.ref b, .int k t] n) news n1) (P2 : Pull (b, W.listOf vs.toArray nb) n1 rest) (hI : IntsAre vs ns) (hlen : ns.length ≤ 63) (hk0 : 0 ≤ k) (hk1 : k ≤ 80000) (hpb : @Ne Nat pa b) (hne : LCg.Off1 pa rest)
    (hw : drawV ns k 4 = 0)
    (hT : ToldEnds h₀ L m news rest pa b n nb vs k s Q)
    (S : Site w p loose mean mg mb dp un 3 cs outer A₀ base h₀ L s.heap m news) :
    wpAny (model prog w) (ktrTop dp un gd cn cs L a ccd cl outer) (call (.ref 204) [.ref pa]) Q E s := by
  obtain ⟨B, F, X, N, T, hk, hd, hu⟩ := S
  have N0 : News h₀ L s.heap [(pa, W.listOf #[.ref b, .int k t] n), (b, W.listOf vs.toArray nb)] := fun q hq => N q (by
    rcases List.mem_cons.mp hq with rfl | hq
    · exact P1.mem _ (List.mem_cons_self ..)
    · rw [List.mem_singleton.mp hq]; exact P1.mem _ (List.mem_cons_of_mem _ (P2.mem _ (List.mem_cons_self ..))))
  have kN0 : KeptN h₀ L s.heap [(pa, W.listOf #[.ref b, .int k t] n), (b, W.listOf vs.toArray nb)] := N0
  (walk_at "my enterC"; intro g9 L9 h9 tk9 cells9 FG9 F9 N9 Y9 B9 X9 T9 l9 kG9; clear N0; (try k_lt l9); k_cells Y9; (try simp only [List.cons_append, List.nil_append] at N9); (try dsimp only); (try k_lift B9); (try k_fold); k_steps)
  all_goals ((rename News g9 _ _ _ => N'); (rename Fr g9 _ _ _ => F'); (rename Fr h₀ _ _ _ => kF); (rename News h₀ _ _ _ => kN); (rename KBw.bInts (_ ++ _) = _ => hk8))
  all_goals first
    | ((rename _ = 1048576 * _ + _ + _ + _ + _ + _ => hv8);
       (have hz8 := rgb_some hk8 (by omega) hv8 (by assumption) (by assumption));
       (refine' hT.some _ _ _ _ _ _ _ _ _ _ ?pa1 ?pa2 ?pv1 ?pv2 ?pv3 ?pv4 ?pv5 ?pv6 (off_of kG9 N' ?pa5 ?pa6 N) kF (News.one kN ?pa7 (rest_of kG9 F' N' N P1 P2 (off1_mem hne) ?pa3 ?pa4)); (case pa3 => k_mem); (case pa4 => k_mem); (case pa5 => k_mem); (case pa7 => k_mem); (case pa1 => omega); (case pa2 => omega); (case pa6 => exact notin2 (by omega) (by omega)));
       (case pv1 => rfl);
       (case pv2 => exact hz8.1);
       (case pv3 => exact hz8.2.1);
       (case pv4 => exact hz8.2.2.1);
       (case pv5 => exact hz8.2.2.2.1);
       (case pv6 => exact hz8.2.2.2.2))
    | ((have hz8 := rgb_none hk8 (by assumption) (by assumption) (by assumption) (by assumption) (by assumption));
       (refine' hT.none _ _ _ _ _ _ _ _ ?pa1 ?pa2 ?pv1 ?pv2 ?pv3 ?pv4 (off_of kG9 N' ?pa5 ?pa6 N) kF (News.one kN ?pa7 (rest_of kG9 F' N' N P1 P2 (off1_mem hne) ?pa3 ?pa4)); (case pa3 => k_mem); (case pa4 => k_mem); (case pa5 => k_mem); (case pa7 => k_mem); (case pa1 => omega); (case pa2 => omega); (case pa6 => exact notin2 (by omega) (by omega)));
       (case pv1 => rfl);
       (case pv2 => exact hz8.1);
       (case pv3 => exact hz8.2.1);
       (case pv4 => exact hz8.2.2))

theorem set60 : True := by
  k_with_none
  w_top off
  k_with "my site" => ((refine' Site.mk ?s1v1 ?s2v1 ?s3v1 ?s4v1 ?s5v1 ?s6v1 ?s7v1 ?s8v1; (case s1v1 => first | k_asm | fail "site: below"); (case s2v1 => first | k_asm | fail "site: frame"); (case s3v1 => first | k_asm | fail "site: part"); (case s4v1 => first | k_asm | fail "site: ledger"); (case s5v1 => first | k_asm | fail "site: top"); (case s6v1 => first | exact rfl | assumption | fail "site: kind"); (case s7v1 => first | exact room_ok (by assumption) (by decide) | (walk_say "ROOM"; ktr_room) | fail "site: room"); (case s8v1 => first | exact units_ok (by assumption) (by decide) | (walk_say "UNITS"; ktr_units) | fail "site: units")))
  k_with "my enter" => ((refine wpAny_call ?_; k_dflt (refine' code_defG ?k1v2 ?k2v2 ?k3v2 ?k4v2 ?k5v2 ?kAv2 ?kFv2 ?kKv2 ?k6v2 ?k7v2 ?k8v2 ?k9wv2 ?kBv2 ?_ ?c2v2 ?c3v2 ?c4v2 ?c5v2; (case kAv2 => exact rfl); (case kFv2 => exact rfl); (case kKv2 => assumption); (case k1v2 => k_asm); (case k2v2 => k_asm); (case k3v2 => k_asm); (case k4v2 => k_asm); (case k5v2 => k_asm); (case k6v2 => k_is); (case k7v2 => k_is); (case k8v2 => ktr_room); (case k9wv2 => exact BindsTo.of_eq rfl); (case c5v2 => decide); (case kBv2 => exact locs rfl); (case c2v2 => exact rfl); (case c3v2 => exact rfl); (case c4v2 => exact rfl); k_whole)))
  k_with "call ref" => ((k_here; (try dsimp only [List.nil_append, List.append_nil]); refine wpAny_call ?_; k_dflt (refine' code_def ?k1v3 ?k2v3 ?k3v3 ?k4v3 ?k5v3 ?kAv3 ?kFv3 ?kKv3 ?k6v3 ?k7v3 ?k8v3 ?k9wv3 ?kBv3 ?_ ?c2v3 ?c3v3 ?c4v3 ?c5v3; (case kAv3 => exact rfl); (case kFv3 => exact rfl); (case kKv3 => first | exact rfl | assumption); (case k1v3 => k_asm); (case k2v3 => k_asm); (case k3v3 => k_asm); (case k4v3 => k_asm); (case k5v3 => k_asm); (case k6v3 => k_is); (case k7v3 => k_is); (case k8v3 => ktr_room); (case k9wv3 => exact BindsTo.of_eq rfl); (case c5v3 => decide); (case kBv3 => exact locs rfl); (case c2v3 => exact rfl); (case c3v3 => exact rfl); (case c4v3 => exact rfl); k_whole; intro g' L' h' FG' F' N' B' X' T'; (try dsimp only); (try k_lift B'); (try k_fold))))
  k_with "my off" => (((rename (_ ≠ _ ∧ _ ≠ _ ∧ _ ≠ _) ∧ _ => off9w); (simp only [ne_eq] at off9w); (simp only [LCg.Off3, and_true, ne_eq, off9w, not_false_eq_true, and_self, true_and]); (first | done | ((repeat' (refine And.intro ?_ ?_)); all_goals exact neN (by walk_at "my ne")))))
  k_with "ite" => ((k_here; first
      | (refine' ite_posI ?hcv5 ?_; (case hcv5 => k_dflt (exact of_decide_eq_true (by exact rfl))))
      | (refine' ite_negI ?hcv5 ?_; (case hcv5 => k_dflt (exact of_decide_eq_false (by exact rfl))))))
  k_with "my fact" => (first | (with_reducible assumption) | (simp only [ne_eq, not_false_eq_true, *]; done))
  k_with "my ne" => (first | (walk_at "my fact") | exact Ne.symm (by walk_at "my fact") | exact Nat.ne_of_lt (by walk_at "my fact") | exact Nat.ne_of_gt (by walk_at "my fact") | exact Nat.ne_of_lt (Nat.lt_succ_of_lt (by walk_at "my fact")) | exact Nat.ne_of_gt (Nat.lt_succ_of_lt (by walk_at "my fact")) | (walk_say "NE by omega"; omega))
  k_with "my side" => ((with_reducible ((repeat' (refine And.intro ?_ ?_)) <;> first | exact trivial | assumption | (walk_at "my arith"))))
  k_with "my arith" => (first
        | ((show IntMulOk _ _); first | exact PySem.IntMulOk.of_right (PySem.intBits_le_64 (by decide) (by decide)) | exact PySem.IntMulOk.of_left (PySem.intBits_le_64 (by decide) (by decide)) | exact PySem.IntMulOk.of_right (PySem.intBits_le_64 (by omega) (by omega)) | exact PySem.IntMulOk.of_left (PySem.intBits_le_64 (by omega) (by omega)) | mul_fits)
        | ((show Builtin.divisionGoesByPylong _ _ = false); first | exact PyProof.noPylong_of_log2 (by decide +kernel) | exact PyProof.noPylong_small (by omega))
        | omega
        | decide)
  k_with "my no" => (first | with_reducible exact False.elim p9w | with_reducible exact absurd trivial p9w | with_reducible exact absurd rfl p9w | (law_purse 20000 => omega))
  k_with "execs cons" => ((k_here; (first
        | ((with_reducible show wpAny _ _ (execs (Stmt.Return (some _) _ :: _) _) _ _ _); (fail_if_success (with_reducible show wpAny _ _ (execs (Stmt.Return (some (Expr.Tuple _ _ _)) _ :: _) _) _ _ _)); (fail_if_success (with_reducible show wpAny _ _ (execs (Stmt.Return (some (Expr.List _ _)) _ :: _) _) _ _ _)); (fail_if_success (with_reducible show wpAny _ _ (execs (Stmt.Return (some (Expr.Dict _ _ _)) _ :: _) _) _ _ _)); k_dflt ((with_reducible refine' st_retE ?hev11 ?Fv11 ?Xv11 ?Tv11 (fun t => ?ev11) ?hkv11 ?hcv11 (fun t9w tk9w => ?_))); (case hev11 => k_dflt (exact rfl)); (case Fv11 => k_asm); (case Xv11 => k_asm); (case Tv11 => k_asm); (case ev11 => k_dflt (exact rfl)); (case hkv11 => k_dflt (exact rfl)); (case hcv11 => walk_at "my side"); (try dsimp only))
        | ((with_reducible show wpAny _ _ (execs (Stmt.If _ _ [] _ :: _) _) _ _ _); k_dflt ((with_reducible refine' st_if0E ?hev11 ?Fv11 ?Xv11 ?Tv11 ?ev11 ?hkv11 ?hcv11 (fun p9w tk9w => ?_) (fun p9w tk9w => ?_))); (case hev11 => k_dflt (exact rfl)); (case Fv11 => k_asm); (case Xv11 => k_asm); (case Tv11 => k_asm); (case ev11 => k_dflt (exact rfl)); (case hkv11 => k_dflt (exact rfl)); (case hcv11 => walk_at "my side"); all_goals first | (exfalso; walk_at "my no") | (try dsimp only))
        | ((with_reducible show wpAny _ _ (execs (Stmt.If _ _ (_ :: _) _ :: _) _) _ _ _); k_dflt ((with_reducible refine' st_ifE ?hev11 ?Fv11 ?Xv11 ?Tv11 ?ev11 ?hkv11 ?hcv11 (fun p9w tk9w => ?_) (fun p9w tk9w => ?_))); (case hev11 => k_dflt (exact rfl)); (case Fv11 => k_asm); (case Xv11 => k_asm); (case Tv11 => k_asm); (case ev11 => k_dflt (exact rfl)); (case hkv11 => k_dflt (exact rfl)); (case hcv11 => walk_at "my side"); all_goals first | (exfalso; walk_at "my no") | (try dsimp only))
        | ((with_reducible show wpAny _ _ (execs (Stmt.Assign [Expr.Name _ _] _ _ :: _) _) _ _ _); k_dflt ((with_reducible refine' st_assignE ?hev11 ?Fv11 ?Nv11 ?Xv11 ?Tv11 (fun t => ?ev11) ?hkv11 ?hxv11 ?hsv11 ?hcv11 (fun t9w tk9w h9w => ?_))); (case hev11 => k_dflt (exact rfl)); (case Fv11 => k_asm); (case Nv11 => k_asm); (case Xv11 => k_asm); (case Tv11 => k_asm); (case ev11 => k_dflt (exact rfl)); (case hkv11 => k_dflt (exact rfl)); (case hxv11 => k_dflt (exact rfl)); (case hsv11 => k_dflt (exact rfl)); (case hcv11 => walk_at "my side"); intro m9w F9w N9w; (try k_sweep); (try dsimp only)))))
  k_with "eval BinOp" => ((k_here; k_dflt ((with_reducible refine' ev_peE ?hev12 ?Fv12 ?Xv12 ?Tv12 (fun t => ?ev12) ?hkv12 ?hcv12 (fun t9w tk9w => ?_)); (case hev12 => k_dflt (exact rfl)); (case Fv12 => k_asm); (case Xv12 => k_asm); (case Tv12 => k_asm); (case ev12 => k_dflt (exact rfl)); (case hkv12 => k_dflt (exact rfl)); (case hcv12 => walk_at "my side")); (try dsimp only)))
  k_with "eval IfExp" => ((k_here; k_dflt ((with_reducible refine' ev_ifE ?hev13 ?Fv13 ?Xv13 ?Tv13 ?ev13 ?hkv13 ?hcv13 (fun p9w tk9w => ?_) (fun p9w tk9w => ?_)); (case hev13 => k_dflt (exact rfl)); (case Fv13 => k_asm); (case Xv13 => k_asm); (case Tv13 => k_asm); (case ev13 => k_dflt (exact rfl)); (case hkv13 => k_dflt (exact rfl)); (case hcv13 => walk_at "my side"); all_goals first | (exfalso; walk_at "my no") | (try dsimp only))))
  k_with "eval Call" => ((k_here; (with_reducible show wpAny _ _ (eval (Expr.Call (Expr.Name _ _) (_ :: _) [] _) _) _ _ _); k_dflt ((with_reducible refine' ev_callE ?hev14 ?Fv14 ?Xv14 ?Tv14 ?efv14 ?hfv14 (fun t => ?eav14) ?hkv14 ?hcv14 (fun t9w tk9w => ?_)); (case hev14 => k_dflt (exact rfl)); (case Fv14 => k_asm); (case Xv14 => k_asm); (case Tv14 => k_asm); (case efv14 => k_dflt (exact rfl)); (case hfv14 => k_dflt (exact rfl)); (case eav14 => k_dflt (exact rfl)); (case hkv14 => k_dflt (exact rfl)); (case hcv14 => walk_at "my side"))))
  k_with "my nm" => ((k_dflt (refine' nm_ok ?Fv15 ?Xv15 ?Tv15 ?hkv15); (case Fv15 => k_asm); (case Xv15 => k_asm); (case Tv15 => k_asm); (case hkv15 => k_dflt (exact rfl))))
  k_with "spliced" => ((k_here; (with_reducible show wpAny _ _ (spliced (backTo _ (starEach (_ :: _) _))) _ _ _); (fail_if_success (with_reducible show wpAny _ _ (spliced (backTo _ (starEach (_ :: _ :: _ :: _ :: _ :: _ :: _ :: _) _))) _ _ _)); k_dflt ((with_reducible refine' xe_all ?hnv16 (fun tk => ?ev16) ?hcv16 (fun tk9w k9w => ?_))); (case hnv16 => walk_at "my nm"); (case ev16 => k_dflt (exact rfl)); (case hcv16 => walk_at "my side"); (try dsimp only [List.cons_append, List.nil_append])))
  k_with "storeName" => ((k_here; k_dflt ((with_reducible refine' st_storeE ?hev17 ?Fv17 ?Nv17 (fun tk9w h9w => ?_) ?hkv17 ?hxv17)); (case hev17 => k_dflt (exact rfl)); (case Fv17 => k_asm); (case Nv17 => k_asm); (case hkv17 => k_dflt (exact rfl)); (case hxv17 => k_dflt (exact rfl)); intro m9w F9w N9w; (try k_sweep); (try dsimp only)))
  k_with "call ref" => ((k_here; k_dflt (refine' hexv_c ?kSv18 (fun hv9w h9w tk9w F9w N9w => ?_) (fun v9w t9w hv9w h9w tk9w F9w N9w => ?_); (case kSv18 => walk_at "my site")); all_goals ((try dsimp only); (try k_fold))))
  k_with "call ref" => ((k_here; k_dflt (refine' figs_c ?kbv21 ?klv21 ?kSv21 (fun hv9w h9w tk9w F9w N9w => ?_) (fun v9w t9w hv9w h9w tk9w F9w N9w => ?_); (case kbv21 => kba_ints2); (case klv21 => kba_size); (case kSv21 => walk_at "my site")); all_goals ((try dsimp only); (try k_fold))))
  k_with "pyIter ref" => (((with_reducible show wpAny _ _ (pyIter (Value.ref _)) (fun it s₂ => LoopAtV _ _ _ _ _ _ _ _ _ it s₂) _ _); (rename Fr _ _ _ _ => lF'); (rename News _ _ _ _ => lN'); (with_unfolding_all refine iter_tupleUnr (by rfl) lF' lN' (by k_mem) ?_); clear lF' lN'; intro i' l1; (try k_lt l1)))
  k_with "TupRest" => ((with_unfolding_all first | (refine TupRest.succ (fun it' h' tk' hit' F' N' => ?_)) | (refine TupRest.zero (fun h' tk' F' N' => ?_))))
  k_with "getMethod bytes" => ((k_here; (with_reducible refine method_join ?_)))
  k_with "getMethod bytes" => ((k_here; (with_reducible refine method_split ?_)))
  k_with "my ints" => (first | kba_ints | exact (rfl : KBw.bInts _ = ([47] : List Int)) | exact (rfl : KBw.bInts _ = ([] : List Int)) | kba_ints2)
  k_with "my list" => (first | exact News.isList (by k_asm) (by k_mem) | is_list)
  k_with "call builtin:bytes.join" => ((k_here; k_dflt (first
      | (refine' join3 ?lv28 ?hsv28 ?h1v28 ?h2v28 ?h3v28 ?hzv28 ?_; (case lv28 => walk_at "my list"); (case hsv28 => walk_at "my ints"); (case h1v28 => walk_at "my ints"); (case h2v28 => walk_at "my ints"); (case h3v28 => walk_at "my ints"); (case hzv28 => kba_size))); intro B9w t9w k9w hB9w; (try simp only [List.nil_append, List.cons_append, List.append_assoc] at hB9w)))
  k_with "call ref" => ((k_here; k_dflt (refine' rgb_c ?h1v29 ?h2v29 ?h3v29 ?h4v29 ?h5v29 (fun D9w t9w u9w v9w h9w tk9w o9w F9w N9w => ?_) ?kSv29; (case h1v29 => assumption); (case h2v29 => first | assumption | decide | omega); (case h3v29 => first | assumption | omega); (case h4v29 => first | assumption | omega); (case h5v29 => first | assumption | omega); (case kSv29 => walk_at "my site")); (try simp only [LCg.Off1, and_true] at o9w); (try dsimp only); (try k_fold)))
  k_with "call builtin:bytes.split" => ((k_here; k_dflt (refine' split_call ?h1v30 ?h2v30 ?h3v30 ?h4v30 (fun D9w b1 b2 b3 t1 t2 t3 k1 k2 k3 h9w tk9w hsg e1 e2 e3 z1 z2 z3 F9w N9w l9w => ?_) (fun D9w vs9w h9w tk9w hsg e1 z1 F9w N9w l9w => ?_); (case h1v30 => k_asm); (case h2v30 => k_asm); (case h3v30 => walk_at "my ints"); (case h4v30 => kba_size)); all_goals ((try k_lt l9w); (try simp only [List.length_take, List.length_drop] at z1 z2 z3))))
  k_with "subscriptTail" => ((k_here; (with_reducible show wpAny _ _ (subscriptTail _ _ (Value.bytes _ _) (Value.int _ _)) _ _ _); (first
      | (refine' figs_item (nib_hi ?h1v31 ?h2v31 ?h3v31) ?h4v31 ?h5v31 (fun t9w k9w => ?_); (case h1v31 => assumption); (case h2v31 => omega); (case h3v31 => omega); (case h4v31 => omega); (case h5v31 => omega))
      | (refine' figs_item (nib_lo ?h1v31 ?h2v31 ?h3v31) ?h4v31 ?h5v31 (fun t9w k9w => ?_); (case h1v31 => assumption); (case h2v31 => omega); (case h3v31 => omega); (case h4v31 => omega); (case h5v31 => omega)))))
  k_with "call ref" => ((k_here; k_dflt (refine' figs_cb ?kbv36 ?klv36 ?kSv36 (fun hv9w h9w tk9w F9w N9w => ?_) (fun v9w t9w hv9w lo9w hi9w h9w tk9w F9w N9w => ?_); (case kbv36 => kba_ints2); (case klv36 => kba_size); (case kSv36 => walk_at "my site")); all_goals ((try dsimp only); (try k_fold))))
  k_with "Exists" => ((k_here; (refine made_bytes (by k_asm) (by first | k_asm | exact News.nil) (Top.nolimit (by k_asm)) (by rfl) (of_decide_eq_true (by rfl)) ?_; intro h' o' F' N' l1 lo' hd'; (try k_lt l1))))
  k_with "eval Dict" => ((k_here; (with_reducible refine Dict_made_bytes (by with_unfolding_all rfl) (by with_unfolding_all assumption) (by with_unfolding_all rfl) (by with_unfolding_all rfl) (List.cons_ne_nil _ _) (by with_unfolding_all decide) ?_; intro _)))
  k_with "my enterC" => ((refine wpAny_call ?_; k_dflt (refine' code_defCG ?k1v44 ?k2v44 ?k3v44 ?k4v44 ?k5v44 ?kAv44 ?kFv44 ?kKv44 ?k6v44 ?k7v44 ?k8v44 ?k9wv44 ?kBv44 ?kDv44 ?_ ?c2v44 ?c3v44 ?c4v44; (case kAv44 => exact rfl); (case kFv44 => exact rfl); (case kKv44 => assumption); (case k1v44 => k_asm); (case k2v44 => k_asm); (case k3v44 => k_asm); (case k4v44 => k_asm); (case k5v44 => k_asm); (case k6v44 => k_is); (case k7v44 => k_is); (case k8v44 => ktr_room); (case k9wv44 => exact BindsTo.of_eq rfl); (case kBv44 => exact rfl); (case kDv44 => decide +kernel); (case c2v44 => exact rfl); (case c3v44 => exact rfl); (case c4v44 => exact rfl); k_whole)))
  k_with "my pull" => (first | exact Pull.head | (refine' Pull.tail ?ptlv49; (case ptlv49 => walk_at "my pull")))
  k_with "my off" => (((try simp only [LCg.Off1, and_true]); (repeat' (refine And.intro ?_ ?_)); all_goals first | exact trivial | (walk_at "my ne")))
  k_with "my pow" => (first | omega | exact pow16_pos _ | exact pow16_le (by omega) | decide)
  k_with "call ref" => ((k_here; k_dflt (refine' draw_c ?P1v52 ?P2v52 ?hIv52 ?h1v52 ?h2v52 ?h3v52 ?h4v52 ?h5v52 ?h6v52 ?h7v52 (fun k9w v9w t9w u9w h9w tk9w hk9w lo9w hi9w dv9w F9w N9w => ?_) ?kSv52; (case kSv52 => walk_at "my site"); (case P1v52 => walk_at "my pull"); (case P2v52 => walk_at "my pull"); (case hIv52 => l_ints); (case h1v52 => first | assumption | omega); (case h2v52 => omega); (case h3v52 => omega); (case h4v52 => walk_at "my pow"); (case h5v52 => walk_at "my pow"); (case h6v52 => omega); (case h7v52 => walk_at "my off")); (try dsimp only); (try k_fold)))
  k_with "call ref" => ((k_here; k_dflt (refine' small_c ?kbv61 ?klv61 (fun B9w t9w h9w tk9w hB9w F9w N9w => ?_) ?kSv61; (case kSv61 => walk_at "my site"); (case kbv61 => walk_at "my ints"); (case klv61 => first | assumption | kba_size)); (try dsimp only); (try k_fold)))
  k_with "call ref" => ((k_here; k_dflt (refine' digs_c ?kbv62 ?klv62 (fun hv9w h9w tk9w F9w N9w => ?_) (fun v9w t9w hv9w h9w tk9w F9w N9w => ?_) ?kSv62; (case kSv62 => walk_at "my site"); (case kbv62 => walk_at "my ints"); (case klv62 => first | assumption | kba_size)); all_goals ((try dsimp only); (try k_fold))))
  k_with "call ref" => ((k_here; k_dflt (refine' parts_c ?kb1v63 ?kb2v63 ?kb3v63 ?kl1v63 ?kl2v63 ?kl3v63 ?kDv63 (fun hv9w h9w tk9w F9w N9w => ?_) (fun v9w t9w hv9w h9w tk9w F9w N9w => ?_) ?kSv63; (case kSv63 => walk_at "my site"); (case kDv63 => k_mem); (case kb1v63 => assumption); (case kb2v63 => assumption); (case kb3v63 => assumption); (case kl1v63 => first | assumption | omega); (case kl2v63 => first | assumption | omega); (case kl3v63 => first | assumption | omega)); all_goals ((try dsimp only); (try k_fold))))
  k_with "call ref" => ((k_here; k_dflt (refine' names_c (fun D9w o9w kvs9w h9w tk9w off9w lo9w hd9w ht9w F9w N9w => ?_) ?kSv64; (case kSv64 => walk_at "my site")); (try simp only [LCg.Off1, and_true] at off9w); (try dsimp only); (try k_fold)))
  k_with "call ref" => ((k_here; k_dflt (refine' lnames_c (fun D9w o9w kvs9w h9w tk9w off9w lo9w hd9w ht9w F9w N9w => ?_) ?kSv65; (case kSv65 => walk_at "my site")); (try simp only [LCg.Off1, and_true] at off9w); (try dsimp only); (try k_fold)))
  k_with "getMethod ref" => ((k_here; kda_here; (with_reducible show wpAny _ _ (getMethod (Value.ref _) (Str.ofString "get") _) _ _ _); k_dflt (refine kdg_method (knd := bytesKind _ _) (by k_asm) (by k_mem) (by k_asm) ?_)))
  k_with "call builtin:dict.get" => ((k_here; kda_here; k_dflt (refine' get_names ?n1v67 ?n2v67 ?n3v67 ?n4v67 ?n5v67 ?n6v67 (fun hv9w t9w => ?_) (fun v9w t9w k9w hv9w => ?_); (case n1v67 => k_asm); (case n2v67 => k_mem); (case n3v67 => k_asm); (case n4v67 => k_asm); (case n5v67 => assumption); (case n6v67 => walk_at "my ints")); all_goals (try dsimp only)))
  k_with "call builtin:len" => ((k_here; (with_reducible show wpAny _ _ (call (Value.builtin "len") [Value.ref _]) _ _ _); k_dflt (refine' len_gen ?n1v68 ?n2v68 ?n3v68 (fun t9w k9w => ?_); (case n1v68 => k_asm); (case n2v68 => k_mem); (case n3v68 => assumption))))
  k_with "call ref" => ((k_here; (with_reducible show wpAny _ _ (call _ [_, Value.int (1 + _) _]) _ _ _); k_dflt (refine' hex_c ?P1v76 ?P2v76 ?hIv76 ?h1v76 ?h2v76 ?h3v76 ?h4v76 ?h5v76 ?h6v76 ?h7v76 (fun k9w B9w ds9w t9w u9w h9w tk9w lo9w hi9w din9w dl9w hB9w F9w N9w => ?_) ?kSv76; (case kSv76 => walk_at "my site"); (case P1v76 => walk_at "my pull"); (case P2v76 => walk_at "my pull"); (case hIv76 => l_ints); (case h1v76 => first | assumption | omega); (case h2v76 => omega); (case h3v76 => omega); (case h4v76 => omega); (case h5v76 => omega); (case h6v76 => omega); (case h7v76 => walk_at "my off")); (have hlo9w := hilo_dig din9w); (try dsimp only); (try k_fold)))
  k_with "call ref" => ((k_here; (with_reducible show wpAny _ _ (call (Value.ref 192) _) _ _ _); (fail_if_success (with_reducible show wpAny _ _ (call _ [_, Value.int (1 + _) _]) _ _ _)); k_dflt (refine' hex_c ?P1v77 ?P2v77 ?hIv77 ?h1v77 ?h2v77 ?h3v77 ?h4v77 ?h5v77 ?h6v77 ?h7v77 (fun k9w B9w ds9w t9w u9w h9w tk9w lo9w hi9w din9w dl9w hB9w F9w N9w => ?_) ?kSv77; (case kSv77 => walk_at "my site"); (case P1v77 => walk_at "my pull"); (case P2v77 => walk_at "my pull"); (case hIv77 => l_ints); (case h1v77 => first | assumption | omega); (case h2v77 => omega); (case h3v77 => omega); (case h4v77 => omega); (case h5v77 => omega); (case h6v77 => omega); (case h7v77 => walk_at "my off")); (try dsimp only); (try k_fold); (rcases digs_cases din9w with ⟨d1, d2, d3, e9w, q1, q2, q3⟩ | ⟨d1, d2, d3, d4, d5, d6, e9w, q1, q2, q3, q4, q5, q6⟩ | ⟨d1, d2, d3, d4, d5, d6, d7, d8, d9w, e9w, q1, q2, q3, q4, q5, q6, q7, q8, q9w⟩ | ⟨d1, d2, d3, d4, d5, d6, d7, d8, d9w, d10, d11, d12, e9w, q1, q2, q3, q4, q5, q6, q7, q8, q9w, q10, q11, q12⟩ | ⟨n3, n6, n9w, n12⟩); all_goals (try (subst e9w; simp only [List.map_cons, List.map_nil, List.length_cons, List.length_nil] at hB9w dl9w)); all_goals (try (exfalso; omega))))
  k_with "call builtin:sorted" => ((k_here; (with_reducible show wpAny _ _ (call (Value.builtin "sorted") [Value.ref _]) _ _ _); k_dflt (refine' sorted_names ?s1v78 ?s2v78 ?s3v78 ?s4v78 ?s5v78 ?s6v78 ?s7v78 ?s8v78 (fun D9w vs9w e9w h9w tk9w vl9w vm9w F9w N9w l9w => ?_); (case s1v78 => rfl); (case s2v78 => k_asm); (case s3v78 => k_asm); (case s4v78 => k_mem); (case s5v78 => k_asm); (case s6v78 => k_asm); (case s7v78 => assumption); (case s8v78 => decide)); (have vz9w : vs9w.length = 15 := vl9w); (try k_lt l9w)))
  k_with "call builtin:len" => ((k_here; (with_reducible show wpAny _ _ (call (Value.builtin "len") [Value.ref _]) _ _ _); k_dflt (refine' len_gen ?n1v79 ?n2v79 ?n3v79 (fun t9w k9w => ?_); (case n1v79 => k_asm); (case n2v79 => k_mem); (case n3v79 => omega))))
  k_with "subscriptTail" => ((k_here; (with_reducible show wpAny _ _ (subscriptTail _ _ (Value.ref _) (Value.int _ _)) _ _ _); k_dflt (first
      | (refine' menu_many ?tv80 ?av80 ?bv80 (fun hw9w t9w => ?_) (fun hw9w t9w => ?_) (fun hw9w t9w => ?_); (case tv80 => exact News.isTup (by k_asm) (by k_mem)); (case av80 => omega); (case bv80 => omega); all_goals (try (exfalso; omega)))
      | (refine' menu_sfx ?tv80 ?av80 ?bv80 (fun t9w => ?_) (fun t9w => ?_); (case tv80 => exact News.isTup (by k_asm) (by k_mem)); (case av80 => omega); (case bv80 => omega))
      | (refine' name_item ?nv80 ?mv80 ?vv80 ?av80 ?bv80 ?zv80 (fun B9w t9w kn9w hb9w hk9w => ?_); (case nv80 => k_asm); (case mv80 => k_mem); (case vv80 => assumption); (case av80 => omega); (case bv80 => omega); (case zv80 => omega))
      | (refine' bent_item (t := 179) (tab := bents) ?xv80 ?fv80 ?ov80 ?av80 ?bv80 ?zv80 ?vv80 (fun B9w t9w kn9w hb9w hk9w => ?_); (case xv80 => k_asm); (case fv80 => k_asm); (case ov80 => exact rfl); (case av80 => omega); (case bv80 => (simp only [List.length_cons, List.length_nil]; omega)); (case zv80 => (simp only [List.length_cons, List.length_nil]; omega)); (case vv80 => repeat (first | exact List.forall_mem_nil _ | refine List.forall_mem_cons.mpr ⟨⟨_, _, rfl, by decide⟩, ?_⟩))))))
  k_with "eval IfExp" => ((k_here; (with_reducible show wpAny _ _ (eval (Expr.IfExp (Expr.Compare (Expr.Call _ _ _ _) _ _ _) _ _ _) _) _ _ _); (fail_if_success (with_reducible show wpAny _ _ _ (PairP _ _ _ _ _ _) _ _)); (rename _ = some (Value.bytes _ _) => hx9w); (rename Fr _ _ _ _ => jF9w); (rename News _ _ _ _ => jN9w); (refine pair_join hx9w (by assumption) jF9w jN9w ?_ (fun B9w t9w h9w k9w hB9w F9w N9w => ?_))))
  k_with "PairP" => (first
      | (refine ⟨_, _, _, _, rfl, rfl, by assumption, by assumption, ?_⟩; first
        | (rw [bInts_app, ‹KBw.bInts _ = _›]; exact pair_one (by simp only [List.length_map] at *; omega))
        | (refine Eq.trans (by assumption) (pair_two ?_ ?_) <;> (simp only [List.length_map] at *; omega))))
  k_with "call ref" => ((k_here; (with_reducible show wpAny _ _ (call (Value.ref 199) _) _ _ _); k_dflt (first
      | (refine' num_c ?hbv83 ?r1v83 ?r2v83 ?r3v83 ?r4v83 ?r5v83 ?r6v83 (fun v9w t9w h9w tk9w hv9w F9w N9w => ?_) ?kSv83; (case kSv83 => walk_at "my site"); (case hbv83 => assumption); (case r1v83 => walk_at "my dig"); (case r2v83 => walk_at "my dig"); (case r3v83 => walk_at "my dig"); (case r4v83 => walk_at "my dig"); (case r5v83 => walk_at "my dig"); (case r6v83 => walk_at "my dig"))
      | (refine' num_c ?hbv83 ?r1v83 ?r2v83 ?r3v83 ?r4v83 ?r5v83 ?r6v83 (fun v9w t9w h9w tk9w hv9w F9w N9w => ?_) ?kSv83; (case kSv83 => walk_at "my site"); (case hbv83 => ((rename KBw.bInts _ = _ => hj9w); exact hj9w.trans rfl)); (case r1v83 => walk_at "my dig"); (case r2v83 => walk_at "my dig"); (case r3v83 => walk_at "my dig"); (case r4v83 => walk_at "my dig"); (case r5v83 => walk_at "my dig"); (case r6v83 => walk_at "my dig"))
      | (refine' num_c (d2 := 0) (d4 := 0) (d6 := 0) ?hbv83 ?r1v83 ?r2v83 ?r3v83 ?r4v83 ?r5v83 ?r6v83 (fun v9w t9w h9w tk9w hv9w F9w N9w => ?_) ?kSv83; (case kSv83 => walk_at "my site"); (case hbv83 => ((rename KBw.bInts _ = _ => hj9w); exact hj9w.trans rfl)); (case r1v83 => walk_at "my dig"); (case r2v83 => walk_at "my dig"); (case r3v83 => walk_at "my dig"); (case r4v83 => walk_at "my dig"); (case r5v83 => walk_at "my dig"); (case r6v83 => walk_at "my dig"))); (try dsimp only); (try k_fold)))
  k_with "my dig" => (first | assumption | exact And.left (by assumption) | exact And.right (by assumption) | exact ⟨by decide, by decide⟩)
  k_with "CompSrc" => ((k_here; k_dflt (first
      | (refine LCg.CompSrc.ledger (by rfl) (by k_asm) (by k_asm) (by k_mem) (by first | size_fits | exact Nat.le_of_ble_eq_true rfl) ?_; intro g'; lcg_lit)
      | (refine LCg.CompSrc.range (by rfl) (by k_asm) (by k_asm) (by assumption) (by first | decide | rfl) (by first | rfl | decide) (by first | size_fits | exact Nat.le_of_ble_eq_true rfl) ?_; intro g'; lcg_lit))))
  k_with "exec Assign cons ListComp" => ((k_here; (with_reducible show wpAny _ _ (exec (Stmt.Assign _ (Expr.ListComp _ [⟨_, Expr.Call _ [_, _, _] _ _, _, _⟩] _ _) _) _) _ _ _); k_dflt (refine Assign_ListComp_S (by k_asm) (by rfl) (by with_unfolding_all rfl) (by with_unfolding_all rfl) (by decide) (by rfl) (by decide) (by rfl) (by rfl) (by rfl) ?_)))
  k_with "SrcS" => ((k_here; k_dflt (refine SrcS.mk' (by rfl) (by k_asm) (by k_asm) (by assumption) (by first | decide | rfl) (by first | rfl | decide) (by first | size_fits | exact Nat.le_of_ble_eq_true rfl) ?_; intro g'; lcg_lit)))
  k_with "binaryOp Add bytes bytes" => ((k_here; (with_reducible show wpAny _ _ (binaryOp Operator.Add (Value.bytes _ _) (Value.bytes _ _)) _ _ _); k_dflt (refine' add_name ?n1v88 ?n2v88 ?n3v88 ?n4v88 (fun t9w k9w hb9w => ?_); (case n1v88 => assumption); (case n2v88 => exact rfl); (case n3v88 => assumption); (case n4v88 => first | decide | (simp only [List.length_cons, List.length_nil]; omega)))))
  k_with "my dec" => (first | omega | (simp only [decide_eq_true_eq, beq_iff_eq, bne_iff_ne, Bool.not_eq_true', decide_eq_false_iff_not, beq_eq_false_iff_ne, ne_eq]; omega) | (simp only [List.any_cons, List.any_nil, Bool.or_false, Bool.not_eq_true', Bool.or_eq_false_iff, beq_eq_false_iff_ne, ne_eq]; omega))
  k_with "ite" => ((k_here; (fail_if_success (goal_has PairP)); first | (refine ite_pos ?decv90 ?_; (case decv90 => walk_at "my dec"); walk_say "PRUNED mine") | (refine ite_neg ?decv90 ?_; (case decv90 => walk_at "my dec"); walk_say "PRUNED mine")))
  k_with "call ref" => ((k_here; k_dflt (refine' draw_c ?P1v91 ?P2v91 ?hIv91 ?h1v91 ?h2v91 ?h3v91 ?h4v91 ?h5v91 ?h6v91 ?h7v91 (fun k9w v9w t9w u9w h9w tk9w hk9w lo9w hi9w dv9w F9w N9w => ?_) ?kSv91; (case kSv91 => walk_at "my site"); (case P1v91 => walk_at "my pull"); (case P2v91 => walk_at "my pull"); (case hIv91 => l_ints); (case h1v91 => first | assumption | omega); (case h2v91 => omega); (case h3v91 => omega); (case h4v91 => walk_at "my pow"); (case h5v91 => walk_at "my pow"); (case h6v91 => omega); (case h7v91 => walk_at "my off")); subst hk9w; (try dsimp only); (try k_fold)))
  k_with "my sfx" => (first | exact List.mem_cons_self .. | exact List.mem_cons_of_mem _ (List.mem_cons_self ..))
  k_with "eval Subscript" => ((k_here; (with_reducible show wpAny _ _ (eval (Expr.Subscript (Expr.BinOp _ _ _ _) _ _) _) _ _ _); (fail_if_success (with_reducible show wpAny _ _ _ (CutP _ _ _ _ _ _ _) _ _)); (rename KBw.bInts _ = hexfig _ :: hexfig _ :: hexfig _ :: _ => hb9w); (rename _ = some (Value.int (0 + _ * _) _) => hx9w); (rename Fr _ _ _ _ => jF9w); (rename News _ _ _ _ => jN9w); (refine cut_join hx9w hb9w jF9w jN9w ?_ (fun B9w t9w h9w k9w hB9w F9w N9w => ?_)); rotate_left; (simp [cutL] at hB9w); rotate_left))
  k_with "CutP" => (((refine ⟨_, _, _, _, rfl, rfl, by assumption, by assumption, ?_⟩); (refine Eq.trans (by assumption) ?_); (with_unfolding_all rfl)))
  k_with "my ints" => (first | (with_reducible assumption) | exact (rfl : KBw.bInts _ = ([] : List Int)) | exact (rfl : KBw.bInts _ = ([47] : List Int)))
  exact trivial
theorem drawV_bnd {ns : List Int} {k c : Int} (hc : 0 < c) : 0 ≤ drawV ns k c ∧ drawV ns k c < c := by
  unfold drawV
  split
  · exact ⟨Int.fmod_nonneg_of_pos _ hc, Int.fmod_lt_of_pos _ hc⟩
  · exact ⟨Int.fmod_nonneg_of_pos _ hc, Int.fmod_lt_of_pos _ hc⟩
theorem told_c {prog : Program} {w : World} {p : Program} {loose : List Str} {mean : ExcName → Option Value} {mg mb : Str → Option Value} {dp un : Nat} {gd : Option (List Code)} {cn : Str} {cs : Scope} {a : Addr} {ccd : Value} {cl : List (Str × Addr)} {outer : List Env} {A₀ : Around} {base h₀ : Heap} {L : Addr} {m : Str → Option Value} {s : Shared} {Q E : Value → Shared → Prop} {news : List (Addr × Obj)}
    {pa b : Addr} {k : Int} {t : Tok} {n nb : Nat} {vs : List Value} {ns : List Int} {n1 rest : List (Addr × Obj)}
    (P1 : Pull (pa, W.listOf #[.ref b, .int k t] n) news n1) (P2 : Pull (b, W.listOf vs.toArray nb) n1 rest) (hI : IntsAre vs ns) (hlen : ns.length ≤ 63) (hk0 : 0 ≤ k) (hk1 : k ≤ 80000) (hpb : @Ne Nat pa b) (hne : LCg.Off1 pa rest)
    (hT : ToldEnds h₀ L m news rest pa b n nb vs k s Q)
    (S : Site w p loose mean mg mb dp un 3 cs outer A₀ base h₀ L s.heap m news) :
    wpAny (model prog w) (ktrTop dp un gd cn cs L a ccd cl outer) (call (.ref 204) [.ref pa]) Q E s := by
  have b4 := drawV_bnd (ns := ns) (k := k) (c := 4) (by decide)
  have q : drawV ns k 4 = 0 ∨ drawV ns k 4 = 1 ∨ drawV ns k 4 = 2 ∨ drawV ns k 4 = 3 := by omega
  rcases q with q | q | q | q
  · exact told_0 P1 P2 hI hlen hk0 hk1 hpb hne q hT S
  · exact told_1 P1 P2 hI hlen hk0 hk1 hpb hne q hT S
  · exact told_2 P1 P2 hI hlen hk0 hk1 hpb hne q hT S
  · exact told_3 P1 P2 hI hlen hk0 hk1 hpb hne q hT S

theorem set63 : True := by
  k_with_none
  w_top off
  k_with "my site" => ((refine' Site.mk ?s1v1 ?s2v1 ?s3v1 ?s4v1 ?s5v1 ?s6v1 ?s7v1 ?s8v1; (case s1v1 => first | k_asm | fail "site: below"); (case s2v1 => first | k_asm | fail "site: frame"); (case s3v1 => first | k_asm | fail "site: part"); (case s4v1 => first | k_asm | fail "site: ledger"); (case s5v1 => first | k_asm | fail "site: top"); (case s6v1 => first | exact rfl | assumption | fail "site: kind"); (case s7v1 => first | exact room_ok (by assumption) (by decide) | (walk_say "ROOM"; ktr_room) | fail "site: room"); (case s8v1 => first | exact units_ok (by assumption) (by decide) | (walk_say "UNITS"; ktr_units) | fail "site: units")))
  k_with "my enter" => ((refine wpAny_call ?_; k_dflt (refine' code_defG ?k1v2 ?k2v2 ?k3v2 ?k4v2 ?k5v2 ?kAv2 ?kFv2 ?kKv2 ?k6v2 ?k7v2 ?k8v2 ?k9wv2 ?kBv2 ?_ ?c2v2 ?c3v2 ?c4v2 ?c5v2; (case kAv2 => exact rfl); (case kFv2 => exact rfl); (case kKv2 => assumption); (case k1v2 => k_asm); (case k2v2 => k_asm); (case k3v2 => k_asm); (case k4v2 => k_asm); (case k5v2 => k_asm); (case k6v2 => k_is); (case k7v2 => k_is); (case k8v2 => ktr_room); (case k9wv2 => exact BindsTo.of_eq rfl); (case c5v2 => decide); (case kBv2 => exact locs rfl); (case c2v2 => exact rfl); (case c3v2 => exact rfl); (case c4v2 => exact rfl); k_whole)))
  k_with "call ref" => ((k_here; (try dsimp only [List.nil_append, List.append_nil]); refine wpAny_call ?_; k_dflt (refine' code_def ?k1v3 ?k2v3 ?k3v3 ?k4v3 ?k5v3 ?kAv3 ?kFv3 ?kKv3 ?k6v3 ?k7v3 ?k8v3 ?k9wv3 ?kBv3 ?_ ?c2v3 ?c3v3 ?c4v3 ?c5v3; (case kAv3 => exact rfl); (case kFv3 => exact rfl); (case kKv3 => first | exact rfl | assumption); (case k1v3 => k_asm); (case k2v3 => k_asm); (case k3v3 => k_asm); (case k4v3 => k_asm); (case k5v3 => k_asm); (case k6v3 => k_is); (case k7v3 => k_is); (case k8v3 => ktr_room); (case k9wv3 => exact BindsTo.of_eq rfl); (case c5v3 => decide); (case kBv3 => exact locs rfl); (case c2v3 => exact rfl); (case c3v3 => exact rfl); (case c4v3 => exact rfl); k_whole; intro g' L' h' FG' F' N' B' X' T'; (try dsimp only); (try k_lift B'); (try k_fold))))
  k_with "my off" => (((rename (_ ≠ _ ∧ _ ≠ _ ∧ _ ≠ _) ∧ _ => off9w); (simp only [ne_eq] at off9w); (simp only [LCg.Off3, and_true, ne_eq, off9w, not_false_eq_true, and_self, true_and]); (first | done | ((repeat' (refine And.intro ?_ ?_)); all_goals exact neN (by walk_at "my ne")))))
  k_with "ite" => ((k_here; first
      | (refine' ite_posI ?hcv5 ?_; (case hcv5 => k_dflt (exact of_decide_eq_true (by exact rfl))))
      | (refine' ite_negI ?hcv5 ?_; (case hcv5 => k_dflt (exact of_decide_eq_false (by exact rfl))))))
  k_with "my fact" => (first | (with_reducible assumption) | (simp only [ne_eq, not_false_eq_true, *]; done))
  k_with "my ne" => (first | (walk_at "my fact") | exact Ne.symm (by walk_at "my fact") | exact Nat.ne_of_lt (by walk_at "my fact") | exact Nat.ne_of_gt (by walk_at "my fact") | exact Nat.ne_of_lt (Nat.lt_succ_of_lt (by walk_at "my fact")) | exact Nat.ne_of_gt (Nat.lt_succ_of_lt (by walk_at "my fact")) | (walk_say "NE by omega"; omega))
  k_with "my side" => ((with_reducible ((repeat' (refine And.intro ?_ ?_)) <;> first | exact trivial | assumption | (walk_at "my arith"))))
  k_with "my arith" => (first
        | ((show IntMulOk _ _); first | exact PySem.IntMulOk.of_right (PySem.intBits_le_64 (by decide) (by decide)) | exact PySem.IntMulOk.of_left (PySem.intBits_le_64 (by decide) (by decide)) | exact PySem.IntMulOk.of_right (PySem.intBits_le_64 (by omega) (by omega)) | exact PySem.IntMulOk.of_left (PySem.intBits_le_64 (by omega) (by omega)) | mul_fits)
        | ((show Builtin.divisionGoesByPylong _ _ = false); first | exact PyProof.noPylong_of_log2 (by decide +kernel) | exact PyProof.noPylong_small (by omega))
        | omega
        | decide)
  k_with "my no" => (first | with_reducible exact False.elim p9w | with_reducible exact absurd trivial p9w | with_reducible exact absurd rfl p9w | (law_purse 20000 => omega))
  k_with "execs cons" => ((k_here; (first
        | ((with_reducible show wpAny _ _ (execs (Stmt.Return (some _) _ :: _) _) _ _ _); (fail_if_success (with_reducible show wpAny _ _ (execs (Stmt.Return (some (Expr.Tuple _ _ _)) _ :: _) _) _ _ _)); (fail_if_success (with_reducible show wpAny _ _ (execs (Stmt.Return (some (Expr.List _ _)) _ :: _) _) _ _ _)); (fail_if_success (with_reducible show wpAny _ _ (execs (Stmt.Return (some (Expr.Dict _ _ _)) _ :: _) _) _ _ _)); k_dflt ((with_reducible refine' st_retE ?hev11 ?Fv11 ?Xv11 ?Tv11 (fun t => ?ev11) ?hkv11 ?hcv11 (fun t9w tk9w => ?_))); (case hev11 => k_dflt (exact rfl)); (case Fv11 => k_asm); (case Xv11 => k_asm); (case Tv11 => k_asm); (case ev11 => k_dflt (exact rfl)); (case hkv11 => k_dflt (exact rfl)); (case hcv11 => walk_at "my side"); (try dsimp only))
        | ((with_reducible show wpAny _ _ (execs (Stmt.If _ _ [] _ :: _) _) _ _ _); k_dflt ((with_reducible refine' st_if0E ?hev11 ?Fv11 ?Xv11 ?Tv11 ?ev11 ?hkv11 ?hcv11 (fun p9w tk9w => ?_) (fun p9w tk9w => ?_))); (case hev11 => k_dflt (exact rfl)); (case Fv11 => k_asm); (case Xv11 => k_asm); (case Tv11 => k_asm); (case ev11 => k_dflt (exact rfl)); (case hkv11 => k_dflt (exact rfl)); (case hcv11 => walk_at "my side"); all_goals first | (exfalso; walk_at "my no") | (try dsimp only))
        | ((with_reducible show wpAny _ _ (execs (Stmt.If _ _ (_ :: _) _ :: _) _) _ _ _); k_dflt ((with_reducible refine' st_ifE ?hev11 ?Fv11 ?Xv11 ?Tv11 ?ev11 ?hkv11 ?hcv11 (fun p9w tk9w => ?_) (fun p9w tk9w => ?_))); (case hev11 => k_dflt (exact rfl)); (case Fv11 => k_asm); (case Xv11 => k_asm); (case Tv11 => k_asm); (case ev11 => k_dflt (exact rfl)); (case hkv11 => k_dflt (exact rfl)); (case hcv11 => walk_at "my side"); all_goals first | (exfalso; walk_at "my no") | (try dsimp only))
        | ((with_reducible show wpAny _ _ (execs (Stmt.Assign [Expr.Name _ _] _ _ :: _) _) _ _ _); k_dflt ((with_reducible refine' st_assignE ?hev11 ?Fv11 ?Nv11 ?Xv11 ?Tv11 (fun t => ?ev11) ?hkv11 ?hxv11 ?hsv11 ?hcv11 (fun t9w tk9w h9w => ?_))); (case hev11 => k_dflt (exact rfl)); (case Fv11 => k_asm); (case Nv11 => k_asm); (case Xv11 => k_asm); (case Tv11 => k_asm); (case ev11 => k_dflt (exact rfl)); (case hkv11 => k_dflt (exact rfl)); (case hxv11 => k_dflt (exact rfl)); (case hsv11 => k_dflt (exact rfl)); (case hcv11 => walk_at "my side"); intro m9w F9w N9w; (try k_sweep); (try dsimp only)))))
  k_with "eval BinOp" => ((k_here; k_dflt ((with_reducible refine' ev_peE ?hev12 ?Fv12 ?Xv12 ?Tv12 (fun t => ?ev12) ?hkv12 ?hcv12 (fun t9w tk9w => ?_)); (case hev12 => k_dflt (exact rfl)); (case Fv12 => k_asm); (case Xv12 => k_asm); (case Tv12 => k_asm); (case ev12 => k_dflt (exact rfl)); (case hkv12 => k_dflt (exact rfl)); (case hcv12 => walk_at "my side")); (try dsimp only)))
  k_with "eval IfExp" => ((k_here; k_dflt ((with_reducible refine' ev_ifE ?hev13 ?Fv13 ?Xv13 ?Tv13 ?ev13 ?hkv13 ?hcv13 (fun p9w tk9w => ?_) (fun p9w tk9w => ?_)); (case hev13 => k_dflt (exact rfl)); (case Fv13 => k_asm); (case Xv13 => k_asm); (case Tv13 => k_asm); (case ev13 => k_dflt (exact rfl)); (case hkv13 => k_dflt (exact rfl)); (case hcv13 => walk_at "my side"); all_goals first | (exfalso; walk_at "my no") | (try dsimp only))))
  k_with "eval Call" => ((k_here; (with_reducible show wpAny _ _ (eval (Expr.Call (Expr.Name _ _) (_ :: _) [] _) _) _ _ _); k_dflt ((with_reducible refine' ev_callE ?hev14 ?Fv14 ?Xv14 ?Tv14 ?efv14 ?hfv14 (fun t => ?eav14) ?hkv14 ?hcv14 (fun t9w tk9w => ?_)); (case hev14 => k_dflt (exact rfl)); (case Fv14 => k_asm); (case Xv14 => k_asm); (case Tv14 => k_asm); (case efv14 => k_dflt (exact rfl)); (case hfv14 => k_dflt (exact rfl)); (case eav14 => k_dflt (exact rfl)); (case hkv14 => k_dflt (exact rfl)); (case hcv14 => walk_at "my side"))))
  k_with "my nm" => ((k_dflt (refine' nm_ok ?Fv15 ?Xv15 ?Tv15 ?hkv15); (case Fv15 => k_asm); (case Xv15 => k_asm); (case Tv15 => k_asm); (case hkv15 => k_dflt (exact rfl))))
  k_with "spliced" => ((k_here; (with_reducible show wpAny _ _ (spliced (backTo _ (starEach (_ :: _) _))) _ _ _); (fail_if_success (with_reducible show wpAny _ _ (spliced (backTo _ (starEach (_ :: _ :: _ :: _ :: _ :: _ :: _ :: _) _))) _ _ _)); k_dflt ((with_reducible refine' xe_all ?hnv16 (fun tk => ?ev16) ?hcv16 (fun tk9w k9w => ?_))); (case hnv16 => walk_at "my nm"); (case ev16 => k_dflt (exact rfl)); (case hcv16 => walk_at "my side"); (try dsimp only [List.cons_append, List.nil_append])))
  k_with "storeName" => ((k_here; k_dflt ((with_reducible refine' st_storeE ?hev17 ?Fv17 ?Nv17 (fun tk9w h9w => ?_) ?hkv17 ?hxv17)); (case hev17 => k_dflt (exact rfl)); (case Fv17 => k_asm); (case Nv17 => k_asm); (case hkv17 => k_dflt (exact rfl)); (case hxv17 => k_dflt (exact rfl)); intro m9w F9w N9w; (try k_sweep); (try dsimp only)))
  k_with "call ref" => ((k_here; k_dflt (refine' hexv_c ?kSv18 (fun hv9w h9w tk9w F9w N9w => ?_) (fun v9w t9w hv9w h9w tk9w F9w N9w => ?_); (case kSv18 => walk_at "my site")); all_goals ((try dsimp only); (try k_fold))))
  k_with "call ref" => ((k_here; k_dflt (refine' figs_c ?kbv21 ?klv21 ?kSv21 (fun hv9w h9w tk9w F9w N9w => ?_) (fun v9w t9w hv9w h9w tk9w F9w N9w => ?_); (case kbv21 => kba_ints2); (case klv21 => kba_size); (case kSv21 => walk_at "my site")); all_goals ((try dsimp only); (try k_fold))))
  k_with "pyIter ref" => (((with_reducible show wpAny _ _ (pyIter (Value.ref _)) (fun it s₂ => LoopAtV _ _ _ _ _ _ _ _ _ it s₂) _ _); (rename Fr _ _ _ _ => lF'); (rename News _ _ _ _ => lN'); (with_unfolding_all refine iter_tupleUnr (by rfl) lF' lN' (by k_mem) ?_); clear lF' lN'; intro i' l1; (try k_lt l1)))
  k_with "TupRest" => ((with_unfolding_all first | (refine TupRest.succ (fun it' h' tk' hit' F' N' => ?_)) | (refine TupRest.zero (fun h' tk' F' N' => ?_))))
  k_with "getMethod bytes" => ((k_here; (with_reducible refine method_join ?_)))
  k_with "getMethod bytes" => ((k_here; (with_reducible refine method_split ?_)))
  k_with "my ints" => (first | kba_ints | exact (rfl : KBw.bInts _ = ([47] : List Int)) | exact (rfl : KBw.bInts _ = ([] : List Int)) | kba_ints2)
  k_with "my list" => (first | exact News.isList (by k_asm) (by k_mem) | is_list)
  k_with "call builtin:bytes.join" => ((k_here; k_dflt (first
      | (refine' join3 ?lv28 ?hsv28 ?h1v28 ?h2v28 ?h3v28 ?hzv28 ?_; (case lv28 => walk_at "my list"); (case hsv28 => walk_at "my ints"); (case h1v28 => walk_at "my ints"); (case h2v28 => walk_at "my ints"); (case h3v28 => walk_at "my ints"); (case hzv28 => kba_size))); intro B9w t9w k9w hB9w; (try simp only [List.nil_append, List.cons_append, List.append_assoc] at hB9w)))
  k_with "call ref" => ((k_here; k_dflt (refine' rgb_c ?h1v29 ?h2v29 ?h3v29 ?h4v29 ?h5v29 (fun D9w t9w u9w v9w h9w tk9w o9w F9w N9w => ?_) ?kSv29; (case h1v29 => assumption); (case h2v29 => first | assumption | decide | omega); (case h3v29 => first | assumption | omega); (case h4v29 => first | assumption | omega); (case h5v29 => first | assumption | omega); (case kSv29 => walk_at "my site")); (try simp only [LCg.Off1, and_true] at o9w); (try dsimp only); (try k_fold)))
  k_with "call builtin:bytes.split" => ((k_here; k_dflt (refine' split_call ?h1v30 ?h2v30 ?h3v30 ?h4v30 (fun D9w b1 b2 b3 t1 t2 t3 k1 k2 k3 h9w tk9w hsg e1 e2 e3 z1 z2 z3 F9w N9w l9w => ?_) (fun D9w vs9w h9w tk9w hsg e1 z1 F9w N9w l9w => ?_); (case h1v30 => k_asm); (case h2v30 => k_asm); (case h3v30 => walk_at "my ints"); (case h4v30 => kba_size)); all_goals ((try k_lt l9w); (try simp only [List.length_take, List.length_drop] at z1 z2 z3))))
  k_with "subscriptTail" => ((k_here; (with_reducible show wpAny _ _ (subscriptTail _ _ (Value.bytes _ _) (Value.int _ _)) _ _ _); (first
      | (refine' figs_item (nib_hi ?h1v31 ?h2v31 ?h3v31) ?h4v31 ?h5v31 (fun t9w k9w => ?_); (case h1v31 => assumption); (case h2v31 => omega); (case h3v31 => omega); (case h4v31 => omega); (case h5v31 => omega))
      | (refine' figs_item (nib_lo ?h1v31 ?h2v31 ?h3v31) ?h4v31 ?h5v31 (fun t9w k9w => ?_); (case h1v31 => assumption); (case h2v31 => omega); (case h3v31 => omega); (case h4v31 => omega); (case h5v31 => omega)))))
  k_with "call ref" => ((k_here; k_dflt (refine' figs_cb ?kbv36 ?klv36 ?kSv36 (fun hv9w h9w tk9w F9w N9w => ?_) (fun v9w t9w hv9w lo9w hi9w h9w tk9w F9w N9w => ?_); (case kbv36 => kba_ints2); (case klv36 => kba_size); (case kSv36 => walk_at "my site")); all_goals ((try dsimp only); (try k_fold))))
  k_with "Exists" => ((k_here; (refine made_bytes (by k_asm) (by first | k_asm | exact News.nil) (Top.nolimit (by k_asm)) (by rfl) (of_decide_eq_true (by rfl)) ?_; intro h' o' F' N' l1 lo' hd'; (try k_lt l1))))
  k_with "eval Dict" => ((k_here; (with_reducible refine Dict_made_bytes (by with_unfolding_all rfl) (by with_unfolding_all assumption) (by with_unfolding_all rfl) (by with_unfolding_all rfl) (List.cons_ne_nil _ _) (by with_unfolding_all decide) ?_; intro _)))
  k_with "my enterC" => ((refine wpAny_call ?_; k_dflt (refine' code_defCG ?k1v44 ?k2v44 ?k3v44 ?k4v44 ?k5v44 ?kAv44 ?kFv44 ?kKv44 ?k6v44 ?k7v44 ?k8v44 ?k9wv44 ?kBv44 ?kDv44 ?_ ?c2v44 ?c3v44 ?c4v44; (case kAv44 => exact rfl); (case kFv44 => exact rfl); (case kKv44 => assumption); (case k1v44 => k_asm); (case k2v44 => k_asm); (case k3v44 => k_asm); (case k4v44 => k_asm); (case k5v44 => k_asm); (case k6v44 => k_is); (case k7v44 => k_is); (case k8v44 => ktr_room); (case k9wv44 => exact BindsTo.of_eq rfl); (case kBv44 => exact rfl); (case kDv44 => decide +kernel); (case c2v44 => exact rfl); (case c3v44 => exact rfl); (case c4v44 => exact rfl); k_whole)))
  k_with "my pull" => (first | exact Pull.head | (refine' Pull.tail ?ptlv49; (case ptlv49 => walk_at "my pull")))
  k_with "my off" => (((try simp only [LCg.Off1, and_true]); (repeat' (refine And.intro ?_ ?_)); all_goals first | exact trivial | (walk_at "my ne")))
  k_with "my pow" => (first | omega | exact pow16_pos _ | exact pow16_le (by omega) | decide)
  k_with "call ref" => ((k_here; k_dflt (refine' draw_c ?P1v52 ?P2v52 ?hIv52 ?h1v52 ?h2v52 ?h3v52 ?h4v52 ?h5v52 ?h6v52 ?h7v52 (fun k9w v9w t9w u9w h9w tk9w hk9w lo9w hi9w dv9w F9w N9w => ?_) ?kSv52; (case kSv52 => walk_at "my site"); (case P1v52 => walk_at "my pull"); (case P2v52 => walk_at "my pull"); (case hIv52 => l_ints); (case h1v52 => first | assumption | omega); (case h2v52 => omega); (case h3v52 => omega); (case h4v52 => walk_at "my pow"); (case h5v52 => walk_at "my pow"); (case h6v52 => omega); (case h7v52 => walk_at "my off")); (try dsimp only); (try k_fold)))
  k_with "call ref" => ((k_here; k_dflt (refine' small_c ?kbv61 ?klv61 (fun B9w t9w h9w tk9w hB9w F9w N9w => ?_) ?kSv61; (case kSv61 => walk_at "my site"); (case kbv61 => walk_at "my ints"); (case klv61 => first | assumption | kba_size)); (try dsimp only); (try k_fold)))
  k_with "call ref" => ((k_here; k_dflt (refine' digs_c ?kbv62 ?klv62 (fun hv9w h9w tk9w F9w N9w => ?_) (fun v9w t9w hv9w h9w tk9w F9w N9w => ?_) ?kSv62; (case kSv62 => walk_at "my site"); (case kbv62 => walk_at "my ints"); (case klv62 => first | assumption | kba_size)); all_goals ((try dsimp only); (try k_fold))))
  k_with "call ref" => ((k_here; k_dflt (refine' parts_c ?kb1v63 ?kb2v63 ?kb3v63 ?kl1v63 ?kl2v63 ?kl3v63 ?kDv63 (fun hv9w h9w tk9w F9w N9w => ?_) (fun v9w t9w hv9w h9w tk9w F9w N9w => ?_) ?kSv63; (case kSv63 => walk_at "my site"); (case kDv63 => k_mem); (case kb1v63 => assumption); (case kb2v63 => assumption); (case kb3v63 => assumption); (case kl1v63 => first | assumption | omega); (case kl2v63 => first | assumption | omega); (case kl3v63 => first | assumption | omega)); all_goals ((try dsimp only); (try k_fold))))
  k_with "call ref" => ((k_here; k_dflt (refine' names_c (fun D9w o9w kvs9w h9w tk9w off9w lo9w hd9w ht9w F9w N9w => ?_) ?kSv64; (case kSv64 => walk_at "my site")); (try simp only [LCg.Off1, and_true] at off9w); (try dsimp only); (try k_fold)))
  k_with "call ref" => ((k_here; k_dflt (refine' lnames_c (fun D9w o9w kvs9w h9w tk9w off9w lo9w hd9w ht9w F9w N9w => ?_) ?kSv65; (case kSv65 => walk_at "my site")); (try simp only [LCg.Off1, and_true] at off9w); (try dsimp only); (try k_fold)))
  k_with "getMethod ref" => ((k_here; kda_here; (with_reducible show wpAny _ _ (getMethod (Value.ref _) (Str.ofString "get") _) _ _ _); k_dflt (refine kdg_method (knd := bytesKind _ _) (by k_asm) (by k_mem) (by k_asm) ?_)))
  k_with "call builtin:dict.get" => ((k_here; kda_here; k_dflt (refine' get_names ?n1v67 ?n2v67 ?n3v67 ?n4v67 ?n5v67 ?n6v67 (fun hv9w t9w => ?_) (fun v9w t9w k9w hv9w => ?_); (case n1v67 => k_asm); (case n2v67 => k_mem); (case n3v67 => k_asm); (case n4v67 => k_asm); (case n5v67 => assumption); (case n6v67 => walk_at "my ints")); all_goals (try dsimp only)))
  k_with "call builtin:len" => ((k_here; (with_reducible show wpAny _ _ (call (Value.builtin "len") [Value.ref _]) _ _ _); k_dflt (refine' len_gen ?n1v68 ?n2v68 ?n3v68 (fun t9w k9w => ?_); (case n1v68 => k_asm); (case n2v68 => k_mem); (case n3v68 => assumption))))
  exact trivial
theorem or_low {a b : Int} (k : Nat) (ha : 0 ≤ a) (hb : 0 ≤ b) (h : b < 2 ^ k) : Builtin.bitOr (a * 2 ^ k) b = a * 2 ^ k + b := by
  have hp : (0 : Int) ≤ a * 2 ^ k := Int.mul_nonneg ha (Int.le_of_lt (Int.pow_pos (by decide)))
  rw [bitOr_and, bitAnd_pp hp hb]
  obtain ⟨x, rfl⟩ := Int.eq_ofNat_of_zero_le ha
  obtain ⟨y, rfl⟩ := Int.eq_ofNat_of_zero_le hb
  have e : ((x : Int) * 2 ^ k) = ((2 ^ k * x : Nat) : Int) := by rw [Nat.mul_comm]; push_cast; rfl
  have hy : y < 2 ^ k := by exact_mod_cast h
  have z := nat_or_add_and (2 ^ k * x) y
  rw [← Nat.two_pow_add_eq_or_of_lt hy x] at z
  have z0 : (2 ^ k * x) &&& y = 0 := by omega
  rw [e, Int.toNat_natCast, Int.toNat_natCast, z0]
  omega
theorem or_rgb {r g b : Int} (hr : 0 ≤ r ∧ r < 256) (hg : 0 ≤ g ∧ g < 256) (hb : 0 ≤ b ∧ b < 256) : Builtin.bitOr (Builtin.bitOr (r * 2 ^ Int.toNat 16) (g * 2 ^ Int.toNat 8)) b = 65536 * r + 256 * g + b := by
  rw [show (g * 2 ^ Int.toNat 8) = g * 256 from rfl, show Int.toNat 16 = 16 from rfl, or_low 16 hr.1 (by omega) (by omega)]
  rw [show r * 2 ^ 16 + g * 256 = (r * 256 + g) * 2 ^ 8 by omega, or_low 8 (by omega) hb.1 (by omega)]
  omega
theorem dircol_c {prog : Program} {w : World} {p : Program} {loose : List Str} {mean : ExcName → Option Value} {mg mb : Str → Option Value} {dp un : Nat} {gd : Option (List Code)} {cn : Str} {cs : Scope} {a : Addr} {ccd : Value} {cl : List (Str × Addr)} {outer : List Env} {A₀ : Around} {base h₀ : Heap} {L : Addr} {m : Str → Option Value} {s : Shared} {Q E : Value → Shared → Prop} {news : List (Addr × Obj)}
    {r g b : Int} {tr tg tb : Tok} (hr : 0 ≤ r ∧ r < 256) (hg : 0 ≤ g ∧ g < 256) (hb : 0 ≤ b ∧ b < 256)
    (hS : ∀ v t h' tk', v = 16777216 + (65536 * r + 256 * g + b) → Fr h₀ L h' m → News h₀ L h' news → Q (.int v t) { s with heap := h', toks := tk' })
    (S : Site w p loose mean mg mb dp un 1 cs outer A₀ base h₀ L s.heap m news) :
    wpAny (model prog w) (ktrTop dp un gd cn cs L a ccd cl outer) (call (.ref 57) [.int r tr, .int g tg, .int b tb]) Q E s := by
  obtain ⟨B, F, X, N, T, hk, hd, hu⟩ := S
  have N0 : News h₀ L s.heap [] := News.sub N led_nil
  have kN0 : KeptN h₀ L s.heap [] := N0
  (walk_at "my enter"; intro g9 L9 h9 FG9 F9 N9 B9 X9 T9 kG9; clear N0; (try dsimp only); (try k_lift B9); (try k_fold); k_steps)
  (rename News g9 _ _ _ => N'); (rename Fr g9 _ _ _ => F'); (rename Fr h₀ _ _ _ => kF); (rename News h₀ _ _ _ => kN)
  exact hS _ _ _ _ (by rw [or_rgb hr hg hb]) kF (N.grown (grow_led kG9 kN0 F' N' led_nil))
noncomputable def pcolV (kind : Int) (xs : List Int) : Option Int :=
  if kind = 5 ∧ 1 ≤ xs.length ∧ xs.getD 0 0 ≤ 255 then some (xs.getD 0 0)
  else if kind = 2 ∧ 3 ≤ xs.length ∧ xs.getD 0 0 ≤ 255 ∧ xs.getD 1 0 ≤ 255 ∧ xs.getD 2 0 ≤ 255 then some (16777216 + (65536 * xs.getD 0 0 + 256 * xs.getD 1 0 + xs.getD 2 0)) else none

theorem set63x : True := by
  w_top off
  exact trivial
/-- values that are ints or None -/
inductive OptsAre : List Value → List (Option Int) → Prop
  | nil : OptsAre [] []
  | cons (o : Option Int) (t : Tok) {vs : List Value} {os : List (Option Int)} : OptsAre vs os → OptsAre (optI o t :: vs) (o :: os)
theorem OptsAre.length : ∀ {vs os}, OptsAre vs os → vs.length = os.length
  | _, _, .nil => rfl
  | _, _, .cons o t h => congrArg (· + 1) h.length
theorem OptsAre.at : ∀ {vs : List Value} {os : List (Option Int)}, OptsAre vs os → ∀ (i : Nat) (v : Value), vs[i]? = some v → ∃ o t, os[i]? = some o ∧ v = optI o t
  | _, _, .nil, i, v, h => by simp at h
  | _, _, .cons o t h, 0, v, e => by
    simp only [List.getElem?_cons_zero, Option.some.injEq] at e
    exact ⟨o, t, rfl, e.symm⟩
  | _, _, .cons o t h, i + 1, v, e => by
    simp only [List.getElem?_cons_succ] at e ⊢
    exact h.at i v e
theorem OptsAre.snoc {o : Option Int} {t : Tok} : ∀ {vs os}, OptsAre vs os → OptsAre (vs ++ [optI o t]) (os ++ [o])
  | _, _, .nil => .cons o t .nil
  | _, _, .cons o' t' h => .cons o' t' h.snoc
theorem OptsAre.take : ∀ (n : Nat) {vs os}, OptsAre vs os → OptsAre (vs.take n) (os.take n)
  | 0, _, _, _ => by simp only [List.take_zero]; exact .nil
  | n + 1, _, _, .nil => by simp only [List.take_nil]; exact .nil
  | n + 1, _, _, .cons o t h => .cons o t (h.take n)
noncomputable def nmOne (x : Str) (v : Value) (y : Str) : Option Value := if y = x then some v else none
section
variable {prog : Program} {w : World} {A : Around} {h₀ : Heap} {L : Addr} {m : Str → Option Value} {env : Env} {x : Str} {scope : Scope} {cl : List (Str × Addr)} {news : List (Addr × Obj)}
theorem nm_one {E : Value → Shared → Prop} {C : Addr} {oC : Obj} {m₂ : Str → Option Value} {v : Value} {h : Heap} {g : Array GenState} {d : Drawn} {o : OsState} (N : News h₀ L h news) (hm : (C, oC) ∈ news) (hC : LCg.NsObj oC m₂) (hv : m₂ x = some v)
    (hk : (compEnvC scope cl C env).scope.kind = .function) (hx : (compEnvC scope cl C env).kindOf x = some .local) (hd : (x == ("__debug__" : Str)) = false) :
    NmOk (model prog w) A E (compEnvC scope cl C env) h g d o (nmOne x v) := ⟨fun y u e pos k Q H => by
  unfold nmOne at e
  split at e
  · rename_i hy
    subst hy
    cases e
    exact LCgL.ld_own N hm hC hv H hk hx hd
  · cases e⟩
/-- «0 if x is None else x» for each x of a list: the ints -/
theorem opts_src {p1 p2 p3 p4 p5 p6 : Pos} {c1 c2 : Nat} {Fin : Shared → List Value → List (Addr × Obj) → Prop} {ax : Addr} {vs : List Value} {os : List (Option Int)} {nl : Nat} {s : Shared}
    (F : Fr h₀ L s.heap m) (N : News h₀ L s.heap news) (hh : A.handled = none) (hm : (ax, W.listOf vs.toArray nl) ∈ news) (hv : OptsAre vs os) (hl : os.length ≤ 1000)
    (hk : ∀ C, (compEnvC scope cl C env).scope.kind = .function) (hx : ∀ C, (compEnvC scope cl C env).kindOf x = some .local) (hd : (x == ("__debug__" : Str)) = false)
    (fin : ∀ g ys, IntsAre ys (os.map fun o => o.getD 0) → Fin { s with heap := g } ys news) :
    LCg.CompSrc prog w A h₀ L m env (.IfExp (.Compare (.Name x p1) [.Is] [.Constant .none c1 p2] p3) (.Constant (.int 0) c2 p4) (.Name x p5) p6) x scope cl Fin (.ref ax) s := by
  have hsz : vs.toArray.size ≤ sizeLine := by
    rw [List.size_toArray, hv.length]
    exact Nat.le_trans hl (by rw [PySem.sizeLine_eq]; omega)
  refine LCg.CompSrc.ledger hh F N hm hsz fun g => ?_
  have key : ∀ (j i : Nat) (ys : List Value), i + j = vs.length → IntsAre ys ((os.take i).map fun o => o.getD 0) →
      LCg.CompRest prog w A h₀ L m env (.IfExp (.Compare (.Name x p1) [.Is] [.Constant .none c1 p2] p3) (.Constant (.int 0) c2 p4) (.Name x p5) p6) x scope cl { s with heap := g } (LCg.SrcAt h₀ ax vs.toArray)
        (fun i v => vs.toArray[i]? = some v) (Fin { s with heap := g }) j i ys news := by
    intro j
    induction j with
    | zero =>
      intro i ys hi hy
      have e : i = os.length := by rw [← hv.length]; omega
      rw [e, List.take_length] at hy
      exact LCg.CompRest.zero (fin g ys hy)
    | succ j ih =>
      intro i ys hi hy
      refine LCg.CompRest.succ ?_
      intro v I oI C oC D m₂ h tk E' hq hC hx' F' N' off ne
      obtain ⟨o, t, ho, hv'⟩ := hv.at i v (by simpa using hq)
      have hn := nm_one (prog := prog) (w := w) (A := A) (E := E') (scope := scope) (cl := cl) (env := env) (g := s.gens) (d := s.drawn) (o := s.os) N' (List.mem_cons_of_mem _ (List.mem_cons_self ..)) hC hx' (hk C) (hx C) hd
      have last : ∀ t' k', LCg.CompEnd h₀ L m { s with heap := h, toks := tk } I oI C oC D (LCg.lst ys) (LCg.SrcAt h₀ ax vs.toArray)
          (fun y news' => LCg.CompRest prog w A h₀ L m env (.IfExp (.Compare (.Name x p1) [.Is] [.Constant .none c1 p2] p3) (.Constant (.int 0) c2 p4) (.Name x p5) p6) x scope cl { s with heap := g } (LCg.SrcAt h₀ ax vs.toArray)
            (fun i v => vs.toArray[i]? = some v) (Fin { s with heap := g }) j (i + 1) (ys ++ [y]) news') (.int (o.getD 0) t') { s with heap := h, toks := k' } := fun t' k' => by
        refine LCg.CompEnd.intro F' N' news (fun _ hp => hp) off (.inr ⟨_, hm, rfl, _, rfl⟩) ?_
        refine ih (i + 1) _ (by omega) ?_
        rw [List.take_add_one, ho]
        simpa using IntsAre.append hy (.cons (o.getD 0) t' .nil)
      subst hv'
      rcases o with _ | z
      · refine wpAny_IfExp (wpAny_isTrue_Compare1 (hn.ok x _ (if_pos rfl) _ _ _ (pe_sound hn 1 (.Constant .none c1 p2) (.val .none) True rfl trivial _ _ fun t' k'' => ?_)) rfl)
        exact is_none_none (wpAny_truthy_bool (by rw [if_pos rfl]; exact pe_sound hn 1 (.Constant (.int 0) c2 p4) (.int 0) True rfl trivial _ _ fun t' k' => last t' k'))
      · refine wpAny_IfExp (wpAny_isTrue_Compare1 (hn.ok x _ (if_pos rfl) _ _ _ (pe_sound hn 1 (.Constant .none c1 p2) (.val .none) True rfl trivial _ _ fun t' k'' => ?_)) rfl)
        exact is_int_none (wpAny_truthy_bool (by rw [if_neg (by decide)]; exact hn.ok x _ (if_pos rfl) _ _ _ (last t _)))
  have z := key vs.length 0 [] (by omega) (by simp only [List.take_zero, List.map_nil]; exact .nil)
  exact z
end
/-- a part of a list of ints and Nones -/
theorem opts_pick {vs : List Value} {os : List (Option Int)} {y : Int} (hv : OptsAre vs os) (h : 0 ≤ y) : OptsAre (slicePick vs.toArray none (some y) none).toList (os.take y.toNat) := by
  rw [kms_pick_eq]
  show OptsAre ((vs.drop 0).take (kms_hi (some y) vs.length - 0)) _
  show OptsAre ((vs.drop 0).take ((if y < 0 then vs.length - (-y).toNat else min y.toNat vs.length) - 0)) _
  rw [List.drop_zero, Nat.sub_zero, if_neg (Int.not_lt.mpr h), kmk_take_min]
  exact hv.take _
theorem opts_ns {ys : List Value} {os : List (Option Int)} {ns : List Int} (e : ns = os.map fun o => o.getD 0) (h : IntsAre ys (os.map fun o => o.getD 0)) : IntsAre ys ns := e ▸ h
theorem opts_bnd {os : List (Option Int)} (h : ∀ o ∈ os, 0 ≤ o.getD 0 ∧ o.getD 0 ≤ 256) : ∀ x ∈ (os.map fun o => o.getD 0), 0 ≤ x ∧ x ≤ 256 := fun x hx => by
  obtain ⟨o, ho, rfl⟩ := List.mem_map.mp hx
  exact h o ho
theorem len_nat {l : List Int} {n : Nat} (h : (n : Int) ≤ (l.length : Int)) : n ≤ l.length := Int.ofNat_le.mp h
theorem three {l : List Int} (h : 3 ≤ l.length) : ∃ a b c r, l = a :: b :: c :: r := by
  rcases l with _ | ⟨a, _ | ⟨b, _ | ⟨c, r⟩⟩⟩
  · exact absurd (show 3 ≤ 0 from h) (by decide)
  · exact absurd (show 3 ≤ 1 from h) (by decide)
  · exact absurd (show 3 ≤ 2 from h) (by decide)
  · exact ⟨a, b, c, r, rfl⟩
theorem pc_at {ns : List Int} {i : Nat} (h3 : 3 ≤ (ns.length : Int)) (hi : i < 3) : ns.getD i 0 ∈ ns.take 3 := by
  obtain ⟨a, b, c, r, rfl⟩ := three (len_nat h3)
  match i, hi with
  | 0, _ => exact List.mem_cons_self ..
  | 1, _ => exact List.mem_cons_of_mem _ (List.mem_cons_self ..)
  | 2, _ => exact List.mem_cons_of_mem _ (List.mem_cons_of_mem _ (List.mem_cons_self ..))
theorem pc_byte {ns : List Int} {M : Int} {i : Nat} (hb : ∀ x ∈ ns, 0 ≤ x ∧ x ≤ 256) (ha : ∀ a, a ∈ ns.take 3 → a ≤ M) (hM : M ≤ 255) (h3 : 3 ≤ (ns.length : Int)) (hi : i < 3) : 0 ≤ ns.getD i 0 ∧ ns.getD i 0 < 256 :=
  have z := pc_at h3 hi
  ⟨(hb _ (List.mem_of_mem_take z)).1, Int.lt_of_le_of_lt (ha _ z) (Int.lt_of_le_of_lt hM (by decide))⟩
theorem pc_some5 {kind : Int} {ns : List Int} (h : kind = 5) (l : 1 ≤ (ns.length : Int)) (b : ns.getD (Int.toNat 0) 0 ≤ 255) : pcolV kind ns = some (ns.getD (Int.toNat 0) 0) := if_pos ⟨h, len_nat l, b⟩
theorem pc_no5 {kind : Int} {ns : List Int} (h : kind = 5) (b : ¬ 1 ≤ (ns.length : Int) ∨ ¬ ns.getD (Int.toNat 0) 0 ≤ 255) : pcolV kind ns = none := by
  unfold pcolV
  rw [if_neg (fun z => b.elim (fun q => q (Int.ofNat_le.mpr z.2.1)) (fun q => q z.2.2)), if_neg (fun z => absurd (h.symm.trans z.1) (by decide))]
theorem pc_some2 {kind M v : Int} {ns : List Int} (h5 : ¬ kind = 5) (h : kind = 2) (l : 3 ≤ (ns.length : Int)) (ha : ∀ a, a ∈ ns.take 3 → a ≤ M) (hM : M ≤ 255) (hv : v = 16777216 + (65536 * ns.getD (Int.toNat 0) 0 + 256 * ns.getD (Int.toNat 1) 0 + ns.getD (Int.toNat 2) 0)) : pcolV kind ns = some v := by
  unfold pcolV
  rw [if_neg (fun z => h5 z.1), if_pos ⟨h, len_nat l, Int.le_trans (ha _ (pc_at l (by decide))) hM, Int.le_trans (ha _ (pc_at l (by decide))) hM, Int.le_trans (ha _ (pc_at l (by decide))) hM⟩, hv]
  rfl
theorem pc_no2 {kind : Int} {ns : List Int} (h5 : ¬ kind = 5) (b : ¬ kind = 2 ∨ ¬ 3 ≤ (ns.length : Int)) : pcolV kind ns = none := by
  unfold pcolV
  rw [if_neg (fun z => h5 z.1), if_neg (fun z => b.elim (fun q => q z.1) (fun q => q (Int.ofNat_le.mpr z.2.1)))]
theorem pc_big2 {kind M : Int} {ns : List Int} (h5 : ¬ kind = 5) (hm : M ∈ ns.take 3) (hM : ¬ M ≤ 255) : pcolV kind ns = none := by
  unfold pcolV
  rw [if_neg (fun z => h5 z.1), if_neg]
  rintro ⟨-, l, a, b, c⟩
  obtain ⟨x, y, z, r, rfl⟩ := three l
  rcases List.mem_cons.mp hm with rfl | hm
  · exact hM a
  · rcases List.mem_cons.mp hm with rfl | hm
    · exact hM b
    · rw [List.mem_singleton.mp hm] at hM
      exact hM c
theorem kind_52 {kind : Int} (h : kind = 5) : ¬ (kind == 2) = true := by rw [h]; decide

theorem set65 : True := by
  w_top off
  k_with "call ref" => ((k_here; k_dflt (refine' dircol_c ?h1v113 ?h2v113 ?h3v113 (fun v9w t9w h9w tk9w hv9w F9w N9w => ?_) ?kSv113; (case kSv113 => walk_at "my site"); (case h1v113 => walk_at "my byte"); (case h2v113 => walk_at "my byte"); (case h3v113 => walk_at "my byte")); (try dsimp only); (try k_fold)))
  k_with "my byte" => (first | omega | ((simp only [List.getD_cons_zero, List.getD_cons_succ, Int.toNat_zero, Int.toNat_one, Int.reduceToNat]); omega))
  k_with "CompSrc" => ((k_here; (k_dflt (refine' opts_src ?Fv115 ?Nv115 ?hhv115 ?hmv115 ?hvv115 ?hlv115 ?hkv115 ?hxv115 ?hdv115 (fun g9w ys9w hys9w => ?_); (case Fv115 => k_asm); (case Nv115 => k_asm); (case hhv115 => exact rfl); (case hmv115 => k_mem); (case hvv115 => assumption); (case hlv115 => omega); (case hkv115 => exact fun _ => rfl); (case hxv115 => exact fun _ => rfl); (case hdv115 => decide))); (have hys8 := opts_ns (by assumption) hys9w); clear hys9w))
  k_with "my byte" => (exact pc_byte (by assumption) (by assumption) (by assumption) (by assumption) (by decide))
  k_with "ite" => ((k_here; (refine' ite_negI ?hcv117 ?_; (case hcv117 => k_dflt (exact kind_52 (by assumption))))))
  k_with "my pcol" => (first | exact pc_some5 (by assumption) (by assumption) (by assumption) | exact pc_some2 (by assumption) (by assumption) (by assumption) (by assumption) (by assumption) (by assumption) | exact pc_big2 (by assumption) (by assumption) (by assumption) | exact pc_no2 (by assumption) (by first | exact .inl (by assumption) | exact .inr (by assumption)) | exact pc_no5 (by assumption) (by first | exact .inl (by assumption) | exact .inr (by assumption)))
  exact trivial
theorem pcol_c {prog : Program} {w : World} {p : Program} {loose : List Str} {mean : ExcName → Option Value} {mg mb : Str → Option Value} {dp un : Nat} {gd : Option (List Code)} {cn : Str} {cs : Scope} {a : Addr} {ccd : Value} {cl : List (Str × Addr)} {outer : List Env} {A₀ : Around} {base h₀ : Heap} {L : Addr} {m : Str → Option Value} {s : Shared} {Q E : Value → Shared → Prop} {news : List (Addr × Obj)}
    {kind : Int} {tk : Tok} {D : Addr} {nl : Nat} {vs : List Value} {os : List (Option Int)} (hk1 : 0 ≤ kind ∧ kind < 10) (hv : OptsAre vs os) (hl : os.length ≤ 4) (hb : ∀ o ∈ os, 0 ≤ o.getD 0 ∧ o.getD 0 ≤ 256)
    (hm : (D, W.listOf vs.toArray nl) ∈ news)
    (hS : ∀ t h' tk', Fr h₀ L h' m → News h₀ L h' news → Q (optI (pcolV kind (os.map fun o => o.getD 0)) t) { s with heap := h', toks := tk' })
    (S : Site w p loose mean mg mb dp un 2 cs outer A₀ base h₀ L s.heap m news) :
    wpAny (model prog w) (ktrTop dp un gd cn cs L a ccd cl outer) (call (.ref 77) [.int kind tk, .ref D]) Q E s := by
  obtain ⟨B, F, X, N, T, hk, hd, hu⟩ := S
  obtain ⟨ns, hns⟩ : ∃ ns, ns = os.map fun o => o.getD 0 := ⟨_, rfl⟩
  have hnl : ns.length ≤ 4 := by rw [hns, List.length_map]; exact hl
  have hnb : ∀ x ∈ ns, 0 ≤ x ∧ x ≤ 256 := by rw [hns]; exact opts_bnd hb
  rw [← hns] at hS
  have hN : pcolV kind ns = none → ∀ h' tk', Fr h₀ L h' m → News h₀ L h' news → Q .none { s with heap := h', toks := tk' } := fun e => by rw [e] at hS; exact hS 0
  have hV : ∀ v t, pcolV kind ns = some v → ∀ h' tk', Fr h₀ L h' m → News h₀ L h' news → Q (.int v t) { s with heap := h', toks := tk' } := fun v t e => by rw [e] at hS; exact hS t
  have N0 : News h₀ L s.heap [(D, W.listOf vs.toArray nl)] := News.sub N (fun q hq => by rw [List.mem_singleton.mp hq]; exact hm)
  have kN0 : KeptN h₀ L s.heap [(D, W.listOf vs.toArray nl)] := N0
  (walk_at "my enter"; intro g9 L9 h9 FG9 F9 N9 B9 X9 T9 kG9; clear N0; (try dsimp only); (try k_lift B9); (try k_fold); k_steps)
  all_goals ((rename News g9 _ _ _ => N'); (rename Fr g9 _ _ _ => F'); (rename Fr h₀ _ _ _ => kF); (rename News h₀ _ _ _ => kN))
  all_goals (first
      | exact hV _ _ (by walk_at "my pcol") _ _ kF (N.grown (grow_led kG9 kN0 F' N' (led_cons (by k_mem) led_nil)))
      | exact hN (by walk_at "my pcol") _ _ kF (N.grown (grow_led kG9 kN0 F' N' (led_cons (by k_mem) led_nil))))

theorem set71 : True := by
  k_with_none
  w_top off
  k_with "my site" => ((refine' Site.mk ?s1v1 ?s2v1 ?s3v1 ?s4v1 ?s5v1 ?s6v1 ?s7v1 ?s8v1; (case s1v1 => first | k_asm | fail "site: below"); (case s2v1 => first | k_asm | fail "site: frame"); (case s3v1 => first | k_asm | fail "site: part"); (case s4v1 => first | k_asm | fail "site: ledger"); (case s5v1 => first | k_asm | fail "site: top"); (case s6v1 => first | exact rfl | assumption | fail "site: kind"); (case s7v1 => first | exact room_ok (by assumption) (by decide) | (walk_say "ROOM"; ktr_room) | fail "site: room"); (case s8v1 => first | exact units_ok (by assumption) (by decide) | (walk_say "UNITS"; ktr_units) | fail "site: units")))
  k_with "my enter" => ((refine wpAny_call ?_; k_dflt (refine' code_defG ?k1v2 ?k2v2 ?k3v2 ?k4v2 ?k5v2 ?kAv2 ?kFv2 ?kKv2 ?k6v2 ?k7v2 ?k8v2 ?k9wv2 ?kBv2 ?_ ?c2v2 ?c3v2 ?c4v2 ?c5v2; (case kAv2 => exact rfl); (case kFv2 => exact rfl); (case kKv2 => assumption); (case k1v2 => k_asm); (case k2v2 => k_asm); (case k3v2 => k_asm); (case k4v2 => k_asm); (case k5v2 => k_asm); (case k6v2 => k_is); (case k7v2 => k_is); (case k8v2 => ktr_room); (case k9wv2 => exact BindsTo.of_eq rfl); (case c5v2 => decide); (case kBv2 => exact locs rfl); (case c2v2 => exact rfl); (case c3v2 => exact rfl); (case c4v2 => exact rfl); k_whole)))
  k_with "call ref" => ((k_here; (try dsimp only [List.nil_append, List.append_nil]); refine wpAny_call ?_; k_dflt (refine' code_def ?k1v3 ?k2v3 ?k3v3 ?k4v3 ?k5v3 ?kAv3 ?kFv3 ?kKv3 ?k6v3 ?k7v3 ?k8v3 ?k9wv3 ?kBv3 ?_ ?c2v3 ?c3v3 ?c4v3 ?c5v3; (case kAv3 => exact rfl); (case kFv3 => exact rfl); (case kKv3 => first | exact rfl | assumption); (case k1v3 => k_asm); (case k2v3 => k_asm); (case k3v3 => k_asm); (case k4v3 => k_asm); (case k5v3 => k_asm); (case k6v3 => k_is); (case k7v3 => k_is); (case k8v3 => ktr_room); (case k9wv3 => exact BindsTo.of_eq rfl); (case c5v3 => decide); (case kBv3 => exact locs rfl); (case c2v3 => exact rfl); (case c3v3 => exact rfl); (case c4v3 => exact rfl); k_whole; intro g' L' h' FG' F' N' B' X' T'; (try dsimp only); (try k_lift B'); (try k_fold))))
  k_with "my off" => (((rename (_ ≠ _ ∧ _ ≠ _ ∧ _ ≠ _) ∧ _ => off9w); (simp only [ne_eq] at off9w); (simp only [LCg.Off3, and_true, ne_eq, off9w, not_false_eq_true, and_self, true_and]); (first | done | ((repeat' (refine And.intro ?_ ?_)); all_goals exact neN (by walk_at "my ne")))))
  k_with "ite" => ((k_here; first
      | (refine' ite_posI ?hcv5 ?_; (case hcv5 => k_dflt (exact of_decide_eq_true (by exact rfl))))
      | (refine' ite_negI ?hcv5 ?_; (case hcv5 => k_dflt (exact of_decide_eq_false (by exact rfl))))))
  k_with "my fact" => (first | (with_reducible assumption) | (simp only [ne_eq, not_false_eq_true, *]; done))
  k_with "my ne" => (first | (walk_at "my fact") | exact Ne.symm (by walk_at "my fact") | exact Nat.ne_of_lt (by walk_at "my fact") | exact Nat.ne_of_gt (by walk_at "my fact") | exact Nat.ne_of_lt (Nat.lt_succ_of_lt (by walk_at "my fact")) | exact Nat.ne_of_gt (Nat.lt_succ_of_lt (by walk_at "my fact")) | (walk_say "NE by omega"; omega))
  k_with "my side" => ((with_reducible ((repeat' (refine And.intro ?_ ?_)) <;> first | exact trivial | assumption | (walk_at "my arith"))))
  k_with "my arith" => (first
        | ((show IntMulOk _ _); first | exact PySem.IntMulOk.of_right (PySem.intBits_le_64 (by decide) (by decide)) | exact PySem.IntMulOk.of_left (PySem.intBits_le_64 (by decide) (by decide)) | exact PySem.IntMulOk.of_right (PySem.intBits_le_64 (by omega) (by omega)) | exact PySem.IntMulOk.of_left (PySem.intBits_le_64 (by omega) (by omega)) | mul_fits)
        | ((show Builtin.divisionGoesByPylong _ _ = false); first | exact PyProof.noPylong_of_log2 (by decide +kernel) | exact PyProof.noPylong_small (by omega))
        | omega
        | decide)
  k_with "my no" => (first | with_reducible exact False.elim p9w | with_reducible exact absurd trivial p9w | with_reducible exact absurd rfl p9w | (law_purse 20000 => omega))
  k_with "execs cons" => ((k_here; (first
        | ((with_reducible show wpAny _ _ (execs (Stmt.Return (some _) _ :: _) _) _ _ _); (fail_if_success (with_reducible show wpAny _ _ (execs (Stmt.Return (some (Expr.Tuple _ _ _)) _ :: _) _) _ _ _)); (fail_if_success (with_reducible show wpAny _ _ (execs (Stmt.Return (some (Expr.List _ _)) _ :: _) _) _ _ _)); (fail_if_success (with_reducible show wpAny _ _ (execs (Stmt.Return (some (Expr.Dict _ _ _)) _ :: _) _) _ _ _)); k_dflt ((with_reducible refine' st_retE ?hev11 ?Fv11 ?Xv11 ?Tv11 (fun t => ?ev11) ?hkv11 ?hcv11 (fun t9w tk9w => ?_))); (case hev11 => k_dflt (exact rfl)); (case Fv11 => k_asm); (case Xv11 => k_asm); (case Tv11 => k_asm); (case ev11 => k_dflt (exact rfl)); (case hkv11 => k_dflt (exact rfl)); (case hcv11 => walk_at "my side"); (try dsimp only))
        | ((with_reducible show wpAny _ _ (execs (Stmt.If _ _ [] _ :: _) _) _ _ _); k_dflt ((with_reducible refine' st_if0E ?hev11 ?Fv11 ?Xv11 ?Tv11 ?ev11 ?hkv11 ?hcv11 (fun p9w tk9w => ?_) (fun p9w tk9w => ?_))); (case hev11 => k_dflt (exact rfl)); (case Fv11 => k_asm); (case Xv11 => k_asm); (case Tv11 => k_asm); (case ev11 => k_dflt (exact rfl)); (case hkv11 => k_dflt (exact rfl)); (case hcv11 => walk_at "my side"); all_goals first | (exfalso; walk_at "my no") | (try dsimp only))
        | ((with_reducible show wpAny _ _ (execs (Stmt.If _ _ (_ :: _) _ :: _) _) _ _ _); k_dflt ((with_reducible refine' st_ifE ?hev11 ?Fv11 ?Xv11 ?Tv11 ?ev11 ?hkv11 ?hcv11 (fun p9w tk9w => ?_) (fun p9w tk9w => ?_))); (case hev11 => k_dflt (exact rfl)); (case Fv11 => k_asm); (case Xv11 => k_asm); (case Tv11 => k_asm); (case ev11 => k_dflt (exact rfl)); (case hkv11 => k_dflt (exact rfl)); (case hcv11 => walk_at "my side"); all_goals first | (exfalso; walk_at "my no") | (try dsimp only))
        | ((with_reducible show wpAny _ _ (execs (Stmt.Assign [Expr.Name _ _] _ _ :: _) _) _ _ _); k_dflt ((with_reducible refine' st_assignE ?hev11 ?Fv11 ?Nv11 ?Xv11 ?Tv11 (fun t => ?ev11) ?hkv11 ?hxv11 ?hsv11 ?hcv11 (fun t9w tk9w h9w => ?_))); (case hev11 => k_dflt (exact rfl)); (case Fv11 => k_asm); (case Nv11 => k_asm); (case Xv11 => k_asm); (case Tv11 => k_asm); (case ev11 => k_dflt (exact rfl)); (case hkv11 => k_dflt (exact rfl)); (case hxv11 => k_dflt (exact rfl)); (case hsv11 => k_dflt (exact rfl)); (case hcv11 => walk_at "my side"); intro m9w F9w N9w; (try k_sweep); (try dsimp only)))))
  k_with "eval BinOp" => ((k_here; k_dflt ((with_reducible refine' ev_peE ?hev12 ?Fv12 ?Xv12 ?Tv12 (fun t => ?ev12) ?hkv12 ?hcv12 (fun t9w tk9w => ?_)); (case hev12 => k_dflt (exact rfl)); (case Fv12 => k_asm); (case Xv12 => k_asm); (case Tv12 => k_asm); (case ev12 => k_dflt (exact rfl)); (case hkv12 => k_dflt (exact rfl)); (case hcv12 => walk_at "my side")); (try dsimp only)))
  k_with "eval IfExp" => ((k_here; k_dflt ((with_reducible refine' ev_ifE ?hev13 ?Fv13 ?Xv13 ?Tv13 ?ev13 ?hkv13 ?hcv13 (fun p9w tk9w => ?_) (fun p9w tk9w => ?_)); (case hev13 => k_dflt (exact rfl)); (case Fv13 => k_asm); (case Xv13 => k_asm); (case Tv13 => k_asm); (case ev13 => k_dflt (exact rfl)); (case hkv13 => k_dflt (exact rfl)); (case hcv13 => walk_at "my side"); all_goals first | (exfalso; walk_at "my no") | (try dsimp only))))
  k_with "eval Call" => ((k_here; (with_reducible show wpAny _ _ (eval (Expr.Call (Expr.Name _ _) (_ :: _) [] _) _) _ _ _); k_dflt ((with_reducible refine' ev_callE ?hev14 ?Fv14 ?Xv14 ?Tv14 ?efv14 ?hfv14 (fun t => ?eav14) ?hkv14 ?hcv14 (fun t9w tk9w => ?_)); (case hev14 => k_dflt (exact rfl)); (case Fv14 => k_asm); (case Xv14 => k_asm); (case Tv14 => k_asm); (case efv14 => k_dflt (exact rfl)); (case hfv14 => k_dflt (exact rfl)); (case eav14 => k_dflt (exact rfl)); (case hkv14 => k_dflt (exact rfl)); (case hcv14 => walk_at "my side"))))
  k_with "my nm" => ((k_dflt (refine' nm_ok ?Fv15 ?Xv15 ?Tv15 ?hkv15); (case Fv15 => k_asm); (case Xv15 => k_asm); (case Tv15 => k_asm); (case hkv15 => k_dflt (exact rfl))))
  k_with "spliced" => ((k_here; (with_reducible show wpAny _ _ (spliced (backTo _ (starEach (_ :: _) _))) _ _ _); (fail_if_success (with_reducible show wpAny _ _ (spliced (backTo _ (starEach (_ :: _ :: _ :: _ :: _ :: _ :: _ :: _) _))) _ _ _)); k_dflt ((with_reducible refine' xe_all ?hnv16 (fun tk => ?ev16) ?hcv16 (fun tk9w k9w => ?_))); (case hnv16 => walk_at "my nm"); (case ev16 => k_dflt (exact rfl)); (case hcv16 => walk_at "my side"); (try dsimp only [List.cons_append, List.nil_append])))
  k_with "storeName" => ((k_here; k_dflt ((with_reducible refine' st_storeE ?hev17 ?Fv17 ?Nv17 (fun tk9w h9w => ?_) ?hkv17 ?hxv17)); (case hev17 => k_dflt (exact rfl)); (case Fv17 => k_asm); (case Nv17 => k_asm); (case hkv17 => k_dflt (exact rfl)); (case hxv17 => k_dflt (exact rfl)); intro m9w F9w N9w; (try k_sweep); (try dsimp only)))
  k_with "call ref" => ((k_here; k_dflt (refine' hexv_c ?kSv18 (fun hv9w h9w tk9w F9w N9w => ?_) (fun v9w t9w hv9w h9w tk9w F9w N9w => ?_); (case kSv18 => walk_at "my site")); all_goals ((try dsimp only); (try k_fold))))
  k_with "call ref" => ((k_here; k_dflt (refine' figs_c ?kbv21 ?klv21 ?kSv21 (fun hv9w h9w tk9w F9w N9w => ?_) (fun v9w t9w hv9w h9w tk9w F9w N9w => ?_); (case kbv21 => kba_ints2); (case klv21 => kba_size); (case kSv21 => walk_at "my site")); all_goals ((try dsimp only); (try k_fold))))
  k_with "pyIter ref" => (((with_reducible show wpAny _ _ (pyIter (Value.ref _)) (fun it s₂ => LoopAtV _ _ _ _ _ _ _ _ _ it s₂) _ _); (rename Fr _ _ _ _ => lF'); (rename News _ _ _ _ => lN'); (with_unfolding_all refine iter_tupleUnr (by rfl) lF' lN' (by k_mem) ?_); clear lF' lN'; intro i' l1; (try k_lt l1)))
  k_with "TupRest" => ((with_unfolding_all first | (refine TupRest.succ (fun it' h' tk' hit' F' N' => ?_)) | (refine TupRest.zero (fun h' tk' F' N' => ?_))))
  k_with "getMethod bytes" => ((k_here; (with_reducible refine method_join ?_)))
  k_with "getMethod bytes" => ((k_here; (with_reducible refine method_split ?_)))
  k_with "my ints" => (first | kba_ints | exact (rfl : KBw.bInts _ = ([47] : List Int)) | exact (rfl : KBw.bInts _ = ([] : List Int)) | kba_ints2)
  k_with "my list" => (first | exact News.isList (by k_asm) (by k_mem) | is_list)
  k_with "call builtin:bytes.join" => ((k_here; k_dflt (first
      | (refine' join3 ?lv28 ?hsv28 ?h1v28 ?h2v28 ?h3v28 ?hzv28 ?_; (case lv28 => walk_at "my list"); (case hsv28 => walk_at "my ints"); (case h1v28 => walk_at "my ints"); (case h2v28 => walk_at "my ints"); (case h3v28 => walk_at "my ints"); (case hzv28 => kba_size))); intro B9w t9w k9w hB9w; (try simp only [List.nil_append, List.cons_append, List.append_assoc] at hB9w)))
  k_with "call ref" => ((k_here; k_dflt (refine' rgb_c ?h1v29 ?h2v29 ?h3v29 ?h4v29 ?h5v29 (fun D9w t9w u9w v9w h9w tk9w o9w F9w N9w => ?_) ?kSv29; (case h1v29 => assumption); (case h2v29 => first | assumption | decide | omega); (case h3v29 => first | assumption | omega); (case h4v29 => first | assumption | omega); (case h5v29 => first | assumption | omega); (case kSv29 => walk_at "my site")); (try simp only [LCg.Off1, and_true] at o9w); (try dsimp only); (try k_fold)))
  k_with "call builtin:bytes.split" => ((k_here; k_dflt (refine' split_call ?h1v30 ?h2v30 ?h3v30 ?h4v30 (fun D9w b1 b2 b3 t1 t2 t3 k1 k2 k3 h9w tk9w hsg e1 e2 e3 z1 z2 z3 F9w N9w l9w => ?_) (fun D9w vs9w h9w tk9w hsg e1 z1 F9w N9w l9w => ?_); (case h1v30 => k_asm); (case h2v30 => k_asm); (case h3v30 => walk_at "my ints"); (case h4v30 => kba_size)); all_goals ((try k_lt l9w); (try simp only [List.length_take, List.length_drop] at z1 z2 z3))))
  k_with "subscriptTail" => ((k_here; (with_reducible show wpAny _ _ (subscriptTail _ _ (Value.bytes _ _) (Value.int _ _)) _ _ _); (first
      | (refine' figs_item (nib_hi ?h1v31 ?h2v31 ?h3v31) ?h4v31 ?h5v31 (fun t9w k9w => ?_); (case h1v31 => assumption); (case h2v31 => omega); (case h3v31 => omega); (case h4v31 => omega); (case h5v31 => omega))
      | (refine' figs_item (nib_lo ?h1v31 ?h2v31 ?h3v31) ?h4v31 ?h5v31 (fun t9w k9w => ?_); (case h1v31 => assumption); (case h2v31 => omega); (case h3v31 => omega); (case h4v31 => omega); (case h5v31 => omega)))))
  k_with "call ref" => ((k_here; k_dflt (refine' figs_cb ?kbv36 ?klv36 ?kSv36 (fun hv9w h9w tk9w F9w N9w => ?_) (fun v9w t9w hv9w lo9w hi9w h9w tk9w F9w N9w => ?_); (case kbv36 => kba_ints2); (case klv36 => kba_size); (case kSv36 => walk_at "my site")); all_goals ((try dsimp only); (try k_fold))))
  k_with "Exists" => ((k_here; (refine made_bytes (by k_asm) (by first | k_asm | exact News.nil) (Top.nolimit (by k_asm)) (by rfl) (of_decide_eq_true (by rfl)) ?_; intro h' o' F' N' l1 lo' hd'; (try k_lt l1))))
  k_with "eval Dict" => ((k_here; (with_reducible refine Dict_made_bytes (by with_unfolding_all rfl) (by with_unfolding_all assumption) (by with_unfolding_all rfl) (by with_unfolding_all rfl) (List.cons_ne_nil _ _) (by with_unfolding_all decide) ?_; intro _)))
  k_with "my enterC" => ((refine wpAny_call ?_; k_dflt (refine' code_defCG ?k1v44 ?k2v44 ?k3v44 ?k4v44 ?k5v44 ?kAv44 ?kFv44 ?kKv44 ?k6v44 ?k7v44 ?k8v44 ?k9wv44 ?kBv44 ?kDv44 ?_ ?c2v44 ?c3v44 ?c4v44; (case kAv44 => exact rfl); (case kFv44 => exact rfl); (case kKv44 => assumption); (case k1v44 => k_asm); (case k2v44 => k_asm); (case k3v44 => k_asm); (case k4v44 => k_asm); (case k5v44 => k_asm); (case k6v44 => k_is); (case k7v44 => k_is); (case k8v44 => ktr_room); (case k9wv44 => exact BindsTo.of_eq rfl); (case kBv44 => exact rfl); (case kDv44 => decide +kernel); (case c2v44 => exact rfl); (case c3v44 => exact rfl); (case c4v44 => exact rfl); k_whole)))
  k_with "my pull" => (first | exact Pull.head | (refine' Pull.tail ?ptlv49; (case ptlv49 => walk_at "my pull")))
  k_with "my off" => (((try simp only [LCg.Off1, and_true]); (repeat' (refine And.intro ?_ ?_)); all_goals first | exact trivial | (walk_at "my ne")))
  k_with "my pow" => (first | omega | exact pow16_pos _ | exact pow16_le (by omega) | decide)
  k_with "call ref" => ((k_here; k_dflt (refine' draw_c ?P1v52 ?P2v52 ?hIv52 ?h1v52 ?h2v52 ?h3v52 ?h4v52 ?h5v52 ?h6v52 ?h7v52 (fun k9w v9w t9w u9w h9w tk9w hk9w lo9w hi9w dv9w F9w N9w => ?_) ?kSv52; (case kSv52 => walk_at "my site"); (case P1v52 => walk_at "my pull"); (case P2v52 => walk_at "my pull"); (case hIv52 => l_ints); (case h1v52 => first | assumption | omega); (case h2v52 => omega); (case h3v52 => omega); (case h4v52 => walk_at "my pow"); (case h5v52 => walk_at "my pow"); (case h6v52 => omega); (case h7v52 => walk_at "my off")); (try dsimp only); (try k_fold)))
  k_with "call ref" => ((k_here; k_dflt (refine' small_c ?kbv61 ?klv61 (fun B9w t9w h9w tk9w hB9w F9w N9w => ?_) ?kSv61; (case kSv61 => walk_at "my site"); (case kbv61 => walk_at "my ints"); (case klv61 => first | assumption | kba_size)); (try dsimp only); (try k_fold)))
  k_with "call ref" => ((k_here; k_dflt (refine' digs_c ?kbv62 ?klv62 (fun hv9w h9w tk9w F9w N9w => ?_) (fun v9w t9w hv9w h9w tk9w F9w N9w => ?_) ?kSv62; (case kSv62 => walk_at "my site"); (case kbv62 => walk_at "my ints"); (case klv62 => first | assumption | kba_size)); all_goals ((try dsimp only); (try k_fold))))
  k_with "call ref" => ((k_here; k_dflt (refine' parts_c ?kb1v63 ?kb2v63 ?kb3v63 ?kl1v63 ?kl2v63 ?kl3v63 ?kDv63 (fun hv9w h9w tk9w F9w N9w => ?_) (fun v9w t9w hv9w h9w tk9w F9w N9w => ?_) ?kSv63; (case kSv63 => walk_at "my site"); (case kDv63 => k_mem); (case kb1v63 => assumption); (case kb2v63 => assumption); (case kb3v63 => assumption); (case kl1v63 => first | assumption | omega); (case kl2v63 => first | assumption | omega); (case kl3v63 => first | assumption | omega)); all_goals ((try dsimp only); (try k_fold))))
  k_with "call ref" => ((k_here; k_dflt (refine' names_c (fun D9w o9w kvs9w h9w tk9w off9w lo9w hd9w ht9w F9w N9w => ?_) ?kSv64; (case kSv64 => walk_at "my site")); (try simp only [LCg.Off1, and_true] at off9w); (try dsimp only); (try k_fold)))
  k_with "call ref" => ((k_here; k_dflt (refine' lnames_c (fun D9w o9w kvs9w h9w tk9w off9w lo9w hd9w ht9w F9w N9w => ?_) ?kSv65; (case kSv65 => walk_at "my site")); (try simp only [LCg.Off1, and_true] at off9w); (try dsimp only); (try k_fold)))
  k_with "getMethod ref" => ((k_here; kda_here; (with_reducible show wpAny _ _ (getMethod (Value.ref _) (Str.ofString "get") _) _ _ _); k_dflt (refine kdg_method (knd := bytesKind _ _) (by k_asm) (by k_mem) (by k_asm) ?_)))
  k_with "call builtin:dict.get" => ((k_here; kda_here; k_dflt (refine' get_names ?n1v67 ?n2v67 ?n3v67 ?n4v67 ?n5v67 ?n6v67 (fun hv9w t9w => ?_) (fun v9w t9w k9w hv9w => ?_); (case n1v67 => k_asm); (case n2v67 => k_mem); (case n3v67 => k_asm); (case n4v67 => k_asm); (case n5v67 => assumption); (case n6v67 => walk_at "my ints")); all_goals (try dsimp only)))
  k_with "call builtin:len" => ((k_here; (with_reducible show wpAny _ _ (call (Value.builtin "len") [Value.ref _]) _ _ _); k_dflt (refine' len_gen ?n1v68 ?n2v68 ?n3v68 (fun t9w k9w => ?_); (case n1v68 => k_asm); (case n2v68 => k_mem); (case n3v68 => assumption))))
  k_with "call ref" => ((k_here; k_dflt (refine' dircol_c ?h1v113 ?h2v113 ?h3v113 (fun v9w t9w h9w tk9w hv9w F9w N9w => ?_) ?kSv113; (case kSv113 => walk_at "my site"); (case h1v113 => walk_at "my byte"); (case h2v113 => walk_at "my byte"); (case h3v113 => walk_at "my byte")); (try dsimp only); (try k_fold)))
  k_with "my byte" => (first | omega | ((simp only [List.getD_cons_zero, List.getD_cons_succ, Int.toNat_zero, Int.toNat_one, Int.reduceToNat]); omega))
  exact trivial
noncomputable def nameKeys : List (Option Expr) → Bool
  | some (.Name _ _) :: r => nameKeys r
  | [] => true
  | _ => false
theorem Dict_made_names {prog : Program} {w : World} {A : Around} {E : Value → Shared → Prop} {s : Shared} {env : Env} {h₀ : Heap} {L : Addr} {m : Str → Option Value} {keys : List (Option Expr)} {values : List Expr} {pos : Pos} {Q : Value → Shared → Prop} (_ : nameKeys keys = true) (F : Fr h₀ L s.heap m)
    (hall : keys.all (·.isSome) = true) (hl : keys.length = values.length) (h0 : keys ≠ []) (hlen : keys.length ≤ 15)
    (h : Fr h₀ L (s.heap.push { cls := .type "dict", data := .dict #[] }) m →
      wpAny (model prog w) A (evalPairs (pairTrees keys values env pos)) (fun vs s₁ => ∃ kvs, Carries (intKind prog w) vs kvs ∧ s₁.heap.DictOf (intKind prog w) s.heap.objs.size [] ∧
        ∀ h', h'.DictOf (intKind prog w) s.heap.objs.size (merged [] kvs) → Heap.SameBut s.heap.objs.size s₁.heap h' → Q (.ref s.heap.objs.size) { s₁ with heap := h', toks := s₁.toks + vs.length }) E
        { s with heap := s.heap.push { cls := .type "dict", data := .dict #[] } }) :
    wpAny (model prog w) A (eval (.Dict keys values pos) env) Q E s := Dict_made F hall hl h0 hlen h
section
variable {prog : Program} {w : World} {A : Around} {E : Value → Shared → Prop} {s : Shared} {Q : Value → Shared → Prop}
theorem tab_lin {value slice : Expr} {d : Addr} {i a1 a2 a3 c : Int} {t : Tok} (hh : A.handled = none) (T : IntTab prog w s.heap d [(.int 1, .int a1), (.int 2, .int a2), (.int 3, .int a3)]) (hi : 1 ≤ i ∧ i ≤ 3) (e1 : a1 = 10 + c) (e2 : a2 = 20 + c) (e3 : a3 = 30 + c)
    (h : ∀ v t k, v = 10 * i + c → Q (.int v t) { s with toks := k })
    (hs : subscripted slice false (.ref d) (.int i t) = operate [.ref d, .int i t] (getItem (.ref d) (.int i t)) := by with_unfolding_all rfl) :
    wpAny (model prog w) A (subscriptTail value slice (.ref d) (.int i t)) Q E s := by
  have hl : PySem.Spec.lookup (PyData.int i) [(PyData.int 1, PyData.int a1), (PyData.int 2, PyData.int a2), (PyData.int 3, PyData.int a3)] = some (.int (10 * i + c)) := by
    have : i = 1 ∨ i = 2 ∨ i = 3 := by omega
    rcases this with rfl | rfl | rfl
    · rw [e1]; rfl
    · rw [e2]; rfl
    · rw [e3]; rfl
  refine item_intTab_split_any T hh (fun dv e v hv => ?_) (fun e => by rw [hl] at e; cases e) hs
  rw [hl] at e
  cases e
  obtain ⟨u, rfl⟩ := PyProof.V.Flat.int_inv hv
  exact h _ u _ rfl
end
/-- one number that tells a place and a colour -/
noncomputable def One (pl c n : Int) : Prop := (c = -1 ∧ n = 10 * pl + 29) ∨ (0 ≤ c ∧ c < 8 ∧ pl ≠ 3 ∧ n = 10 * pl + 20 + c) ∨ (8 ≤ c ∧ c < 16 ∧ pl ≠ 3 ∧ n = 10 * pl + 72 + c)
/-- three rows: a colour of the 256 -/
noncomputable def Idx (pl c : Int) : Prop := 0 ≤ c ∧ c < 256 ∧ (pl = 3 ∨ 16 ≤ c)
noncomputable def Rgb (c r g b : Int) : Prop := c = 16777216 * 1 + 65536 * r + 256 * g + b ∧ (0 ≤ r ∧ r < 256) ∧ (0 ≤ g ∧ g < 256) ∧ (0 ≤ b ∧ b < 256)
noncomputable abbrev lst1 (x : Value) (n : Nat) : Obj := W.listOf #[x] n
section
variable {prog : Program} {w : World} {A : Around} {E : Value → Shared → Prop} {s : Shared} {Q : Value → Shared → Prop}
theorem same_ints (a b : Int) : PySem.Spec.same (PyData.int a) (PyData.int b) = decide (a = b) := by
  by_cases h : a = b <;> simp [PySem.Spec.same, h]
theorem three_none {i k1 k2 k3 : Int} {v1 v2 v3 : PyData} (h : i ≠ k1 ∧ i ≠ k2 ∧ i ≠ k3) : PySem.Spec.lookup (PyData.int i) [(PyData.int k1, v1), (PyData.int k2, v2), (PyData.int k3, v3)] = none := by
  simp [PySem.Spec.lookup, same_ints, Ne.symm h.1, Ne.symm h.2.1, Ne.symm h.2.2]
theorem in_no {d : Addr} {i k1 k2 k3 : Int} {v1 v2 v3 : PyData} {t : Tok} (T : IntTab prog w s.heap d [(.int k1, v1), (.int k2, v2), (.int k3, v3)]) (hi : i ≠ k1 ∧ i ≠ k2 ∧ i ≠ k3) (h : Q (.bool false) { s with toks := s.toks + 1 }) :
    wpAny (model prog w) A (compareOp .In (.int i t) (.ref d)) Q E s := in_intTab T (by rw [three_none hi]; exact h)
theorem places_at {i pl : Int} {v1 v2 v3 : Int} (hp : 1 ≤ pl ∧ pl ≤ 3) (hi : i = 10 * pl + 28) (e1 : v1 = 1) (e2 : v2 = 2) (e3 : v3 = 3) : PySem.Spec.lookup (PyData.int i) [(PyData.int 38, .int v1), (PyData.int 48, .int v2), (PyData.int 58, .int v3)] = some (.int pl) := by
  subst hi e1 e2 e3
  have : pl = 1 ∨ pl = 2 ∨ pl = 3 := by omega
  rcases this with rfl | rfl | rfl <;> rfl
theorem in_yes {d : Addr} {i pl v1 v2 v3 : Int} {t : Tok} (T : IntTab prog w s.heap d [(.int 38, .int v1), (.int 48, .int v2), (.int 58, .int v3)]) (hp : 1 ≤ pl ∧ pl ≤ 3) (hi : i = 10 * pl + 28) (e1 : v1 = 1) (e2 : v2 = 2) (e3 : v3 = 3) (h : Q (.bool true) { s with toks := s.toks + 1 }) :
    wpAny (model prog w) A (compareOp .In (.int i t) (.ref d)) Q E s := in_intTab T (by rw [places_at hp hi e1 e2 e3]; exact h)
theorem places_item {value slice : Expr} {d : Addr} {i pl v1 v2 v3 : Int} {t : Tok} (hh : A.handled = none) (T : IntTab prog w s.heap d [(.int 38, .int v1), (.int 48, .int v2), (.int 58, .int v3)]) (hp : 1 ≤ pl ∧ pl ≤ 3) (hi : i = 10 * pl + 28) (e1 : v1 = 1) (e2 : v2 = 2) (e3 : v3 = 3)
    (h : ∀ t k, Q (.int pl t) { s with toks := k })
    (hs : subscripted slice false (.ref d) (.int i t) = operate [.ref d, .int i t] (getItem (.ref d) (.int i t)) := by with_unfolding_all rfl) :
    wpAny (model prog w) A (subscriptTail value slice (.ref d) (.int i t)) Q E s := by
  refine item_intTab_split_any T hh (fun dv e v hv => ?_) (fun e => by rw [places_at hp hi e1 e2 e3] at e; cases e) hs
  rw [places_at hp hi e1 e2 e3] at e
  cases e
  obtain ⟨u, rfl⟩ := PyProof.V.Flat.int_inv hv
  exact h u _
end
theorem notin1 {D pa : Addr} {o : Obj} (h : @LT.lt Nat _ pa D) : D ∉ [(pa, o)].map (·.1) := by
  simp only [List.map_cons, List.map_nil, List.mem_cons, List.not_mem_nil, or_false]
  exact Nat.ne_of_gt h
theorem notin_cons {D pa : Addr} {o : Obj} {l : List (Addr × Obj)} (h : @Ne Nat pa D) (h' : D ∉ l.map (·.1)) : D ∉ ((pa, o) :: l).map (·.1) := by
  simp only [List.map_cons, List.mem_cons, not_or]
  exact ⟨Ne.symm h, h'⟩
theorem notin_nil {D : Addr} : D ∉ ([] : List (Addr × Obj)).map (·.1) := by simp
noncomputable def ColIn (c : Int) : Prop := c = -1 ∨ (0 ≤ c ∧ c < 256) ∨ (16777216 ≤ c ∧ c < 33554432)
theorem sg_neg {pl c v : Int} (hv : v = 10 * pl + 20) (h : c = -1) : One pl c (v + 9) := .inl ⟨h, by rw [hv]; omega⟩
theorem col_lo {c : Int} (hc : ColIn c) (hn : ¬ c = -1) : 0 ≤ c := by unfold ColIn at hc; omega
theorem sg_low {pl c v : Int} (hv : v = 10 * pl + 20) (hc : ColIn c) (hn : ¬ c = -1) (hp : ¬ (pl = 3 ∨ c ≥ 16)) (h : c < 8) : One pl c (v + c) := .inr (.inl ⟨col_lo hc hn, h, fun e => hp (.inl e), by rw [hv]⟩)
theorem sg_high {pl c v : Int} (hv : v = 10 * pl + 20) (hp : ¬ (pl = 3 ∨ c ≥ 16)) (h : ¬ c < 8) : One pl c (v + 60 + c - 8) := .inr (.inr ⟨Int.not_lt.mp h, Int.not_le.mp fun e => hp (.inr e), fun e => hp (.inl e), by rw [hv]; omega⟩)
theorem lp_neg {pl c v : Int} (hv : v = 10 * pl + 29) (h : c = -1) : One pl c v := .inl ⟨h, hv⟩
theorem lp_one {pl c a b : Int} (hp : 1 ≤ pl ∧ pl ≤ 3) (hc : ColIn c) (hn : ¬ c = -1) (h : c < 16 ∧ pl ≠ 3) (ha : (pl = 1 ∧ a = 30) ∨ (¬ pl = 1 ∧ a = 40)) (hb : (c > 7 ∧ b = 60) ∨ (¬ c > 7 ∧ b = 0)) : One pl c (c.fmod 8 + a + b) := by
  have h0 := col_lo hc hn
  clear hc
  rw [Int.fmod_eq_emod_of_nonneg _ (by decide)]
  have e : pl = 1 ∨ pl = 2 := by omega
  rcases hb with ⟨q, rfl⟩ | ⟨q, rfl⟩
  · refine .inr (.inr ⟨q, h.1, h.2, ?_⟩)
    rcases e with rfl | rfl <;> rcases ha with ⟨z, rfl⟩ | ⟨z, rfl⟩ <;> omega
  · refine .inr (.inl ⟨h0, Int.lt_of_not_ge q, h.2, ?_⟩)
    rcases e with rfl | rfl <;> rcases ha with ⟨z, rfl⟩ | ⟨z, rfl⟩ <;> omega
theorem idx_a {pl c : Int} (hc : ColIn c) (hn : ¬ c = -1) (hd : ¬ c ≥ 16777216) (h : pl = 3 ∨ c ≥ 16) : Idx pl c := by unfold ColIn at hc; exact ⟨by omega, by omega, h⟩
theorem idx_b {pl c : Int} (hc : ColIn c) (hn : ¬ c = -1) (hd : ¬ c ≥ 16777216) (h : ¬ (c < 16 ∧ pl ≠ 3)) : Idx pl c := by unfold ColIn at hc; exact ⟨by omega, by omega, by omega⟩
theorem one7 {pl c n : Int} (hp : 1 ≤ pl ∧ pl ≤ 3) (hn : One pl c n) : (pl = 1 ∧ (c = -1) ∧ n = 39) ∨ (pl = 2 ∧ (c = -1) ∧ n = 49) ∨ (pl = 3 ∧ (c = -1) ∧ n = 59) ∨ (pl = 1 ∧ (0 ≤ c ∧ c < 8) ∧ n = 30 + c) ∨ (pl = 2 ∧ (0 ≤ c ∧ c < 8) ∧ n = 40 + c) ∨ (pl = 1 ∧ (8 ≤ c ∧ c < 16) ∧ n = 82 + c) ∨ (pl = 2 ∧ (8 ≤ c ∧ c < 16) ∧ n = 92 + c) := by
  have h3 : pl = 1 ∨ pl = 2 ∨ pl = 3 := by omega
  rcases hn with ⟨h, e⟩ | ⟨a, b, d, e⟩ | ⟨a, b, d, e⟩ <;> rcases h3 with rfl | rfl | rfl
  all_goals first
    | (exfalso; omega)
    | exact .inl ⟨rfl, by omega, by omega⟩
    | exact .inr (.inl ⟨rfl, by omega, by omega⟩)
    | exact .inr (.inr (.inl ⟨rfl, by omega, by omega⟩))
    | exact .inr (.inr (.inr (.inl ⟨rfl, by omega, by omega⟩)))
    | exact .inr (.inr (.inr (.inr (.inl ⟨rfl, by omega, by omega⟩))))
    | exact .inr (.inr (.inr (.inr (.inr (.inl ⟨rfl, by omega, by omega⟩)))))
    | exact .inr (.inr (.inr (.inr (.inr (.inr (⟨rfl, by omega, by omega⟩))))))
theorem one_ne {pl c n : Int} (hp : 1 ≤ pl ∧ pl ≤ 3) (hn : One pl c n) : n ≠ 38 ∧ n ≠ 48 ∧ n ≠ 58 := by
  rcases one7 hp hn with h | h | h | h | h | h | h <;> omega
theorem lst_item {prog : Program} {w : World} {A : Around} {E : Value → Shared → Prop} {s : Shared} {Q : Value → Shared → Prop} {h₀ : Heap} {L D : Addr} {news : List (Addr × Obj)} {value slice : Expr} {vs : List Value} {v : Value} {c : Nat} {k : Int} {u : Tok} (N : News h₀ L s.heap news) (hm : (D, W.listOf vs.toArray c) ∈ news) (h0 : 0 ≤ k) (h1 : k < 1000) (hx : vs[k.toNat]? = some v) (h : Q v s)
    (hs : subscripted slice false (.ref D) (.int k u) = operate [.ref D, .int k u] (getItem (.ref D) (.int k u)) := by with_unfolding_all rfl) :
    wpAny (model prog w) A (subscriptTail value slice (.ref D) (.int k u)) Q E s := by
  have hl : s.heap.IsList D vs.toArray := PySem.IsL.isList (n := c) (N _ hm).1
  exact tail_any hl.typeIs slot_list_getitem.lookup (wpAny_getItem_list (x := v) hl h0 (by omega) (by simpa using hx) h) hs
theorem lt_of {h₀ H g h9 : Heap} {L L' : Addr} {m9 : Str → Option Value} {news : List (Addr × Obj)} (kG : GSub H g (([] : List (Addr × Obj)).map (·.1))) (F9 : Fr g L' h9 m9) (N : News h₀ L H news) : ∀ q ∈ news, @LT.lt Nat _ q.1 h9.objs.size := fun q hq => by
  have z := Heap.lt_size (kG q.1 q.2 (N q hq).1 (fun h => nomatch h))
  exact Nat.lt_trans (Nat.lt_of_lt_of_le z F9.above) F9.ns.lt

theorem set71x : True := by
  w_top off
  exact trivial
section
variable {prog : Program} {w : World} {A : Around} {E : Value → Shared → Prop} {s : Shared} {h₀ : Heap} {L : Addr} {m : Str → Option Value} {news : List (Addr × Obj)}
theorem part_any {v : Value} {o : Option Int} {Q : Option Int → Shared → Prop} (p : IsPart v o) (h : Q o s) : wpAny (model prog w) A (Builtin.Slice.slicePartIndex v) Q E s := by
  cases p with
  | none => exact slicePart_none h
  | int i u => exact slicePart_int h
theorem places_one {a b : Int} (h : a ≤ b) : Builtin.Slice.slicePlaces a b 1 = (b - a).toNat := by
  unfold Builtin.Slice.slicePlaces
  rw [if_pos (by decide), Int.ediv_one]
  split <;> omega
theorem applied_any {sl : Addr} {vl vu : Value} {lo hi : Option Int} {n : Nat} {a b : Int} {Q : Int × Int × Nat → Shared → Prop} (hs : s.heap.IsSliceOf sl vl vu .none) (pl : IsPart vl lo) (pu : IsPart vu hi)
    (hadj : Builtin.Slice.sliceAdjust lo hi 1 (n : Int) = (a, b)) (hab : a ≤ b) (h : Q (a, 1, (b - a).toNat) s) :
    wpAny (model prog w) A (Builtin.Slice.sliceApplied (.ref sl) (pure (n : Int))) Q E s := by
  obtain ⟨os, hos, hcs, hds⟩ := id hs
  unfold Builtin.Slice.sliceApplied Builtin.Slice.sliceFields
  refine wpAny_bind (wpAny_bind (wpAny_field hos hds (x := vl) rfl (wpAny_bind (wpAny_field hos hds (x := vu) rfl (wpAny_bind (wpAny_field hos hds (x := .none) rfl (wpAny_pure ?_)))))))
  refine wpAny_bind (slicePart_none ?_)
  show wpAny _ _ (if ((1 : Int) == 0) = true then _ else _) _ _ s
  rw [if_neg (by decide)]
  refine wpAny_bind (part_any pl (wpAny_bind (part_any pu (wpAny_bind (wpAny_pure ?_)))))
  show wpAny _ _ (match Builtin.Slice.sliceAdjust lo hi 1 (n : Int) with | (lo, hi) => pure (lo, (1 : Int), Builtin.Slice.slicePlaces lo hi 1)) _ _ s
  rw [hadj]
  show wpAny _ _ (pure (a, (1 : Int), Builtin.Slice.slicePlaces a b 1)) _ _ s
  rw [places_one hab]
  exact wpAny_pure h
theorem pick_cut (xs : Array Value) (a : Int) (c : Nat) (h0 : 0 ≤ a) : ((List.range c).filterMap fun (k : Nat) => xs[(a + (k : Int) * 1).toNat]?).toArray = ((xs.toList.drop a.toNat).take c).toArray := by
  have e : (fun (k : Nat) => xs[(a + (k : Int) * 1).toNat]?) = fun k => xs[a.toNat + k]? := by
    funext k
    rw [show (a + (k : Int) * 1).toNat = a.toNat + k by omega]
  rw [e]
  have q := pick_run xs a.toNat c
  rw [List.filterMap_map] at q
  exact congrArg List.toArray q
theorem tup_cut_item {t sl : Addr} {items : Array Value} {vl vu : Value} {lo hi : Option Int} {a b : Int} {Q : Value → Shared → Prop} (ht : IsTup s.heap t items) (hs : s.heap.IsSliceOf sl vl vu .none) (pl : IsPart vl lo) (pu : IsPart vu hi)
    (hadj : Builtin.Slice.sliceAdjust lo hi 1 ((items.size : Nat) : Int) = (a, b)) (h1 : 0 ≤ a ∧ a ≤ b ∧ b - a < (items.size : Int)) (hsz : items.size ≤ 1000)
    (h : Q (.ref s.heap.objs.size) { s with heap := s.heap.push { cls := .type "tuple", data := .seq ((items.toList.drop a.toNat).take (b - a).toNat).toArray } }) :
    wpAny (model prog w) A (getItem (.ref t) (.ref sl)) Q E s := by
  have hok : sizeOk (.seq ((items.toList.drop a.toNat).take (b - a).toNat).toArray) := by
    show (((items.toList.drop a.toNat).take (b - a).toNat).toArray).size ≤ sizeLine
    rw [List.size_toArray, List.length_take, List.length_drop, Array.length_toList, sizeLine_eq]
    omega
  obtain ⟨os, hos, hcs, hds⟩ := id hs
  have hTs : s.TypeIs (.ref sl) "slice" := ⟨os, hos, hcs⟩
  unfold getItem
  try with_reducible refine wpAny_holding ?_
  first | refine wpAny_bind (wpAny_pure ?_) | skip
  refine wpAny_bind (wpAny_sequenceKey ht.typeIs (by decide) ?_)
  refine wpAny_bind (wpAny_callSpecial?_slot (name := Str.ofString "__getitem__") ht.typeIs slot_tuple_getitem
    (wpAny_call_entry slot_tuple_getitem ht.typeIs entry_tuple_getitem ?_ (args_tuple_getitem _ _)))
  show wpAny _ _ (Builtin.Tuple.tupleItemsOf (.ref t) >>= _) _ _ s
  refine wpAny_bind (tupleItemsOf_ ht ?_)
  refine wpAny_bind (wpAny_typeOf hTs ?_)
  rw [if_pos (by decide)]
  refine wpAny_bind (applied_any hs pl pu hadj h1.2.1 ?_)
  have hno : ¬ ((a == 0 && (1 : Int) == 1 && ((b - a).toNat) == items.size) = true) := by
    have : ((b - a).toNat == items.size) = false := by rw [beq_eq_false_iff_ne]; omega
    rw [this]; simp
  show wpAny _ _ (if (a == 0 && (1 : Int) == 1 && (b - a).toNat == items.size) = true then _ else _) _ _ s
  rw [if_neg hno, pick_cut items a _ h1.1]
  first
    | exact wpAny_bind (m := Builtin.Tuple.tupleExact _) (wpAny_newObj_type (wpAny_pure ⟨_, rfl, wpAny_pure h⟩) hok)
    | exact wpAny_bind (m := Builtin.Tuple.tupleExact _) (wpAny_newObj_type (wpAny_bind (wpAny_pure (wpAny_pure ⟨_, rfl, wpAny_pure h⟩))) hok)
    | exact wpAny_bind (wpAny_bind (m := Builtin.Tuple.tupleExact _) (wpAny_newObj_type (wpAny_pure (wpAny_pure ⟨_, rfl, wpAny_pure h⟩)) hok))
    | exact wpAny_bind (wpAny_bind (m := Builtin.Tuple.tupleExact _) (wpAny_newObj_type (wpAny_pure ⟨_, rfl, wpAny_pure h⟩) hok))
theorem tup_cut {value slice : Expr} {t : Addr} {items zs : List Value} {vl vu : Value} {lo hi : Option Int} {a b : Int} {Q : Value → Shared → Prop}
    (F : Fr h₀ L s.heap m) (N : News h₀ L s.heap news) (ht : IsTup s.heap t items.toArray) (pl : IsPart vl lo) (pu : IsPart vu hi) (hadj : Builtin.Slice.sliceAdjust lo hi 1 ((items.length : Nat) : Int) = (a, b)) (h1 : 0 ≤ a ∧ a ≤ b ∧ b - a < (items.length : Int)) (hsz : items.length ≤ 1000)
    (hz : (items.drop a.toNat).take (b - a).toNat = zs)
    (h : ∀ D h', Fr h₀ L h' m → News h₀ L h' ((D, tupOf zs.toArray) :: news) → (∀ p ∈ news, p.1 < D) → Q (.ref D) { s with heap := h' })
    (hs : subscripted slice false (.ref t) (.ref s.heap.objs.size) = operate [.ref s.heap.objs.size, .ref t] (getItem (.ref t) (.ref s.heap.objs.size)))
    (hg : ∀ r, letTemporaryGo value (.ref t) r = pure ()) :
    wpAny (model prog w) A (subscriptTail value slice (.ref t) (.ref s.heap.objs.size)) Q E { s with heap := s.heap.push { cls := .type "slice", data := .fields #[vl, vu, .none] } } := by
  subst hz
  have ht' : IsTup (s.heap.push { cls := .type "slice", data := .fields #[vl, vu, .none] }) t items.toArray := ht.keeps fun _ _ e => Heap.get?_push_of_some _ e
  refine subscriptTail_ops (s := { s with heap := s.heap.push { cls := .type "slice", data := .fields #[vl, vu, .none] } }) ht'.typeIs slot_tuple_getitem.lookup
    (tup_cut_item ht' (Heap.IsSliceOf.new ..) pl pu (by simpa using hadj) (by simpa using h1) (by simpa using hsz) ?_) hs hg
  have N1 := News.push (F.push { cls := .type "slice", data := .fields #[vl, vu, .none] }) (N.grown fun _ _ e => Heap.get?_push_of_some _ e) { cls := .type "tuple", data := .seq ((items.drop a.toNat).take (b - a).toNat).toArray }
  rw [Heap.size_push] at N1
  show Q (.ref (s.heap.push _).objs.size) _
  rw [Heap.size_push]
  exact h _ _ ((F.push _).push _) N1 fun p hp => Nat.lt_succ_of_lt (Heap.lt_size (N p hp).1)
end

theorem set73 : True := by
  w_top off
  k_with "eval Dict" => ((k_here; (with_reducible refine Dict_made_names (by with_unfolding_all rfl) (by with_unfolding_all assumption) (by with_unfolding_all rfl) (by with_unfolding_all rfl) (List.cons_ne_nil _ _) (by with_unfolding_all decide) ?_; intro _)))
  k_with "subscriptTail" => ((k_here; (with_reducible show wpAny _ _ (subscriptTail _ _ (Value.ref _) (Value.int _ _)) _ _ _); k_dflt (first
      | (refine' tab_lin (c := 20) (by exact rfl) (TabAt.ofNews ?nv120 ?mv120 ?lov120 ?hdv120 ?hfv120) ?hiv120 ?e1v120 ?e2v120 ?e3v120 (fun v9w t9w k9w hv9w => ?_); (case nv120 => k_asm); (case mv120 => k_mem); (case hdv120 => assumption); (case lov120 => assumption); (case hfv120 => assumption); (case hiv120 => first | assumption | omega); (case e1v120 => with_unfolding_all rfl); (case e2v120 => with_unfolding_all rfl); (case e3v120 => with_unfolding_all rfl))
      | (refine' tab_lin (c := 28) (by exact rfl) (TabAt.ofNews ?nv120 ?mv120 ?lov120 ?hdv120 ?hfv120) ?hiv120 ?e1v120 ?e2v120 ?e3v120 (fun v9w t9w k9w hv9w => ?_); (case nv120 => k_asm); (case mv120 => k_mem); (case hdv120 => assumption); (case lov120 => assumption); (case hfv120 => assumption); (case hiv120 => first | assumption | omega); (case e1v120 => with_unfolding_all rfl); (case e2v120 => with_unfolding_all rfl); (case e3v120 => with_unfolding_all rfl))
      | (refine' tab_lin (c := 29) (by exact rfl) (TabAt.ofNews ?nv120 ?mv120 ?lov120 ?hdv120 ?hfv120) ?hiv120 ?e1v120 ?e2v120 ?e3v120 (fun v9w t9w k9w hv9w => ?_); (case nv120 => k_asm); (case mv120 => k_mem); (case hdv120 => assumption); (case lov120 => assumption); (case hfv120 => assumption); (case hiv120 => first | assumption | omega); (case e1v120 => with_unfolding_all rfl); (case e2v120 => with_unfolding_all rfl); (case e3v120 => with_unfolding_all rfl)))))
  k_with "call ref" => ((k_here; (with_reducible show wpAny _ _ (call (Value.ref 50) _) _ _ _); (rename _ → Rgb _ _ _ _ => hr9w); k_dflt (refine' rgb_c (hr9w ?h0v121).1 ⟨by decide, by decide⟩ (hr9w ?h0v121).2.1 (hr9w ?h0v121).2.2.1 (hr9w ?h0v121).2.2.2 (fun D9w t9w u9w v9w h9w tk9w o9w F9w N9w => ?_) ?kSv121; (case h0v121 => omega); (case kSv121 => walk_at "my site")); (try simp only [LCg.Off1, and_true] at o9w); (try dsimp only); (try k_fold)))
  k_with "subscriptTail Name Slice ref ref" => ((k_here; (with_reducible show wpAny _ _ (subscriptTail _ (Expr.Slice _ _ none _) (Value.ref _) (Value.ref _)) _ _ _); k_dflt (refine' tup_cut ?Fv122 ?Nv122 ?tv122 ?pv122 ?qv122 ?av122 ?bv122 ?cv122 ?zv122 ?_ ?sv122 ?gv122; (case Fv122 => k_asm); (case Nv122 => k_asm); (case tv122 => exact News.isTup (by k_asm) (by k_mem)); (case pv122 => first | exact IsPart.none | exact IsPart.int _ _); (case qv122 => first | exact IsPart.none | exact IsPart.int _ _); (case av122 => exact rfl); (case bv122 => exact of_decide_eq_true (by rfl)); (case cv122 => exact of_decide_eq_true (by rfl)); (case zv122 => exact rfl); (case sv122 => with_unfolding_all rfl); (case gv122 => intro _; with_unfolding_all rfl)); intro D' h' F' N' l1; (try k_lt l1)))
  k_with "compareOp In int ref" => ((k_here; k_dflt (first
      | (refine' in_no (TabAt.ofNews ?nv123 ?mv123 ?lov123 ?hdv123 ?hfv123) ?hiv123 ?_; (case nv123 => k_asm); (case mv123 => k_mem); (case hdv123 => assumption); (case lov123 => assumption); (case hfv123 => assumption); (case hiv123 => first | assumption | omega))
      | (refine' in_yes (TabAt.ofNews ?nv123 ?mv123 ?lov123 ?hdv123 ?hfv123) ?hpv123 ?hiv123 ?e1v123 ?e2v123 ?e3v123 ?_; (case nv123 => k_asm); (case mv123 => k_mem); (case hdv123 => assumption); (case lov123 => assumption); (case hfv123 => assumption); (case hpv123 => assumption); (case hiv123 => omega); (case e1v123 => rfl); (case e2v123 => rfl); (case e3v123 => rfl)))))
  k_with "subscriptTail" => ((k_here; (with_reducible show wpAny _ _ (subscriptTail _ _ (Value.ref _) (Value.int _ _)) _ _ _); k_dflt (refine' places_item (by exact rfl) (TabAt.ofNews ?nv124 ?mv124 ?lov124 ?hdv124 ?hfv124) ?hpv124 ?hiv124 ?e1v124 ?e2v124 ?e3v124 (fun t9w k9w => ?_); (case nv124 => k_asm); (case mv124 => k_mem); (case hdv124 => assumption); (case lov124 => assumption); (case hfv124 => assumption); (case hpv124 => assumption); (case hiv124 => omega); (case e1v124 => rfl); (case e2v124 => rfl); (case e3v124 => rfl))))
  k_with "my notin" => (((repeat (refine notin_cons (by walk_at "my ne") ?_)); exact notin_nil))
  k_with "my led" => (((repeat (refine led_cons (by k_mem) ?_)); exact led_nil))
  k_with "subscriptTail" => ((k_here; (with_reducible show wpAny _ _ (subscriptTail _ _ (Value.ref _) (Value.int _ _)) _ _ _); k_dflt (refine' lst_item ?nv127 ?mv127 ?av127 ?bv127 ?cv127 ?_; (case nv127 => k_asm); (case mv127 => k_mem); (case av127 => decide); (case bv127 => decide); (case cv127 => exact rfl))))
  k_with "subscriptTail Name Constant ref int" => ((k_here; (with_reducible show wpAny _ _ (subscriptTail _ _ (Value.ref _) (Value.int _ _)) _ _ _); k_dflt (refine' lst_item ?nv128 ?mv128 ?av128 ?bv128 ?cv128 ?_; (case nv128 => k_asm); (case mv128 => k_mem); (case av128 => decide); (case bv128 => decide); (case cv128 => exact rfl))))
  exact trivial
theorem sgr_c {prog : Program} {w : World} {p : Program} {loose : List Str} {mean : ExcName → Option Value} {mg mb : Str → Option Value} {dp un : Nat} {gd : Option (List Code)} {cn : Str} {cs : Scope} {a : Addr} {ccd : Value} {cl : List (Str × Addr)} {outer : List Env} {A₀ : Around} {base h₀ : Heap} {L : Addr} {m : Str → Option Value} {s : Shared} {Q E : Value → Shared → Prop} {news : List (Addr × Obj)}
    {pl c r g b : Int} {tp tc : Tok} (hp : 1 ≤ pl ∧ pl ≤ 3) (hc : c = -1 ∨ (0 ≤ c ∧ c < 256) ∨ (16777216 ≤ c ∧ c < 33554432)) (hrgb : 16777216 ≤ c → Rgb c r g b)
    (h1 : ∀ (n : Int) (t : Tok) (l D : Addr) (h' : Heap) (tk' : Nat), One pl c n → (∀ q ∈ news, q.1 < l) → @LT.lt Nat _ l D → Fr h₀ L h' m → News h₀ L h' ((D, lst1 (.ref l) 0) :: (l, lst1 (.int n t) 0) :: news) → Q (.ref D) { s with heap := h', toks := tk' })
    (h3 : ∀ (x : Int) (t1 t2 t3 : Tok) (l1 l2 l3 D : Addr) (h' : Heap) (tk' : Nat), Idx pl c → x = 10 * pl + 28 → (∀ q ∈ news, q.1 < l1) → @LT.lt Nat _ l1 l2 → @LT.lt Nat _ l2 l3 → @LT.lt Nat _ l3 D → Fr h₀ L h' m →
      News h₀ L h' ((D, W.listOf #[.ref l1, .ref l2, .ref l3] 0) :: (l1, lst1 (.int x t1) 0) :: (l2, lst1 (.int 5 t2) 0) :: (l3, lst1 (.int c t3) 0) :: news) → Q (.ref D) { s with heap := h', toks := tk' })
    (h5 : ∀ (x : Int) (t1 t2 t3 t4 t5 : Tok) (l1 l2 l3 l4 l5 D : Addr) (h' : Heap) (tk' : Nat), 16777216 ≤ c → x = 10 * pl + 28 → (∀ q ∈ news, q.1 < l1) → @LT.lt Nat _ l1 l2 → @LT.lt Nat _ l2 l3 → @LT.lt Nat _ l3 l4 → @LT.lt Nat _ l4 l5 → @LT.lt Nat _ l5 D → Fr h₀ L h' m →
      News h₀ L h' ((D, W.listOf #[.ref l1, .ref l2, .ref l3, .ref l4, .ref l5] 0) :: (l1, lst1 (.int x t1) 0) :: (l2, lst1 (.int 2 t2) 0) :: (l3, lst1 (.int r t3) 0) :: (l4, lst1 (.int g t4) 0) :: (l5, lst1 (.int b t5) 0) :: news) → Q (.ref D) { s with heap := h', toks := tk' })
    (S : Site w p loose mean mg mb dp un 2 cs outer A₀ base h₀ L s.heap m news) :
    wpAny (model prog w) (ktrTop dp un gd cn cs L a ccd cl outer) (call (.ref 103) [.int pl tp, .int c tc]) Q E s := by
  obtain ⟨B, F, X, N, T, hk, hd, hu⟩ := S
  have N0 : News h₀ L s.heap [] := News.sub N led_nil
  have kN0 : KeptN h₀ L s.heap [] := N0
  (walk_at "my enter"; intro g9 L9 h9 FG9 F9 N9 B9 X9 T9 kG9; clear N0; (have kU9 := lt_of kG9 F9 N); (try dsimp only); (try k_lift B9); (try k_fold); k_steps)
  all_goals ((rename News g9 _ _ _ => N'); (rename Fr g9 _ _ _ => F'); (rename Fr h₀ _ _ _ => kF); (rename News h₀ _ _ _ => kN))
  all_goals first
    | ((have hx : c ≥ 16777216 := by assumption); refine' h5 _ _ _ _ _ _ _ _ _ _ _ _ _ _ ?f1 ?f2 (fun q hq => Nat.lt_trans (kU9 q hq) ?q1) ?o0 ?o1 ?o2 ?o3 ?o4 kF (News.one kN ?m0 (News.one kN ?m1 (News.one kN ?m2 (News.one kN ?m3 (News.one kN ?m4 (News.one kN ?m5 (N.grown (grow_led kG9 kN0 F' N' led_nil)))))))); (case m0 => k_mem); (case m1 => k_mem); (case q1 => omega); (case m2 => k_mem); (case m3 => k_mem); (case m4 => k_mem); (case m5 => k_mem); (case o0 => omega); (case o1 => omega); (case o2 => omega); (case o3 => omega); (case o4 => omega); (case f1 => omega); (case f2 => omega))
    | ((have hx : pl = 3 ∨ c ≥ 16 := by assumption); refine' h3 _ _ _ _ _ _ _ _ _ _ ?f1 ?f2 (fun q hq => Nat.lt_trans (kU9 q hq) ?q1) ?o0 ?o1 ?o2 kF (News.one kN ?m0 (News.one kN ?m1 (News.one kN ?m2 (News.one kN ?m3 (N.grown (grow_led kG9 kN0 F' N' led_nil)))))); (case m0 => k_mem); (case m1 => k_mem); (case q1 => omega); (case m2 => k_mem); (case m3 => k_mem); (case o0 => omega); (case o1 => omega); (case o2 => omega); (case f1 => first | exact idx_a hc (by assumption) (by assumption) (by assumption) | exact idx_b hc (by assumption) (by assumption) (by assumption) | (walk_say "OLD IDX"; (unfold Idx; omega))); (case f2 => omega))
    | (refine' h1 _ _ _ _ _ _ ?f1 (fun q hq => Nat.lt_trans (kU9 q hq) ?q1) ?o0 kF (News.one kN ?m0 (News.one kN ?m1 (N.grown (grow_led kG9 kN0 F' N' led_nil)))); (case m0 => k_mem); (case m1 => k_mem); (case q1 => omega); (case o0 => omega); (case f1 => first | exact sg_neg (by assumption) (by assumption) | exact sg_low (by assumption) hc (by assumption) (by assumption) (by assumption) | exact sg_high (by assumption) (by assumption) (by assumption) | exact lp_neg (by assumption) (by assumption) | exact lp_one hp hc (by assumption) (by assumption) (by first | exact .inl ⟨by assumption, rfl⟩ | exact .inr ⟨by assumption, rfl⟩) (by first | exact .inl ⟨by assumption, rfl⟩ | exact .inr ⟨by assumption, rfl⟩) | (walk_say "OLD ONE"; (unfold One; (try rw [Int.fmod_eq_emod_of_nonneg _ (by decide)]); omega))))

theorem set74 : True := by
  w_top off
  exact trivial
theorem lpar_c {prog : Program} {w : World} {p : Program} {loose : List Str} {mean : ExcName → Option Value} {mg mb : Str → Option Value} {dp un : Nat} {gd : Option (List Code)} {cn : Str} {cs : Scope} {a : Addr} {ccd : Value} {cl : List (Str × Addr)} {outer : List Env} {A₀ : Around} {base h₀ : Heap} {L : Addr} {m : Str → Option Value} {s : Shared} {Q E : Value → Shared → Prop} {news : List (Addr × Obj)}
    {pl c r g b : Int} {tp tc : Tok} (hp : 1 ≤ pl ∧ pl ≤ 3) (hc : c = -1 ∨ (0 ≤ c ∧ c < 256) ∨ (16777216 ≤ c ∧ c < 33554432)) (hrgb : 16777216 ≤ c → Rgb c r g b)
    (h1 : ∀ (n : Int) (t : Tok) (l D : Addr) (h' : Heap) (tk' : Nat), One pl c n → (∀ q ∈ news, q.1 < l) → @LT.lt Nat _ l D → Fr h₀ L h' m → News h₀ L h' ((D, lst1 (.ref l) 0) :: (l, lst1 (.int n t) 0) :: news) → Q (.ref D) { s with heap := h', toks := tk' })
    (h3 : ∀ (x : Int) (t1 t2 t3 : Tok) (l1 l2 l3 D : Addr) (h' : Heap) (tk' : Nat), Idx pl c → x = 10 * pl + 28 → (∀ q ∈ news, q.1 < l1) → @LT.lt Nat _ l1 l2 → @LT.lt Nat _ l2 l3 → @LT.lt Nat _ l3 D → Fr h₀ L h' m →
      News h₀ L h' ((D, W.listOf #[.ref l1, .ref l2, .ref l3] 0) :: (l1, lst1 (.int x t1) 0) :: (l2, lst1 (.int 5 t2) 0) :: (l3, lst1 (.int c t3) 0) :: news) → Q (.ref D) { s with heap := h', toks := tk' })
    (h5 : ∀ (x : Int) (t1 t2 t3 t4 t5 : Tok) (l1 l2 l3 l4 l5 D : Addr) (h' : Heap) (tk' : Nat), 16777216 ≤ c → x = 10 * pl + 28 → (∀ q ∈ news, q.1 < l1) → @LT.lt Nat _ l1 l2 → @LT.lt Nat _ l2 l3 → @LT.lt Nat _ l3 l4 → @LT.lt Nat _ l4 l5 → @LT.lt Nat _ l5 D → Fr h₀ L h' m →
      News h₀ L h' ((D, W.listOf #[.ref l1, .ref l2, .ref l3, .ref l4, .ref l5] 0) :: (l1, lst1 (.int x t1) 0) :: (l2, lst1 (.int 2 t2) 0) :: (l3, lst1 (.int r t3) 0) :: (l4, lst1 (.int g t4) 0) :: (l5, lst1 (.int b t5) 0) :: news) → Q (.ref D) { s with heap := h', toks := tk' })
    (S : Site w p loose mean mg mb dp un 2 cs outer A₀ base h₀ L s.heap m news) :
    wpAny (model prog w) (ktrTop dp un gd cn cs L a ccd cl outer) (call (.ref 218) [.int pl tp, .int c tc]) Q E s := by
  obtain ⟨B, F, X, N, T, hk, hd, hu⟩ := S
  have N0 : News h₀ L s.heap [] := News.sub N led_nil
  have kN0 : KeptN h₀ L s.heap [] := N0
  (walk_at "my enter"; intro g9 L9 h9 FG9 F9 N9 B9 X9 T9 kG9; clear N0; (have kU9 := lt_of kG9 F9 N); (try dsimp only); (try k_lift B9); (try k_fold); k_steps)
  all_goals (try ((obtain ⟨q1, q2, q3, q4⟩ := hrgb (by assumption)); (have e1 : (c - 16777216).fdiv 65536 = r := by rw [Int.fdiv_eq_ediv_of_nonneg _ (by decide)]; omega); (have e2 : ((c - 16777216).fdiv 256).fmod 256 = g := by rw [Int.fmod_eq_emod_of_nonneg _ (by decide), Int.fdiv_eq_ediv_of_nonneg _ (by decide)]; omega); (have e3 : (c - 16777216).fmod 256 = b := by rw [Int.fmod_eq_emod_of_nonneg _ (by decide)]; omega); rename News g9 _ _ _ => N8; rename News h₀ _ _ _ => N7; rw [e1, e2, e3] at N8 N7))
  all_goals ((rename News g9 _ _ _ => N'); (rename Fr g9 _ _ _ => F'); (rename Fr h₀ _ _ _ => kF); (rename News h₀ _ _ _ => kN))
  all_goals first
    | ((have hx : c ≥ 16777216 := by assumption); refine' h5 _ _ _ _ _ _ _ _ _ _ _ _ _ _ ?f1 ?f2 (fun q hq => Nat.lt_trans (kU9 q hq) ?q1) ?o0 ?o1 ?o2 ?o3 ?o4 kF ?NN; (case NN => exact (News.one kN (by k_mem) (News.one kN (by k_mem) (News.one kN (by k_mem) (News.one kN (by k_mem) (News.one kN (by k_mem) (News.one kN (by k_mem) (N.grown (grow_led kG9 kN0 F' N' led_nil))))))))); (case q1 => omega); (case o0 => omega); (case o1 => omega); (case o2 => omega); (case o3 => omega); (case o4 => omega); (case f1 => omega); (case f2 => omega))
    | ((have hx : ¬ (c < 16 ∧ pl ≠ 3) := by assumption); refine' h3 _ _ _ _ _ _ _ _ _ _ ?f1 ?f2 (fun q hq => Nat.lt_trans (kU9 q hq) ?q1) ?o0 ?o1 ?o2 kF ?NN; (case NN => exact (News.one kN (by k_mem) (News.one kN (by k_mem) (News.one kN (by k_mem) (News.one kN (by k_mem) (N.grown (grow_led kG9 kN0 F' N' led_nil))))))); (case q1 => omega); (case o0 => omega); (case o1 => omega); (case o2 => omega); (case f1 => first | exact idx_a hc (by assumption) (by assumption) (by assumption) | exact idx_b hc (by assumption) (by assumption) (by assumption) | (walk_say "OLD IDX"; (unfold Idx; omega))); (case f2 => omega))
    | (refine' h1 _ _ _ _ _ _ ?f1 (fun q hq => Nat.lt_trans (kU9 q hq) ?q1) ?o0 kF ?NN; (case NN => exact (News.one kN (by k_mem) (News.one kN (by k_mem) (N.grown (grow_led kG9 kN0 F' N' led_nil))))); (case q1 => omega); (case o0 => omega); (case f1 => first | exact sg_neg (by assumption) (by assumption) | exact sg_low (by assumption) hc (by assumption) (by assumption) (by assumption) | exact sg_high (by assumption) (by assumption) (by assumption) | exact lp_neg (by assumption) (by assumption) | exact lp_one hp hc (by assumption) (by assumption) (by first | exact .inl ⟨by assumption, rfl⟩ | exact .inr ⟨by assumption, rfl⟩) (by first | exact .inl ⟨by assumption, rfl⟩ | exact .inr ⟨by assumption, rfl⟩) | (walk_say "OLD ONE"; (unfold One; (try rw [Int.fmod_eq_emod_of_nonneg _ (by decide)]); omega))))

theorem set75 : True := by
  w_top off
  exact trivial
theorem penw_c {prog : Program} {w : World} {p : Program} {loose : List Str} {mean : ExcName → Option Value} {mg mb : Str → Option Value} {dp un : Nat} {gd : Option (List Code)} {cn : Str} {cs : Scope} {a : Addr} {ccd : Value} {cl : List (Str × Addr)} {outer : List Env} {A₀ : Around} {base h₀ : Heap} {L : Addr} {m : Str → Option Value} {s : Shared} {Q E : Value → Shared → Prop} {news : List (Addr × Obj)}
    {pl x w0 w1 w2 w3 w4 : Int} {tp tx u0 u1 u2 u3 u4 : Tok} {T : Addr} (hp : 1 ≤ pl ∧ pl ≤ 3)
    (hT : (T, tupOf #[.int w0 u0, .int w1 u1, .int w2 u2, .int w3 u3, .int w4 u4]) ∈ news)
    (hS1 : pl = 1 → ∀ (R : Addr) (h' : Heap) (tk' : Nat), LCg.Off1 R news → Fr h₀ L h' m → News h₀ L h' ((R, tupOf #[.int w0 u0, .int x tx, .int w2 u2, .int w3 u3, .int w4 u4]) :: news) → Q (.ref R) { s with heap := h', toks := tk' })
    (hS2 : pl = 2 → ∀ (R : Addr) (h' : Heap) (tk' : Nat), LCg.Off1 R news → Fr h₀ L h' m → News h₀ L h' ((R, tupOf #[.int w0 u0, .int w1 u1, .int x tx, .int w3 u3, .int w4 u4]) :: news) → Q (.ref R) { s with heap := h', toks := tk' })
    (hS3 : pl = 3 → ∀ (R : Addr) (h' : Heap) (tk' : Nat), LCg.Off1 R news → Fr h₀ L h' m → News h₀ L h' ((R, tupOf #[.int w0 u0, .int w1 u1, .int w2 u2, .int x tx, .int w4 u4]) :: news) → Q (.ref R) { s with heap := h', toks := tk' })
    (S : Site w p loose mean mg mb dp un 1 cs outer A₀ base h₀ L s.heap m news) :
    wpAny (model prog w) (ktrTop dp un gd cn cs L a ccd cl outer) (call (.ref 29) [.ref T, .int pl tp, .int x tx]) Q E s := by
  obtain ⟨B, F, X, N, T₀, hk, hd, hu⟩ := S
  have N0 : News h₀ L s.heap [(T, tupOf #[.int w0 u0, .int w1 u1, .int w2 u2, .int w3 u3, .int w4 u4])] := News.sub N (by intro q hq; rw [List.mem_singleton.mp hq]; exact hT)
  have kN0 : KeptN h₀ L s.heap [(T, tupOf #[.int w0 u0, .int w1 u1, .int w2 u2, .int w3 u3, .int w4 u4])] := N0
  have h3 : pl = 1 ∨ pl = 2 ∨ pl = 3 := by omega
  rcases h3 with rfl | rfl | rfl
  all_goals (walk_at "my enter"; intro g9 L9 h9 FG9 F9 N9 B9 X9 T9 kG9; clear N0; (try dsimp only); (try k_lift B9); (try k_fold); k_steps)
  all_goals ((rename News g9 _ _ _ => N'); (rename Fr g9 _ _ _ => F'); (rename Fr h₀ _ _ _ => kF); (rename News h₀ _ _ _ => kN))
  all_goals first
    | (refine' hS1 rfl _ _ _ (off_of kG9 N' ?m0 ?n0 N) kF (News.one kN ?m0 (N.grown (grow_led kG9 kN0 F' N' (led_cons (by k_mem) led_nil)))); (case m0 => k_mem); (case n0 => exact notin1 (by omega)))
    | (refine' hS2 rfl _ _ _ (off_of kG9 N' ?m0 ?n0 N) kF (News.one kN ?m0 (N.grown (grow_led kG9 kN0 F' N' (led_cons (by k_mem) led_nil)))); (case m0 => k_mem); (case n0 => exact notin1 (by omega)))
    | (refine' hS3 rfl _ _ _ (off_of kG9 N' ?m0 ?n0 N) kF (News.one kN ?m0 (N.grown (grow_led kG9 kN0 F' N' (led_cons (by k_mem) led_nil)))); (case m0 => k_mem); (case n0 => exact notin1 (by omega)))

theorem set77 : True := by
  k_with_none
  w_top off
  k_with "my site" => ((refine' Site.mk ?s1v1 ?s2v1 ?s3v1 ?s4v1 ?s5v1 ?s6v1 ?s7v1 ?s8v1; (case s1v1 => first | k_asm | fail "site: below"); (case s2v1 => first | k_asm | fail "site: frame"); (case s3v1 => first | k_asm | fail "site: part"); (case s4v1 => first | k_asm | fail "site: ledger"); (case s5v1 => first | k_asm | fail "site: top"); (case s6v1 => first | exact rfl | assumption | fail "site: kind"); (case s7v1 => first | exact room_ok (by assumption) (by decide) | (walk_say "ROOM"; ktr_room) | fail "site: room"); (case s8v1 => first | exact units_ok (by assumption) (by decide) | (walk_say "UNITS"; ktr_units) | fail "site: units")))
  k_with "my enter" => ((refine wpAny_call ?_; k_dflt (refine' code_defG ?k1v2 ?k2v2 ?k3v2 ?k4v2 ?k5v2 ?kAv2 ?kFv2 ?kKv2 ?k6v2 ?k7v2 ?k8v2 ?k9wv2 ?kBv2 ?_ ?c2v2 ?c3v2 ?c4v2 ?c5v2; (case kAv2 => exact rfl); (case kFv2 => exact rfl); (case kKv2 => assumption); (case k1v2 => k_asm); (case k2v2 => k_asm); (case k3v2 => k_asm); (case k4v2 => k_asm); (case k5v2 => k_asm); (case k6v2 => k_is); (case k7v2 => k_is); (case k8v2 => ktr_room); (case k9wv2 => exact BindsTo.of_eq rfl); (case c5v2 => decide); (case kBv2 => exact locs rfl); (case c2v2 => exact rfl); (case c3v2 => exact rfl); (case c4v2 => exact rfl); k_whole)))
  k_with "call ref" => ((k_here; (try dsimp only [List.nil_append, List.append_nil]); refine wpAny_call ?_; k_dflt (refine' code_def ?k1v3 ?k2v3 ?k3v3 ?k4v3 ?k5v3 ?kAv3 ?kFv3 ?kKv3 ?k6v3 ?k7v3 ?k8v3 ?k9wv3 ?kBv3 ?_ ?c2v3 ?c3v3 ?c4v3 ?c5v3; (case kAv3 => exact rfl); (case kFv3 => exact rfl); (case kKv3 => first | exact rfl | assumption); (case k1v3 => k_asm); (case k2v3 => k_asm); (case k3v3 => k_asm); (case k4v3 => k_asm); (case k5v3 => k_asm); (case k6v3 => k_is); (case k7v3 => k_is); (case k8v3 => ktr_room); (case k9wv3 => exact BindsTo.of_eq rfl); (case c5v3 => decide); (case kBv3 => exact locs rfl); (case c2v3 => exact rfl); (case c3v3 => exact rfl); (case c4v3 => exact rfl); k_whole; intro g' L' h' FG' F' N' B' X' T'; (try dsimp only); (try k_lift B'); (try k_fold))))
  k_with "my off" => (((rename (_ ≠ _ ∧ _ ≠ _ ∧ _ ≠ _) ∧ _ => off9w); (simp only [ne_eq] at off9w); (simp only [LCg.Off3, and_true, ne_eq, off9w, not_false_eq_true, and_self, true_and]); (first | done | ((repeat' (refine And.intro ?_ ?_)); all_goals exact neN (by walk_at "my ne")))))
  k_with "ite" => ((k_here; first
      | (refine' ite_posI ?hcv5 ?_; (case hcv5 => k_dflt (exact of_decide_eq_true (by exact rfl))))
      | (refine' ite_negI ?hcv5 ?_; (case hcv5 => k_dflt (exact of_decide_eq_false (by exact rfl))))))
  k_with "my fact" => (first | (with_reducible assumption) | (simp only [ne_eq, not_false_eq_true, *]; done))
  k_with "my ne" => (first | (walk_at "my fact") | exact Ne.symm (by walk_at "my fact") | exact Nat.ne_of_lt (by walk_at "my fact") | exact Nat.ne_of_gt (by walk_at "my fact") | exact Nat.ne_of_lt (Nat.lt_succ_of_lt (by walk_at "my fact")) | exact Nat.ne_of_gt (Nat.lt_succ_of_lt (by walk_at "my fact")) | (walk_say "NE by omega"; omega))
  k_with "my side" => ((with_reducible ((repeat' (refine And.intro ?_ ?_)) <;> first | exact trivial | assumption | (walk_at "my arith"))))
  k_with "my arith" => (first
        | ((show IntMulOk _ _); first | exact PySem.IntMulOk.of_right (PySem.intBits_le_64 (by decide) (by decide)) | exact PySem.IntMulOk.of_left (PySem.intBits_le_64 (by decide) (by decide)) | exact PySem.IntMulOk.of_right (PySem.intBits_le_64 (by omega) (by omega)) | exact PySem.IntMulOk.of_left (PySem.intBits_le_64 (by omega) (by omega)) | mul_fits)
        | ((show Builtin.divisionGoesByPylong _ _ = false); first | exact PyProof.noPylong_of_log2 (by decide +kernel) | exact PyProof.noPylong_small (by omega))
        | omega
        | decide)
  k_with "my no" => (first | with_reducible exact False.elim p9w | with_reducible exact absurd trivial p9w | with_reducible exact absurd rfl p9w | (law_purse 20000 => omega))
  k_with "execs cons" => ((k_here; (first
        | ((with_reducible show wpAny _ _ (execs (Stmt.Return (some _) _ :: _) _) _ _ _); (fail_if_success (with_reducible show wpAny _ _ (execs (Stmt.Return (some (Expr.Tuple _ _ _)) _ :: _) _) _ _ _)); (fail_if_success (with_reducible show wpAny _ _ (execs (Stmt.Return (some (Expr.List _ _)) _ :: _) _) _ _ _)); (fail_if_success (with_reducible show wpAny _ _ (execs (Stmt.Return (some (Expr.Dict _ _ _)) _ :: _) _) _ _ _)); k_dflt ((with_reducible refine' st_retE ?hev11 ?Fv11 ?Xv11 ?Tv11 (fun t => ?ev11) ?hkv11 ?hcv11 (fun t9w tk9w => ?_))); (case hev11 => k_dflt (exact rfl)); (case Fv11 => k_asm); (case Xv11 => k_asm); (case Tv11 => k_asm); (case ev11 => k_dflt (exact rfl)); (case hkv11 => k_dflt (exact rfl)); (case hcv11 => walk_at "my side"); (try dsimp only))
        | ((with_reducible show wpAny _ _ (execs (Stmt.If _ _ [] _ :: _) _) _ _ _); k_dflt ((with_reducible refine' st_if0E ?hev11 ?Fv11 ?Xv11 ?Tv11 ?ev11 ?hkv11 ?hcv11 (fun p9w tk9w => ?_) (fun p9w tk9w => ?_))); (case hev11 => k_dflt (exact rfl)); (case Fv11 => k_asm); (case Xv11 => k_asm); (case Tv11 => k_asm); (case ev11 => k_dflt (exact rfl)); (case hkv11 => k_dflt (exact rfl)); (case hcv11 => walk_at "my side"); all_goals first | (exfalso; walk_at "my no") | (try dsimp only))
        | ((with_reducible show wpAny _ _ (execs (Stmt.If _ _ (_ :: _) _ :: _) _) _ _ _); k_dflt ((with_reducible refine' st_ifE ?hev11 ?Fv11 ?Xv11 ?Tv11 ?ev11 ?hkv11 ?hcv11 (fun p9w tk9w => ?_) (fun p9w tk9w => ?_))); (case hev11 => k_dflt (exact rfl)); (case Fv11 => k_asm); (case Xv11 => k_asm); (case Tv11 => k_asm); (case ev11 => k_dflt (exact rfl)); (case hkv11 => k_dflt (exact rfl)); (case hcv11 => walk_at "my side"); all_goals first | (exfalso; walk_at "my no") | (try dsimp only))
        | ((with_reducible show wpAny _ _ (execs (Stmt.Assign [Expr.Name _ _] _ _ :: _) _) _ _ _); k_dflt ((with_reducible refine' st_assignE ?hev11 ?Fv11 ?Nv11 ?Xv11 ?Tv11 (fun t => ?ev11) ?hkv11 ?hxv11 ?hsv11 ?hcv11 (fun t9w tk9w h9w => ?_))); (case hev11 => k_dflt (exact rfl)); (case Fv11 => k_asm); (case Nv11 => k_asm); (case Xv11 => k_asm); (case Tv11 => k_asm); (case ev11 => k_dflt (exact rfl)); (case hkv11 => k_dflt (exact rfl)); (case hxv11 => k_dflt (exact rfl)); (case hsv11 => k_dflt (exact rfl)); (case hcv11 => walk_at "my side"); intro m9w F9w N9w; (try k_sweep); (try dsimp only)))))
  k_with "eval BinOp" => ((k_here; k_dflt ((with_reducible refine' ev_peE ?hev12 ?Fv12 ?Xv12 ?Tv12 (fun t => ?ev12) ?hkv12 ?hcv12 (fun t9w tk9w => ?_)); (case hev12 => k_dflt (exact rfl)); (case Fv12 => k_asm); (case Xv12 => k_asm); (case Tv12 => k_asm); (case ev12 => k_dflt (exact rfl)); (case hkv12 => k_dflt (exact rfl)); (case hcv12 => walk_at "my side")); (try dsimp only)))
  k_with "eval IfExp" => ((k_here; k_dflt ((with_reducible refine' ev_ifE ?hev13 ?Fv13 ?Xv13 ?Tv13 ?ev13 ?hkv13 ?hcv13 (fun p9w tk9w => ?_) (fun p9w tk9w => ?_)); (case hev13 => k_dflt (exact rfl)); (case Fv13 => k_asm); (case Xv13 => k_asm); (case Tv13 => k_asm); (case ev13 => k_dflt (exact rfl)); (case hkv13 => k_dflt (exact rfl)); (case hcv13 => walk_at "my side"); all_goals first | (exfalso; walk_at "my no") | (try dsimp only))))
  k_with "eval Call" => ((k_here; (with_reducible show wpAny _ _ (eval (Expr.Call (Expr.Name _ _) (_ :: _) [] _) _) _ _ _); k_dflt ((with_reducible refine' ev_callE ?hev14 ?Fv14 ?Xv14 ?Tv14 ?efv14 ?hfv14 (fun t => ?eav14) ?hkv14 ?hcv14 (fun t9w tk9w => ?_)); (case hev14 => k_dflt (exact rfl)); (case Fv14 => k_asm); (case Xv14 => k_asm); (case Tv14 => k_asm); (case efv14 => k_dflt (exact rfl)); (case hfv14 => k_dflt (exact rfl)); (case eav14 => k_dflt (exact rfl)); (case hkv14 => k_dflt (exact rfl)); (case hcv14 => walk_at "my side"))))
  k_with "my nm" => ((k_dflt (refine' nm_ok ?Fv15 ?Xv15 ?Tv15 ?hkv15); (case Fv15 => k_asm); (case Xv15 => k_asm); (case Tv15 => k_asm); (case hkv15 => k_dflt (exact rfl))))
  k_with "spliced" => ((k_here; (with_reducible show wpAny _ _ (spliced (backTo _ (starEach (_ :: _) _))) _ _ _); (fail_if_success (with_reducible show wpAny _ _ (spliced (backTo _ (starEach (_ :: _ :: _ :: _ :: _ :: _ :: _ :: _) _))) _ _ _)); k_dflt ((with_reducible refine' xe_all ?hnv16 (fun tk => ?ev16) ?hcv16 (fun tk9w k9w => ?_))); (case hnv16 => walk_at "my nm"); (case ev16 => k_dflt (exact rfl)); (case hcv16 => walk_at "my side"); (try dsimp only [List.cons_append, List.nil_append])))
  k_with "storeName" => ((k_here; k_dflt ((with_reducible refine' st_storeE ?hev17 ?Fv17 ?Nv17 (fun tk9w h9w => ?_) ?hkv17 ?hxv17)); (case hev17 => k_dflt (exact rfl)); (case Fv17 => k_asm); (case Nv17 => k_asm); (case hkv17 => k_dflt (exact rfl)); (case hxv17 => k_dflt (exact rfl)); intro m9w F9w N9w; (try k_sweep); (try dsimp only)))
  k_with "call ref" => ((k_here; k_dflt (refine' hexv_c ?kSv18 (fun hv9w h9w tk9w F9w N9w => ?_) (fun v9w t9w hv9w h9w tk9w F9w N9w => ?_); (case kSv18 => walk_at "my site")); all_goals ((try dsimp only); (try k_fold))))
  k_with "call ref" => ((k_here; k_dflt (refine' figs_c ?kbv21 ?klv21 ?kSv21 (fun hv9w h9w tk9w F9w N9w => ?_) (fun v9w t9w hv9w h9w tk9w F9w N9w => ?_); (case kbv21 => kba_ints2); (case klv21 => kba_size); (case kSv21 => walk_at "my site")); all_goals ((try dsimp only); (try k_fold))))
  k_with "pyIter ref" => (((with_reducible show wpAny _ _ (pyIter (Value.ref _)) (fun it s₂ => LoopAtV _ _ _ _ _ _ _ _ _ it s₂) _ _); (rename Fr _ _ _ _ => lF'); (rename News _ _ _ _ => lN'); (with_unfolding_all refine iter_tupleUnr (by rfl) lF' lN' (by k_mem) ?_); clear lF' lN'; intro i' l1; (try k_lt l1)))
  k_with "TupRest" => ((with_unfolding_all first | (refine TupRest.succ (fun it' h' tk' hit' F' N' => ?_)) | (refine TupRest.zero (fun h' tk' F' N' => ?_))))
  k_with "getMethod bytes" => ((k_here; (with_reducible refine method_join ?_)))
  k_with "getMethod bytes" => ((k_here; (with_reducible refine method_split ?_)))
  k_with "my ints" => (first | kba_ints | exact (rfl : KBw.bInts _ = ([47] : List Int)) | exact (rfl : KBw.bInts _ = ([] : List Int)) | kba_ints2)
  k_with "my list" => (first | exact News.isList (by k_asm) (by k_mem) | is_list)
  k_with "call builtin:bytes.join" => ((k_here; k_dflt (first
      | (refine' join3 ?lv28 ?hsv28 ?h1v28 ?h2v28 ?h3v28 ?hzv28 ?_; (case lv28 => walk_at "my list"); (case hsv28 => walk_at "my ints"); (case h1v28 => walk_at "my ints"); (case h2v28 => walk_at "my ints"); (case h3v28 => walk_at "my ints"); (case hzv28 => kba_size))); intro B9w t9w k9w hB9w; (try simp only [List.nil_append, List.cons_append, List.append_assoc] at hB9w)))
  k_with "call ref" => ((k_here; k_dflt (refine' rgb_c ?h1v29 ?h2v29 ?h3v29 ?h4v29 ?h5v29 (fun D9w t9w u9w v9w h9w tk9w o9w F9w N9w => ?_) ?kSv29; (case h1v29 => assumption); (case h2v29 => first | assumption | decide | omega); (case h3v29 => first | assumption | omega); (case h4v29 => first | assumption | omega); (case h5v29 => first | assumption | omega); (case kSv29 => walk_at "my site")); (try simp only [LCg.Off1, and_true] at o9w); (try dsimp only); (try k_fold)))
  k_with "call builtin:bytes.split" => ((k_here; k_dflt (refine' split_call ?h1v30 ?h2v30 ?h3v30 ?h4v30 (fun D9w b1 b2 b3 t1 t2 t3 k1 k2 k3 h9w tk9w hsg e1 e2 e3 z1 z2 z3 F9w N9w l9w => ?_) (fun D9w vs9w h9w tk9w hsg e1 z1 F9w N9w l9w => ?_); (case h1v30 => k_asm); (case h2v30 => k_asm); (case h3v30 => walk_at "my ints"); (case h4v30 => kba_size)); all_goals ((try k_lt l9w); (try simp only [List.length_take, List.length_drop] at z1 z2 z3))))
  k_with "subscriptTail" => ((k_here; (with_reducible show wpAny _ _ (subscriptTail _ _ (Value.bytes _ _) (Value.int _ _)) _ _ _); (first
      | (refine' figs_item (nib_hi ?h1v31 ?h2v31 ?h3v31) ?h4v31 ?h5v31 (fun t9w k9w => ?_); (case h1v31 => assumption); (case h2v31 => omega); (case h3v31 => omega); (case h4v31 => omega); (case h5v31 => omega))
      | (refine' figs_item (nib_lo ?h1v31 ?h2v31 ?h3v31) ?h4v31 ?h5v31 (fun t9w k9w => ?_); (case h1v31 => assumption); (case h2v31 => omega); (case h3v31 => omega); (case h4v31 => omega); (case h5v31 => omega)))))
  k_with "call ref" => ((k_here; k_dflt (refine' figs_cb ?kbv36 ?klv36 ?kSv36 (fun hv9w h9w tk9w F9w N9w => ?_) (fun v9w t9w hv9w lo9w hi9w h9w tk9w F9w N9w => ?_); (case kbv36 => kba_ints2); (case klv36 => kba_size); (case kSv36 => walk_at "my site")); all_goals ((try dsimp only); (try k_fold))))
  k_with "Exists" => ((k_here; (refine made_bytes (by k_asm) (by first | k_asm | exact News.nil) (Top.nolimit (by k_asm)) (by rfl) (of_decide_eq_true (by rfl)) ?_; intro h' o' F' N' l1 lo' hd'; (try k_lt l1))))
  k_with "eval Dict" => ((k_here; (with_reducible refine Dict_made_bytes (by with_unfolding_all rfl) (by with_unfolding_all assumption) (by with_unfolding_all rfl) (by with_unfolding_all rfl) (List.cons_ne_nil _ _) (by with_unfolding_all decide) ?_; intro _)))
  k_with "my enterC" => ((refine wpAny_call ?_; k_dflt (refine' code_defCG ?k1v44 ?k2v44 ?k3v44 ?k4v44 ?k5v44 ?kAv44 ?kFv44 ?kKv44 ?k6v44 ?k7v44 ?k8v44 ?k9wv44 ?kBv44 ?kDv44 ?_ ?c2v44 ?c3v44 ?c4v44; (case kAv44 => exact rfl); (case kFv44 => exact rfl); (case kKv44 => assumption); (case k1v44 => k_asm); (case k2v44 => k_asm); (case k3v44 => k_asm); (case k4v44 => k_asm); (case k5v44 => k_asm); (case k6v44 => k_is); (case k7v44 => k_is); (case k8v44 => ktr_room); (case k9wv44 => exact BindsTo.of_eq rfl); (case kBv44 => exact rfl); (case kDv44 => decide +kernel); (case c2v44 => exact rfl); (case c3v44 => exact rfl); (case c4v44 => exact rfl); k_whole)))
  k_with "my pull" => (first | exact Pull.head | (refine' Pull.tail ?ptlv49; (case ptlv49 => walk_at "my pull")))
  k_with "my off" => (((try simp only [LCg.Off1, and_true]); (repeat' (refine And.intro ?_ ?_)); all_goals first | exact trivial | (walk_at "my ne")))
  k_with "my pow" => (first | omega | exact pow16_pos _ | exact pow16_le (by omega) | decide)
  k_with "call ref" => ((k_here; k_dflt (refine' draw_c ?P1v52 ?P2v52 ?hIv52 ?h1v52 ?h2v52 ?h3v52 ?h4v52 ?h5v52 ?h6v52 ?h7v52 (fun k9w v9w t9w u9w h9w tk9w hk9w lo9w hi9w dv9w F9w N9w => ?_) ?kSv52; (case kSv52 => walk_at "my site"); (case P1v52 => walk_at "my pull"); (case P2v52 => walk_at "my pull"); (case hIv52 => l_ints); (case h1v52 => first | assumption | omega); (case h2v52 => omega); (case h3v52 => omega); (case h4v52 => walk_at "my pow"); (case h5v52 => walk_at "my pow"); (case h6v52 => omega); (case h7v52 => walk_at "my off")); (try dsimp only); (try k_fold)))
  k_with "call ref" => ((k_here; k_dflt (refine' small_c ?kbv61 ?klv61 (fun B9w t9w h9w tk9w hB9w F9w N9w => ?_) ?kSv61; (case kSv61 => walk_at "my site"); (case kbv61 => walk_at "my ints"); (case klv61 => first | assumption | kba_size)); (try dsimp only); (try k_fold)))
  k_with "call ref" => ((k_here; k_dflt (refine' digs_c ?kbv62 ?klv62 (fun hv9w h9w tk9w F9w N9w => ?_) (fun v9w t9w hv9w h9w tk9w F9w N9w => ?_) ?kSv62; (case kSv62 => walk_at "my site"); (case kbv62 => walk_at "my ints"); (case klv62 => first | assumption | kba_size)); all_goals ((try dsimp only); (try k_fold))))
  k_with "call ref" => ((k_here; k_dflt (refine' parts_c ?kb1v63 ?kb2v63 ?kb3v63 ?kl1v63 ?kl2v63 ?kl3v63 ?kDv63 (fun hv9w h9w tk9w F9w N9w => ?_) (fun v9w t9w hv9w h9w tk9w F9w N9w => ?_) ?kSv63; (case kSv63 => walk_at "my site"); (case kDv63 => k_mem); (case kb1v63 => assumption); (case kb2v63 => assumption); (case kb3v63 => assumption); (case kl1v63 => first | assumption | omega); (case kl2v63 => first | assumption | omega); (case kl3v63 => first | assumption | omega)); all_goals ((try dsimp only); (try k_fold))))
  k_with "call ref" => ((k_here; k_dflt (refine' names_c (fun D9w o9w kvs9w h9w tk9w off9w lo9w hd9w ht9w F9w N9w => ?_) ?kSv64; (case kSv64 => walk_at "my site")); (try simp only [LCg.Off1, and_true] at off9w); (try dsimp only); (try k_fold)))
  k_with "call ref" => ((k_here; k_dflt (refine' lnames_c (fun D9w o9w kvs9w h9w tk9w off9w lo9w hd9w ht9w F9w N9w => ?_) ?kSv65; (case kSv65 => walk_at "my site")); (try simp only [LCg.Off1, and_true] at off9w); (try dsimp only); (try k_fold)))
  k_with "getMethod ref" => ((k_here; kda_here; (with_reducible show wpAny _ _ (getMethod (Value.ref _) (Str.ofString "get") _) _ _ _); k_dflt (refine kdg_method (knd := bytesKind _ _) (by k_asm) (by k_mem) (by k_asm) ?_)))
  k_with "call builtin:dict.get" => ((k_here; kda_here; k_dflt (refine' get_names ?n1v67 ?n2v67 ?n3v67 ?n4v67 ?n5v67 ?n6v67 (fun hv9w t9w => ?_) (fun v9w t9w k9w hv9w => ?_); (case n1v67 => k_asm); (case n2v67 => k_mem); (case n3v67 => k_asm); (case n4v67 => k_asm); (case n5v67 => assumption); (case n6v67 => walk_at "my ints")); all_goals (try dsimp only)))
  k_with "call builtin:len" => ((k_here; (with_reducible show wpAny _ _ (call (Value.builtin "len") [Value.ref _]) _ _ _); k_dflt (refine' len_gen ?n1v68 ?n2v68 ?n3v68 (fun t9w k9w => ?_); (case n1v68 => k_asm); (case n2v68 => k_mem); (case n3v68 => assumption))))
  k_with "call ref" => ((k_here; k_dflt (refine' dircol_c ?h1v113 ?h2v113 ?h3v113 (fun v9w t9w h9w tk9w hv9w F9w N9w => ?_) ?kSv113; (case kSv113 => walk_at "my site"); (case h1v113 => walk_at "my byte"); (case h2v113 => walk_at "my byte"); (case h3v113 => walk_at "my byte")); (try dsimp only); (try k_fold)))
  k_with "my byte" => (first | omega | ((simp only [List.getD_cons_zero, List.getD_cons_succ, Int.toNat_zero, Int.toNat_one, Int.reduceToNat]); omega))
  k_with "call ref" => ((k_here; (with_reducible show wpAny _ _ (call (Value.ref 29) _) _ _ _); k_dflt (refine' penw_c ?hpv129 ?hTv129 (fun e9w R9w h9w tk9w o9w F9w N9w => ?_) (fun e9w R9w h9w tk9w o9w F9w N9w => ?_) (fun e9w R9w h9w tk9w o9w F9w N9w => ?_) ?kSv129; (case kSv129 => walk_at "my site"); (case hpv129 => omega); (case hTv129 => k_mem)); all_goals (try (exfalso; omega)); all_goals ((try simp only [LCg.Off1, and_true] at o9w); (try dsimp only); (try k_fold))))
  k_with "eval Dict" => ((k_here; (with_reducible refine Dict_made_names (by with_unfolding_all rfl) (by with_unfolding_all assumption) (by with_unfolding_all rfl) (by with_unfolding_all rfl) (List.cons_ne_nil _ _) (by with_unfolding_all decide) ?_; intro _)))
  k_with "subscriptTail" => ((k_here; (with_reducible show wpAny _ _ (subscriptTail _ _ (Value.ref _) (Value.int _ _)) _ _ _); k_dflt (first
      | (refine' tab_lin (c := 20) (by exact rfl) (TabAt.ofNews ?nv120 ?mv120 ?lov120 ?hdv120 ?hfv120) ?hiv120 ?e1v120 ?e2v120 ?e3v120 (fun v9w t9w k9w hv9w => ?_); (case nv120 => k_asm); (case mv120 => k_mem); (case hdv120 => assumption); (case lov120 => assumption); (case hfv120 => assumption); (case hiv120 => first | assumption | omega); (case e1v120 => with_unfolding_all rfl); (case e2v120 => with_unfolding_all rfl); (case e3v120 => with_unfolding_all rfl))
      | (refine' tab_lin (c := 28) (by exact rfl) (TabAt.ofNews ?nv120 ?mv120 ?lov120 ?hdv120 ?hfv120) ?hiv120 ?e1v120 ?e2v120 ?e3v120 (fun v9w t9w k9w hv9w => ?_); (case nv120 => k_asm); (case mv120 => k_mem); (case hdv120 => assumption); (case lov120 => assumption); (case hfv120 => assumption); (case hiv120 => first | assumption | omega); (case e1v120 => with_unfolding_all rfl); (case e2v120 => with_unfolding_all rfl); (case e3v120 => with_unfolding_all rfl))
      | (refine' tab_lin (c := 29) (by exact rfl) (TabAt.ofNews ?nv120 ?mv120 ?lov120 ?hdv120 ?hfv120) ?hiv120 ?e1v120 ?e2v120 ?e3v120 (fun v9w t9w k9w hv9w => ?_); (case nv120 => k_asm); (case mv120 => k_mem); (case hdv120 => assumption); (case lov120 => assumption); (case hfv120 => assumption); (case hiv120 => first | assumption | omega); (case e1v120 => with_unfolding_all rfl); (case e2v120 => with_unfolding_all rfl); (case e3v120 => with_unfolding_all rfl)))))
  k_with "call ref" => ((k_here; (with_reducible show wpAny _ _ (call (Value.ref 50) _) _ _ _); (rename _ → Rgb _ _ _ _ => hr9w); k_dflt (refine' rgb_c (hr9w ?h0v121).1 ⟨by decide, by decide⟩ (hr9w ?h0v121).2.1 (hr9w ?h0v121).2.2.1 (hr9w ?h0v121).2.2.2 (fun D9w t9w u9w v9w h9w tk9w o9w F9w N9w => ?_) ?kSv121; (case h0v121 => omega); (case kSv121 => walk_at "my site")); (try simp only [LCg.Off1, and_true] at o9w); (try dsimp only); (try k_fold)))
  k_with "subscriptTail Name Slice ref ref" => ((k_here; (with_reducible show wpAny _ _ (subscriptTail _ (Expr.Slice _ _ none _) (Value.ref _) (Value.ref _)) _ _ _); k_dflt (refine' tup_cut ?Fv122 ?Nv122 ?tv122 ?pv122 ?qv122 ?av122 ?bv122 ?cv122 ?zv122 ?_ ?sv122 ?gv122; (case Fv122 => k_asm); (case Nv122 => k_asm); (case tv122 => exact News.isTup (by k_asm) (by k_mem)); (case pv122 => first | exact IsPart.none | exact IsPart.int _ _); (case qv122 => first | exact IsPart.none | exact IsPart.int _ _); (case av122 => exact rfl); (case bv122 => exact of_decide_eq_true (by rfl)); (case cv122 => exact of_decide_eq_true (by rfl)); (case zv122 => exact rfl); (case sv122 => with_unfolding_all rfl); (case gv122 => intro _; with_unfolding_all rfl)); intro D' h' F' N' l1; (try k_lt l1)))
  k_with "compareOp In int ref" => ((k_here; k_dflt (first
      | (refine' in_no (TabAt.ofNews ?nv123 ?mv123 ?lov123 ?hdv123 ?hfv123) ?hiv123 ?_; (case nv123 => k_asm); (case mv123 => k_mem); (case hdv123 => assumption); (case lov123 => assumption); (case hfv123 => assumption); (case hiv123 => first | assumption | omega))
      | (refine' in_yes (TabAt.ofNews ?nv123 ?mv123 ?lov123 ?hdv123 ?hfv123) ?hpv123 ?hiv123 ?e1v123 ?e2v123 ?e3v123 ?_; (case nv123 => k_asm); (case mv123 => k_mem); (case hdv123 => assumption); (case lov123 => assumption); (case hfv123 => assumption); (case hpv123 => assumption); (case hiv123 => omega); (case e1v123 => rfl); (case e2v123 => rfl); (case e3v123 => rfl)))))
  k_with "subscriptTail" => ((k_here; (with_reducible show wpAny _ _ (subscriptTail _ _ (Value.ref _) (Value.int _ _)) _ _ _); k_dflt (refine' places_item (by exact rfl) (TabAt.ofNews ?nv124 ?mv124 ?lov124 ?hdv124 ?hfv124) ?hpv124 ?hiv124 ?e1v124 ?e2v124 ?e3v124 (fun t9w k9w => ?_); (case nv124 => k_asm); (case mv124 => k_mem); (case hdv124 => assumption); (case lov124 => assumption); (case hfv124 => assumption); (case hpv124 => assumption); (case hiv124 => omega); (case e1v124 => rfl); (case e2v124 => rfl); (case e3v124 => rfl))))
  k_with "my notin" => (((repeat (refine notin_cons (by walk_at "my ne") ?_)); exact notin_nil))
  k_with "my led" => (((repeat (refine led_cons (by k_mem) ?_)); exact led_nil))
  k_with "subscriptTail" => ((k_here; (with_reducible show wpAny _ _ (subscriptTail _ _ (Value.ref _) (Value.int _ _)) _ _ _); k_dflt (refine' lst_item ?nv127 ?mv127 ?av127 ?bv127 ?cv127 ?_; (case nv127 => k_asm); (case mv127 => k_mem); (case av127 => decide); (case bv127 => decide); (case cv127 => exact rfl))))
  k_with "subscriptTail Name Constant ref int" => ((k_here; (with_reducible show wpAny _ _ (subscriptTail _ _ (Value.ref _) (Value.int _ _)) _ _ _); k_dflt (refine' lst_item ?nv128 ?mv128 ?av128 ?bv128 ?cv128 ?_; (case nv128 => k_asm); (case mv128 => k_mem); (case av128 => decide); (case bv128 => decide); (case cv128 => exact rfl))))
  k_with "my dec" => (first | omega | (simp only [decide_eq_true_eq, beq_iff_eq, bne_iff_ne, Bool.not_eq_true', decide_eq_false_iff_not, beq_eq_false_iff_ne, ne_eq]; omega))
  k_with "ite" => ((k_here; first | (refine ite_pos ?decv131 ?_; (case decv131 => walk_at "my dec"); walk_say "PRUNED mine") | (refine ite_neg ?decv131 ?_; (case decv131 => walk_at "my dec"); walk_say "PRUNED mine")))
  exact trivial
theorem plain_c {prog : Program} {w : World} {p : Program} {loose : List Str} {mean : ExcName → Option Value} {mg mb : Str → Option Value} {dp un : Nat} {gd : Option (List Code)} {cn : Str} {cs : Scope} {a : Addr} {ccd : Value} {cl : List (Str × Addr)} {outer : List Env} {A₀ : Around} {base h₀ : Heap} {L : Addr} {m : Str → Option Value} {s : Shared} {Q E : Value → Shared → Prop} {news : List (Addr × Obj)}
    {pl c n w0 w1 w2 w3 w4 : Int} {tn u0 u1 u2 u3 u4 : Tok} {T : Addr} (hp : 1 ≤ pl ∧ pl ≤ 3) (hn : One pl c n)
    (hT : (T, tupOf #[.int w0 u0, .int w1 u1, .int w2 u2, .int w3 u3, .int w4 u4]) ∈ news)
    (hS1 : pl = 1 → ∀ (x : Int) (t : Tok) (R : Addr) (h' : Heap) (tk' : Nat), x = c → LCg.Off1 R news → Fr h₀ L h' m → News h₀ L h' ((R, tupOf #[.int w0 u0, .int x t, .int w2 u2, .int w3 u3, .int w4 u4]) :: news) → Q (.ref R) { s with heap := h', toks := tk' })
    (hS2 : pl = 2 → ∀ (x : Int) (t : Tok) (R : Addr) (h' : Heap) (tk' : Nat), x = c → LCg.Off1 R news → Fr h₀ L h' m → News h₀ L h' ((R, tupOf #[.int w0 u0, .int w1 u1, .int x t, .int w3 u3, .int w4 u4]) :: news) → Q (.ref R) { s with heap := h', toks := tk' })
    (hS3 : pl = 3 → ∀ (x : Int) (t : Tok) (R : Addr) (h' : Heap) (tk' : Nat), x = c → LCg.Off1 R news → Fr h₀ L h' m → News h₀ L h' ((R, tupOf #[.int w0 u0, .int w1 u1, .int w2 u2, .int x t, .int w4 u4]) :: news) → Q (.ref R) { s with heap := h', toks := tk' })
    (S : Site w p loose mean mg mb dp un 3 cs outer A₀ base h₀ L s.heap m news) :
    wpAny (model prog w) (ktrTop dp un gd cn cs L a ccd cl outer) (call (.ref 72) [.ref T, .int n tn]) Q E s := by
  obtain ⟨B, F, X, N, T₀, hk, hd, hu⟩ := S
  have h7 : (pl = 1 ∧ (c = -1) ∧ n = 39) ∨ (pl = 2 ∧ (c = -1) ∧ n = 49) ∨ (pl = 3 ∧ (c = -1) ∧ n = 59) ∨ (pl = 1 ∧ (0 ≤ c ∧ c < 8) ∧ n = 30 + c) ∨ (pl = 2 ∧ (0 ≤ c ∧ c < 8) ∧ n = 40 + c) ∨ (pl = 1 ∧ (8 ≤ c ∧ c < 16) ∧ n = 82 + c) ∨ (pl = 2 ∧ (8 ≤ c ∧ c < 16) ∧ n = 92 + c) := one7 hp hn
  have N0 : News h₀ L s.heap [(T, tupOf #[.int w0 u0, .int w1 u1, .int w2 u2, .int w3 u3, .int w4 u4])] := News.sub N (by intro q hq; rw [List.mem_singleton.mp hq]; exact hT)
  have kN0 : KeptN h₀ L s.heap [(T, tupOf #[.int w0 u0, .int w1 u1, .int w2 u2, .int w3 u3, .int w4 u4])] := N0
  clear hn hp
  rcases h7 with ⟨rfl, hc, rfl⟩ | ⟨rfl, hc, rfl⟩ | ⟨rfl, hc, rfl⟩ | ⟨rfl, hc, hn⟩ | ⟨rfl, hc, hn⟩ | ⟨rfl, hc, hn⟩ | ⟨rfl, hc, hn⟩
  all_goals (walk_at "my enter"; intro g9 L9 h9 FG9 F9 N9 B9 X9 T9 kG9; clear N0; (try dsimp only); (try k_lift B9); (try k_fold); k_steps)
  all_goals ((rename News g9 _ _ _ => N'); (rename Fr g9 _ _ _ => F'); (rename Fr h₀ _ _ _ => kF); (rename News h₀ _ _ _ => kN))
  all_goals first
    | (refine' hS1 rfl _ _ _ _ _ ?e1 (off_of kG9 N' ?m0 ?n0 N) kF (News.one kN ?m0 (N.grown (grow_led kG9 kN0 F' N' (led_cons (by k_mem) led_nil)))); (case m0 => k_mem); (case n0 => walk_at "my notin"); (case e1 => clear kN kF N' F' N kN0; first | exact hc.symm | omega))
    | (refine' hS2 rfl _ _ _ _ _ ?e1 (off_of kG9 N' ?m0 ?n0 N) kF (News.one kN ?m0 (N.grown (grow_led kG9 kN0 F' N' (led_cons (by k_mem) led_nil)))); (case m0 => k_mem); (case n0 => walk_at "my notin"); (case e1 => clear kN kF N' F' N kN0; first | exact hc.symm | omega))
    | (refine' hS3 rfl _ _ _ _ _ ?e1 (off_of kG9 N' ?m0 ?n0 N) kF (News.one kN ?m0 (N.grown (grow_led kG9 kN0 F' N' (led_cons (by k_mem) led_nil)))); (case m0 => k_mem); (case n0 => walk_at "my notin"); (case e1 => clear kN kF N' F' N kN0; first | exact hc.symm | omega))

theorem set78 : True := by
  k_with_none
  w_top off
  k_with "my site" => ((refine' Site.mk ?s1v1 ?s2v1 ?s3v1 ?s4v1 ?s5v1 ?s6v1 ?s7v1 ?s8v1; (case s1v1 => first | k_asm | fail "site: below"); (case s2v1 => first | k_asm | fail "site: frame"); (case s3v1 => first | k_asm | fail "site: part"); (case s4v1 => first | k_asm | fail "site: ledger"); (case s5v1 => first | k_asm | fail "site: top"); (case s6v1 => first | exact rfl | assumption | fail "site: kind"); (case s7v1 => first | exact room_ok (by assumption) (by decide) | (walk_say "ROOM"; ktr_room) | fail "site: room"); (case s8v1 => first | exact units_ok (by assumption) (by decide) | (walk_say "UNITS"; ktr_units) | fail "site: units")))
  k_with "my enter" => ((refine wpAny_call ?_; k_dflt (refine' code_defG ?k1v2 ?k2v2 ?k3v2 ?k4v2 ?k5v2 ?kAv2 ?kFv2 ?kKv2 ?k6v2 ?k7v2 ?k8v2 ?k9wv2 ?kBv2 ?_ ?c2v2 ?c3v2 ?c4v2 ?c5v2; (case kAv2 => exact rfl); (case kFv2 => exact rfl); (case kKv2 => assumption); (case k1v2 => k_asm); (case k2v2 => k_asm); (case k3v2 => k_asm); (case k4v2 => k_asm); (case k5v2 => k_asm); (case k6v2 => k_is); (case k7v2 => k_is); (case k8v2 => ktr_room); (case k9wv2 => exact BindsTo.of_eq rfl); (case c5v2 => decide); (case kBv2 => exact locs rfl); (case c2v2 => exact rfl); (case c3v2 => exact rfl); (case c4v2 => exact rfl); k_whole)))
  k_with "call ref" => ((k_here; (try dsimp only [List.nil_append, List.append_nil]); refine wpAny_call ?_; k_dflt (refine' code_def ?k1v3 ?k2v3 ?k3v3 ?k4v3 ?k5v3 ?kAv3 ?kFv3 ?kKv3 ?k6v3 ?k7v3 ?k8v3 ?k9wv3 ?kBv3 ?_ ?c2v3 ?c3v3 ?c4v3 ?c5v3; (case kAv3 => exact rfl); (case kFv3 => exact rfl); (case kKv3 => first | exact rfl | assumption); (case k1v3 => k_asm); (case k2v3 => k_asm); (case k3v3 => k_asm); (case k4v3 => k_asm); (case k5v3 => k_asm); (case k6v3 => k_is); (case k7v3 => k_is); (case k8v3 => ktr_room); (case k9wv3 => exact BindsTo.of_eq rfl); (case c5v3 => decide); (case kBv3 => exact locs rfl); (case c2v3 => exact rfl); (case c3v3 => exact rfl); (case c4v3 => exact rfl); k_whole; intro g' L' h' FG' F' N' B' X' T'; (try dsimp only); (try k_lift B'); (try k_fold))))
  k_with "my off" => (((rename (_ ≠ _ ∧ _ ≠ _ ∧ _ ≠ _) ∧ _ => off9w); (simp only [ne_eq] at off9w); (simp only [LCg.Off3, and_true, ne_eq, off9w, not_false_eq_true, and_self, true_and]); (first | done | ((repeat' (refine And.intro ?_ ?_)); all_goals exact neN (by walk_at "my ne")))))
  k_with "ite" => ((k_here; first
      | (refine' ite_posI ?hcv5 ?_; (case hcv5 => k_dflt (exact of_decide_eq_true (by exact rfl))))
      | (refine' ite_negI ?hcv5 ?_; (case hcv5 => k_dflt (exact of_decide_eq_false (by exact rfl))))))
  k_with "my fact" => (first | (with_reducible assumption) | (simp only [ne_eq, not_false_eq_true, *]; done))
  k_with "my ne" => (first | (walk_at "my fact") | exact Ne.symm (by walk_at "my fact") | exact Nat.ne_of_lt (by walk_at "my fact") | exact Nat.ne_of_gt (by walk_at "my fact") | exact Nat.ne_of_lt (Nat.lt_succ_of_lt (by walk_at "my fact")) | exact Nat.ne_of_gt (Nat.lt_succ_of_lt (by walk_at "my fact")) | (walk_say "NE by omega"; omega))
  k_with "my side" => ((with_reducible ((repeat' (refine And.intro ?_ ?_)) <;> first | exact trivial | assumption | (walk_at "my arith"))))
  k_with "my arith" => (first
        | ((show IntMulOk _ _); first | exact PySem.IntMulOk.of_right (PySem.intBits_le_64 (by decide) (by decide)) | exact PySem.IntMulOk.of_left (PySem.intBits_le_64 (by decide) (by decide)) | exact PySem.IntMulOk.of_right (PySem.intBits_le_64 (by omega) (by omega)) | exact PySem.IntMulOk.of_left (PySem.intBits_le_64 (by omega) (by omega)) | mul_fits)
        | ((show Builtin.divisionGoesByPylong _ _ = false); first | exact PyProof.noPylong_of_log2 (by decide +kernel) | exact PyProof.noPylong_small (by omega))
        | omega
        | decide)
  k_with "my no" => (first | with_reducible exact False.elim p9w | with_reducible exact absurd trivial p9w | with_reducible exact absurd rfl p9w | (law_purse 20000 => omega))
  k_with "execs cons" => ((k_here; (first
        | ((with_reducible show wpAny _ _ (execs (Stmt.Return (some _) _ :: _) _) _ _ _); (fail_if_success (with_reducible show wpAny _ _ (execs (Stmt.Return (some (Expr.Tuple _ _ _)) _ :: _) _) _ _ _)); (fail_if_success (with_reducible show wpAny _ _ (execs (Stmt.Return (some (Expr.List _ _)) _ :: _) _) _ _ _)); (fail_if_success (with_reducible show wpAny _ _ (execs (Stmt.Return (some (Expr.Dict _ _ _)) _ :: _) _) _ _ _)); k_dflt ((with_reducible refine' st_retE ?hev11 ?Fv11 ?Xv11 ?Tv11 (fun t => ?ev11) ?hkv11 ?hcv11 (fun t9w tk9w => ?_))); (case hev11 => k_dflt (exact rfl)); (case Fv11 => k_asm); (case Xv11 => k_asm); (case Tv11 => k_asm); (case ev11 => k_dflt (exact rfl)); (case hkv11 => k_dflt (exact rfl)); (case hcv11 => walk_at "my side"); (try dsimp only))
        | ((with_reducible show wpAny _ _ (execs (Stmt.If _ _ [] _ :: _) _) _ _ _); k_dflt ((with_reducible refine' st_if0E ?hev11 ?Fv11 ?Xv11 ?Tv11 ?ev11 ?hkv11 ?hcv11 (fun p9w tk9w => ?_) (fun p9w tk9w => ?_))); (case hev11 => k_dflt (exact rfl)); (case Fv11 => k_asm); (case Xv11 => k_asm); (case Tv11 => k_asm); (case ev11 => k_dflt (exact rfl)); (case hkv11 => k_dflt (exact rfl)); (case hcv11 => walk_at "my side"); all_goals first | (exfalso; walk_at "my no") | (try dsimp only))
        | ((with_reducible show wpAny _ _ (execs (Stmt.If _ _ (_ :: _) _ :: _) _) _ _ _); k_dflt ((with_reducible refine' st_ifE ?hev11 ?Fv11 ?Xv11 ?Tv11 ?ev11 ?hkv11 ?hcv11 (fun p9w tk9w => ?_) (fun p9w tk9w => ?_))); (case hev11 => k_dflt (exact rfl)); (case Fv11 => k_asm); (case Xv11 => k_asm); (case Tv11 => k_asm); (case ev11 => k_dflt (exact rfl)); (case hkv11 => k_dflt (exact rfl)); (case hcv11 => walk_at "my side"); all_goals first | (exfalso; walk_at "my no") | (try dsimp only))
        | ((with_reducible show wpAny _ _ (execs (Stmt.Assign [Expr.Name _ _] _ _ :: _) _) _ _ _); k_dflt ((with_reducible refine' st_assignE ?hev11 ?Fv11 ?Nv11 ?Xv11 ?Tv11 (fun t => ?ev11) ?hkv11 ?hxv11 ?hsv11 ?hcv11 (fun t9w tk9w h9w => ?_))); (case hev11 => k_dflt (exact rfl)); (case Fv11 => k_asm); (case Nv11 => k_asm); (case Xv11 => k_asm); (case Tv11 => k_asm); (case ev11 => k_dflt (exact rfl)); (case hkv11 => k_dflt (exact rfl)); (case hxv11 => k_dflt (exact rfl)); (case hsv11 => k_dflt (exact rfl)); (case hcv11 => walk_at "my side"); intro m9w F9w N9w; (try k_sweep); (try dsimp only)))))
  k_with "eval BinOp" => ((k_here; k_dflt ((with_reducible refine' ev_peE ?hev12 ?Fv12 ?Xv12 ?Tv12 (fun t => ?ev12) ?hkv12 ?hcv12 (fun t9w tk9w => ?_)); (case hev12 => k_dflt (exact rfl)); (case Fv12 => k_asm); (case Xv12 => k_asm); (case Tv12 => k_asm); (case ev12 => k_dflt (exact rfl)); (case hkv12 => k_dflt (exact rfl)); (case hcv12 => walk_at "my side")); (try dsimp only)))
  k_with "eval IfExp" => ((k_here; k_dflt ((with_reducible refine' ev_ifE ?hev13 ?Fv13 ?Xv13 ?Tv13 ?ev13 ?hkv13 ?hcv13 (fun p9w tk9w => ?_) (fun p9w tk9w => ?_)); (case hev13 => k_dflt (exact rfl)); (case Fv13 => k_asm); (case Xv13 => k_asm); (case Tv13 => k_asm); (case ev13 => k_dflt (exact rfl)); (case hkv13 => k_dflt (exact rfl)); (case hcv13 => walk_at "my side"); all_goals first | (exfalso; walk_at "my no") | (try dsimp only))))
  k_with "eval Call" => ((k_here; (with_reducible show wpAny _ _ (eval (Expr.Call (Expr.Name _ _) (_ :: _) [] _) _) _ _ _); k_dflt ((with_reducible refine' ev_callE ?hev14 ?Fv14 ?Xv14 ?Tv14 ?efv14 ?hfv14 (fun t => ?eav14) ?hkv14 ?hcv14 (fun t9w tk9w => ?_)); (case hev14 => k_dflt (exact rfl)); (case Fv14 => k_asm); (case Xv14 => k_asm); (case Tv14 => k_asm); (case efv14 => k_dflt (exact rfl)); (case hfv14 => k_dflt (exact rfl)); (case eav14 => k_dflt (exact rfl)); (case hkv14 => k_dflt (exact rfl)); (case hcv14 => walk_at "my side"))))
  k_with "my nm" => ((k_dflt (refine' nm_ok ?Fv15 ?Xv15 ?Tv15 ?hkv15); (case Fv15 => k_asm); (case Xv15 => k_asm); (case Tv15 => k_asm); (case hkv15 => k_dflt (exact rfl))))
  k_with "spliced" => ((k_here; (with_reducible show wpAny _ _ (spliced (backTo _ (starEach (_ :: _) _))) _ _ _); (fail_if_success (with_reducible show wpAny _ _ (spliced (backTo _ (starEach (_ :: _ :: _ :: _ :: _ :: _ :: _ :: _) _))) _ _ _)); k_dflt ((with_reducible refine' xe_all ?hnv16 (fun tk => ?ev16) ?hcv16 (fun tk9w k9w => ?_))); (case hnv16 => walk_at "my nm"); (case ev16 => k_dflt (exact rfl)); (case hcv16 => walk_at "my side"); (try dsimp only [List.cons_append, List.nil_append])))
  k_with "storeName" => ((k_here; k_dflt ((with_reducible refine' st_storeE ?hev17 ?Fv17 ?Nv17 (fun tk9w h9w => ?_) ?hkv17 ?hxv17)); (case hev17 => k_dflt (exact rfl)); (case Fv17 => k_asm); (case Nv17 => k_asm); (case hkv17 => k_dflt (exact rfl)); (case hxv17 => k_dflt (exact rfl)); intro m9w F9w N9w; (try k_sweep); (try dsimp only)))
  k_with "call ref" => ((k_here; k_dflt (refine' hexv_c ?kSv18 (fun hv9w h9w tk9w F9w N9w => ?_) (fun v9w t9w hv9w h9w tk9w F9w N9w => ?_); (case kSv18 => walk_at "my site")); all_goals ((try dsimp only); (try k_fold))))
  k_with "call ref" => ((k_here; k_dflt (refine' figs_c ?kbv21 ?klv21 ?kSv21 (fun hv9w h9w tk9w F9w N9w => ?_) (fun v9w t9w hv9w h9w tk9w F9w N9w => ?_); (case kbv21 => kba_ints2); (case klv21 => kba_size); (case kSv21 => walk_at "my site")); all_goals ((try dsimp only); (try k_fold))))
  k_with "pyIter ref" => (((with_reducible show wpAny _ _ (pyIter (Value.ref _)) (fun it s₂ => LoopAtV _ _ _ _ _ _ _ _ _ it s₂) _ _); (rename Fr _ _ _ _ => lF'); (rename News _ _ _ _ => lN'); (with_unfolding_all refine iter_tupleUnr (by rfl) lF' lN' (by k_mem) ?_); clear lF' lN'; intro i' l1; (try k_lt l1)))
  k_with "TupRest" => ((with_unfolding_all first | (refine TupRest.succ (fun it' h' tk' hit' F' N' => ?_)) | (refine TupRest.zero (fun h' tk' F' N' => ?_))))
  k_with "getMethod bytes" => ((k_here; (with_reducible refine method_join ?_)))
  k_with "getMethod bytes" => ((k_here; (with_reducible refine method_split ?_)))
  k_with "my ints" => (first | kba_ints | exact (rfl : KBw.bInts _ = ([47] : List Int)) | exact (rfl : KBw.bInts _ = ([] : List Int)) | kba_ints2)
  k_with "my list" => (first | exact News.isList (by k_asm) (by k_mem) | is_list)
  k_with "call builtin:bytes.join" => ((k_here; k_dflt (first
      | (refine' join3 ?lv28 ?hsv28 ?h1v28 ?h2v28 ?h3v28 ?hzv28 ?_; (case lv28 => walk_at "my list"); (case hsv28 => walk_at "my ints"); (case h1v28 => walk_at "my ints"); (case h2v28 => walk_at "my ints"); (case h3v28 => walk_at "my ints"); (case hzv28 => kba_size))); intro B9w t9w k9w hB9w; (try simp only [List.nil_append, List.cons_append, List.append_assoc] at hB9w)))
  k_with "call ref" => ((k_here; k_dflt (refine' rgb_c ?h1v29 ?h2v29 ?h3v29 ?h4v29 ?h5v29 (fun D9w t9w u9w v9w h9w tk9w o9w F9w N9w => ?_) ?kSv29; (case h1v29 => assumption); (case h2v29 => first | assumption | decide | omega); (case h3v29 => first | assumption | omega); (case h4v29 => first | assumption | omega); (case h5v29 => first | assumption | omega); (case kSv29 => walk_at "my site")); (try simp only [LCg.Off1, and_true] at o9w); (try dsimp only); (try k_fold)))
  k_with "call builtin:bytes.split" => ((k_here; k_dflt (refine' split_call ?h1v30 ?h2v30 ?h3v30 ?h4v30 (fun D9w b1 b2 b3 t1 t2 t3 k1 k2 k3 h9w tk9w hsg e1 e2 e3 z1 z2 z3 F9w N9w l9w => ?_) (fun D9w vs9w h9w tk9w hsg e1 z1 F9w N9w l9w => ?_); (case h1v30 => k_asm); (case h2v30 => k_asm); (case h3v30 => walk_at "my ints"); (case h4v30 => kba_size)); all_goals ((try k_lt l9w); (try simp only [List.length_take, List.length_drop] at z1 z2 z3))))
  k_with "subscriptTail" => ((k_here; (with_reducible show wpAny _ _ (subscriptTail _ _ (Value.bytes _ _) (Value.int _ _)) _ _ _); (first
      | (refine' figs_item (nib_hi ?h1v31 ?h2v31 ?h3v31) ?h4v31 ?h5v31 (fun t9w k9w => ?_); (case h1v31 => assumption); (case h2v31 => omega); (case h3v31 => omega); (case h4v31 => omega); (case h5v31 => omega))
      | (refine' figs_item (nib_lo ?h1v31 ?h2v31 ?h3v31) ?h4v31 ?h5v31 (fun t9w k9w => ?_); (case h1v31 => assumption); (case h2v31 => omega); (case h3v31 => omega); (case h4v31 => omega); (case h5v31 => omega)))))
  k_with "call ref" => ((k_here; k_dflt (refine' figs_cb ?kbv36 ?klv36 ?kSv36 (fun hv9w h9w tk9w F9w N9w => ?_) (fun v9w t9w hv9w lo9w hi9w h9w tk9w F9w N9w => ?_); (case kbv36 => kba_ints2); (case klv36 => kba_size); (case kSv36 => walk_at "my site")); all_goals ((try dsimp only); (try k_fold))))
  k_with "Exists" => ((k_here; (refine made_bytes (by k_asm) (by first | k_asm | exact News.nil) (Top.nolimit (by k_asm)) (by rfl) (of_decide_eq_true (by rfl)) ?_; intro h' o' F' N' l1 lo' hd'; (try k_lt l1))))
  k_with "eval Dict" => ((k_here; (with_reducible refine Dict_made_bytes (by with_unfolding_all rfl) (by with_unfolding_all assumption) (by with_unfolding_all rfl) (by with_unfolding_all rfl) (List.cons_ne_nil _ _) (by with_unfolding_all decide) ?_; intro _)))
  k_with "my enterC" => ((refine wpAny_call ?_; k_dflt (refine' code_defCG ?k1v44 ?k2v44 ?k3v44 ?k4v44 ?k5v44 ?kAv44 ?kFv44 ?kKv44 ?k6v44 ?k7v44 ?k8v44 ?k9wv44 ?kBv44 ?kDv44 ?_ ?c2v44 ?c3v44 ?c4v44; (case kAv44 => exact rfl); (case kFv44 => exact rfl); (case kKv44 => assumption); (case k1v44 => k_asm); (case k2v44 => k_asm); (case k3v44 => k_asm); (case k4v44 => k_asm); (case k5v44 => k_asm); (case k6v44 => k_is); (case k7v44 => k_is); (case k8v44 => ktr_room); (case k9wv44 => exact BindsTo.of_eq rfl); (case kBv44 => exact rfl); (case kDv44 => decide +kernel); (case c2v44 => exact rfl); (case c3v44 => exact rfl); (case c4v44 => exact rfl); k_whole)))
  k_with "my pull" => (first | exact Pull.head | (refine' Pull.tail ?ptlv49; (case ptlv49 => walk_at "my pull")))
  k_with "my off" => (((try simp only [LCg.Off1, and_true]); (repeat' (refine And.intro ?_ ?_)); all_goals first | exact trivial | (walk_at "my ne")))
  k_with "my pow" => (first | omega | exact pow16_pos _ | exact pow16_le (by omega) | decide)
  k_with "call ref" => ((k_here; k_dflt (refine' draw_c ?P1v52 ?P2v52 ?hIv52 ?h1v52 ?h2v52 ?h3v52 ?h4v52 ?h5v52 ?h6v52 ?h7v52 (fun k9w v9w t9w u9w h9w tk9w hk9w lo9w hi9w dv9w F9w N9w => ?_) ?kSv52; (case kSv52 => walk_at "my site"); (case P1v52 => walk_at "my pull"); (case P2v52 => walk_at "my pull"); (case hIv52 => l_ints); (case h1v52 => first | assumption | omega); (case h2v52 => omega); (case h3v52 => omega); (case h4v52 => walk_at "my pow"); (case h5v52 => walk_at "my pow"); (case h6v52 => omega); (case h7v52 => walk_at "my off")); (try dsimp only); (try k_fold)))
  k_with "call ref" => ((k_here; k_dflt (refine' small_c ?kbv61 ?klv61 (fun B9w t9w h9w tk9w hB9w F9w N9w => ?_) ?kSv61; (case kSv61 => walk_at "my site"); (case kbv61 => walk_at "my ints"); (case klv61 => first | assumption | kba_size)); (try dsimp only); (try k_fold)))
  k_with "call ref" => ((k_here; k_dflt (refine' digs_c ?kbv62 ?klv62 (fun hv9w h9w tk9w F9w N9w => ?_) (fun v9w t9w hv9w h9w tk9w F9w N9w => ?_) ?kSv62; (case kSv62 => walk_at "my site"); (case kbv62 => walk_at "my ints"); (case klv62 => first | assumption | kba_size)); all_goals ((try dsimp only); (try k_fold))))
  k_with "call ref" => ((k_here; k_dflt (refine' parts_c ?kb1v63 ?kb2v63 ?kb3v63 ?kl1v63 ?kl2v63 ?kl3v63 ?kDv63 (fun hv9w h9w tk9w F9w N9w => ?_) (fun v9w t9w hv9w h9w tk9w F9w N9w => ?_) ?kSv63; (case kSv63 => walk_at "my site"); (case kDv63 => k_mem); (case kb1v63 => assumption); (case kb2v63 => assumption); (case kb3v63 => assumption); (case kl1v63 => first | assumption | omega); (case kl2v63 => first | assumption | omega); (case kl3v63 => first | assumption | omega)); all_goals ((try dsimp only); (try k_fold))))
  k_with "call ref" => ((k_here; k_dflt (refine' names_c (fun D9w o9w kvs9w h9w tk9w off9w lo9w hd9w ht9w F9w N9w => ?_) ?kSv64; (case kSv64 => walk_at "my site")); (try simp only [LCg.Off1, and_true] at off9w); (try dsimp only); (try k_fold)))
  k_with "call ref" => ((k_here; k_dflt (refine' lnames_c (fun D9w o9w kvs9w h9w tk9w off9w lo9w hd9w ht9w F9w N9w => ?_) ?kSv65; (case kSv65 => walk_at "my site")); (try simp only [LCg.Off1, and_true] at off9w); (try dsimp only); (try k_fold)))
  k_with "getMethod ref" => ((k_here; kda_here; (with_reducible show wpAny _ _ (getMethod (Value.ref _) (Str.ofString "get") _) _ _ _); k_dflt (refine kdg_method (knd := bytesKind _ _) (by k_asm) (by k_mem) (by k_asm) ?_)))
  k_with "call builtin:dict.get" => ((k_here; kda_here; k_dflt (refine' get_names ?n1v67 ?n2v67 ?n3v67 ?n4v67 ?n5v67 ?n6v67 (fun hv9w t9w => ?_) (fun v9w t9w k9w hv9w => ?_); (case n1v67 => k_asm); (case n2v67 => k_mem); (case n3v67 => k_asm); (case n4v67 => k_asm); (case n5v67 => assumption); (case n6v67 => walk_at "my ints")); all_goals (try dsimp only)))
  k_with "call builtin:len" => ((k_here; (with_reducible show wpAny _ _ (call (Value.builtin "len") [Value.ref _]) _ _ _); k_dflt (refine' len_gen ?n1v68 ?n2v68 ?n3v68 (fun t9w k9w => ?_); (case n1v68 => k_asm); (case n2v68 => k_mem); (case n3v68 => assumption))))
  k_with "call ref" => ((k_here; k_dflt (refine' dircol_c ?h1v113 ?h2v113 ?h3v113 (fun v9w t9w h9w tk9w hv9w F9w N9w => ?_) ?kSv113; (case kSv113 => walk_at "my site"); (case h1v113 => walk_at "my byte"); (case h2v113 => walk_at "my byte"); (case h3v113 => walk_at "my byte")); (try dsimp only); (try k_fold)))
  k_with "my byte" => (first | omega | ((simp only [List.getD_cons_zero, List.getD_cons_succ, Int.toNat_zero, Int.toNat_one, Int.reduceToNat]); omega))
  k_with "call ref" => ((k_here; (with_reducible show wpAny _ _ (call (Value.ref 29) _) _ _ _); k_dflt (refine' penw_c ?hpv129 ?hTv129 (fun e9w R9w h9w tk9w o9w F9w N9w => ?_) (fun e9w R9w h9w tk9w o9w F9w N9w => ?_) (fun e9w R9w h9w tk9w o9w F9w N9w => ?_) ?kSv129; (case kSv129 => walk_at "my site"); (case hpv129 => omega); (case hTv129 => k_mem)); all_goals (try (exfalso; omega)); all_goals ((try simp only [LCg.Off1, and_true] at o9w); (try dsimp only); (try k_fold))))
  k_with "call ref" => ((k_here; (with_reducible show wpAny _ _ (call (Value.ref 72) _) _ _ _); k_dflt (refine' plain_c ?hpv132 ?hnv132 ?hTv132 (fun e9w x9w t9w R9w h9w tk9w hx9w o9w F9w N9w => ?_) (fun e9w x9w t9w R9w h9w tk9w hx9w o9w F9w N9w => ?_) (fun e9w x9w t9w R9w h9w tk9w hx9w o9w F9w N9w => ?_) ?kSv132; (case kSv132 => walk_at "my site"); (case hpv132 => assumption); (case hnv132 => assumption); (case hTv132 => k_mem)); all_goals ((try simp only [LCg.Off1, and_true] at o9w); (try dsimp only); (try k_fold))))
  k_with "eval Dict" => ((k_here; (with_reducible refine Dict_made_names (by with_unfolding_all rfl) (by with_unfolding_all assumption) (by with_unfolding_all rfl) (by with_unfolding_all rfl) (List.cons_ne_nil _ _) (by with_unfolding_all decide) ?_; intro _)))
  k_with "subscriptTail" => ((k_here; (with_reducible show wpAny _ _ (subscriptTail _ _ (Value.ref _) (Value.int _ _)) _ _ _); k_dflt (first
      | (refine' tab_lin (c := 20) (by exact rfl) (TabAt.ofNews ?nv120 ?mv120 ?lov120 ?hdv120 ?hfv120) ?hiv120 ?e1v120 ?e2v120 ?e3v120 (fun v9w t9w k9w hv9w => ?_); (case nv120 => k_asm); (case mv120 => k_mem); (case hdv120 => assumption); (case lov120 => assumption); (case hfv120 => assumption); (case hiv120 => first | assumption | omega); (case e1v120 => with_unfolding_all rfl); (case e2v120 => with_unfolding_all rfl); (case e3v120 => with_unfolding_all rfl))
      | (refine' tab_lin (c := 28) (by exact rfl) (TabAt.ofNews ?nv120 ?mv120 ?lov120 ?hdv120 ?hfv120) ?hiv120 ?e1v120 ?e2v120 ?e3v120 (fun v9w t9w k9w hv9w => ?_); (case nv120 => k_asm); (case mv120 => k_mem); (case hdv120 => assumption); (case lov120 => assumption); (case hfv120 => assumption); (case hiv120 => first | assumption | omega); (case e1v120 => with_unfolding_all rfl); (case e2v120 => with_unfolding_all rfl); (case e3v120 => with_unfolding_all rfl))
      | (refine' tab_lin (c := 29) (by exact rfl) (TabAt.ofNews ?nv120 ?mv120 ?lov120 ?hdv120 ?hfv120) ?hiv120 ?e1v120 ?e2v120 ?e3v120 (fun v9w t9w k9w hv9w => ?_); (case nv120 => k_asm); (case mv120 => k_mem); (case hdv120 => assumption); (case lov120 => assumption); (case hfv120 => assumption); (case hiv120 => first | assumption | omega); (case e1v120 => with_unfolding_all rfl); (case e2v120 => with_unfolding_all rfl); (case e3v120 => with_unfolding_all rfl)))))
  k_with "call ref" => ((k_here; (with_reducible show wpAny _ _ (call (Value.ref 50) _) _ _ _); (rename _ → Rgb _ _ _ _ => hr9w); k_dflt (refine' rgb_c (hr9w ?h0v121).1 ⟨by decide, by decide⟩ (hr9w ?h0v121).2.1 (hr9w ?h0v121).2.2.1 (hr9w ?h0v121).2.2.2 (fun D9w t9w u9w v9w h9w tk9w o9w F9w N9w => ?_) ?kSv121; (case h0v121 => omega); (case kSv121 => walk_at "my site")); (try simp only [LCg.Off1, and_true] at o9w); (try dsimp only); (try k_fold)))
  k_with "subscriptTail Name Slice ref ref" => ((k_here; (with_reducible show wpAny _ _ (subscriptTail _ (Expr.Slice _ _ none _) (Value.ref _) (Value.ref _)) _ _ _); k_dflt (refine' tup_cut ?Fv122 ?Nv122 ?tv122 ?pv122 ?qv122 ?av122 ?bv122 ?cv122 ?zv122 ?_ ?sv122 ?gv122; (case Fv122 => k_asm); (case Nv122 => k_asm); (case tv122 => exact News.isTup (by k_asm) (by k_mem)); (case pv122 => first | exact IsPart.none | exact IsPart.int _ _); (case qv122 => first | exact IsPart.none | exact IsPart.int _ _); (case av122 => exact rfl); (case bv122 => exact of_decide_eq_true (by rfl)); (case cv122 => exact of_decide_eq_true (by rfl)); (case zv122 => exact rfl); (case sv122 => with_unfolding_all rfl); (case gv122 => intro _; with_unfolding_all rfl)); intro D' h' F' N' l1; (try k_lt l1)))
  k_with "compareOp In int ref" => ((k_here; k_dflt (first
      | (refine' in_no (TabAt.ofNews ?nv123 ?mv123 ?lov123 ?hdv123 ?hfv123) ?hiv123 ?_; (case nv123 => k_asm); (case mv123 => k_mem); (case hdv123 => assumption); (case lov123 => assumption); (case hfv123 => assumption); (case hiv123 => first | assumption | omega))
      | (refine' in_yes (TabAt.ofNews ?nv123 ?mv123 ?lov123 ?hdv123 ?hfv123) ?hpv123 ?hiv123 ?e1v123 ?e2v123 ?e3v123 ?_; (case nv123 => k_asm); (case mv123 => k_mem); (case hdv123 => assumption); (case lov123 => assumption); (case hfv123 => assumption); (case hpv123 => assumption); (case hiv123 => omega); (case e1v123 => rfl); (case e2v123 => rfl); (case e3v123 => rfl)))))
  k_with "subscriptTail" => ((k_here; (with_reducible show wpAny _ _ (subscriptTail _ _ (Value.ref _) (Value.int _ _)) _ _ _); k_dflt (refine' places_item (by exact rfl) (TabAt.ofNews ?nv124 ?mv124 ?lov124 ?hdv124 ?hfv124) ?hpv124 ?hiv124 ?e1v124 ?e2v124 ?e3v124 (fun t9w k9w => ?_); (case nv124 => k_asm); (case mv124 => k_mem); (case hdv124 => assumption); (case lov124 => assumption); (case hfv124 => assumption); (case hpv124 => assumption); (case hiv124 => omega); (case e1v124 => rfl); (case e2v124 => rfl); (case e3v124 => rfl))))
  k_with "my notin" => (((repeat (refine notin_cons (by walk_at "my ne") ?_)); exact notin_nil))
  k_with "my led" => (((repeat (refine led_cons (by k_mem) ?_)); exact led_nil))
  k_with "subscriptTail" => ((k_here; (with_reducible show wpAny _ _ (subscriptTail _ _ (Value.ref _) (Value.int _ _)) _ _ _); k_dflt (refine' lst_item ?nv127 ?mv127 ?av127 ?bv127 ?cv127 ?_; (case nv127 => k_asm); (case mv127 => k_mem); (case av127 => decide); (case bv127 => decide); (case cv127 => exact rfl))))
  k_with "subscriptTail Name Constant ref int" => ((k_here; (with_reducible show wpAny _ _ (subscriptTail _ _ (Value.ref _) (Value.int _ _)) _ _ _); k_dflt (refine' lst_item ?nv128 ?mv128 ?av128 ?bv128 ?cv128 ?_; (case nv128 => k_asm); (case mv128 => k_mem); (case av128 => decide); (case bv128 => decide); (case cv128 => exact rfl))))
  exact trivial
theorem apply_1 {prog : Program} {w : World} {p : Program} {loose : List Str} {mean : ExcName → Option Value} {mg mb : Str → Option Value} {dp un : Nat} {gd : Option (List Code)} {cn : Str} {cs : Scope} {a : Addr} {ccd : Value} {cl : List (Str × Addr)} {outer : List Env} {A₀ : Around} {base h₀ : Heap} {L : Addr} {m : Str → Option Value} {s : Shared} {Q E : Value → Shared → Prop} {news : List (Addr × Obj)}
    {pl c w0 w1 w2 w3 w4 : Int} {u0 u1 u2 u3 u4 : Tok} {T D : Addr} (hp : 1 ≤ pl ∧ pl ≤ 3) {n : Int} {t1 : Tok} {l : Addr} (hn : One pl c n) (hD : (D, lst1 (.ref l) 0) ∈ news) (hl : (l, lst1 (.int n t1) 0) ∈ news) (hlD : @LT.lt Nat _ l D) (hDT : @LT.lt Nat _ D T)
    (hT : (T, tupOf #[.int w0 u0, .int w1 u1, .int w2 u2, .int w3 u3, .int w4 u4]) ∈ news)
    (hS1 : pl = 1 → ∀ (x : Int) (t : Tok) (R : Addr) (h' : Heap) (tk' : Nat), x = c → LCg.Off1 R news → Fr h₀ L h' m → News h₀ L h' ((R, tupOf #[.int w0 u0, .int x t, .int w2 u2, .int w3 u3, .int w4 u4]) :: news) → Q (.ref R) { s with heap := h', toks := tk' })
    (hS2 : pl = 2 → ∀ (x : Int) (t : Tok) (R : Addr) (h' : Heap) (tk' : Nat), x = c → LCg.Off1 R news → Fr h₀ L h' m → News h₀ L h' ((R, tupOf #[.int w0 u0, .int w1 u1, .int x t, .int w3 u3, .int w4 u4]) :: news) → Q (.ref R) { s with heap := h', toks := tk' })
    (hS3 : pl = 3 → ∀ (x : Int) (t : Tok) (R : Addr) (h' : Heap) (tk' : Nat), x = c → LCg.Off1 R news → Fr h₀ L h' m → News h₀ L h' ((R, tupOf #[.int w0 u0, .int w1 u1, .int w2 u2, .int x t, .int w4 u4]) :: news) → Q (.ref R) { s with heap := h', toks := tk' })
    (S : Site w p loose mean mg mb dp un 5 cs outer A₀ base h₀ L s.heap m news) :
    wpAny (model prog w) (ktrTop dp un gd cn cs L a ccd cl outer) (call (.ref 96) [.ref T, .ref D]) Q E s := by
  obtain ⟨B, F, X, N, T₀, hk, hd, hu⟩ := S
  have hne := one_ne hp hn
  have hsub : ∀ q ∈ [(T, tupOf #[.int w0 u0, .int w1 u1, .int w2 u2, .int w3 u3, .int w4 u4]), (D, lst1 (.ref l) 0), (l, lst1 (.int n t1) 0)], q ∈ news := by
    intro q hq
    simp only [List.mem_cons, List.not_mem_nil, or_false] at hq
    rcases hq with rfl | rfl | rfl <;> assumption
  have N0 : News h₀ L s.heap [(T, tupOf #[.int w0 u0, .int w1 u1, .int w2 u2, .int w3 u3, .int w4 u4]), (D, lst1 (.ref l) 0), (l, lst1 (.int n t1) 0)] := News.sub N hsub
  have kN0 : KeptN h₀ L s.heap [(T, tupOf #[.int w0 u0, .int w1 u1, .int w2 u2, .int w3 u3, .int w4 u4]), (D, lst1 (.ref l) 0), (l, lst1 (.int n t1) 0)] := N0
  (walk_at "my enter"; intro g9 L9 h9 FG9 F9 N9 B9 X9 T9 kG9; clear N0; (try dsimp only); (try k_lift B9); (try k_fold); k_steps)
  all_goals ((rename News g9 _ _ _ => N'); (rename Fr g9 _ _ _ => F'); (rename Fr h₀ _ _ _ => kF); (rename News h₀ _ _ _ => kN))
  all_goals first
    | (refine' hS1 ?e0 _ _ _ _ _ ?e1 (off_of kG9 N' ?m0 ?n0 N) kF (News.one kN ?m0 (N.grown (grow_led kG9 kN0 F' N' ?g0))); (case m0 => k_mem); (case n0 => walk_at "my notin"); (case g0 => walk_at "my led"); (case e0 => first | assumption | omega); (case e1 => first | assumption | exact rfl))
    | (refine' hS2 ?e0 _ _ _ _ _ ?e1 (off_of kG9 N' ?m0 ?n0 N) kF (News.one kN ?m0 (N.grown (grow_led kG9 kN0 F' N' ?g0))); (case m0 => k_mem); (case n0 => walk_at "my notin"); (case g0 => walk_at "my led"); (case e0 => first | assumption | omega); (case e1 => first | assumption | exact rfl))
    | (refine' hS3 ?e0 _ _ _ _ _ ?e1 (off_of kG9 N' ?m0 ?n0 N) kF (News.one kN ?m0 (N.grown (grow_led kG9 kN0 F' N' ?g0))); (case m0 => k_mem); (case n0 => walk_at "my notin"); (case g0 => walk_at "my led"); (case e0 => first | assumption | omega); (case e1 => first | assumption | exact rfl))

theorem set78x : True := by
  w_top off
  exact trivial
theorem pcol_i1 {prog : Program} {w : World} {p : Program} {loose : List Str} {mean : ExcName → Option Value} {mg mb : Str → Option Value} {dp un : Nat} {gd : Option (List Code)} {cn : Str} {cs : Scope} {a : Addr} {ccd : Value} {cl : List (Str × Addr)} {outer : List Env} {A₀ : Around} {base h₀ : Heap} {L : Addr} {m : Str → Option Value} {s : Shared} {Q E : Value → Shared → Prop} {news : List (Addr × Obj)}
    {c : Int} {t1 tk : Tok} {D : Addr} {nl : Nat} (hc : 0 ≤ c ∧ c < 256) (hm : (D, W.listOf #[.int c t1] nl) ∈ news)
    (h : ∀ v t h' tk', v = c → Fr h₀ L h' m → News h₀ L h' news → Q (.int v t) { s with heap := h', toks := tk' })
    (S : Site w p loose mean mg mb dp un 2 cs outer A₀ base h₀ L s.heap m news) :
    wpAny (model prog w) (ktrTop dp un gd cn cs L a ccd cl outer) (call (.ref 77) [.int 5 tk, .ref D]) Q E s := by
  have e : pcolV 5 [c] = some c := by
    unfold pcolV
    exact if_pos ⟨rfl, Nat.le_refl _, by show c ≤ 255; omega⟩
  refine pcol_c (vs := [.int c t1]) (os := [some c]) ⟨by decide, by decide⟩ (.cons (some c) t1 .nil) (show 1 ≤ 4 by decide) (fun o ho => ?_) hm (fun t h' tk' F N => ?_) S
  · rw [List.mem_singleton.mp ho]; exact ⟨hc.1, by show c ≤ 256; omega⟩
  · rw [show pcolV 5 ([some c].map fun o => o.getD 0) = some c from e]; exact h c t h' tk' rfl F N
theorem pcol_i3 {prog : Program} {w : World} {p : Program} {loose : List Str} {mean : ExcName → Option Value} {mg mb : Str → Option Value} {dp un : Nat} {gd : Option (List Code)} {cn : Str} {cs : Scope} {a : Addr} {ccd : Value} {cl : List (Str × Addr)} {outer : List Env} {A₀ : Around} {base h₀ : Heap} {L : Addr} {m : Str → Option Value} {s : Shared} {Q E : Value → Shared → Prop} {news : List (Addr × Obj)}
    {c r g b : Int} {t1 t2 t3 tk : Tok} {D : Addr} {nl : Nat} (hc : Rgb c r g b) (hm : (D, W.listOf #[.int r t1, .int g t2, .int b t3] nl) ∈ news)
    (h : ∀ v t h' tk', v = c → Fr h₀ L h' m → News h₀ L h' news → Q (.int v t) { s with heap := h', toks := tk' })
    (S : Site w p loose mean mg mb dp un 2 cs outer A₀ base h₀ L s.heap m news) :
    wpAny (model prog w) (ktrTop dp un gd cn cs L a ccd cl outer) (call (.ref 77) [.int 2 tk, .ref D]) Q E s := by
  obtain ⟨h0, h1, h2, h3⟩ := hc
  have e : pcolV 2 [r, g, b] = some c := by
    unfold pcolV
    rw [if_neg (by omega), if_pos ⟨rfl, Nat.le_refl _, by show r ≤ 255; omega, by show g ≤ 255; omega, by show b ≤ 255; omega⟩]
    exact congrArg some (by show 16777216 + (65536 * r + 256 * g + b) = c; omega)
  refine pcol_c (vs := [.int r t1, .int g t2, .int b t3]) (os := [some r, some g, some b]) ⟨by decide, by decide⟩ (.cons (some r) t1 (.cons (some g) t2 (.cons (some b) t3 .nil))) (show 3 ≤ 4 by decide) (fun o ho => ?_) hm (fun t h' tk' F N => ?_) S
  · rcases List.mem_cons.mp ho with rfl | ho
    · exact ⟨h1.1, by show r ≤ 256; omega⟩
    · rcases List.mem_cons.mp ho with rfl | ho
      · exact ⟨h2.1, by show g ≤ 256; omega⟩
      · rw [List.mem_singleton.mp ho]; exact ⟨h3.1, by show b ≤ 256; omega⟩
  · rw [show pcolV 2 ([some r, some g, some b].map fun o => o.getD 0) = some c from e]; exact h c t h' tk' rfl F N

theorem set79 : True := by
  k_with_none
  w_top off
  k_with "my site" => ((refine' Site.mk ?s1v1 ?s2v1 ?s3v1 ?s4v1 ?s5v1 ?s6v1 ?s7v1 ?s8v1; (case s1v1 => first | k_asm | fail "site: below"); (case s2v1 => first | k_asm | fail "site: frame"); (case s3v1 => first | k_asm | fail "site: part"); (case s4v1 => first | k_asm | fail "site: ledger"); (case s5v1 => first | k_asm | fail "site: top"); (case s6v1 => first | exact rfl | assumption | fail "site: kind"); (case s7v1 => first | exact room_ok (by assumption) (by decide) | (walk_say "ROOM"; ktr_room) | fail "site: room"); (case s8v1 => first | exact units_ok (by assumption) (by decide) | (walk_say "UNITS"; ktr_units) | fail "site: units")))
  k_with "my enter" => ((refine wpAny_call ?_; k_dflt (refine' code_defG ?k1v2 ?k2v2 ?k3v2 ?k4v2 ?k5v2 ?kAv2 ?kFv2 ?kKv2 ?k6v2 ?k7v2 ?k8v2 ?k9wv2 ?kBv2 ?_ ?c2v2 ?c3v2 ?c4v2 ?c5v2; (case kAv2 => exact rfl); (case kFv2 => exact rfl); (case kKv2 => assumption); (case k1v2 => k_asm); (case k2v2 => k_asm); (case k3v2 => k_asm); (case k4v2 => k_asm); (case k5v2 => k_asm); (case k6v2 => k_is); (case k7v2 => k_is); (case k8v2 => ktr_room); (case k9wv2 => exact BindsTo.of_eq rfl); (case c5v2 => decide); (case kBv2 => exact locs rfl); (case c2v2 => exact rfl); (case c3v2 => exact rfl); (case c4v2 => exact rfl); k_whole)))
  k_with "call ref" => ((k_here; (try dsimp only [List.nil_append, List.append_nil]); refine wpAny_call ?_; k_dflt (refine' code_def ?k1v3 ?k2v3 ?k3v3 ?k4v3 ?k5v3 ?kAv3 ?kFv3 ?kKv3 ?k6v3 ?k7v3 ?k8v3 ?k9wv3 ?kBv3 ?_ ?c2v3 ?c3v3 ?c4v3 ?c5v3; (case kAv3 => exact rfl); (case kFv3 => exact rfl); (case kKv3 => first | exact rfl | assumption); (case k1v3 => k_asm); (case k2v3 => k_asm); (case k3v3 => k_asm); (case k4v3 => k_asm); (case k5v3 => k_asm); (case k6v3 => k_is); (case k7v3 => k_is); (case k8v3 => ktr_room); (case k9wv3 => exact BindsTo.of_eq rfl); (case c5v3 => decide); (case kBv3 => exact locs rfl); (case c2v3 => exact rfl); (case c3v3 => exact rfl); (case c4v3 => exact rfl); k_whole; intro g' L' h' FG' F' N' B' X' T'; (try dsimp only); (try k_lift B'); (try k_fold))))
  k_with "my off" => (((rename (_ ≠ _ ∧ _ ≠ _ ∧ _ ≠ _) ∧ _ => off9w); (simp only [ne_eq] at off9w); (simp only [LCg.Off3, and_true, ne_eq, off9w, not_false_eq_true, and_self, true_and]); (first | done | ((repeat' (refine And.intro ?_ ?_)); all_goals exact neN (by walk_at "my ne")))))
  k_with "ite" => ((k_here; first
      | (refine' ite_posI ?hcv5 ?_; (case hcv5 => k_dflt (exact of_decide_eq_true (by exact rfl))))
      | (refine' ite_negI ?hcv5 ?_; (case hcv5 => k_dflt (exact of_decide_eq_false (by exact rfl))))))
  k_with "my fact" => (first | (with_reducible assumption) | (simp only [ne_eq, not_false_eq_true, *]; done))
  k_with "my ne" => (first | (walk_at "my fact") | exact Ne.symm (by walk_at "my fact") | exact Nat.ne_of_lt (by walk_at "my fact") | exact Nat.ne_of_gt (by walk_at "my fact") | exact Nat.ne_of_lt (Nat.lt_succ_of_lt (by walk_at "my fact")) | exact Nat.ne_of_gt (Nat.lt_succ_of_lt (by walk_at "my fact")) | (walk_say "NE by omega"; omega))
  k_with "my side" => ((with_reducible ((repeat' (refine And.intro ?_ ?_)) <;> first | exact trivial | assumption | (walk_at "my arith"))))
  k_with "my arith" => (first
        | ((show IntMulOk _ _); first | exact PySem.IntMulOk.of_right (PySem.intBits_le_64 (by decide) (by decide)) | exact PySem.IntMulOk.of_left (PySem.intBits_le_64 (by decide) (by decide)) | exact PySem.IntMulOk.of_right (PySem.intBits_le_64 (by omega) (by omega)) | exact PySem.IntMulOk.of_left (PySem.intBits_le_64 (by omega) (by omega)) | mul_fits)
        | ((show Builtin.divisionGoesByPylong _ _ = false); first | exact PyProof.noPylong_of_log2 (by decide +kernel) | exact PyProof.noPylong_small (by omega))
        | omega
        | decide)
  k_with "my no" => (first | with_reducible exact False.elim p9w | with_reducible exact absurd trivial p9w | with_reducible exact absurd rfl p9w | (law_purse 20000 => omega))
  k_with "execs cons" => ((k_here; (first
        | ((with_reducible show wpAny _ _ (execs (Stmt.Return (some _) _ :: _) _) _ _ _); (fail_if_success (with_reducible show wpAny _ _ (execs (Stmt.Return (some (Expr.Tuple _ _ _)) _ :: _) _) _ _ _)); (fail_if_success (with_reducible show wpAny _ _ (execs (Stmt.Return (some (Expr.List _ _)) _ :: _) _) _ _ _)); (fail_if_success (with_reducible show wpAny _ _ (execs (Stmt.Return (some (Expr.Dict _ _ _)) _ :: _) _) _ _ _)); k_dflt ((with_reducible refine' st_retE ?hev11 ?Fv11 ?Xv11 ?Tv11 (fun t => ?ev11) ?hkv11 ?hcv11 (fun t9w tk9w => ?_))); (case hev11 => k_dflt (exact rfl)); (case Fv11 => k_asm); (case Xv11 => k_asm); (case Tv11 => k_asm); (case ev11 => k_dflt (exact rfl)); (case hkv11 => k_dflt (exact rfl)); (case hcv11 => walk_at "my side"); (try dsimp only))
        | ((with_reducible show wpAny _ _ (execs (Stmt.If _ _ [] _ :: _) _) _ _ _); k_dflt ((with_reducible refine' st_if0E ?hev11 ?Fv11 ?Xv11 ?Tv11 ?ev11 ?hkv11 ?hcv11 (fun p9w tk9w => ?_) (fun p9w tk9w => ?_))); (case hev11 => k_dflt (exact rfl)); (case Fv11 => k_asm); (case Xv11 => k_asm); (case Tv11 => k_asm); (case ev11 => k_dflt (exact rfl)); (case hkv11 => k_dflt (exact rfl)); (case hcv11 => walk_at "my side"); all_goals first | (exfalso; walk_at "my no") | (try dsimp only))
        | ((with_reducible show wpAny _ _ (execs (Stmt.If _ _ (_ :: _) _ :: _) _) _ _ _); k_dflt ((with_reducible refine' st_ifE ?hev11 ?Fv11 ?Xv11 ?Tv11 ?ev11 ?hkv11 ?hcv11 (fun p9w tk9w => ?_) (fun p9w tk9w => ?_))); (case hev11 => k_dflt (exact rfl)); (case Fv11 => k_asm); (case Xv11 => k_asm); (case Tv11 => k_asm); (case ev11 => k_dflt (exact rfl)); (case hkv11 => k_dflt (exact rfl)); (case hcv11 => walk_at "my side"); all_goals first | (exfalso; walk_at "my no") | (try dsimp only))
        | ((with_reducible show wpAny _ _ (execs (Stmt.Assign [Expr.Name _ _] _ _ :: _) _) _ _ _); k_dflt ((with_reducible refine' st_assignE ?hev11 ?Fv11 ?Nv11 ?Xv11 ?Tv11 (fun t => ?ev11) ?hkv11 ?hxv11 ?hsv11 ?hcv11 (fun t9w tk9w h9w => ?_))); (case hev11 => k_dflt (exact rfl)); (case Fv11 => k_asm); (case Nv11 => k_asm); (case Xv11 => k_asm); (case Tv11 => k_asm); (case ev11 => k_dflt (exact rfl)); (case hkv11 => k_dflt (exact rfl)); (case hxv11 => k_dflt (exact rfl)); (case hsv11 => k_dflt (exact rfl)); (case hcv11 => walk_at "my side"); intro m9w F9w N9w; (try k_sweep); (try dsimp only)))))
  k_with "eval BinOp" => ((k_here; k_dflt ((with_reducible refine' ev_peE ?hev12 ?Fv12 ?Xv12 ?Tv12 (fun t => ?ev12) ?hkv12 ?hcv12 (fun t9w tk9w => ?_)); (case hev12 => k_dflt (exact rfl)); (case Fv12 => k_asm); (case Xv12 => k_asm); (case Tv12 => k_asm); (case ev12 => k_dflt (exact rfl)); (case hkv12 => k_dflt (exact rfl)); (case hcv12 => walk_at "my side")); (try dsimp only)))
  k_with "eval IfExp" => ((k_here; k_dflt ((with_reducible refine' ev_ifE ?hev13 ?Fv13 ?Xv13 ?Tv13 ?ev13 ?hkv13 ?hcv13 (fun p9w tk9w => ?_) (fun p9w tk9w => ?_)); (case hev13 => k_dflt (exact rfl)); (case Fv13 => k_asm); (case Xv13 => k_asm); (case Tv13 => k_asm); (case ev13 => k_dflt (exact rfl)); (case hkv13 => k_dflt (exact rfl)); (case hcv13 => walk_at "my side"); all_goals first | (exfalso; walk_at "my no") | (try dsimp only))))
  k_with "eval Call" => ((k_here; (with_reducible show wpAny _ _ (eval (Expr.Call (Expr.Name _ _) (_ :: _) [] _) _) _ _ _); k_dflt ((with_reducible refine' ev_callE ?hev14 ?Fv14 ?Xv14 ?Tv14 ?efv14 ?hfv14 (fun t => ?eav14) ?hkv14 ?hcv14 (fun t9w tk9w => ?_)); (case hev14 => k_dflt (exact rfl)); (case Fv14 => k_asm); (case Xv14 => k_asm); (case Tv14 => k_asm); (case efv14 => k_dflt (exact rfl)); (case hfv14 => k_dflt (exact rfl)); (case eav14 => k_dflt (exact rfl)); (case hkv14 => k_dflt (exact rfl)); (case hcv14 => walk_at "my side"))))
  k_with "my nm" => ((k_dflt (refine' nm_ok ?Fv15 ?Xv15 ?Tv15 ?hkv15); (case Fv15 => k_asm); (case Xv15 => k_asm); (case Tv15 => k_asm); (case hkv15 => k_dflt (exact rfl))))
  k_with "spliced" => ((k_here; (with_reducible show wpAny _ _ (spliced (backTo _ (starEach (_ :: _) _))) _ _ _); (fail_if_success (with_reducible show wpAny _ _ (spliced (backTo _ (starEach (_ :: _ :: _ :: _ :: _ :: _ :: _ :: _) _))) _ _ _)); k_dflt ((with_reducible refine' xe_all ?hnv16 (fun tk => ?ev16) ?hcv16 (fun tk9w k9w => ?_))); (case hnv16 => walk_at "my nm"); (case ev16 => k_dflt (exact rfl)); (case hcv16 => walk_at "my side"); (try dsimp only [List.cons_append, List.nil_append])))
  k_with "storeName" => ((k_here; k_dflt ((with_reducible refine' st_storeE ?hev17 ?Fv17 ?Nv17 (fun tk9w h9w => ?_) ?hkv17 ?hxv17)); (case hev17 => k_dflt (exact rfl)); (case Fv17 => k_asm); (case Nv17 => k_asm); (case hkv17 => k_dflt (exact rfl)); (case hxv17 => k_dflt (exact rfl)); intro m9w F9w N9w; (try k_sweep); (try dsimp only)))
  k_with "call ref" => ((k_here; k_dflt (refine' hexv_c ?kSv18 (fun hv9w h9w tk9w F9w N9w => ?_) (fun v9w t9w hv9w h9w tk9w F9w N9w => ?_); (case kSv18 => walk_at "my site")); all_goals ((try dsimp only); (try k_fold))))
  k_with "call ref" => ((k_here; k_dflt (refine' figs_c ?kbv21 ?klv21 ?kSv21 (fun hv9w h9w tk9w F9w N9w => ?_) (fun v9w t9w hv9w h9w tk9w F9w N9w => ?_); (case kbv21 => kba_ints2); (case klv21 => kba_size); (case kSv21 => walk_at "my site")); all_goals ((try dsimp only); (try k_fold))))
  k_with "pyIter ref" => (((with_reducible show wpAny _ _ (pyIter (Value.ref _)) (fun it s₂ => LoopAtV _ _ _ _ _ _ _ _ _ it s₂) _ _); (rename Fr _ _ _ _ => lF'); (rename News _ _ _ _ => lN'); (with_unfolding_all refine iter_tupleUnr (by rfl) lF' lN' (by k_mem) ?_); clear lF' lN'; intro i' l1; (try k_lt l1)))
  k_with "TupRest" => ((with_unfolding_all first | (refine TupRest.succ (fun it' h' tk' hit' F' N' => ?_)) | (refine TupRest.zero (fun h' tk' F' N' => ?_))))
  k_with "getMethod bytes" => ((k_here; (with_reducible refine method_join ?_)))
  k_with "getMethod bytes" => ((k_here; (with_reducible refine method_split ?_)))
  k_with "my ints" => (first | kba_ints | exact (rfl : KBw.bInts _ = ([47] : List Int)) | exact (rfl : KBw.bInts _ = ([] : List Int)) | kba_ints2)
  k_with "my list" => (first | exact News.isList (by k_asm) (by k_mem) | is_list)
  k_with "call builtin:bytes.join" => ((k_here; k_dflt (first
      | (refine' join3 ?lv28 ?hsv28 ?h1v28 ?h2v28 ?h3v28 ?hzv28 ?_; (case lv28 => walk_at "my list"); (case hsv28 => walk_at "my ints"); (case h1v28 => walk_at "my ints"); (case h2v28 => walk_at "my ints"); (case h3v28 => walk_at "my ints"); (case hzv28 => kba_size))); intro B9w t9w k9w hB9w; (try simp only [List.nil_append, List.cons_append, List.append_assoc] at hB9w)))
  k_with "call ref" => ((k_here; k_dflt (refine' rgb_c ?h1v29 ?h2v29 ?h3v29 ?h4v29 ?h5v29 (fun D9w t9w u9w v9w h9w tk9w o9w F9w N9w => ?_) ?kSv29; (case h1v29 => assumption); (case h2v29 => first | assumption | decide | omega); (case h3v29 => first | assumption | omega); (case h4v29 => first | assumption | omega); (case h5v29 => first | assumption | omega); (case kSv29 => walk_at "my site")); (try simp only [LCg.Off1, and_true] at o9w); (try dsimp only); (try k_fold)))
  k_with "call builtin:bytes.split" => ((k_here; k_dflt (refine' split_call ?h1v30 ?h2v30 ?h3v30 ?h4v30 (fun D9w b1 b2 b3 t1 t2 t3 k1 k2 k3 h9w tk9w hsg e1 e2 e3 z1 z2 z3 F9w N9w l9w => ?_) (fun D9w vs9w h9w tk9w hsg e1 z1 F9w N9w l9w => ?_); (case h1v30 => k_asm); (case h2v30 => k_asm); (case h3v30 => walk_at "my ints"); (case h4v30 => kba_size)); all_goals ((try k_lt l9w); (try simp only [List.length_take, List.length_drop] at z1 z2 z3))))
  k_with "subscriptTail" => ((k_here; (with_reducible show wpAny _ _ (subscriptTail _ _ (Value.bytes _ _) (Value.int _ _)) _ _ _); (first
      | (refine' figs_item (nib_hi ?h1v31 ?h2v31 ?h3v31) ?h4v31 ?h5v31 (fun t9w k9w => ?_); (case h1v31 => assumption); (case h2v31 => omega); (case h3v31 => omega); (case h4v31 => omega); (case h5v31 => omega))
      | (refine' figs_item (nib_lo ?h1v31 ?h2v31 ?h3v31) ?h4v31 ?h5v31 (fun t9w k9w => ?_); (case h1v31 => assumption); (case h2v31 => omega); (case h3v31 => omega); (case h4v31 => omega); (case h5v31 => omega)))))
  k_with "call ref" => ((k_here; k_dflt (refine' figs_cb ?kbv36 ?klv36 ?kSv36 (fun hv9w h9w tk9w F9w N9w => ?_) (fun v9w t9w hv9w lo9w hi9w h9w tk9w F9w N9w => ?_); (case kbv36 => kba_ints2); (case klv36 => kba_size); (case kSv36 => walk_at "my site")); all_goals ((try dsimp only); (try k_fold))))
  k_with "Exists" => ((k_here; (refine made_bytes (by k_asm) (by first | k_asm | exact News.nil) (Top.nolimit (by k_asm)) (by rfl) (of_decide_eq_true (by rfl)) ?_; intro h' o' F' N' l1 lo' hd'; (try k_lt l1))))
  k_with "eval Dict" => ((k_here; (with_reducible refine Dict_made_bytes (by with_unfolding_all rfl) (by with_unfolding_all assumption) (by with_unfolding_all rfl) (by with_unfolding_all rfl) (List.cons_ne_nil _ _) (by with_unfolding_all decide) ?_; intro _)))
  k_with "my enterC" => ((refine wpAny_call ?_; k_dflt (refine' code_defCG ?k1v44 ?k2v44 ?k3v44 ?k4v44 ?k5v44 ?kAv44 ?kFv44 ?kKv44 ?k6v44 ?k7v44 ?k8v44 ?k9wv44 ?kBv44 ?kDv44 ?_ ?c2v44 ?c3v44 ?c4v44; (case kAv44 => exact rfl); (case kFv44 => exact rfl); (case kKv44 => assumption); (case k1v44 => k_asm); (case k2v44 => k_asm); (case k3v44 => k_asm); (case k4v44 => k_asm); (case k5v44 => k_asm); (case k6v44 => k_is); (case k7v44 => k_is); (case k8v44 => ktr_room); (case k9wv44 => exact BindsTo.of_eq rfl); (case kBv44 => exact rfl); (case kDv44 => decide +kernel); (case c2v44 => exact rfl); (case c3v44 => exact rfl); (case c4v44 => exact rfl); k_whole)))
  k_with "my pull" => (first | exact Pull.head | (refine' Pull.tail ?ptlv49; (case ptlv49 => walk_at "my pull")))
  k_with "my off" => (((try simp only [LCg.Off1, and_true]); (repeat' (refine And.intro ?_ ?_)); all_goals first | exact trivial | (walk_at "my ne")))
  k_with "my pow" => (first | omega | exact pow16_pos _ | exact pow16_le (by omega) | decide)
  k_with "call ref" => ((k_here; k_dflt (refine' draw_c ?P1v52 ?P2v52 ?hIv52 ?h1v52 ?h2v52 ?h3v52 ?h4v52 ?h5v52 ?h6v52 ?h7v52 (fun k9w v9w t9w u9w h9w tk9w hk9w lo9w hi9w dv9w F9w N9w => ?_) ?kSv52; (case kSv52 => walk_at "my site"); (case P1v52 => walk_at "my pull"); (case P2v52 => walk_at "my pull"); (case hIv52 => l_ints); (case h1v52 => first | assumption | omega); (case h2v52 => omega); (case h3v52 => omega); (case h4v52 => walk_at "my pow"); (case h5v52 => walk_at "my pow"); (case h6v52 => omega); (case h7v52 => walk_at "my off")); (try dsimp only); (try k_fold)))
  k_with "call ref" => ((k_here; k_dflt (refine' small_c ?kbv61 ?klv61 (fun B9w t9w h9w tk9w hB9w F9w N9w => ?_) ?kSv61; (case kSv61 => walk_at "my site"); (case kbv61 => walk_at "my ints"); (case klv61 => first | assumption | kba_size)); (try dsimp only); (try k_fold)))
  k_with "call ref" => ((k_here; k_dflt (refine' digs_c ?kbv62 ?klv62 (fun hv9w h9w tk9w F9w N9w => ?_) (fun v9w t9w hv9w h9w tk9w F9w N9w => ?_) ?kSv62; (case kSv62 => walk_at "my site"); (case kbv62 => walk_at "my ints"); (case klv62 => first | assumption | kba_size)); all_goals ((try dsimp only); (try k_fold))))
  k_with "call ref" => ((k_here; k_dflt (refine' parts_c ?kb1v63 ?kb2v63 ?kb3v63 ?kl1v63 ?kl2v63 ?kl3v63 ?kDv63 (fun hv9w h9w tk9w F9w N9w => ?_) (fun v9w t9w hv9w h9w tk9w F9w N9w => ?_) ?kSv63; (case kSv63 => walk_at "my site"); (case kDv63 => k_mem); (case kb1v63 => assumption); (case kb2v63 => assumption); (case kb3v63 => assumption); (case kl1v63 => first | assumption | omega); (case kl2v63 => first | assumption | omega); (case kl3v63 => first | assumption | omega)); all_goals ((try dsimp only); (try k_fold))))
  k_with "call ref" => ((k_here; k_dflt (refine' names_c (fun D9w o9w kvs9w h9w tk9w off9w lo9w hd9w ht9w F9w N9w => ?_) ?kSv64; (case kSv64 => walk_at "my site")); (try simp only [LCg.Off1, and_true] at off9w); (try dsimp only); (try k_fold)))
  k_with "call ref" => ((k_here; k_dflt (refine' lnames_c (fun D9w o9w kvs9w h9w tk9w off9w lo9w hd9w ht9w F9w N9w => ?_) ?kSv65; (case kSv65 => walk_at "my site")); (try simp only [LCg.Off1, and_true] at off9w); (try dsimp only); (try k_fold)))
  k_with "getMethod ref" => ((k_here; kda_here; (with_reducible show wpAny _ _ (getMethod (Value.ref _) (Str.ofString "get") _) _ _ _); k_dflt (refine kdg_method (knd := bytesKind _ _) (by k_asm) (by k_mem) (by k_asm) ?_)))
  k_with "call builtin:dict.get" => ((k_here; kda_here; k_dflt (refine' get_names ?n1v67 ?n2v67 ?n3v67 ?n4v67 ?n5v67 ?n6v67 (fun hv9w t9w => ?_) (fun v9w t9w k9w hv9w => ?_); (case n1v67 => k_asm); (case n2v67 => k_mem); (case n3v67 => k_asm); (case n4v67 => k_asm); (case n5v67 => assumption); (case n6v67 => walk_at "my ints")); all_goals (try dsimp only)))
  k_with "call builtin:len" => ((k_here; (with_reducible show wpAny _ _ (call (Value.builtin "len") [Value.ref _]) _ _ _); k_dflt (refine' len_gen ?n1v68 ?n2v68 ?n3v68 (fun t9w k9w => ?_); (case n1v68 => k_asm); (case n2v68 => k_mem); (case n3v68 => assumption))))
  k_with "call ref" => ((k_here; k_dflt (refine' dircol_c ?h1v113 ?h2v113 ?h3v113 (fun v9w t9w h9w tk9w hv9w F9w N9w => ?_) ?kSv113; (case kSv113 => walk_at "my site"); (case h1v113 => walk_at "my byte"); (case h2v113 => walk_at "my byte"); (case h3v113 => walk_at "my byte")); (try dsimp only); (try k_fold)))
  k_with "my byte" => (first | omega | ((simp only [List.getD_cons_zero, List.getD_cons_succ, Int.toNat_zero, Int.toNat_one, Int.reduceToNat]); omega))
  k_with "call ref" => ((k_here; (with_reducible show wpAny _ _ (call (Value.ref 29) _) _ _ _); k_dflt (refine' penw_c ?hpv129 ?hTv129 (fun e9w R9w h9w tk9w o9w F9w N9w => ?_) (fun e9w R9w h9w tk9w o9w F9w N9w => ?_) (fun e9w R9w h9w tk9w o9w F9w N9w => ?_) ?kSv129; (case kSv129 => walk_at "my site"); (case hpv129 => omega); (case hTv129 => k_mem)); all_goals (try (exfalso; omega)); all_goals ((try simp only [LCg.Off1, and_true] at o9w); (try dsimp only); (try k_fold))))
  k_with "call ref" => ((k_here; (with_reducible show wpAny _ _ (call (Value.ref 72) _) _ _ _); k_dflt (refine' plain_c ?hpv132 ?hnv132 ?hTv132 (fun e9w x9w t9w R9w h9w tk9w hx9w o9w F9w N9w => ?_) (fun e9w x9w t9w R9w h9w tk9w hx9w o9w F9w N9w => ?_) (fun e9w x9w t9w R9w h9w tk9w hx9w o9w F9w N9w => ?_) ?kSv132; (case kSv132 => walk_at "my site"); (case hpv132 => assumption); (case hnv132 => assumption); (case hTv132 => k_mem)); all_goals ((try simp only [LCg.Off1, and_true] at o9w); (try dsimp only); (try k_fold))))
  k_with "call ref" => ((k_here; (with_reducible show wpAny _ _ (call (Value.ref 77) _) _ _ _); k_dflt (first
      | (refine' pcol_i1 ?hcv133 ?hmv133 (fun v9w t9w h9w tk9w hv9w F9w N9w => ?_) ?kSv133; (case kSv133 => walk_at "my site"); (case hmv133 => k_mem); (case hcv133 => assumption))
      | (refine' pcol_i3 ?hcv133 ?hmv133 (fun v9w t9w h9w tk9w hv9w F9w N9w => ?_) ?kSv133; (case kSv133 => walk_at "my site"); (case hmv133 => k_mem); (case hcv133 => assumption))); (try dsimp only); (try k_fold)))
  k_with "eval Dict" => ((k_here; (with_reducible refine Dict_made_names (by with_unfolding_all rfl) (by with_unfolding_all assumption) (by with_unfolding_all rfl) (by with_unfolding_all rfl) (List.cons_ne_nil _ _) (by with_unfolding_all decide) ?_; intro _)))
  k_with "subscriptTail" => ((k_here; (with_reducible show wpAny _ _ (subscriptTail _ _ (Value.ref _) (Value.int _ _)) _ _ _); k_dflt (first
      | (refine' tab_lin (c := 20) (by exact rfl) (TabAt.ofNews ?nv120 ?mv120 ?lov120 ?hdv120 ?hfv120) ?hiv120 ?e1v120 ?e2v120 ?e3v120 (fun v9w t9w k9w hv9w => ?_); (case nv120 => k_asm); (case mv120 => k_mem); (case hdv120 => assumption); (case lov120 => assumption); (case hfv120 => assumption); (case hiv120 => first | assumption | omega); (case e1v120 => with_unfolding_all rfl); (case e2v120 => with_unfolding_all rfl); (case e3v120 => with_unfolding_all rfl))
      | (refine' tab_lin (c := 28) (by exact rfl) (TabAt.ofNews ?nv120 ?mv120 ?lov120 ?hdv120 ?hfv120) ?hiv120 ?e1v120 ?e2v120 ?e3v120 (fun v9w t9w k9w hv9w => ?_); (case nv120 => k_asm); (case mv120 => k_mem); (case hdv120 => assumption); (case lov120 => assumption); (case hfv120 => assumption); (case hiv120 => first | assumption | omega); (case e1v120 => with_unfolding_all rfl); (case e2v120 => with_unfolding_all rfl); (case e3v120 => with_unfolding_all rfl))
      | (refine' tab_lin (c := 29) (by exact rfl) (TabAt.ofNews ?nv120 ?mv120 ?lov120 ?hdv120 ?hfv120) ?hiv120 ?e1v120 ?e2v120 ?e3v120 (fun v9w t9w k9w hv9w => ?_); (case nv120 => k_asm); (case mv120 => k_mem); (case hdv120 => assumption); (case lov120 => assumption); (case hfv120 => assumption); (case hiv120 => first | assumption | omega); (case e1v120 => with_unfolding_all rfl); (case e2v120 => with_unfolding_all rfl); (case e3v120 => with_unfolding_all rfl)))))
  k_with "call ref" => ((k_here; (with_reducible show wpAny _ _ (call (Value.ref 50) _) _ _ _); (rename _ → Rgb _ _ _ _ => hr9w); k_dflt (refine' rgb_c (hr9w ?h0v121).1 ⟨by decide, by decide⟩ (hr9w ?h0v121).2.1 (hr9w ?h0v121).2.2.1 (hr9w ?h0v121).2.2.2 (fun D9w t9w u9w v9w h9w tk9w o9w F9w N9w => ?_) ?kSv121; (case h0v121 => omega); (case kSv121 => walk_at "my site")); (try simp only [LCg.Off1, and_true] at o9w); (try dsimp only); (try k_fold)))
  k_with "subscriptTail Name Slice ref ref" => ((k_here; (with_reducible show wpAny _ _ (subscriptTail _ (Expr.Slice _ _ none _) (Value.ref _) (Value.ref _)) _ _ _); k_dflt (refine' tup_cut ?Fv122 ?Nv122 ?tv122 ?pv122 ?qv122 ?av122 ?bv122 ?cv122 ?zv122 ?_ ?sv122 ?gv122; (case Fv122 => k_asm); (case Nv122 => k_asm); (case tv122 => exact News.isTup (by k_asm) (by k_mem)); (case pv122 => first | exact IsPart.none | exact IsPart.int _ _); (case qv122 => first | exact IsPart.none | exact IsPart.int _ _); (case av122 => exact rfl); (case bv122 => exact of_decide_eq_true (by rfl)); (case cv122 => exact of_decide_eq_true (by rfl)); (case zv122 => exact rfl); (case sv122 => with_unfolding_all rfl); (case gv122 => intro _; with_unfolding_all rfl)); intro D' h' F' N' l1; (try k_lt l1)))
  k_with "compareOp In int ref" => ((k_here; k_dflt (first
      | (refine' in_no (TabAt.ofNews ?nv123 ?mv123 ?lov123 ?hdv123 ?hfv123) ?hiv123 ?_; (case nv123 => k_asm); (case mv123 => k_mem); (case hdv123 => assumption); (case lov123 => assumption); (case hfv123 => assumption); (case hiv123 => first | assumption | omega))
      | (refine' in_yes (TabAt.ofNews ?nv123 ?mv123 ?lov123 ?hdv123 ?hfv123) ?hpv123 ?hiv123 ?e1v123 ?e2v123 ?e3v123 ?_; (case nv123 => k_asm); (case mv123 => k_mem); (case hdv123 => assumption); (case lov123 => assumption); (case hfv123 => assumption); (case hpv123 => assumption); (case hiv123 => omega); (case e1v123 => rfl); (case e2v123 => rfl); (case e3v123 => rfl)))))
  k_with "subscriptTail" => ((k_here; (with_reducible show wpAny _ _ (subscriptTail _ _ (Value.ref _) (Value.int _ _)) _ _ _); k_dflt (refine' places_item (by exact rfl) (TabAt.ofNews ?nv124 ?mv124 ?lov124 ?hdv124 ?hfv124) ?hpv124 ?hiv124 ?e1v124 ?e2v124 ?e3v124 (fun t9w k9w => ?_); (case nv124 => k_asm); (case mv124 => k_mem); (case hdv124 => assumption); (case lov124 => assumption); (case hfv124 => assumption); (case hpv124 => assumption); (case hiv124 => omega); (case e1v124 => rfl); (case e2v124 => rfl); (case e3v124 => rfl))))
  k_with "my notin" => (((repeat (refine notin_cons (by walk_at "my ne") ?_)); exact notin_nil))
  k_with "my led" => (((repeat (refine led_cons (by k_mem) ?_)); exact led_nil))
  k_with "subscriptTail" => ((k_here; (with_reducible show wpAny _ _ (subscriptTail _ _ (Value.ref _) (Value.int _ _)) _ _ _); k_dflt (refine' lst_item ?nv127 ?mv127 ?av127 ?bv127 ?cv127 ?_; (case nv127 => k_asm); (case mv127 => k_mem); (case av127 => decide); (case bv127 => decide); (case cv127 => exact rfl))))
  k_with "subscriptTail Name Constant ref int" => ((k_here; (with_reducible show wpAny _ _ (subscriptTail _ _ (Value.ref _) (Value.int _ _)) _ _ _); k_dflt (refine' lst_item ?nv128 ?mv128 ?av128 ?bv128 ?cv128 ?_; (case nv128 => k_asm); (case mv128 => k_mem); (case av128 => decide); (case bv128 => decide); (case cv128 => exact rfl))))
  exact trivial
theorem apply_3 {prog : Program} {w : World} {p : Program} {loose : List Str} {mean : ExcName → Option Value} {mg mb : Str → Option Value} {dp un : Nat} {gd : Option (List Code)} {cn : Str} {cs : Scope} {a : Addr} {ccd : Value} {cl : List (Str × Addr)} {outer : List Env} {A₀ : Around} {base h₀ : Heap} {L : Addr} {m : Str → Option Value} {s : Shared} {Q E : Value → Shared → Prop} {news : List (Addr × Obj)}
    {pl c w0 w1 w2 w3 w4 : Int} {u0 u1 u2 u3 u4 : Tok} {T D : Addr} (hp : 1 ≤ pl ∧ pl ≤ 3) {n : Int} (hn : n = 10 * pl + 28) (hc : 0 ≤ c ∧ c < 256) {l1 l2 l3 : Addr} {t1 t2 t3 : Tok} (hD : (D, W.listOf #[.ref l1, .ref l2, .ref l3] 0) ∈ news) (hl1 : (l1, lst1 (.int n t1) 0) ∈ news) (hl2 : (l2, lst1 (.int 5 t2) 0) ∈ news) (hl3 : (l3, lst1 (.int c t3) 0) ∈ news) (hl1l2 : @LT.lt Nat _ l1 l2) (hl2l3 : @LT.lt Nat _ l2 l3) (hl3D : @LT.lt Nat _ l3 D) (hDT : @LT.lt Nat _ D T)
    (hT : (T, tupOf #[.int w0 u0, .int w1 u1, .int w2 u2, .int w3 u3, .int w4 u4]) ∈ news)
    (hS1 : pl = 1 → ∀ (x : Int) (t : Tok) (R : Addr) (h' : Heap) (tk' : Nat), x = c → LCg.Off1 R news → Fr h₀ L h' m → News h₀ L h' ((R, tupOf #[.int w0 u0, .int x t, .int w2 u2, .int w3 u3, .int w4 u4]) :: news) → Q (.ref R) { s with heap := h', toks := tk' })
    (hS2 : pl = 2 → ∀ (x : Int) (t : Tok) (R : Addr) (h' : Heap) (tk' : Nat), x = c → LCg.Off1 R news → Fr h₀ L h' m → News h₀ L h' ((R, tupOf #[.int w0 u0, .int w1 u1, .int x t, .int w3 u3, .int w4 u4]) :: news) → Q (.ref R) { s with heap := h', toks := tk' })
    (hS3 : pl = 3 → ∀ (x : Int) (t : Tok) (R : Addr) (h' : Heap) (tk' : Nat), x = c → LCg.Off1 R news → Fr h₀ L h' m → News h₀ L h' ((R, tupOf #[.int w0 u0, .int w1 u1, .int w2 u2, .int x t, .int w4 u4]) :: news) → Q (.ref R) { s with heap := h', toks := tk' })
    (S : Site w p loose mean mg mb dp un 5 cs outer A₀ base h₀ L s.heap m news) :
    wpAny (model prog w) (ktrTop dp un gd cn cs L a ccd cl outer) (call (.ref 96) [.ref T, .ref D]) Q E s := by
  obtain ⟨B, F, X, N, T₀, hk, hd, hu⟩ := S
  have hsub : ∀ q ∈ [(T, tupOf #[.int w0 u0, .int w1 u1, .int w2 u2, .int w3 u3, .int w4 u4]), (D, W.listOf #[.ref l1, .ref l2, .ref l3] 0), (l1, lst1 (.int n t1) 0), (l2, lst1 (.int 5 t2) 0), (l3, lst1 (.int c t3) 0)], q ∈ news := by
    intro q hq
    simp only [List.mem_cons, List.not_mem_nil, or_false] at hq
    rcases hq with rfl | rfl | rfl | rfl | rfl <;> assumption
  have N0 : News h₀ L s.heap [(T, tupOf #[.int w0 u0, .int w1 u1, .int w2 u2, .int w3 u3, .int w4 u4]), (D, W.listOf #[.ref l1, .ref l2, .ref l3] 0), (l1, lst1 (.int n t1) 0), (l2, lst1 (.int 5 t2) 0), (l3, lst1 (.int c t3) 0)] := News.sub N hsub
  have kN0 : KeptN h₀ L s.heap [(T, tupOf #[.int w0 u0, .int w1 u1, .int w2 u2, .int w3 u3, .int w4 u4]), (D, W.listOf #[.ref l1, .ref l2, .ref l3] 0), (l1, lst1 (.int n t1) 0), (l2, lst1 (.int 5 t2) 0), (l3, lst1 (.int c t3) 0)] := N0
  (walk_at "my enter"; intro g9 L9 h9 FG9 F9 N9 B9 X9 T9 kG9; clear N0; (try dsimp only); (try k_lift B9); (try k_fold); k_steps)
  all_goals ((rename News g9 _ _ _ => N'); (rename Fr g9 _ _ _ => F'); (rename Fr h₀ _ _ _ => kF); (rename News h₀ _ _ _ => kN))
  all_goals first
    | (refine' hS1 ?e0 _ _ _ _ _ ?e1 (off_of kG9 N' ?m0 ?n0 N) kF (News.one kN ?m0 (N.grown (grow_led kG9 kN0 F' N' ?g0))); (case m0 => k_mem); (case n0 => walk_at "my notin"); (case g0 => walk_at "my led"); (case e0 => first | assumption | omega); (case e1 => first | assumption | exact rfl))
    | (refine' hS2 ?e0 _ _ _ _ _ ?e1 (off_of kG9 N' ?m0 ?n0 N) kF (News.one kN ?m0 (N.grown (grow_led kG9 kN0 F' N' ?g0))); (case m0 => k_mem); (case n0 => walk_at "my notin"); (case g0 => walk_at "my led"); (case e0 => first | assumption | omega); (case e1 => first | assumption | exact rfl))
    | (refine' hS3 ?e0 _ _ _ _ _ ?e1 (off_of kG9 N' ?m0 ?n0 N) kF (News.one kN ?m0 (N.grown (grow_led kG9 kN0 F' N' ?g0))); (case m0 => k_mem); (case n0 => walk_at "my notin"); (case g0 => walk_at "my led"); (case e0 => first | assumption | omega); (case e1 => first | assumption | exact rfl))

theorem set80 : True := by
  w_top off
  exact trivial
theorem apply_5 {prog : Program} {w : World} {p : Program} {loose : List Str} {mean : ExcName → Option Value} {mg mb : Str → Option Value} {dp un : Nat} {gd : Option (List Code)} {cn : Str} {cs : Scope} {a : Addr} {ccd : Value} {cl : List (Str × Addr)} {outer : List Env} {A₀ : Around} {base h₀ : Heap} {L : Addr} {m : Str → Option Value} {s : Shared} {Q E : Value → Shared → Prop} {news : List (Addr × Obj)}
    {pl c w0 w1 w2 w3 w4 : Int} {u0 u1 u2 u3 u4 : Tok} {T D : Addr} (hp : 1 ≤ pl ∧ pl ≤ 3) {n r g b : Int} (hn : n = 10 * pl + 28) (hc : Rgb c r g b) {l1 l2 l3 l4 l5 : Addr} {t1 t2 t3 t4 t5 : Tok} (hD : (D, W.listOf #[.ref l1, .ref l2, .ref l3, .ref l4, .ref l5] 0) ∈ news) (hl1 : (l1, lst1 (.int n t1) 0) ∈ news) (hl2 : (l2, lst1 (.int 2 t2) 0) ∈ news) (hl3 : (l3, lst1 (.int r t3) 0) ∈ news) (hl4 : (l4, lst1 (.int g t4) 0) ∈ news) (hl5 : (l5, lst1 (.int b t5) 0) ∈ news) (hl1l2 : @LT.lt Nat _ l1 l2) (hl2l3 : @LT.lt Nat _ l2 l3) (hl3l4 : @LT.lt Nat _ l3 l4) (hl4l5 : @LT.lt Nat _ l4 l5) (hl5D : @LT.lt Nat _ l5 D) (hDT : @LT.lt Nat _ D T)
    (hT : (T, tupOf #[.int w0 u0, .int w1 u1, .int w2 u2, .int w3 u3, .int w4 u4]) ∈ news)
    (hS1 : pl = 1 → ∀ (x : Int) (t : Tok) (R : Addr) (h' : Heap) (tk' : Nat), x = c → LCg.Off1 R news → Fr h₀ L h' m → News h₀ L h' ((R, tupOf #[.int w0 u0, .int x t, .int w2 u2, .int w3 u3, .int w4 u4]) :: news) → Q (.ref R) { s with heap := h', toks := tk' })
    (hS2 : pl = 2 → ∀ (x : Int) (t : Tok) (R : Addr) (h' : Heap) (tk' : Nat), x = c → LCg.Off1 R news → Fr h₀ L h' m → News h₀ L h' ((R, tupOf #[.int w0 u0, .int w1 u1, .int x t, .int w3 u3, .int w4 u4]) :: news) → Q (.ref R) { s with heap := h', toks := tk' })
    (hS3 : pl = 3 → ∀ (x : Int) (t : Tok) (R : Addr) (h' : Heap) (tk' : Nat), x = c → LCg.Off1 R news → Fr h₀ L h' m → News h₀ L h' ((R, tupOf #[.int w0 u0, .int w1 u1, .int w2 u2, .int x t, .int w4 u4]) :: news) → Q (.ref R) { s with heap := h', toks := tk' })
    (S : Site w p loose mean mg mb dp un 5 cs outer A₀ base h₀ L s.heap m news) :
    wpAny (model prog w) (ktrTop dp un gd cn cs L a ccd cl outer) (call (.ref 96) [.ref T, .ref D]) Q E s := by
  obtain ⟨B, F, X, N, T₀, hk, hd, hu⟩ := S
  have hsub : ∀ q ∈ [(T, tupOf #[.int w0 u0, .int w1 u1, .int w2 u2, .int w3 u3, .int w4 u4]), (D, W.listOf #[.ref l1, .ref l2, .ref l3, .ref l4, .ref l5] 0), (l1, lst1 (.int n t1) 0), (l2, lst1 (.int 2 t2) 0), (l3, lst1 (.int r t3) 0), (l4, lst1 (.int g t4) 0), (l5, lst1 (.int b t5) 0)], q ∈ news := by
    intro q hq
    simp only [List.mem_cons, List.not_mem_nil, or_false] at hq
    rcases hq with rfl | rfl | rfl | rfl | rfl | rfl | rfl <;> assumption
  have N0 : News h₀ L s.heap [(T, tupOf #[.int w0 u0, .int w1 u1, .int w2 u2, .int w3 u3, .int w4 u4]), (D, W.listOf #[.ref l1, .ref l2, .ref l3, .ref l4, .ref l5] 0), (l1, lst1 (.int n t1) 0), (l2, lst1 (.int 2 t2) 0), (l3, lst1 (.int r t3) 0), (l4, lst1 (.int g t4) 0), (l5, lst1 (.int b t5) 0)] := News.sub N hsub
  have kN0 : KeptN h₀ L s.heap [(T, tupOf #[.int w0 u0, .int w1 u1, .int w2 u2, .int w3 u3, .int w4 u4]), (D, W.listOf #[.ref l1, .ref l2, .ref l3, .ref l4, .ref l5] 0), (l1, lst1 (.int n t1) 0), (l2, lst1 (.int 2 t2) 0), (l3, lst1 (.int r t3) 0), (l4, lst1 (.int g t4) 0), (l5, lst1 (.int b t5) 0)] := N0
  (walk_at "my enter"; intro g9 L9 h9 FG9 F9 N9 B9 X9 T9 kG9; clear N0; (try dsimp only); (try k_lift B9); (try k_fold); k_steps)
  all_goals ((rename News g9 _ _ _ => N'); (rename Fr g9 _ _ _ => F'); (rename Fr h₀ _ _ _ => kF); (rename News h₀ _ _ _ => kN))
  all_goals first
    | (refine' hS1 ?e0 _ _ _ _ _ ?e1 (off_of kG9 N' ?m0 ?n0 N) kF (News.one kN ?m0 (N.grown (grow_led kG9 kN0 F' N' ?g0))); (case m0 => k_mem); (case n0 => walk_at "my notin"); (case g0 => walk_at "my led"); (case e0 => first | assumption | omega); (case e1 => first | assumption | exact rfl))
    | (refine' hS2 ?e0 _ _ _ _ _ ?e1 (off_of kG9 N' ?m0 ?n0 N) kF (News.one kN ?m0 (N.grown (grow_led kG9 kN0 F' N' ?g0))); (case m0 => k_mem); (case n0 => walk_at "my notin"); (case g0 => walk_at "my led"); (case e0 => first | assumption | omega); (case e1 => first | assumption | exact rfl))
    | (refine' hS3 ?e0 _ _ _ _ _ ?e1 (off_of kG9 N' ?m0 ?n0 N) kF (News.one kN ?m0 (N.grown (grow_led kG9 kN0 F' N' ?g0))); (case m0 => k_mem); (case n0 => walk_at "my notin"); (case g0 => walk_at "my led"); (case e0 => first | assumption | omega); (case e1 => first | assumption | exact rfl))

theorem set80x : True := by
  w_top off
  exact trivial
/-- a colour that the law draws -/
noncomputable def C3 (c : Int) : Prop := c = -1 ∨ (0 ≤ c ∧ c < 256) ∨ (16777216 ≤ c ∧ c < 33554432)
section
variable {prog : Program} {w : World} {A : Around} {E : Value → Shared → Prop} {s : Shared} {value slice : Expr} {k : Int} {u : Tok} {Q : Value → Shared → Prop}
theorem menu_place {t : Addr} {t1 t2 t3 : Tok} (ht : IsTup s.heap t #[.int 1 t1, .int 2 t2, .int 3 t3]) (h0 : 0 ≤ k) (h1 : k < 3) (h : ∀ pl t, 1 ≤ pl ∧ pl ≤ 3 → Q (.int pl t) s)
    (hs : subscripted slice false (.ref t) (.int k u) = operate [.ref t, .int k u] (getItem (.ref t) (.int k u)) := by with_unfolding_all rfl) :
    wpAny (model prog w) A (subscriptTail value slice (.ref t) (.int k u)) Q E s := by
  refine tup_any (l := [.int 1 t1, .int 2 t2, .int 3 t3]) ht h0 (by simpa using h1) (by simp) (fun x hx => ?_) hs
  obtain ⟨n, hn⟩ : ∃ n : Nat, k.toNat = n := ⟨_, rfl⟩
  have hn5 : n < 3 := by omega
  rw [hn] at hx
  have : n = 0 ∨ n = 1 ∨ n = 2 := by omega
  rcases this with rfl | rfl | rfl <;> cases hx <;> exact h _ _ (by decide)
theorem rgb_all {c : Int} (h : C3 c) : ∃ r g b : Int, 16777216 ≤ c → Rgb c r g b := by
  refine ⟨(c - 16777216) / 65536, (c - 16777216) / 256 % 256, c % 256, fun hc => ?_⟩
  have h2 : c < 33554432 := by
    rcases h with h | h | h <;> omega
  refine ⟨?_, ⟨?_, ?_⟩, ⟨?_, ?_⟩, ⟨?_, ?_⟩⟩ <;> omega
theorem menu_colour {t : Addr} {t1 t2 t3 t4 : Tok} {c1 c2 c3 c4 : Int} (ht : IsTup s.heap t #[.int c1 t1, .int c2 t2, .int c3 t3, .int c4 t4]) (h0 : 0 ≤ k) (h1 : k < 4) (e1 : C3 c1) (e2 : C3 c2) (e3 : C3 c3) (e4 : C3 c4)
    (h : ∀ c t r g b, C3 c → (16777216 ≤ c → Rgb c r g b) → Q (.int c t) s)
    (hs : subscripted slice false (.ref t) (.int k u) = operate [.ref t, .int k u] (getItem (.ref t) (.int k u)) := by with_unfolding_all rfl) :
    wpAny (model prog w) A (subscriptTail value slice (.ref t) (.int k u)) Q E s := by
  have h' : ∀ c t, C3 c → Q (.int c t) s := fun c t hc => by
    obtain ⟨r, g, b, hr⟩ := rgb_all hc
    exact h c t r g b hc hr
  refine tup_any (l := [.int c1 t1, .int c2 t2, .int c3 t3, .int c4 t4]) ht h0 (by simpa using h1) (by simp) (fun x hx => ?_) hs
  obtain ⟨n, hn⟩ : ∃ n : Nat, k.toNat = n := ⟨_, rfl⟩
  have hn5 : n < 4 := by omega
  rw [hn] at hx
  have : n = 0 ∨ n = 1 ∨ n = 2 ∨ n = 3 := by omega
  rcases this with rfl | rfl | rfl | rfl <;> cases hx <;> exact h' _ _ (by assumption)
end
theorem C3.low {c : Int} (h : 0 ≤ c) (h' : c < 256) : C3 c := .inr (.inl ⟨h, h'⟩)
theorem C3.none : C3 (-1) := .inl rfl
theorem C3.dir {c : Int} (h : 0 ≤ c) (h' : c < 16777216) : C3 (16777216 + c) := .inr (.inr ⟨by omega, by omega⟩)
theorem one_eq {pl c n n' : Int} (h : One pl c n) (h' : One pl c n') : n' = n := by unfold One at h h'; omega
theorem one_idx {pl c n : Int} (h : One pl c n) (h' : Idx pl c) : False := by unfold One Idx at *; omega
theorem one_dir {pl c n : Int} (h : One pl c n) (h' : 16777216 ≤ c) : False := by unfold One at *; omega
theorem idx_dir {pl c : Int} (h : Idx pl c) (h' : 16777216 ≤ c) : False := by unfold Idx at *; omega
theorem idx_bnd {pl c : Int} (h : Idx pl c) : 0 ≤ c ∧ c < 256 := ⟨h.1, h.2.1⟩
theorem eq_trueH {prog : Program} {w : World} {A : Around} {E : Value → Shared → Prop} {s : Shared} {Q : Value → Shared → Prop} {a b : Value} {da db : PyData} {as bs : List Addr} (ra : Reads s.heap a da as) (rb : Reads s.heap b db bs) (ha : SeqAt.shaped da = true) (hb : SeqAt.shaped db = true) (hu : A.units + 64 < cLine)
    (hv : PyData.eqv da db = true) (h : Q (.bool true) s) : wpAny (model prog w) A (compareOp .Eq a b) Q E s :=
  eq_dataH ra rb ha hb hu (by rw [hv]; exact h)

theorem set82 : True := by
  k_with_none
  w_top off
  k_with "my site" => ((refine' Site.mk ?s1v1 ?s2v1 ?s3v1 ?s4v1 ?s5v1 ?s6v1 ?s7v1 ?s8v1; (case s1v1 => first | k_asm | fail "site: below"); (case s2v1 => first | k_asm | fail "site: frame"); (case s3v1 => first | k_asm | fail "site: part"); (case s4v1 => first | k_asm | fail "site: ledger"); (case s5v1 => first | k_asm | fail "site: top"); (case s6v1 => first | exact rfl | assumption | fail "site: kind"); (case s7v1 => first | exact room_ok (by assumption) (by decide) | (walk_say "ROOM"; ktr_room) | fail "site: room"); (case s8v1 => first | exact units_ok (by assumption) (by decide) | (walk_say "UNITS"; ktr_units) | fail "site: units")))
  k_with "my enter" => ((refine wpAny_call ?_; k_dflt (refine' code_defG ?k1v2 ?k2v2 ?k3v2 ?k4v2 ?k5v2 ?kAv2 ?kFv2 ?kKv2 ?k6v2 ?k7v2 ?k8v2 ?k9wv2 ?kBv2 ?_ ?c2v2 ?c3v2 ?c4v2 ?c5v2; (case kAv2 => exact rfl); (case kFv2 => exact rfl); (case kKv2 => assumption); (case k1v2 => k_asm); (case k2v2 => k_asm); (case k3v2 => k_asm); (case k4v2 => k_asm); (case k5v2 => k_asm); (case k6v2 => k_is); (case k7v2 => k_is); (case k8v2 => ktr_room); (case k9wv2 => exact BindsTo.of_eq rfl); (case c5v2 => decide); (case kBv2 => exact locs rfl); (case c2v2 => exact rfl); (case c3v2 => exact rfl); (case c4v2 => exact rfl); k_whole)))
  k_with "call ref" => ((k_here; (try dsimp only [List.nil_append, List.append_nil]); refine wpAny_call ?_; k_dflt (refine' code_def ?k1v3 ?k2v3 ?k3v3 ?k4v3 ?k5v3 ?kAv3 ?kFv3 ?kKv3 ?k6v3 ?k7v3 ?k8v3 ?k9wv3 ?kBv3 ?_ ?c2v3 ?c3v3 ?c4v3 ?c5v3; (case kAv3 => exact rfl); (case kFv3 => exact rfl); (case kKv3 => first | exact rfl | assumption); (case k1v3 => k_asm); (case k2v3 => k_asm); (case k3v3 => k_asm); (case k4v3 => k_asm); (case k5v3 => k_asm); (case k6v3 => k_is); (case k7v3 => k_is); (case k8v3 => ktr_room); (case k9wv3 => exact BindsTo.of_eq rfl); (case c5v3 => decide); (case kBv3 => exact locs rfl); (case c2v3 => exact rfl); (case c3v3 => exact rfl); (case c4v3 => exact rfl); k_whole; intro g' L' h' FG' F' N' B' X' T'; (try dsimp only); (try k_lift B'); (try k_fold))))
  k_with "my off" => (((rename (_ ≠ _ ∧ _ ≠ _ ∧ _ ≠ _) ∧ _ => off9w); (simp only [ne_eq] at off9w); (simp only [LCg.Off3, and_true, ne_eq, off9w, not_false_eq_true, and_self, true_and]); (first | done | ((repeat' (refine And.intro ?_ ?_)); all_goals exact neN (by walk_at "my ne")))))
  k_with "ite" => ((k_here; first
      | (refine' ite_posI ?hcv5 ?_; (case hcv5 => k_dflt (exact of_decide_eq_true (by exact rfl))))
      | (refine' ite_negI ?hcv5 ?_; (case hcv5 => k_dflt (exact of_decide_eq_false (by exact rfl))))))
  k_with "my fact" => (first | (with_reducible assumption) | (simp only [ne_eq, not_false_eq_true, *]; done))
  k_with "my ne" => (first | (walk_at "my fact") | exact Ne.symm (by walk_at "my fact") | exact Nat.ne_of_lt (by walk_at "my fact") | exact Nat.ne_of_gt (by walk_at "my fact") | exact Nat.ne_of_lt (Nat.lt_succ_of_lt (by walk_at "my fact")) | exact Nat.ne_of_gt (Nat.lt_succ_of_lt (by walk_at "my fact")) | (walk_say "NE by omega"; omega))
  k_with "my side" => ((with_reducible ((repeat' (refine And.intro ?_ ?_)) <;> first | exact trivial | assumption | (walk_at "my arith"))))
  k_with "my arith" => (first
        | ((show IntMulOk _ _); first | exact PySem.IntMulOk.of_right (PySem.intBits_le_64 (by decide) (by decide)) | exact PySem.IntMulOk.of_left (PySem.intBits_le_64 (by decide) (by decide)) | exact PySem.IntMulOk.of_right (PySem.intBits_le_64 (by omega) (by omega)) | exact PySem.IntMulOk.of_left (PySem.intBits_le_64 (by omega) (by omega)) | mul_fits)
        | ((show Builtin.divisionGoesByPylong _ _ = false); first | exact PyProof.noPylong_of_log2 (by decide +kernel) | exact PyProof.noPylong_small (by omega))
        | omega
        | decide)
  k_with "my no" => (first | with_reducible exact False.elim p9w | with_reducible exact absurd trivial p9w | with_reducible exact absurd rfl p9w | (law_purse 20000 => omega))
  k_with "execs cons" => ((k_here; (first
        | ((with_reducible show wpAny _ _ (execs (Stmt.Return (some _) _ :: _) _) _ _ _); (fail_if_success (with_reducible show wpAny _ _ (execs (Stmt.Return (some (Expr.Tuple _ _ _)) _ :: _) _) _ _ _)); (fail_if_success (with_reducible show wpAny _ _ (execs (Stmt.Return (some (Expr.List _ _)) _ :: _) _) _ _ _)); (fail_if_success (with_reducible show wpAny _ _ (execs (Stmt.Return (some (Expr.Dict _ _ _)) _ :: _) _) _ _ _)); k_dflt ((with_reducible refine' st_retE ?hev11 ?Fv11 ?Xv11 ?Tv11 (fun t => ?ev11) ?hkv11 ?hcv11 (fun t9w tk9w => ?_))); (case hev11 => k_dflt (exact rfl)); (case Fv11 => k_asm); (case Xv11 => k_asm); (case Tv11 => k_asm); (case ev11 => k_dflt (exact rfl)); (case hkv11 => k_dflt (exact rfl)); (case hcv11 => walk_at "my side"); (try dsimp only))
        | ((with_reducible show wpAny _ _ (execs (Stmt.If _ _ [] _ :: _) _) _ _ _); k_dflt ((with_reducible refine' st_if0E ?hev11 ?Fv11 ?Xv11 ?Tv11 ?ev11 ?hkv11 ?hcv11 (fun p9w tk9w => ?_) (fun p9w tk9w => ?_))); (case hev11 => k_dflt (exact rfl)); (case Fv11 => k_asm); (case Xv11 => k_asm); (case Tv11 => k_asm); (case ev11 => k_dflt (exact rfl)); (case hkv11 => k_dflt (exact rfl)); (case hcv11 => walk_at "my side"); all_goals first | (exfalso; walk_at "my no") | (try dsimp only))
        | ((with_reducible show wpAny _ _ (execs (Stmt.If _ _ (_ :: _) _ :: _) _) _ _ _); k_dflt ((with_reducible refine' st_ifE ?hev11 ?Fv11 ?Xv11 ?Tv11 ?ev11 ?hkv11 ?hcv11 (fun p9w tk9w => ?_) (fun p9w tk9w => ?_))); (case hev11 => k_dflt (exact rfl)); (case Fv11 => k_asm); (case Xv11 => k_asm); (case Tv11 => k_asm); (case ev11 => k_dflt (exact rfl)); (case hkv11 => k_dflt (exact rfl)); (case hcv11 => walk_at "my side"); all_goals first | (exfalso; walk_at "my no") | (try dsimp only))
        | ((with_reducible show wpAny _ _ (execs (Stmt.Assign [Expr.Name _ _] _ _ :: _) _) _ _ _); k_dflt ((with_reducible refine' st_assignE ?hev11 ?Fv11 ?Nv11 ?Xv11 ?Tv11 (fun t => ?ev11) ?hkv11 ?hxv11 ?hsv11 ?hcv11 (fun t9w tk9w h9w => ?_))); (case hev11 => k_dflt (exact rfl)); (case Fv11 => k_asm); (case Nv11 => k_asm); (case Xv11 => k_asm); (case Tv11 => k_asm); (case ev11 => k_dflt (exact rfl)); (case hkv11 => k_dflt (exact rfl)); (case hxv11 => k_dflt (exact rfl)); (case hsv11 => k_dflt (exact rfl)); (case hcv11 => walk_at "my side"); intro m9w F9w N9w; (try k_sweep); (try dsimp only)))))
  k_with "eval BinOp" => ((k_here; k_dflt ((with_reducible refine' ev_peE ?hev12 ?Fv12 ?Xv12 ?Tv12 (fun t => ?ev12) ?hkv12 ?hcv12 (fun t9w tk9w => ?_)); (case hev12 => k_dflt (exact rfl)); (case Fv12 => k_asm); (case Xv12 => k_asm); (case Tv12 => k_asm); (case ev12 => k_dflt (exact rfl)); (case hkv12 => k_dflt (exact rfl)); (case hcv12 => walk_at "my side")); (try dsimp only)))
  k_with "eval IfExp" => ((k_here; k_dflt ((with_reducible refine' ev_ifE ?hev13 ?Fv13 ?Xv13 ?Tv13 ?ev13 ?hkv13 ?hcv13 (fun p9w tk9w => ?_) (fun p9w tk9w => ?_)); (case hev13 => k_dflt (exact rfl)); (case Fv13 => k_asm); (case Xv13 => k_asm); (case Tv13 => k_asm); (case ev13 => k_dflt (exact rfl)); (case hkv13 => k_dflt (exact rfl)); (case hcv13 => walk_at "my side"); all_goals first | (exfalso; walk_at "my no") | (try dsimp only))))
  k_with "eval Call" => ((k_here; (with_reducible show wpAny _ _ (eval (Expr.Call (Expr.Name _ _) (_ :: _) [] _) _) _ _ _); k_dflt ((with_reducible refine' ev_callE ?hev14 ?Fv14 ?Xv14 ?Tv14 ?efv14 ?hfv14 (fun t => ?eav14) ?hkv14 ?hcv14 (fun t9w tk9w => ?_)); (case hev14 => k_dflt (exact rfl)); (case Fv14 => k_asm); (case Xv14 => k_asm); (case Tv14 => k_asm); (case efv14 => k_dflt (exact rfl)); (case hfv14 => k_dflt (exact rfl)); (case eav14 => k_dflt (exact rfl)); (case hkv14 => k_dflt (exact rfl)); (case hcv14 => walk_at "my side"))))
  k_with "my nm" => ((k_dflt (refine' nm_ok ?Fv15 ?Xv15 ?Tv15 ?hkv15); (case Fv15 => k_asm); (case Xv15 => k_asm); (case Tv15 => k_asm); (case hkv15 => k_dflt (exact rfl))))
  k_with "spliced" => ((k_here; (with_reducible show wpAny _ _ (spliced (backTo _ (starEach (_ :: _) _))) _ _ _); (fail_if_success (with_reducible show wpAny _ _ (spliced (backTo _ (starEach (_ :: _ :: _ :: _ :: _ :: _ :: _ :: _) _))) _ _ _)); k_dflt ((with_reducible refine' xe_all ?hnv16 (fun tk => ?ev16) ?hcv16 (fun tk9w k9w => ?_))); (case hnv16 => walk_at "my nm"); (case ev16 => k_dflt (exact rfl)); (case hcv16 => walk_at "my side"); (try dsimp only [List.cons_append, List.nil_append])))
  k_with "storeName" => ((k_here; k_dflt ((with_reducible refine' st_storeE ?hev17 ?Fv17 ?Nv17 (fun tk9w h9w => ?_) ?hkv17 ?hxv17)); (case hev17 => k_dflt (exact rfl)); (case Fv17 => k_asm); (case Nv17 => k_asm); (case hkv17 => k_dflt (exact rfl)); (case hxv17 => k_dflt (exact rfl)); intro m9w F9w N9w; (try k_sweep); (try dsimp only)))
  k_with "call ref" => ((k_here; k_dflt (refine' hexv_c ?kSv18 (fun hv9w h9w tk9w F9w N9w => ?_) (fun v9w t9w hv9w h9w tk9w F9w N9w => ?_); (case kSv18 => walk_at "my site")); all_goals ((try dsimp only); (try k_fold))))
  k_with "call ref" => ((k_here; k_dflt (refine' figs_c ?kbv21 ?klv21 ?kSv21 (fun hv9w h9w tk9w F9w N9w => ?_) (fun v9w t9w hv9w h9w tk9w F9w N9w => ?_); (case kbv21 => kba_ints2); (case klv21 => kba_size); (case kSv21 => walk_at "my site")); all_goals ((try dsimp only); (try k_fold))))
  k_with "pyIter ref" => (((with_reducible show wpAny _ _ (pyIter (Value.ref _)) (fun it s₂ => LoopAtV _ _ _ _ _ _ _ _ _ it s₂) _ _); (rename Fr _ _ _ _ => lF'); (rename News _ _ _ _ => lN'); (with_unfolding_all refine iter_tupleUnr (by rfl) lF' lN' (by k_mem) ?_); clear lF' lN'; intro i' l1; (try k_lt l1)))
  k_with "TupRest" => ((with_unfolding_all first | (refine TupRest.succ (fun it' h' tk' hit' F' N' => ?_)) | (refine TupRest.zero (fun h' tk' F' N' => ?_))))
  k_with "getMethod bytes" => ((k_here; (with_reducible refine method_join ?_)))
  k_with "getMethod bytes" => ((k_here; (with_reducible refine method_split ?_)))
  k_with "my ints" => (first | kba_ints | exact (rfl : KBw.bInts _ = ([47] : List Int)) | exact (rfl : KBw.bInts _ = ([] : List Int)) | kba_ints2)
  k_with "my list" => (first | exact News.isList (by k_asm) (by k_mem) | is_list)
  k_with "call builtin:bytes.join" => ((k_here; k_dflt (first
      | (refine' join3 ?lv28 ?hsv28 ?h1v28 ?h2v28 ?h3v28 ?hzv28 ?_; (case lv28 => walk_at "my list"); (case hsv28 => walk_at "my ints"); (case h1v28 => walk_at "my ints"); (case h2v28 => walk_at "my ints"); (case h3v28 => walk_at "my ints"); (case hzv28 => kba_size))); intro B9w t9w k9w hB9w; (try simp only [List.nil_append, List.cons_append, List.append_assoc] at hB9w)))
  k_with "call ref" => ((k_here; k_dflt (refine' rgb_c ?h1v29 ?h2v29 ?h3v29 ?h4v29 ?h5v29 (fun D9w t9w u9w v9w h9w tk9w o9w F9w N9w => ?_) ?kSv29; (case h1v29 => assumption); (case h2v29 => first | assumption | decide | omega); (case h3v29 => first | assumption | omega); (case h4v29 => first | assumption | omega); (case h5v29 => first | assumption | omega); (case kSv29 => walk_at "my site")); (try simp only [LCg.Off1, and_true] at o9w); (try dsimp only); (try k_fold)))
  k_with "call builtin:bytes.split" => ((k_here; k_dflt (refine' split_call ?h1v30 ?h2v30 ?h3v30 ?h4v30 (fun D9w b1 b2 b3 t1 t2 t3 k1 k2 k3 h9w tk9w hsg e1 e2 e3 z1 z2 z3 F9w N9w l9w => ?_) (fun D9w vs9w h9w tk9w hsg e1 z1 F9w N9w l9w => ?_); (case h1v30 => k_asm); (case h2v30 => k_asm); (case h3v30 => walk_at "my ints"); (case h4v30 => kba_size)); all_goals ((try k_lt l9w); (try simp only [List.length_take, List.length_drop] at z1 z2 z3))))
  k_with "subscriptTail" => ((k_here; (with_reducible show wpAny _ _ (subscriptTail _ _ (Value.bytes _ _) (Value.int _ _)) _ _ _); (first
      | (refine' figs_item (nib_hi ?h1v31 ?h2v31 ?h3v31) ?h4v31 ?h5v31 (fun t9w k9w => ?_); (case h1v31 => assumption); (case h2v31 => omega); (case h3v31 => omega); (case h4v31 => omega); (case h5v31 => omega))
      | (refine' figs_item (nib_lo ?h1v31 ?h2v31 ?h3v31) ?h4v31 ?h5v31 (fun t9w k9w => ?_); (case h1v31 => assumption); (case h2v31 => omega); (case h3v31 => omega); (case h4v31 => omega); (case h5v31 => omega)))))
  k_with "call ref" => ((k_here; k_dflt (refine' figs_cb ?kbv36 ?klv36 ?kSv36 (fun hv9w h9w tk9w F9w N9w => ?_) (fun v9w t9w hv9w lo9w hi9w h9w tk9w F9w N9w => ?_); (case kbv36 => kba_ints2); (case klv36 => kba_size); (case kSv36 => walk_at "my site")); all_goals ((try dsimp only); (try k_fold))))
  k_with "Exists" => ((k_here; (refine made_bytes (by k_asm) (by first | k_asm | exact News.nil) (Top.nolimit (by k_asm)) (by rfl) (of_decide_eq_true (by rfl)) ?_; intro h' o' F' N' l1 lo' hd'; (try k_lt l1))))
  k_with "eval Dict" => ((k_here; (with_reducible refine Dict_made_bytes (by with_unfolding_all rfl) (by with_unfolding_all assumption) (by with_unfolding_all rfl) (by with_unfolding_all rfl) (List.cons_ne_nil _ _) (by with_unfolding_all decide) ?_; intro _)))
  k_with "my enterC" => ((refine wpAny_call ?_; k_dflt (refine' code_defCG ?k1v44 ?k2v44 ?k3v44 ?k4v44 ?k5v44 ?kAv44 ?kFv44 ?kKv44 ?k6v44 ?k7v44 ?k8v44 ?k9wv44 ?kBv44 ?kDv44 ?_ ?c2v44 ?c3v44 ?c4v44; (case kAv44 => exact rfl); (case kFv44 => exact rfl); (case kKv44 => assumption); (case k1v44 => k_asm); (case k2v44 => k_asm); (case k3v44 => k_asm); (case k4v44 => k_asm); (case k5v44 => k_asm); (case k6v44 => k_is); (case k7v44 => k_is); (case k8v44 => ktr_room); (case k9wv44 => exact BindsTo.of_eq rfl); (case kBv44 => exact rfl); (case kDv44 => decide +kernel); (case c2v44 => exact rfl); (case c3v44 => exact rfl); (case c4v44 => exact rfl); k_whole)))
  k_with "my pull" => (first | exact Pull.head | (refine' Pull.tail ?ptlv49; (case ptlv49 => walk_at "my pull")))
  k_with "my off" => (((try simp only [LCg.Off1, and_true]); (repeat' (refine And.intro ?_ ?_)); all_goals first | exact trivial | (walk_at "my ne")))
  k_with "my pow" => (first | omega | exact pow16_pos _ | exact pow16_le (by omega) | decide)
  k_with "call ref" => ((k_here; k_dflt (refine' draw_c ?P1v52 ?P2v52 ?hIv52 ?h1v52 ?h2v52 ?h3v52 ?h4v52 ?h5v52 ?h6v52 ?h7v52 (fun k9w v9w t9w u9w h9w tk9w hk9w lo9w hi9w dv9w F9w N9w => ?_) ?kSv52; (case kSv52 => walk_at "my site"); (case P1v52 => walk_at "my pull"); (case P2v52 => walk_at "my pull"); (case hIv52 => l_ints); (case h1v52 => first | assumption | omega); (case h2v52 => omega); (case h3v52 => omega); (case h4v52 => walk_at "my pow"); (case h5v52 => walk_at "my pow"); (case h6v52 => omega); (case h7v52 => walk_at "my off")); (try dsimp only); (try k_fold)))
  k_with "call ref" => ((k_here; k_dflt (refine' small_c ?kbv61 ?klv61 (fun B9w t9w h9w tk9w hB9w F9w N9w => ?_) ?kSv61; (case kSv61 => walk_at "my site"); (case kbv61 => walk_at "my ints"); (case klv61 => first | assumption | kba_size)); (try dsimp only); (try k_fold)))
  k_with "call ref" => ((k_here; k_dflt (refine' digs_c ?kbv62 ?klv62 (fun hv9w h9w tk9w F9w N9w => ?_) (fun v9w t9w hv9w h9w tk9w F9w N9w => ?_) ?kSv62; (case kSv62 => walk_at "my site"); (case kbv62 => walk_at "my ints"); (case klv62 => first | assumption | kba_size)); all_goals ((try dsimp only); (try k_fold))))
  k_with "call ref" => ((k_here; k_dflt (refine' parts_c ?kb1v63 ?kb2v63 ?kb3v63 ?kl1v63 ?kl2v63 ?kl3v63 ?kDv63 (fun hv9w h9w tk9w F9w N9w => ?_) (fun v9w t9w hv9w h9w tk9w F9w N9w => ?_) ?kSv63; (case kSv63 => walk_at "my site"); (case kDv63 => k_mem); (case kb1v63 => assumption); (case kb2v63 => assumption); (case kb3v63 => assumption); (case kl1v63 => first | assumption | omega); (case kl2v63 => first | assumption | omega); (case kl3v63 => first | assumption | omega)); all_goals ((try dsimp only); (try k_fold))))
  k_with "call ref" => ((k_here; k_dflt (refine' names_c (fun D9w o9w kvs9w h9w tk9w off9w lo9w hd9w ht9w F9w N9w => ?_) ?kSv64; (case kSv64 => walk_at "my site")); (try simp only [LCg.Off1, and_true] at off9w); (try dsimp only); (try k_fold)))
  k_with "call ref" => ((k_here; k_dflt (refine' lnames_c (fun D9w o9w kvs9w h9w tk9w off9w lo9w hd9w ht9w F9w N9w => ?_) ?kSv65; (case kSv65 => walk_at "my site")); (try simp only [LCg.Off1, and_true] at off9w); (try dsimp only); (try k_fold)))
  k_with "getMethod ref" => ((k_here; kda_here; (with_reducible show wpAny _ _ (getMethod (Value.ref _) (Str.ofString "get") _) _ _ _); k_dflt (refine kdg_method (knd := bytesKind _ _) (by k_asm) (by k_mem) (by k_asm) ?_)))
  k_with "call builtin:dict.get" => ((k_here; kda_here; k_dflt (refine' get_names ?n1v67 ?n2v67 ?n3v67 ?n4v67 ?n5v67 ?n6v67 (fun hv9w t9w => ?_) (fun v9w t9w k9w hv9w => ?_); (case n1v67 => k_asm); (case n2v67 => k_mem); (case n3v67 => k_asm); (case n4v67 => k_asm); (case n5v67 => assumption); (case n6v67 => walk_at "my ints")); all_goals (try dsimp only)))
  k_with "call builtin:len" => ((k_here; (with_reducible show wpAny _ _ (call (Value.builtin "len") [Value.ref _]) _ _ _); k_dflt (refine' len_gen ?n1v68 ?n2v68 ?n3v68 (fun t9w k9w => ?_); (case n1v68 => k_asm); (case n2v68 => k_mem); (case n3v68 => assumption))))
  k_with "call ref" => ((k_here; k_dflt (refine' dircol_c ?h1v113 ?h2v113 ?h3v113 (fun v9w t9w h9w tk9w hv9w F9w N9w => ?_) ?kSv113; (case kSv113 => walk_at "my site"); (case h1v113 => walk_at "my byte"); (case h2v113 => walk_at "my byte"); (case h3v113 => walk_at "my byte")); (try dsimp only); (try k_fold)))
  k_with "my byte" => (first | omega | ((simp only [List.getD_cons_zero, List.getD_cons_succ, Int.toNat_zero, Int.toNat_one, Int.reduceToNat]); omega))
  k_with "call ref" => ((k_here; (with_reducible show wpAny _ _ (call (Value.ref 29) _) _ _ _); k_dflt (refine' penw_c ?hpv129 ?hTv129 (fun e9w R9w h9w tk9w o9w F9w N9w => ?_) (fun e9w R9w h9w tk9w o9w F9w N9w => ?_) (fun e9w R9w h9w tk9w o9w F9w N9w => ?_) ?kSv129; (case kSv129 => walk_at "my site"); (case hpv129 => omega); (case hTv129 => k_mem)); all_goals (try (exfalso; omega)); all_goals ((try simp only [LCg.Off1, and_true] at o9w); (try dsimp only); (try k_fold))))
  k_with "call ref" => ((k_here; (with_reducible show wpAny _ _ (call (Value.ref 72) _) _ _ _); k_dflt (refine' plain_c ?hpv132 ?hnv132 ?hTv132 (fun e9w x9w t9w R9w h9w tk9w hx9w o9w F9w N9w => ?_) (fun e9w x9w t9w R9w h9w tk9w hx9w o9w F9w N9w => ?_) (fun e9w x9w t9w R9w h9w tk9w hx9w o9w F9w N9w => ?_) ?kSv132; (case kSv132 => walk_at "my site"); (case hpv132 => assumption); (case hnv132 => assumption); (case hTv132 => k_mem)); all_goals ((try simp only [LCg.Off1, and_true] at o9w); (try dsimp only); (try k_fold))))
  k_with "call ref" => ((k_here; (with_reducible show wpAny _ _ (call (Value.ref 77) _) _ _ _); k_dflt (first
      | (refine' pcol_i1 ?hcv133 ?hmv133 (fun v9w t9w h9w tk9w hv9w F9w N9w => ?_) ?kSv133; (case kSv133 => walk_at "my site"); (case hmv133 => k_mem); (case hcv133 => assumption))
      | (refine' pcol_i3 ?hcv133 ?hmv133 (fun v9w t9w h9w tk9w hv9w F9w N9w => ?_) ?kSv133; (case kSv133 => walk_at "my site"); (case hmv133 => k_mem); (case hcv133 => assumption))); (try dsimp only); (try k_fold)))
  k_with "call ref" => ((k_here; (with_reducible show wpAny _ _ (call (Value.ref 187) _) _ _ _); k_dflt (refine' draw_c ?P1v134 ?P2v134 ?hIv134 ?h1v134 ?h2v134 ?h3v134 ?h4v134 ?h5v134 ?h6v134 ?h7v134 (fun k9w v9w t9w u9w h9w tk9w hk9w lo9w hi9w dv9w F9w N9w => ?_) ?kSv134; (case kSv134 => walk_at "my site"); (case P1v134 => walk_at "my pull"); (case P2v134 => walk_at "my pull"); (case hIv134 => l_ints); (case h1v134 => first | assumption | omega); (case h2v134 => omega); (case h3v134 => omega); (case h4v134 => walk_at "my pow"); (case h5v134 => walk_at "my pow"); (case h6v134 => omega); (case h7v134 => walk_at "my off")); subst hk9w; clear dv9w; (try simp only [Int.reduceToNat, Int.reducePow] at hi9w); (try dsimp only); (try k_fold)))
  k_with "call ref" => ((k_here; (with_reducible show wpAny _ _ (call (Value.ref 103) _) _ _ _); k_dflt (refine' sgr_c ?hpv135 ?hcv135 ?hrv135 (fun n9w t9w l9w D9w h9w tk9w q9w lt9w c9w F9w N9w => ?_) (fun x9w t9w u9w v9w l9w a9w b9w D9w h9w tk9w q9w e9w lt9w c9w d9w f9w F9w N9w => ?_) (fun x9w t9w u9w v9w w9w y9w l9w a9w b9w m9w n9w D9w h9w tk9w q9w e9w lt9w c9w d9w f9w g9w i9w F9w N9w => ?_) ?kSv135; (case kSv135 => walk_at "my site"); (case hpv135 => assumption); (case hcv135 => assumption); (case hrv135 => assumption)); all_goals ((try subst e9w); (try k_lt lt9w); (try dsimp only); (try k_fold))))
  k_with "call ref" => ((k_here; (with_reducible show wpAny _ _ (call (Value.ref 218) _) _ _ _); k_dflt ((try (rename One _ _ _ => q8)); refine' lpar_c ?hpv136 ?hcv136 ?hrv136 (fun n9w t9w l9w D9w h9w tk9w q9w lt9w c9w F9w N9w => ?_) (fun x9w t9w u9w v9w l9w a9w b9w D9w h9w tk9w q9w e9w lt9w c9w d9w f9w F9w N9w => ?_) (fun x9w t9w u9w v9w w9w y9w l9w a9w b9w m9w n9w D9w h9w tk9w q9w e9w lt9w c9w d9w f9w g9w i9w F9w N9w => ?_) ?kSv136; (case kSv136 => walk_at "my site"); (case hpv136 => first | assumption | decide); (case hcv136 => assumption); (case hrv136 => assumption)); all_goals (try (exfalso; first | exact one_idx (by assumption) (by assumption) | exact one_dir (by assumption) (by assumption) | exact idx_dir (by assumption) (by assumption))); all_goals ((try (have e7 := one_eq q8 q9w; subst e7)); (try subst e9w); (try k_lt lt9w); (try dsimp only); (try k_fold))))
  k_with "call ref" => ((k_here; (with_reducible show wpAny _ _ (call (Value.ref 96) _) _ _ _); k_dflt (first | (refine' apply_1 ?hpv137 ?hnv137 ?hDv137 ?hlv137 ?h1v137 ?h2v137 ?hTv137 (fun e9w x9w t9w R9w h9w tk9w hx9w o9w F9w N9w => ?_) (fun e9w x9w t9w R9w h9w tk9w hx9w o9w F9w N9w => ?_) (fun e9w x9w t9w R9w h9w tk9w hx9w o9w F9w N9w => ?_) ?kSv137; (case kSv137 => walk_at "my site"); (case hnv137 => assumption); (case hpv137 => first | assumption | decide); (case hDv137 => k_mem); (case hlv137 => k_mem); (case hTv137 => k_mem); (case h1v137 => omega); (case h2v137 => omega)) | (refine' apply_3 ?hpv137 ?hnv137 ?hcv137 ?hDv137 ?l1v137 ?l2v137 ?l3v137 ?h1v137 ?h2v137 ?h3v137 ?h4v137 ?hTv137 (fun e9w x9w t9w R9w h9w tk9w hx9w o9w F9w N9w => ?_) (fun e9w x9w t9w R9w h9w tk9w hx9w o9w F9w N9w => ?_) (fun e9w x9w t9w R9w h9w tk9w hx9w o9w F9w N9w => ?_) ?kSv137; (case kSv137 => walk_at "my site"); (case hDv137 => k_mem); (case l1v137 => k_mem); (case l2v137 => k_mem); (case l3v137 => k_mem); (case hnv137 => exact rfl); (case hcv137 => exact idx_bnd (by assumption)); (case hpv137 => first | assumption | decide); (case hTv137 => k_mem); (case h1v137 => omega); (case h2v137 => omega); (case h3v137 => omega); (case h4v137 => omega)) | ((rename _ → Rgb _ _ _ _ => hr8); refine' apply_5 ?hpv137 ?hnv137 (hr8 ?hcv137) ?hDv137 ?l1v137 ?l2v137 ?l3v137 ?l4v137 ?l5v137 ?h1v137 ?h2v137 ?h3v137 ?h4v137 ?h5v137 ?h6v137 ?hTv137 (fun e9w x9w t9w R9w h9w tk9w hx9w o9w F9w N9w => ?_) (fun e9w x9w t9w R9w h9w tk9w hx9w o9w F9w N9w => ?_) (fun e9w x9w t9w R9w h9w tk9w hx9w o9w F9w N9w => ?_) ?kSv137; (case kSv137 => walk_at "my site"); (case hDv137 => k_mem); (case l1v137 => k_mem); (case l2v137 => k_mem); (case l3v137 => k_mem); (case l4v137 => k_mem); (case l5v137 => k_mem); (case hnv137 => exact rfl); (case hcv137 => assumption); (case hpv137 => first | assumption | decide); (case hTv137 => k_mem); (case h1v137 => omega); (case h2v137 => omega); (case h3v137 => omega); (case h4v137 => omega); (case h5v137 => omega); (case h6v137 => omega))); all_goals (try (exact absurd e9w (by decide))); all_goals ((try subst e9w); subst hx9w; (try simp only [LCg.Off1, and_true] at o9w); (try dsimp only); (try k_fold))))
  k_with "subscriptTail" => ((k_here; (with_reducible show wpAny _ _ (subscriptTail _ _ (Value.ref _) (Value.int _ _)) _ _ _); k_dflt (first | (refine' menu_place ?tv138 ?av138 ?bv138 (fun v9w t9w hv9w => ?_); (case tv138 => exact News.isTup (by k_asm) (by k_mem)); (case av138 => omega); (case bv138 => omega)) | (refine' menu_colour ?tv138 ?av138 ?bv138 ?e1v138 ?e2v138 ?e3v138 ?e4v138 (fun v9w t9w r9w g9w b9w hv9w hr9w => ?_); (case tv138 => exact News.isTup (by k_asm) (by k_mem)); (case av138 => omega); (case bv138 => omega); (case e1v138 => exact C3.none); (case e2v138 => exact C3.low (by omega) (by omega)); (case e3v138 => exact C3.low (by omega) (by omega)); (case e4v138 => exact C3.dir (by omega) (by omega))))))
  k_with "compareOp Eq ref ref" => ((k_here; k_dflt ((refine' eq_trueH ?e1v139 ?e2v139 ?e3v139 ?e4v139 ?e5v139 ?e6v139 ?_); (case e1v139 => ked_read); (case e2v139 => ked_read); (case e3v139 => ked_shaped); (case e4v139 => ked_shaped); (case e5v139 => ktr_units); (case e6v139 => simp [PyData.eqv, PyData.eqvAll]))))
  exact trivial
theorem place_c {prog : Program} {w : World} {p : Program} {loose : List Str} {mean : ExcName → Option Value} {mg mb : Str → Option Value} {dp un : Nat} {gd : Option (List Code)} {cn : Str} {cs : Scope} {a : Addr} {ccd : Value} {cl : List (Str × Addr)} {outer : List Env} {A₀ : Around} {base h₀ : Heap} {L : Addr} {m : Str → Option Value} {s : Shared} {Q E : Value → Shared → Prop} {news : List (Addr × Obj)}
    {pa b : Addr} {k : Int} {t : Tok} {n nb : Nat} {vs : List Value} {ns : List Int} {n1 rest : List (Addr × Obj)}
    (P1 : Pull (pa, W.listOf #[.ref b, .int k t] n) news n1) (P2 : Pull (b, W.listOf vs.toArray nb) n1 rest) (hI : IntsAre vs ns) (hlen : ns.length ≤ 63) (hk0 : 0 ≤ k) (hk1 : k ≤ 80000) (hpb : @Ne Nat pa b) (hne : LCg.Off1 pa rest)
    
    (hS : ∀ k' t' h' tk', k ≤ k' → k' ≤ k + 6 → Fr h₀ L h' m → News h₀ L h' ((pa, W.listOf #[.ref b, .int k' t'] n) :: (b, W.listOf vs.toArray nb) :: rest) → Q (.bool true) { s with heap := h', toks := tk' })
    (S : Site w p loose mean mg mb dp un 12 cs outer A₀ base h₀ L s.heap m news) :
    wpAny (model prog w) (ktrTop dp un gd cn cs L a ccd cl outer) (call (.ref 225) [.ref pa]) Q E s := by
  obtain ⟨B, F, X, N, T, hk, hd, hu⟩ := S
  have N0 : News h₀ L s.heap [(pa, W.listOf #[.ref b, .int k t] n), (b, W.listOf vs.toArray nb)] := fun q hq => N q (by
    rcases List.mem_cons.mp hq with rfl | hq
    · exact P1.mem _ (List.mem_cons_self ..)
    · rw [List.mem_singleton.mp hq]; exact P1.mem _ (List.mem_cons_of_mem _ (P2.mem _ (List.mem_cons_self ..))))
  have kN0 : KeptN h₀ L s.heap [(pa, W.listOf #[.ref b, .int k t] n), (b, W.listOf vs.toArray nb)] := N0
  (walk_at "my enter"; intro g9 L9 h9 FG9 F9 N9 B9 X9 T9 kG9; clear N0; (try dsimp only); (try k_lift B9); (try k_fold); k_steps)
  all_goals ((rename News g9 _ _ _ => N'); (rename Fr g9 _ _ _ => F'); (rename Fr h₀ _ _ _ => kF); (rename News h₀ _ _ _ => kN))
  all_goals (refine' hS _ _ _ _ ?pa1 ?pa2 kF (rest_of kG9 F' N' N P1 P2 (off1_mem hne) ?pa3 ?pa4); (case pa3 => k_mem); (case pa4 => k_mem); (case pa1 => omega); (case pa2 => omega))

theorem set84 : True := by
  k_with_none
  w_top off
  k_with "my site" => ((refine' Site.mk ?s1v1 ?s2v1 ?s3v1 ?s4v1 ?s5v1 ?s6v1 ?s7v1 ?s8v1; (case s1v1 => first | k_asm | fail "site: below"); (case s2v1 => first | k_asm | fail "site: frame"); (case s3v1 => first | k_asm | fail "site: part"); (case s4v1 => first | k_asm | fail "site: ledger"); (case s5v1 => first | k_asm | fail "site: top"); (case s6v1 => first | exact rfl | assumption | fail "site: kind"); (case s7v1 => first | exact room_ok (by assumption) (by decide) | (walk_say "ROOM"; ktr_room) | fail "site: room"); (case s8v1 => first | exact units_ok (by assumption) (by decide) | (walk_say "UNITS"; ktr_units) | fail "site: units")))
  k_with "my enter" => ((refine wpAny_call ?_; k_dflt (refine' code_defG ?k1v2 ?k2v2 ?k3v2 ?k4v2 ?k5v2 ?kAv2 ?kFv2 ?kKv2 ?k6v2 ?k7v2 ?k8v2 ?k9wv2 ?kBv2 ?_ ?c2v2 ?c3v2 ?c4v2 ?c5v2; (case kAv2 => exact rfl); (case kFv2 => exact rfl); (case kKv2 => assumption); (case k1v2 => k_asm); (case k2v2 => k_asm); (case k3v2 => k_asm); (case k4v2 => k_asm); (case k5v2 => k_asm); (case k6v2 => k_is); (case k7v2 => k_is); (case k8v2 => ktr_room); (case k9wv2 => exact BindsTo.of_eq rfl); (case c5v2 => decide); (case kBv2 => exact locs rfl); (case c2v2 => exact rfl); (case c3v2 => exact rfl); (case c4v2 => exact rfl); k_whole)))
  k_with "call ref" => ((k_here; (try dsimp only [List.nil_append, List.append_nil]); refine wpAny_call ?_; k_dflt (refine' code_def ?k1v3 ?k2v3 ?k3v3 ?k4v3 ?k5v3 ?kAv3 ?kFv3 ?kKv3 ?k6v3 ?k7v3 ?k8v3 ?k9wv3 ?kBv3 ?_ ?c2v3 ?c3v3 ?c4v3 ?c5v3; (case kAv3 => exact rfl); (case kFv3 => exact rfl); (case kKv3 => first | exact rfl | assumption); (case k1v3 => k_asm); (case k2v3 => k_asm); (case k3v3 => k_asm); (case k4v3 => k_asm); (case k5v3 => k_asm); (case k6v3 => k_is); (case k7v3 => k_is); (case k8v3 => ktr_room); (case k9wv3 => exact BindsTo.of_eq rfl); (case c5v3 => decide); (case kBv3 => exact locs rfl); (case c2v3 => exact rfl); (case c3v3 => exact rfl); (case c4v3 => exact rfl); k_whole; intro g' L' h' FG' F' N' B' X' T'; (try dsimp only); (try k_lift B'); (try k_fold))))
  k_with "my off" => (((rename (_ ≠ _ ∧ _ ≠ _ ∧ _ ≠ _) ∧ _ => off9w); (simp only [ne_eq] at off9w); (simp only [LCg.Off3, and_true, ne_eq, off9w, not_false_eq_true, and_self, true_and]); (first | done | ((repeat' (refine And.intro ?_ ?_)); all_goals exact neN (by walk_at "my ne")))))
  k_with "ite" => ((k_here; first
      | (refine' ite_posI ?hcv5 ?_; (case hcv5 => k_dflt (exact of_decide_eq_true (by exact rfl))))
      | (refine' ite_negI ?hcv5 ?_; (case hcv5 => k_dflt (exact of_decide_eq_false (by exact rfl))))))
  k_with "my fact" => (first | (with_reducible assumption) | (simp only [ne_eq, not_false_eq_true, *]; done))
  k_with "my ne" => (first | (walk_at "my fact") | exact Ne.symm (by walk_at "my fact") | exact Nat.ne_of_lt (by walk_at "my fact") | exact Nat.ne_of_gt (by walk_at "my fact") | exact Nat.ne_of_lt (Nat.lt_succ_of_lt (by walk_at "my fact")) | exact Nat.ne_of_gt (Nat.lt_succ_of_lt (by walk_at "my fact")) | (walk_say "NE by omega"; omega))
  k_with "my side" => ((with_reducible ((repeat' (refine And.intro ?_ ?_)) <;> first | exact trivial | assumption | (walk_at "my arith"))))
  k_with "my arith" => (first
        | ((show IntMulOk _ _); first | exact PySem.IntMulOk.of_right (PySem.intBits_le_64 (by decide) (by decide)) | exact PySem.IntMulOk.of_left (PySem.intBits_le_64 (by decide) (by decide)) | exact PySem.IntMulOk.of_right (PySem.intBits_le_64 (by omega) (by omega)) | exact PySem.IntMulOk.of_left (PySem.intBits_le_64 (by omega) (by omega)) | mul_fits)
        | ((show Builtin.divisionGoesByPylong _ _ = false); first | exact PyProof.noPylong_of_log2 (by decide +kernel) | exact PyProof.noPylong_small (by omega))
        | omega
        | decide)
  k_with "my no" => (first | with_reducible exact False.elim p9w | with_reducible exact absurd trivial p9w | with_reducible exact absurd rfl p9w | (law_purse 20000 => omega))
  k_with "execs cons" => ((k_here; (first
        | ((with_reducible show wpAny _ _ (execs (Stmt.Return (some _) _ :: _) _) _ _ _); (fail_if_success (with_reducible show wpAny _ _ (execs (Stmt.Return (some (Expr.Tuple _ _ _)) _ :: _) _) _ _ _)); (fail_if_success (with_reducible show wpAny _ _ (execs (Stmt.Return (some (Expr.List _ _)) _ :: _) _) _ _ _)); (fail_if_success (with_reducible show wpAny _ _ (execs (Stmt.Return (some (Expr.Dict _ _ _)) _ :: _) _) _ _ _)); k_dflt ((with_reducible refine' st_retE ?hev11 ?Fv11 ?Xv11 ?Tv11 (fun t => ?ev11) ?hkv11 ?hcv11 (fun t9w tk9w => ?_))); (case hev11 => k_dflt (exact rfl)); (case Fv11 => k_asm); (case Xv11 => k_asm); (case Tv11 => k_asm); (case ev11 => k_dflt (exact rfl)); (case hkv11 => k_dflt (exact rfl)); (case hcv11 => walk_at "my side"); (try dsimp only))
        | ((with_reducible show wpAny _ _ (execs (Stmt.If _ _ [] _ :: _) _) _ _ _); k_dflt ((with_reducible refine' st_if0E ?hev11 ?Fv11 ?Xv11 ?Tv11 ?ev11 ?hkv11 ?hcv11 (fun p9w tk9w => ?_) (fun p9w tk9w => ?_))); (case hev11 => k_dflt (exact rfl)); (case Fv11 => k_asm); (case Xv11 => k_asm); (case Tv11 => k_asm); (case ev11 => k_dflt (exact rfl)); (case hkv11 => k_dflt (exact rfl)); (case hcv11 => walk_at "my side"); all_goals first | (exfalso; walk_at "my no") | (try dsimp only))
        | ((with_reducible show wpAny _ _ (execs (Stmt.If _ _ (_ :: _) _ :: _) _) _ _ _); k_dflt ((with_reducible refine' st_ifE ?hev11 ?Fv11 ?Xv11 ?Tv11 ?ev11 ?hkv11 ?hcv11 (fun p9w tk9w => ?_) (fun p9w tk9w => ?_))); (case hev11 => k_dflt (exact rfl)); (case Fv11 => k_asm); (case Xv11 => k_asm); (case Tv11 => k_asm); (case ev11 => k_dflt (exact rfl)); (case hkv11 => k_dflt (exact rfl)); (case hcv11 => walk_at "my side"); all_goals first | (exfalso; walk_at "my no") | (try dsimp only))
        | ((with_reducible show wpAny _ _ (execs (Stmt.Assign [Expr.Name _ _] _ _ :: _) _) _ _ _); k_dflt ((with_reducible refine' st_assignE ?hev11 ?Fv11 ?Nv11 ?Xv11 ?Tv11 (fun t => ?ev11) ?hkv11 ?hxv11 ?hsv11 ?hcv11 (fun t9w tk9w h9w => ?_))); (case hev11 => k_dflt (exact rfl)); (case Fv11 => k_asm); (case Nv11 => k_asm); (case Xv11 => k_asm); (case Tv11 => k_asm); (case ev11 => k_dflt (exact rfl)); (case hkv11 => k_dflt (exact rfl)); (case hxv11 => k_dflt (exact rfl)); (case hsv11 => k_dflt (exact rfl)); (case hcv11 => walk_at "my side"); intro m9w F9w N9w; (try k_sweep); (try dsimp only)))))
  k_with "eval BinOp" => ((k_here; k_dflt ((with_reducible refine' ev_peE ?hev12 ?Fv12 ?Xv12 ?Tv12 (fun t => ?ev12) ?hkv12 ?hcv12 (fun t9w tk9w => ?_)); (case hev12 => k_dflt (exact rfl)); (case Fv12 => k_asm); (case Xv12 => k_asm); (case Tv12 => k_asm); (case ev12 => k_dflt (exact rfl)); (case hkv12 => k_dflt (exact rfl)); (case hcv12 => walk_at "my side")); (try dsimp only)))
  k_with "eval IfExp" => ((k_here; k_dflt ((with_reducible refine' ev_ifE ?hev13 ?Fv13 ?Xv13 ?Tv13 ?ev13 ?hkv13 ?hcv13 (fun p9w tk9w => ?_) (fun p9w tk9w => ?_)); (case hev13 => k_dflt (exact rfl)); (case Fv13 => k_asm); (case Xv13 => k_asm); (case Tv13 => k_asm); (case ev13 => k_dflt (exact rfl)); (case hkv13 => k_dflt (exact rfl)); (case hcv13 => walk_at "my side"); all_goals first | (exfalso; walk_at "my no") | (try dsimp only))))
  k_with "eval Call" => ((k_here; (with_reducible show wpAny _ _ (eval (Expr.Call (Expr.Name _ _) (_ :: _) [] _) _) _ _ _); k_dflt ((with_reducible refine' ev_callE ?hev14 ?Fv14 ?Xv14 ?Tv14 ?efv14 ?hfv14 (fun t => ?eav14) ?hkv14 ?hcv14 (fun t9w tk9w => ?_)); (case hev14 => k_dflt (exact rfl)); (case Fv14 => k_asm); (case Xv14 => k_asm); (case Tv14 => k_asm); (case efv14 => k_dflt (exact rfl)); (case hfv14 => k_dflt (exact rfl)); (case eav14 => k_dflt (exact rfl)); (case hkv14 => k_dflt (exact rfl)); (case hcv14 => walk_at "my side"))))
  k_with "my nm" => ((k_dflt (refine' nm_ok ?Fv15 ?Xv15 ?Tv15 ?hkv15); (case Fv15 => k_asm); (case Xv15 => k_asm); (case Tv15 => k_asm); (case hkv15 => k_dflt (exact rfl))))
  k_with "spliced" => ((k_here; (with_reducible show wpAny _ _ (spliced (backTo _ (starEach (_ :: _) _))) _ _ _); (fail_if_success (with_reducible show wpAny _ _ (spliced (backTo _ (starEach (_ :: _ :: _ :: _ :: _ :: _ :: _ :: _) _))) _ _ _)); k_dflt ((with_reducible refine' xe_all ?hnv16 (fun tk => ?ev16) ?hcv16 (fun tk9w k9w => ?_))); (case hnv16 => walk_at "my nm"); (case ev16 => k_dflt (exact rfl)); (case hcv16 => walk_at "my side"); (try dsimp only [List.cons_append, List.nil_append])))
  k_with "storeName" => ((k_here; k_dflt ((with_reducible refine' st_storeE ?hev17 ?Fv17 ?Nv17 (fun tk9w h9w => ?_) ?hkv17 ?hxv17)); (case hev17 => k_dflt (exact rfl)); (case Fv17 => k_asm); (case Nv17 => k_asm); (case hkv17 => k_dflt (exact rfl)); (case hxv17 => k_dflt (exact rfl)); intro m9w F9w N9w; (try k_sweep); (try dsimp only)))
  k_with "call ref" => ((k_here; k_dflt (refine' hexv_c ?kSv18 (fun hv9w h9w tk9w F9w N9w => ?_) (fun v9w t9w hv9w h9w tk9w F9w N9w => ?_); (case kSv18 => walk_at "my site")); all_goals ((try dsimp only); (try k_fold))))
  k_with "call ref" => ((k_here; k_dflt (refine' figs_c ?kbv21 ?klv21 ?kSv21 (fun hv9w h9w tk9w F9w N9w => ?_) (fun v9w t9w hv9w h9w tk9w F9w N9w => ?_); (case kbv21 => kba_ints2); (case klv21 => kba_size); (case kSv21 => walk_at "my site")); all_goals ((try dsimp only); (try k_fold))))
  k_with "pyIter ref" => (((with_reducible show wpAny _ _ (pyIter (Value.ref _)) (fun it s₂ => LoopAtV _ _ _ _ _ _ _ _ _ it s₂) _ _); (rename Fr _ _ _ _ => lF'); (rename News _ _ _ _ => lN'); (with_unfolding_all refine iter_tupleUnr (by rfl) lF' lN' (by k_mem) ?_); clear lF' lN'; intro i' l1; (try k_lt l1)))
  k_with "TupRest" => ((with_unfolding_all first | (refine TupRest.succ (fun it' h' tk' hit' F' N' => ?_)) | (refine TupRest.zero (fun h' tk' F' N' => ?_))))
  k_with "getMethod bytes" => ((k_here; (with_reducible refine method_join ?_)))
  k_with "getMethod bytes" => ((k_here; (with_reducible refine method_split ?_)))
  k_with "my ints" => (first | kba_ints | exact (rfl : KBw.bInts _ = ([47] : List Int)) | exact (rfl : KBw.bInts _ = ([] : List Int)) | kba_ints2)
  k_with "my list" => (first | exact News.isList (by k_asm) (by k_mem) | is_list)
  k_with "call builtin:bytes.join" => ((k_here; k_dflt (first
      | (refine' join3 ?lv28 ?hsv28 ?h1v28 ?h2v28 ?h3v28 ?hzv28 ?_; (case lv28 => walk_at "my list"); (case hsv28 => walk_at "my ints"); (case h1v28 => walk_at "my ints"); (case h2v28 => walk_at "my ints"); (case h3v28 => walk_at "my ints"); (case hzv28 => kba_size))); intro B9w t9w k9w hB9w; (try simp only [List.nil_append, List.cons_append, List.append_assoc] at hB9w)))
  k_with "call ref" => ((k_here; k_dflt (refine' rgb_c ?h1v29 ?h2v29 ?h3v29 ?h4v29 ?h5v29 (fun D9w t9w u9w v9w h9w tk9w o9w F9w N9w => ?_) ?kSv29; (case h1v29 => assumption); (case h2v29 => first | assumption | decide | omega); (case h3v29 => first | assumption | omega); (case h4v29 => first | assumption | omega); (case h5v29 => first | assumption | omega); (case kSv29 => walk_at "my site")); (try simp only [LCg.Off1, and_true] at o9w); (try dsimp only); (try k_fold)))
  k_with "call builtin:bytes.split" => ((k_here; k_dflt (refine' split_call ?h1v30 ?h2v30 ?h3v30 ?h4v30 (fun D9w b1 b2 b3 t1 t2 t3 k1 k2 k3 h9w tk9w hsg e1 e2 e3 z1 z2 z3 F9w N9w l9w => ?_) (fun D9w vs9w h9w tk9w hsg e1 z1 F9w N9w l9w => ?_); (case h1v30 => k_asm); (case h2v30 => k_asm); (case h3v30 => walk_at "my ints"); (case h4v30 => kba_size)); all_goals ((try k_lt l9w); (try simp only [List.length_take, List.length_drop] at z1 z2 z3))))
  k_with "subscriptTail" => ((k_here; (with_reducible show wpAny _ _ (subscriptTail _ _ (Value.bytes _ _) (Value.int _ _)) _ _ _); (first
      | (refine' figs_item (nib_hi ?h1v31 ?h2v31 ?h3v31) ?h4v31 ?h5v31 (fun t9w k9w => ?_); (case h1v31 => assumption); (case h2v31 => omega); (case h3v31 => omega); (case h4v31 => omega); (case h5v31 => omega))
      | (refine' figs_item (nib_lo ?h1v31 ?h2v31 ?h3v31) ?h4v31 ?h5v31 (fun t9w k9w => ?_); (case h1v31 => assumption); (case h2v31 => omega); (case h3v31 => omega); (case h4v31 => omega); (case h5v31 => omega)))))
  k_with "call ref" => ((k_here; k_dflt (refine' figs_cb ?kbv36 ?klv36 ?kSv36 (fun hv9w h9w tk9w F9w N9w => ?_) (fun v9w t9w hv9w lo9w hi9w h9w tk9w F9w N9w => ?_); (case kbv36 => kba_ints2); (case klv36 => kba_size); (case kSv36 => walk_at "my site")); all_goals ((try dsimp only); (try k_fold))))
  k_with "Exists" => ((k_here; (refine made_bytes (by k_asm) (by first | k_asm | exact News.nil) (Top.nolimit (by k_asm)) (by rfl) (of_decide_eq_true (by rfl)) ?_; intro h' o' F' N' l1 lo' hd'; (try k_lt l1))))
  k_with "eval Dict" => ((k_here; (with_reducible refine Dict_made_bytes (by with_unfolding_all rfl) (by with_unfolding_all assumption) (by with_unfolding_all rfl) (by with_unfolding_all rfl) (List.cons_ne_nil _ _) (by with_unfolding_all decide) ?_; intro _)))
  k_with "my enterC" => ((refine wpAny_call ?_; k_dflt (refine' code_defCG ?k1v44 ?k2v44 ?k3v44 ?k4v44 ?k5v44 ?kAv44 ?kFv44 ?kKv44 ?k6v44 ?k7v44 ?k8v44 ?k9wv44 ?kBv44 ?kDv44 ?_ ?c2v44 ?c3v44 ?c4v44; (case kAv44 => exact rfl); (case kFv44 => exact rfl); (case kKv44 => assumption); (case k1v44 => k_asm); (case k2v44 => k_asm); (case k3v44 => k_asm); (case k4v44 => k_asm); (case k5v44 => k_asm); (case k6v44 => k_is); (case k7v44 => k_is); (case k8v44 => ktr_room); (case k9wv44 => exact BindsTo.of_eq rfl); (case kBv44 => exact rfl); (case kDv44 => decide +kernel); (case c2v44 => exact rfl); (case c3v44 => exact rfl); (case c4v44 => exact rfl); k_whole)))
  k_with "my pull" => (first | exact Pull.head | (refine' Pull.tail ?ptlv49; (case ptlv49 => walk_at "my pull")))
  k_with "my off" => (((try simp only [LCg.Off1, and_true]); (repeat' (refine And.intro ?_ ?_)); all_goals first | exact trivial | (walk_at "my ne")))
  k_with "my pow" => (first | omega | exact pow16_pos _ | exact pow16_le (by omega) | decide)
  k_with "call ref" => ((k_here; k_dflt (refine' draw_c ?P1v52 ?P2v52 ?hIv52 ?h1v52 ?h2v52 ?h3v52 ?h4v52 ?h5v52 ?h6v52 ?h7v52 (fun k9w v9w t9w u9w h9w tk9w hk9w lo9w hi9w dv9w F9w N9w => ?_) ?kSv52; (case kSv52 => walk_at "my site"); (case P1v52 => walk_at "my pull"); (case P2v52 => walk_at "my pull"); (case hIv52 => l_ints); (case h1v52 => first | assumption | omega); (case h2v52 => omega); (case h3v52 => omega); (case h4v52 => walk_at "my pow"); (case h5v52 => walk_at "my pow"); (case h6v52 => omega); (case h7v52 => walk_at "my off")); (try dsimp only); (try k_fold)))
  k_with "call ref" => ((k_here; k_dflt (refine' small_c ?kbv61 ?klv61 (fun B9w t9w h9w tk9w hB9w F9w N9w => ?_) ?kSv61; (case kSv61 => walk_at "my site"); (case kbv61 => walk_at "my ints"); (case klv61 => first | assumption | kba_size)); (try dsimp only); (try k_fold)))
  k_with "call ref" => ((k_here; k_dflt (refine' digs_c ?kbv62 ?klv62 (fun hv9w h9w tk9w F9w N9w => ?_) (fun v9w t9w hv9w h9w tk9w F9w N9w => ?_) ?kSv62; (case kSv62 => walk_at "my site"); (case kbv62 => walk_at "my ints"); (case klv62 => first | assumption | kba_size)); all_goals ((try dsimp only); (try k_fold))))
  k_with "call ref" => ((k_here; k_dflt (refine' parts_c ?kb1v63 ?kb2v63 ?kb3v63 ?kl1v63 ?kl2v63 ?kl3v63 ?kDv63 (fun hv9w h9w tk9w F9w N9w => ?_) (fun v9w t9w hv9w h9w tk9w F9w N9w => ?_) ?kSv63; (case kSv63 => walk_at "my site"); (case kDv63 => k_mem); (case kb1v63 => assumption); (case kb2v63 => assumption); (case kb3v63 => assumption); (case kl1v63 => first | assumption | omega); (case kl2v63 => first | assumption | omega); (case kl3v63 => first | assumption | omega)); all_goals ((try dsimp only); (try k_fold))))
  k_with "call ref" => ((k_here; k_dflt (refine' names_c (fun D9w o9w kvs9w h9w tk9w off9w lo9w hd9w ht9w F9w N9w => ?_) ?kSv64; (case kSv64 => walk_at "my site")); (try simp only [LCg.Off1, and_true] at off9w); (try dsimp only); (try k_fold)))
  k_with "call ref" => ((k_here; k_dflt (refine' lnames_c (fun D9w o9w kvs9w h9w tk9w off9w lo9w hd9w ht9w F9w N9w => ?_) ?kSv65; (case kSv65 => walk_at "my site")); (try simp only [LCg.Off1, and_true] at off9w); (try dsimp only); (try k_fold)))
  k_with "getMethod ref" => ((k_here; kda_here; (with_reducible show wpAny _ _ (getMethod (Value.ref _) (Str.ofString "get") _) _ _ _); k_dflt (refine kdg_method (knd := bytesKind _ _) (by k_asm) (by k_mem) (by k_asm) ?_)))
  k_with "call builtin:dict.get" => ((k_here; kda_here; k_dflt (refine' get_names ?n1v67 ?n2v67 ?n3v67 ?n4v67 ?n5v67 ?n6v67 (fun hv9w t9w => ?_) (fun v9w t9w k9w hv9w => ?_); (case n1v67 => k_asm); (case n2v67 => k_mem); (case n3v67 => k_asm); (case n4v67 => k_asm); (case n5v67 => assumption); (case n6v67 => walk_at "my ints")); all_goals (try dsimp only)))
  k_with "call builtin:len" => ((k_here; (with_reducible show wpAny _ _ (call (Value.builtin "len") [Value.ref _]) _ _ _); k_dflt (refine' len_gen ?n1v68 ?n2v68 ?n3v68 (fun t9w k9w => ?_); (case n1v68 => k_asm); (case n2v68 => k_mem); (case n3v68 => assumption))))
  k_with "call ref" => ((k_here; k_dflt (refine' dircol_c ?h1v113 ?h2v113 ?h3v113 (fun v9w t9w h9w tk9w hv9w F9w N9w => ?_) ?kSv113; (case kSv113 => walk_at "my site"); (case h1v113 => walk_at "my byte"); (case h2v113 => walk_at "my byte"); (case h3v113 => walk_at "my byte")); (try dsimp only); (try k_fold)))
  k_with "my byte" => (first | omega | ((simp only [List.getD_cons_zero, List.getD_cons_succ, Int.toNat_zero, Int.toNat_one, Int.reduceToNat]); omega))
  k_with "call ref" => ((k_here; (with_reducible show wpAny _ _ (call (Value.ref 29) _) _ _ _); k_dflt (refine' penw_c ?hpv129 ?hTv129 (fun e9w R9w h9w tk9w o9w F9w N9w => ?_) (fun e9w R9w h9w tk9w o9w F9w N9w => ?_) (fun e9w R9w h9w tk9w o9w F9w N9w => ?_) ?kSv129; (case kSv129 => walk_at "my site"); (case hpv129 => omega); (case hTv129 => k_mem)); all_goals (try (exfalso; omega)); all_goals ((try simp only [LCg.Off1, and_true] at o9w); (try dsimp only); (try k_fold))))
  k_with "call ref" => ((k_here; (with_reducible show wpAny _ _ (call (Value.ref 72) _) _ _ _); k_dflt (refine' plain_c ?hpv132 ?hnv132 ?hTv132 (fun e9w x9w t9w R9w h9w tk9w hx9w o9w F9w N9w => ?_) (fun e9w x9w t9w R9w h9w tk9w hx9w o9w F9w N9w => ?_) (fun e9w x9w t9w R9w h9w tk9w hx9w o9w F9w N9w => ?_) ?kSv132; (case kSv132 => walk_at "my site"); (case hpv132 => assumption); (case hnv132 => assumption); (case hTv132 => k_mem)); all_goals ((try simp only [LCg.Off1, and_true] at o9w); (try dsimp only); (try k_fold))))
  k_with "call ref" => ((k_here; (with_reducible show wpAny _ _ (call (Value.ref 77) _) _ _ _); k_dflt (first
      | (refine' pcol_i1 ?hcv133 ?hmv133 (fun v9w t9w h9w tk9w hv9w F9w N9w => ?_) ?kSv133; (case kSv133 => walk_at "my site"); (case hmv133 => k_mem); (case hcv133 => assumption))
      | (refine' pcol_i3 ?hcv133 ?hmv133 (fun v9w t9w h9w tk9w hv9w F9w N9w => ?_) ?kSv133; (case kSv133 => walk_at "my site"); (case hmv133 => k_mem); (case hcv133 => assumption))); (try dsimp only); (try k_fold)))
  exact trivial
noncomputable def KindIs (kv : Int) : Prop := kv = 5 ∨ kv = 2 ∨ kv = 1
section
variable {prog : Program} {w : World} {A : Around} {E : Value → Shared → Prop} {s : Shared} {value slice : Expr} {k : Int} {u : Tok} {Q : Value → Shared → Prop}
theorem menu_kind {t : Addr} {t1 t2 t3 t4 t5 : Tok} (ht : IsTup s.heap t #[.int 5 t1, .int 2 t2, .int 5 t3, .int 2 t4, .int 1 t5]) (h0 : 0 ≤ k) (h1 : k < 5) (h : ∀ kv t, kv = 5 ∨ kv = 2 ∨ kv = 1 → Q (.int kv t) s)
    (hs : subscripted slice false (.ref t) (.int k u) = operate [.ref t, .int k u] (getItem (.ref t) (.int k u)) := by with_unfolding_all rfl) :
    wpAny (model prog w) A (subscriptTail value slice (.ref t) (.int k u)) Q E s := by
  refine tup_any (l := [.int 5 t1, .int 2 t2, .int 5 t3, .int 2 t4, .int 1 t5]) ht h0 (by simpa using h1) (by simp) (fun x hx => ?_) hs
  obtain ⟨n, hn⟩ : ∃ n : Nat, k.toNat = n := ⟨_, rfl⟩
  have hn5 : n < 5 := by omega
  rw [hn] at hx
  have : n = 0 ∨ n = 1 ∨ n = 2 ∨ n = 3 ∨ n = 4 := by omega
  rcases this with rfl | rfl | rfl | rfl | rfl <;> cases hx <;> exact h _ _ (by decide)
theorem menu_opt {t : Addr} {t2 t3 t4 t5 : Tok} (ht : IsTup s.heap t #[.none, .int 0 t2, .int 255 t3, .int 256 t4, .int 17 t5]) (h0 : 0 ≤ k) (h1 : k < 5) (h : ∀ o t, 0 ≤ Option.getD o 0 ∧ Option.getD o 0 ≤ 256 → Q (optI o t) s)
    (hs : subscripted slice false (.ref t) (.int k u) = operate [.ref t, .int k u] (getItem (.ref t) (.int k u)) := by with_unfolding_all rfl) :
    wpAny (model prog w) A (subscriptTail value slice (.ref t) (.int k u)) Q E s := by
  refine tup_any (l := [.none, .int 0 t2, .int 255 t3, .int 256 t4, .int 17 t5]) ht h0 (by simpa using h1) (by simp) (fun x hx => ?_) hs
  obtain ⟨n, hn⟩ : ∃ n : Nat, k.toNat = n := ⟨_, rfl⟩
  have hn5 : n < 5 := by omega
  rw [hn] at hx
  have : n = 0 ∨ n = 1 ∨ n = 2 ∨ n = 3 ∨ n = 4 := by omega
  rcases this with rfl | rfl | rfl | rfl | rfl <;> cases hx
  · exact h none t2 (by decide)
  · exact h (some 0) _ (by decide)
  · exact h (some 255) _ (by decide)
  · exact h (some 256) _ (by decide)
  · exact h (some 17) _ (by decide)
theorem eq_int_true {a b : Int} {t u : Tok} (e : a = b) (h : Q (.bool true) s) : wpAny (model prog w) A (compareOp .Eq (.int a t) (.int b u)) Q E s := by
  subst e
  exact PyProof.Rows.eq_int (by rw [beq_self_eq_true]; exact h)
end
theorem kind_small {kv : Int} (h : kv = 5 ∨ kv = 2 ∨ kv = 1) : 0 ≤ kv ∧ kv < 10 := by omega
theorem dir_assoc {a b c : Int} : 16777216 + (65536 * a + 256 * b + c) = 16777216 + 65536 * a + 256 * b + c := by omega
theorem opts_gen {ys : List Value} {l : List Int} (h : IntsAre ys l) : ∃ bs, bs = l ∧ IntsAre ys bs := ⟨l, rfl, h⟩
section
variable {prog : Program} {w : World} {A : Around} {E : Value → Shared → Prop} {h₀ : Heap} {L : Addr} {m : Str → Option Value} {env : Env} {x : Str} {scope : Scope} {cl : List (Str × Addr)} {news base : List (Addr × Obj)} {value slice : Expr}
/-- a list of ints and Nones, drawn one by one: a turn's walk once -/
theorem draws_src {elt : Expr} {Fin : Shared → List Value → List (Addr × Obj) → Prop} {r pa b : Addr} {nn : Nat} {v k : Int} {t tr ur vr : Tok} {s : Shared}
    (F : Fr h₀ L s.heap m) (N : News h₀ L s.heap news) (hh : A.handled = none) (hr : IsRange s.heap r 0 v 1 tr ur vr) (h0 : 0 ≤ v) (h5 : v < 5) (P : Pull (pa, penObj b k t nn) news base)
    (turn : ∀ (k' : Int) (t' : Tok) I oI C oC D m₂ ys h tk (E' : Value → Shared → Prop) (Cont : Value → List (Addr × Obj) → Prop), k ≤ k' → k' ≤ k + 4 → LCg.NsObj oC m₂ → Fr h₀ L h m → News h₀ L h ((I, oI) :: (C, oC) :: (D, LCg.lst ys) :: (pa, penObj b k' t' nn) :: base) →
      LCg.Off3 I C D ((pa, penObj b k' t' nn) :: base) → ((@Ne Nat I C) ∧ (@Ne Nat I D) ∧ (@Ne Nat C D)) →
      (∀ o to k'' t'', k'' = k' + 1 → 0 ≤ o.getD 0 ∧ o.getD 0 ≤ 256 → Cont (optI o to) ((pa, penObj b k'' t'' nn) :: base)) →
      wpAny (model prog w) A (eval elt (compEnvC scope cl C env)) (LCg.CompEnd h₀ L m { s with heap := h, toks := tk } I oI C oC D (LCg.lst ys) (fun _ => True) Cont) E' { s with heap := h, toks := tk })
    (fin : ∀ g ys os k' t', OptsAre ys os → os.length ≤ 4 → (∀ o ∈ os, 0 ≤ o.getD 0 ∧ o.getD 0 ≤ 256) → k ≤ k' → k' ≤ k + 4 → Fin { s with heap := g } ys ((pa, penObj b k' t' nn) :: base)) :
    LCg.CompSrc prog w A h₀ L m env elt x scope cl Fin (.ref r) s := by
  obtain ⟨n, rfl⟩ := Int.eq_ofNat_of_zero_le h0
  have hn : n < 5 := Int.ofNat_lt.mp h5
  refine LCg.CompSrc.range (n := n) hh F (news := (pa, penObj b k t nn) :: base) (fun q hq => N q (P.mem q hq)) hr (small_one (by decide) (by decide) (Int.le_trans (by decide) h0) (Int.lt_trans h5 (by decide)))
    ((rangeSize_nat 0 (n : Int)).trans (by rw [Int.sub_zero, Int.toNat_natCast])) (Nat.le_trans (Nat.le_of_lt hn) (by rw [PySem.sizeLine_eq]; decide)) fun g => ?_
  have key : ∀ (j i : Nat) (ys : List Value) (os : List (Option Int)) (k' : Int) (t' : Tok), i + j = n → OptsAre ys os → os.length = i → (∀ o ∈ os, 0 ≤ o.getD 0 ∧ o.getD 0 ≤ 256) → k' = k + (i : Int) →
      LCg.CompRest prog w A h₀ L m env elt x scope cl { s with heap := g } (fun _ => True) (fun i v => ∃ t, v = .int (0 + (i : Int)) t) (Fin { s with heap := g }) j i ys ((pa, penObj b k' t' nn) :: base) := by
    intro j
    induction j with
    | zero =>
      intro i ys os k' t' hi hy ho hb hk
      exact LCg.CompRest.zero (fin g ys os k' t' hy (by omega) hb (by omega) (by omega))
    | succ j ih =>
      intro i ys os k' t' hi hy ho hb hk
      refine LCg.CompRest.succ ?_
      intro v I oI C oC D m₂ h tk E' _ hC _ F' N' off ne
      refine turn k' t' I oI C oC D m₂ ys h tk E' _ (by omega) (by omega) hC F' N' off ne fun o to k'' t'' hk'' hbo => ?_
      refine ih (i + 1) _ (os ++ [o]) _ t'' (by omega) hy.snoc (by rw [List.length_append, ho]; rfl) (fun q hq => ?_) (by rw [hk'', hk]; push_cast; omega)
      rcases List.mem_append.mp hq with hq | hq
      · exact hb q hq
      · rw [List.mem_singleton.mp hq]; exact hbo
  exact key n 0 [] [] k t (Nat.zero_add _) .nil rfl (fun _ h => nomatch h) (by omega)
theorem opts_slice {s : Shared} {l : Addr} {vs : List Value} {os : List (Option Int)} {nl : Nat} {vl vu : Value} {y : Int} {Q : Value → Shared → Prop} (F : Fr h₀ L s.heap m) (N : News h₀ L s.heap news) (hm : (l, W.listOf vs.toArray nl) ∈ news) (hv : OptsAre vs os) (hl : os.length ≤ 4) (pl : IsPart vl none) (pu : IsPart vu (some y)) (hy : 0 ≤ y)
    (h : ∀ D ws os' h', Fr h₀ L h' m → News h₀ L h' ((D, listOf (List.toArray ws) 0) :: news) → (∀ p ∈ news, p.1 < D) → OptsAre ws os' → os' = os.take y.toNat → os'.length ≤ 4 → Q (.ref D) { s with heap := h' })
    (hs : subscripted slice false (.ref l) (.ref s.heap.objs.size) = operate [.ref s.heap.objs.size, .ref l] (getItem (.ref l) (.ref s.heap.objs.size))) (ht : ∀ r, letTemporaryGo value (.ref l) r = pure ()) :
    wpAny (model prog w) A (subscriptTail value slice (.ref l) (.ref s.heap.objs.size)) Q E { s with heap := s.heap.push { cls := .type "slice", data := .fields #[vl, vu, .none] } } := by
  have hsz : vs.toArray.size ≤ sizeLine := by
    rw [List.size_toArray, hv.length]
    exact Nat.le_trans hl (by rw [PySem.sizeLine_eq]; decide)
  refine kmk_slice F N (PySem.IsL.isList (n := nl) (N _ hm).1) pl pu (fun D h' F' N' l1 => h D (slicePick vs.toArray none (some y) none).toList _ h' F' ?_ l1 (opts_pick hv hy) rfl (Nat.le_trans (List.length_take_le' ..) hl)) hs ht hsz
  rw [Array.toArray_toList]
  exact N'
end
theorem bare_len {os os' : List (Option Int)} {bs : List Int} {c : Int} (e1 : os' = os.take c.toNat) (e2 : bs = os'.map fun o => o.getD 0) : bs = (os.map fun o => o.getD 0).take c.toNat := by rw [e2, e1, List.map_take]
theorem one {l : List Int} (h : (l.length : Int) = 1) : ∃ a, l = [a] := by
  rcases l with _ | ⟨a, _ | ⟨b, r⟩⟩
  · exact absurd (show (0 : Int) = 1 from h) (by decide)
  · exact ⟨a, rfl⟩
  · exact absurd (show r.length + 1 + 1 = 1 from Int.ofNat.inj h) (by omega)
theorem three' {l : List Int} (h : (l.length : Int) = 3) : ∃ a b c, l = [a, b, c] := by
  obtain ⟨a, b, c, r, rfl⟩ := three (Nat.le_of_eq (Int.ofNat.inj (show ((3 : Nat) : Int) = _ from h.symm)))
  rcases r with _ | ⟨d, r⟩
  · exact ⟨a, b, c, rfl⟩
  · exact absurd (show r.length + 1 + 1 + 1 + 1 = 3 from Int.ofNat.inj h) (by omega)
theorem take_shape {l ns : List Int} {n : Nat} (e : l = ns.take n) : ∃ r, ns = l ++ r := ⟨ns.drop n, by rw [e, List.take_append_drop]⟩
theorem pr5 {kv M : Int} {ns bs : List Int} (h : kv = 5) (e : bs = ns.take (Int.toNat 1)) (hl : (bs.length : Int) = 1) (ha : ∀ a, a ∈ bs → a ≤ M) (hM : M < 256) : pcolV kv ns = some (bs.getD (Int.toNat 0) 0) := by
  obtain ⟨x, rfl⟩ := one hl
  obtain ⟨r, rfl⟩ := take_shape e
  exact if_pos ⟨h, Nat.succ_le_succ (Nat.zero_le _), by have := ha x (List.mem_cons_self ..); show x ≤ 255; omega⟩
theorem pr5b {kv M : Int} {ns bs : List Int} (h : kv = 5) (e : bs = ns.take (Int.toNat 1)) (hl : (bs.length : Int) = 1) (hm : M ∈ bs) (hM : ¬ M < 256) : pcolV kv ns = none := by
  obtain ⟨x, rfl⟩ := one hl
  obtain ⟨r, rfl⟩ := take_shape e
  rw [List.mem_singleton.mp hm] at hM
  unfold pcolV
  rw [if_neg (fun z => hM (Int.lt_of_le_of_lt z.2.2 (by decide))), if_neg (fun z => absurd (h.symm.trans z.1) (by decide))]
theorem pr5c {kv : Int} {ns bs : List Int} (h : kv = 5) (e : bs = ns.take (Int.toNat 1)) (hl : ¬ (bs.length : Int) = 1) : pcolV kv ns = none := by
  rcases ns with _ | ⟨x, r⟩
  · unfold pcolV
    rw [if_neg (fun z => absurd z.2.1 (by decide)), if_neg (fun z => absurd z.2.1 (by decide))]
  · exact absurd (by rw [e]; rfl) hl
theorem pr2 {kv M : Int} {ns bs : List Int} (h : kv = 2) (e : bs = ns.take (Int.toNat 3)) (hl : (bs.length : Int) = 3) (ha : ∀ a, a ∈ bs → a ≤ M) (hM : M < 256) : pcolV kv ns = some (16777216 + (65536 * bs.getD (Int.toNat 0) 0 + 256 * bs.getD (Int.toNat 1) 0 + bs.getD (Int.toNat 2) 0)) := by
  obtain ⟨x, y, z, rfl⟩ := three' hl
  obtain ⟨r, rfl⟩ := take_shape e
  have m1 := ha x (List.mem_cons_self ..)
  have m2 := ha y (List.mem_cons_of_mem _ (List.mem_cons_self ..))
  have m3 := ha z (List.mem_cons_of_mem _ (List.mem_cons_of_mem _ (List.mem_cons_self ..)))
  unfold pcolV
  rw [if_neg (fun q => absurd (h.symm.trans q.1) (by decide)), if_pos ⟨h, Nat.succ_le_succ (Nat.succ_le_succ (Nat.succ_le_succ (Nat.zero_le _))), by show x ≤ 255; omega, by show y ≤ 255; omega, by show z ≤ 255; omega⟩]
  rfl
theorem pr2b {kv M : Int} {ns bs : List Int} (h : kv = 2) (e : bs = ns.take (Int.toNat 3)) (hl : (bs.length : Int) = 3) (hm : M ∈ bs) (hM : ¬ M < 256) : pcolV kv ns = none := by
  obtain ⟨x, y, z, rfl⟩ := three' hl
  obtain ⟨r, rfl⟩ := take_shape e
  exact pc_big2 (M := M) (by rw [h]; decide) hm (by omega)
theorem pr2c {kv : Int} {ns bs : List Int} (h : kv = 2) (e : bs = ns.take (Int.toNat 3)) (hl : ¬ (bs.length : Int) = 3) : pcolV kv ns = none := by
  refine pc_no2 (by rw [h]; decide) (.inr fun l => hl ?_)
  obtain ⟨a, b, c, r, rfl⟩ := three (len_nat l)
  rw [e]; rfl
theorem pr1 {kv : Int} {ns : List Int} (h : ¬ kv = 5) (h' : ¬ kv = 2) : pcolV kv ns = none := pc_no2 h (.inl h')
theorem pcolk {prog : Program} {w : World} {p : Program} {loose : List Str} {mean : ExcName → Option Value} {mg mb : Str → Option Value} {dp un : Nat} {gd : Option (List Code)} {cn : Str} {cs : Scope} {a : Addr} {ccd : Value} {cl : List (Str × Addr)} {outer : List Env} {A₀ : Around} {base h₀ : Heap} {L : Addr} {m : Str → Option Value} {s : Shared} {Q E : Value → Shared → Prop} {news : List (Addr × Obj)}
    {kind : Int} {tk : Tok} {D : Addr} {nl : Nat} {vs : List Value} {os : List (Option Int)} (r : Option Int) (hk1 : 0 ≤ kind ∧ kind < 10) (hv : OptsAre vs os) (hl : os.length ≤ 4) (hb : ∀ o ∈ os, 0 ≤ o.getD 0 ∧ o.getD 0 ≤ 256)
    (hm : (D, W.listOf vs.toArray nl) ∈ news) (hr : pcolV kind (os.map fun o => o.getD 0) = r)
    (h : ∀ t h' tk', Fr h₀ L h' m → News h₀ L h' news → Q (optI r t) { s with heap := h', toks := tk' })
    (S : Site w p loose mean mg mb dp un 2 cs outer A₀ base h₀ L s.heap m news) :
    wpAny (model prog w) (ktrTop dp un gd cn cs L a ccd cl outer) (call (.ref 77) [.int kind tk, .ref D]) Q E s :=
  pcol_c hk1 hv hl hb hm (fun t h' tk' F N => by rw [hr]; exact h t h' tk' F N) S
theorem bare_ln {os os' : List (Option Int)} {bs : List Int} {c : Int} (e1 : os' = os.take c.toNat) (hl : os'.length ≤ 4) (e2 : bs = os'.map fun o => o.getD 0) : bs = (os.map fun o => o.getD 0).take c.toNat ∧ bs.length ≤ 4 := ⟨bare_len e1 e2, by rw [e2, List.length_map]; exact hl⟩
/-- {5: 1, 2: 3}.get(kind, 9) -/
noncomputable def Wanted (kind v : Int) : Prop := (kind = 5 ∧ v = 1) ∨ (kind = 2 ∧ v = 3) ∨ (kind = 1 ∧ v = 9)
theorem get_wanted {prog : Program} {w : World} {A : Around} {E : Value → Shared → Prop} {s : Shared} {Q : Value → Shared → Prop} {d : Addr} {i v1 v2 : Int} {t u : Tok} (T : IntTab prog w s.heap d [(.int 5, .int v1), (.int 2, .int v2)]) (hk : i = 5 ∨ i = 2 ∨ i = 1) (e1 : v1 = 1) (e2 : v2 = 3)
    (h : ∀ v t, Wanted i v → 1 ≤ v → (i = 5 ∨ 3 ≤ v) → Q (.int v t) { s with toks := s.toks + 1 }) : wpAny (model prog w) A (call (.builtin "dict.get") [.ref d, .int i t, .int 9 u]) Q E s := by
  refine call_get2_intTab T (dd := .int 9) (.int 9 u) fun v hv => ?_
  subst e1 e2
  rcases hk with rfl | rfl | rfl
  · obtain ⟨z, rfl⟩ := PyProof.V.Flat.int_inv (i := 1) hv
    exact h _ _ (.inl ⟨rfl, rfl⟩) (by decide) (by decide)
  · obtain ⟨z, rfl⟩ := PyProof.V.Flat.int_inv (i := 3) hv
    exact h _ _ (.inr (.inl ⟨rfl, rfl⟩)) (by decide) (by decide)
  · obtain ⟨z, rfl⟩ := PyProof.V.Flat.int_inv (i := 9) hv
    exact h _ _ (.inr (.inr ⟨rfl, rfl⟩)) (by decide) (by decide)
theorem pw5 {kv v M : Int} {ns bs : List Int} (hw : Wanted kv v) (h : kv = 5) (e : bs = ns.take v.toNat) (hl : (bs.length : Int) = v) (ha : ∀ a, a ∈ bs → a ≤ M) (hM : M < 256) : pcolV kv ns = some (bs.getD (Int.toNat 0) 0) := by
  rcases hw with ⟨-, rfl⟩ | ⟨h', -⟩ | ⟨h', -⟩
  · exact pr5 h e hl ha hM
  · exact absurd (h.symm.trans h') (by decide)
  · exact absurd (h.symm.trans h') (by decide)
theorem pw2 {kv v M : Int} {ns bs : List Int} (hw : Wanted kv v) (h : ¬ kv = 5) (e : bs = ns.take v.toNat) (hb : bs.length ≤ 4) (hl : (bs.length : Int) = v) (ha : ∀ a, a ∈ bs → a ≤ M) (hM : M < 256) : pcolV kv ns = some (16777216 + (65536 * bs.getD (Int.toNat 0) 0 + 256 * bs.getD (Int.toNat 1) 0 + bs.getD (Int.toNat 2) 0)) := by
  rcases hw with ⟨h', -⟩ | ⟨h', rfl⟩ | ⟨-, rfl⟩
  · exact absurd h' h
  · exact pr2 h' e hl ha hM
  · exact absurd hl (by omega)
theorem pwB {kv v M : Int} {ns bs : List Int} (hw : Wanted kv v) (e : bs = ns.take v.toNat) (hl : (bs.length : Int) = v) (hm : M ∈ bs) (hM : ¬ M < 256) : pcolV kv ns = none := by
  rcases hw with ⟨h', rfl⟩ | ⟨h', rfl⟩ | ⟨h', rfl⟩
  · exact pr5b h' e hl hm hM
  · exact pr2b h' e hl hm hM
  · exact pr1 (by rw [h']; decide) (by rw [h']; decide)
theorem pwC {kv v : Int} {ns bs : List Int} (hw : Wanted kv v) (e : bs = ns.take v.toNat) (hl : ¬ (bs.length : Int) = v) : pcolV kv ns = none := by
  rcases hw with ⟨h', rfl⟩ | ⟨h', rfl⟩ | ⟨h', rfl⟩
  · exact pr5c h' e hl
  · exact pr2c h' e hl
  · exact pr1 (by rw [h']; decide) (by rw [h']; decide)
theorem bs_i0 {bs : List Int} {w : Int} (h : (bs.length : Int) = w) (h1 : 1 ≤ w) : (0 : Int) < (bs.length : Int) := by omega
theorem bs_i1 {bs : List Int} {v w : Int} (h : (bs.length : Int) = w) (h5 : ¬ v = 5) (hw : v = 5 ∨ 3 ≤ w) : (1 : Int) < (bs.length : Int) := by omega
theorem bs_i2 {bs : List Int} {v w : Int} (h : (bs.length : Int) = w) (h5 : ¬ v = 5) (hw : v = 5 ∨ 3 ≤ w) : (2 : Int) < (bs.length : Int) := by omega

theorem set85 : True := by
  w_top off
  k_with "CompSrc" => ((k_here; k_dflt (refine' draws_src ?Fv140 ?Nv140 ?hhv140 ?hrv140 ?h0v140 ?h5v140 ?Pv140 (fun k9w t9w I9w oI9w C9w oC9w D9w m9w ys9w h9w tk9w E9w Cont9w lo9w hi9w hC9w F9w N9w off9w ne9w hc9w => ?turnv140) (fun g9w ys9w os9w k9w t9w hv9w hl9w hb9w lo9w hi9w => ?finv140); (case Fv140 => k_asm); (case Nv140 => k_asm); (case hhv140 => exact rfl); (case hrv140 => assumption); (case h0v140 => assumption); (case h5v140 => assumption); (case Pv140 => walk_at "my pull")); (try simp only [LCg.Off3, and_true] at off9w); (try k_fold)))
  k_with "CompSrc" => ((k_here; (k_dflt (refine' opts_src ?Fv141 ?Nv141 ?hhv141 ?hmv141 ?hvv141 ?hlv141 ?hkv141 ?hxv141 ?hdv141 (fun g9w ys9w hys9w => ?_); (case Fv141 => k_asm); (case Nv141 => k_asm); (case hhv141 => exact rfl); (case hmv141 => k_mem); (case hvv141 => assumption); (case hlv141 => omega); (case hkv141 => exact fun _ => rfl); (case hxv141 => exact fun _ => rfl); (case hdv141 => decide))); (have hx9w := opts_gen hys9w); (obtain ⟨bs9w, hbs9w, hI9w⟩ := hx9w); clear hys9w; (obtain ⟨hbn9w, hbl9w⟩ := bare_ln (by assumption) (by assumption) hbs9w); clear hbs9w))
  k_with "call ref" => ((k_here; (with_reducible show wpAny _ _ (call (Value.ref 187) _) _ _ _); k_dflt (refine' draw_c ?P1v142 ?P2v142 ?hIv142 ?h1v142 ?h2v142 ?h3v142 ?h4v142 ?h5v142 ?h6v142 ?h7v142 (fun k9w v9w t9w u9w h9w tk9w hk9w lo9w hi9w dv9w F9w N9w => ?_) ?kSv142; (case kSv142 => walk_at "my site"); (case P1v142 => walk_at "my pull"); (case P2v142 => walk_at "my pull"); (case hIv142 => l_ints); (case h1v142 => first | assumption | omega); (case h2v142 => omega); (case h3v142 => omega); (case h4v142 => walk_at "my pow"); (case h5v142 => walk_at "my pow"); (case h6v142 => omega); (case h7v142 => walk_at "my off")); subst hk9w; clear dv9w; (try dsimp only); (try k_fold)))
  k_with "subscriptTail" => ((k_here; (with_reducible show wpAny _ _ (subscriptTail _ _ (Value.ref _) (Value.int _ _)) _ _ _); k_dflt (first | (refine' menu_kind ?tv143 ?av143 ?bv143 (fun v9w t9w hv9w => ?_); (case tv143 => exact News.isTup (by k_asm) (by k_mem)); (case av143 => omega); (case bv143 => omega)) | (refine' menu_opt ?tv143 ?av143 ?bv143 (fun v9w t9w hv9w => ?_); (case tv143 => exact News.isTup (by k_asm) (by k_mem)); (case av143 => omega); (case bv143 => omega)))))
  k_with "subscriptTail Name Slice ref ref" => ((k_here; (with_reducible show wpAny _ _ (subscriptTail _ (PySem.Expr.Slice _ _ none _) (Value.ref _) (Value.ref _)) _ _ _); k_dflt (refine' opts_slice ?Fv144 ?Nv144 ?mv144 ?vv144 ?lv144 ?pv144 ?qv144 ?yv144 (fun D9w ws9w os9w h9w F9w N9w l9w hv9w ho9w hl9w => ?_) ?sv144 ?tv144; (case Fv144 => k_asm); (case Nv144 => k_asm); (case mv144 => k_mem); (case vv144 => assumption); (case lv144 => assumption); (case pv144 => exact IsPart.none); (case qv144 => exact IsPart.int _ _); (case yv144 => omega); (case sv144 => with_unfolding_all rfl); (case tv144 => kmk_pure)); (try k_lt l9w); (try k_sweep)))
  k_with "compareOp Eq int int" => ((k_here; (refine' eq_int_true ?hv145 ?_; (case hv145 => first | exact rfl | exact dir_assoc))))
  k_with "my dec" => (first | omega | (simp only [decide_eq_true_eq, beq_iff_eq, bne_iff_ne, Bool.not_eq_true', decide_eq_false_iff_not, beq_eq_false_iff_ne, ne_eq]; omega))
  k_with "ite" => ((k_here; first | (refine ite_posI ?decv147 ?_; (case decv147 => walk_at "my dec"); walk_say "PRUNED mine") | (refine ite_negI ?decv147 ?_; (case decv147 => walk_at "my dec"); walk_say "PRUNED mine")))
  k_with "call ref" => ((k_here; (with_reducible show wpAny _ _ (call (Value.ref 77) _) _ _ _); k_dflt (refine' pcolk _ ?hkv148 ?hvv148 ?hlv148 ?hbv148 ?hmv148 ?hrv148 (fun t9w h9w tk9w F9w N9w => ?_) ?kSv148; (case kSv148 => walk_at "my site"); (case hmv148 => k_mem); (case hvv148 => assumption); (case hlv148 => assumption); (case hbv148 => assumption); (case hkv148 => exact kind_small (by assumption)); (case hrv148 => first | exact pw5 (by assumption) (by assumption) (by assumption) (by assumption) (by assumption) (by assumption) | exact pw2 (by assumption) (by assumption) (by assumption) (by assumption) (by assumption) (by assumption) (by assumption) | exact pwB (by assumption) (by assumption) (by assumption) (by assumption) (by assumption) | exact pwC (by assumption) (by assumption) (by assumption))); (try dsimp only [optI]); (try k_fold)))
  k_with "CompEnd" => ((k_here; (refine' LCg.CompEnd.intro ?Fv149 ?Nv149 _ ?subv149 ?offv149 ?Sv149 (hc9w _ _ _ u9w rfl ?bbv149)); (case bbv149 => assumption); (case Fv149 => assumption); (case Nv149 => k_asm); (case subv149 => ((dsimp only [penObj]); lcg_sub)); (case offv149 => walk_at "my off3"); (case Sv149 => exact trivial)))
  k_with "my off3" => (((simp only [LCg.Off3, and_true]); assumption))
  k_with "call builtin:dict.get" => ((k_here; (with_reducible show wpAny _ _ (call (Value.builtin "dict.get") [Value.ref _, Value.int _ _, Value.int 9 _]) _ _ _); k_dflt (refine' get_wanted (TabAt.ofNews ?nv151 ?mv151 ?lov151 ?hdv151 ?hfv151) ?kv151 ?e1v151 ?e2v151 (fun v9w t9w hw9w hv1 hv2 => ?_); (case nv151 => k_asm); (case mv151 => k_mem); (case hdv151 => assumption); (case lov151 => assumption); (case hfv151 => assumption); (case kv151 => assumption); (case e1v151 => rfl); (case e2v151 => rfl))))
  k_with "subscriptTail" => ((k_here; (with_reducible show wpAny _ _ (subscriptTail _ (Expr.Constant _ _ _) (Value.ref _) (Value.int _ _)) _ _ _); (with_unfolding_all refine' item_anyK ?k1v152 ?k2v152 ?k3v152 ?k4v152 ?k5v152 ?_ ?k6v152; (case k1v152 => is_list); (case k2v152 => l_ints); (case k3v152 => decide); (case k4v152 => first | exact bs_i0 (by assumption) (by assumption) | exact bs_i1 (by assumption) (by assumption) (by assumption) | exact bs_i2 (by assumption) (by assumption) (by assumption)); (case k5v152 => decide); (case k6v152 => with_unfolding_all rfl); k_whole); intro _))
  k_with "subscriptTail Name Constant ref int" => ((k_here; (with_reducible show wpAny _ _ (subscriptTail _ (Expr.Constant _ _ _) (Value.ref _) (Value.int _ _)) _ _ _); (with_unfolding_all refine' item_anyK ?k1v153 ?k2v153 ?k3v153 ?k4v153 ?k5v153 ?_ ?k6v153; (case k1v153 => is_list); (case k2v153 => l_ints); (case k3v153 => decide); (case k4v153 => first | exact bs_i0 (by assumption) (by assumption) | exact bs_i1 (by assumption) (by assumption) (by assumption) | exact bs_i2 (by assumption) (by assumption) (by assumption)); (case k5v153 => decide); (case k6v153 => with_unfolding_all rfl); k_whole); intro _))
  exact trivial
theorem prt_c {prog : Program} {w : World} {p : Program} {loose : List Str} {mean : ExcName → Option Value} {mg mb : Str → Option Value} {dp un : Nat} {gd : Option (List Code)} {cn : Str} {cs : Scope} {a : Addr} {ccd : Value} {cl : List (Str × Addr)} {outer : List Env} {A₀ : Around} {base h₀ : Heap} {L : Addr} {m : Str → Option Value} {s : Shared} {Q E : Value → Shared → Prop} {news : List (Addr × Obj)}
    {pa b : Addr} {k : Int} {t : Tok} {n nb : Nat} {vs : List Value} {ns : List Int} {n1 rest : List (Addr × Obj)}
    (P1 : Pull (pa, W.listOf #[.ref b, .int k t] n) news n1) (P2 : Pull (b, W.listOf vs.toArray nb) n1 rest) (hI : IntsAre vs ns) (hlen : ns.length ≤ 63) (hk0 : 0 ≤ k) (hk1 : k ≤ 80000) (hpb : @Ne Nat pa b) (hne : LCg.Off1 pa rest)
    (hS : ∀ k' t' h' tk', k ≤ k' → k' ≤ k + 6 → Fr h₀ L h' m → News h₀ L h' ((pa, W.listOf #[.ref b, .int k' t'] n) :: (b, W.listOf vs.toArray nb) :: rest) → Q (.bool true) { s with heap := h', toks := tk' })
    (S : Site w p loose mean mg mb dp un 12 cs outer A₀ base h₀ L s.heap m news) :
    wpAny (model prog w) (ktrTop dp un gd cn cs L a ccd cl outer) (call (.ref 230) [.ref pa]) Q E s := by
  obtain ⟨B, F, X, N, T, hk, hd, hu⟩ := S
  have N0 : News h₀ L s.heap [(pa, W.listOf #[.ref b, .int k t] n), (b, W.listOf vs.toArray nb)] := fun q hq => N q (by
    rcases List.mem_cons.mp hq with rfl | hq
    · exact P1.mem _ (List.mem_cons_self ..)
    · rw [List.mem_singleton.mp hq]; exact P1.mem _ (List.mem_cons_of_mem _ (P2.mem _ (List.mem_cons_self ..))))
  have kN0 : KeptN h₀ L s.heap [(pa, W.listOf #[.ref b, .int k t] n), (b, W.listOf vs.toArray nb)] := N0
  (walk_at "my enterC"; intro g9 L9 h9 tk9 cells9 FG9 F9 N9 Y9 B9 X9 T9 l9 kG9; clear N0; (try k_lt l9); k_cells Y9; (try simp only [List.cons_append, List.nil_append] at N9); (try dsimp only); (try k_lift B9); (try k_fold); k_steps)
  all_goals ((rename News g9 _ _ _ => N'); (rename Fr g9 _ _ _ => F'); (rename Fr h₀ _ _ _ => kF); (rename News h₀ _ _ _ => kN))
  all_goals (refine' hS _ _ _ _ ?pa1 ?pa2 kF (rest_of kG9 F' N' N P1 P2 (off1_mem hne) ?pa3 ?pa4); (case pa3 => k_mem); (case pa4 => k_mem); (case pa1 => omega); (case pa2 => omega))

theorem set87 : True := by
  k_with_none
  w_top off
  k_with "my site" => ((refine' Site.mk ?s1v1 ?s2v1 ?s3v1 ?s4v1 ?s5v1 ?s6v1 ?s7v1 ?s8v1; (case s1v1 => first | k_asm | fail "site: below"); (case s2v1 => first | k_asm | fail "site: frame"); (case s3v1 => first | k_asm | fail "site: part"); (case s4v1 => first | k_asm | fail "site: ledger"); (case s5v1 => first | k_asm | fail "site: top"); (case s6v1 => first | exact rfl | assumption | fail "site: kind"); (case s7v1 => first | exact room_ok (by assumption) (by decide) | (walk_say "ROOM"; ktr_room) | fail "site: room"); (case s8v1 => first | exact units_ok (by assumption) (by decide) | (walk_say "UNITS"; ktr_units) | fail "site: units")))
  k_with "my enter" => ((refine wpAny_call ?_; k_dflt (refine' code_defG ?k1v2 ?k2v2 ?k3v2 ?k4v2 ?k5v2 ?kAv2 ?kFv2 ?kKv2 ?k6v2 ?k7v2 ?k8v2 ?k9wv2 ?kBv2 ?_ ?c2v2 ?c3v2 ?c4v2 ?c5v2; (case kAv2 => exact rfl); (case kFv2 => exact rfl); (case kKv2 => assumption); (case k1v2 => k_asm); (case k2v2 => k_asm); (case k3v2 => k_asm); (case k4v2 => k_asm); (case k5v2 => k_asm); (case k6v2 => k_is); (case k7v2 => k_is); (case k8v2 => ktr_room); (case k9wv2 => exact BindsTo.of_eq rfl); (case c5v2 => decide); (case kBv2 => exact locs rfl); (case c2v2 => exact rfl); (case c3v2 => exact rfl); (case c4v2 => exact rfl); k_whole)))
  k_with "call ref" => ((k_here; (try dsimp only [List.nil_append, List.append_nil]); refine wpAny_call ?_; k_dflt (refine' code_def ?k1v3 ?k2v3 ?k3v3 ?k4v3 ?k5v3 ?kAv3 ?kFv3 ?kKv3 ?k6v3 ?k7v3 ?k8v3 ?k9wv3 ?kBv3 ?_ ?c2v3 ?c3v3 ?c4v3 ?c5v3; (case kAv3 => exact rfl); (case kFv3 => exact rfl); (case kKv3 => first | exact rfl | assumption); (case k1v3 => k_asm); (case k2v3 => k_asm); (case k3v3 => k_asm); (case k4v3 => k_asm); (case k5v3 => k_asm); (case k6v3 => k_is); (case k7v3 => k_is); (case k8v3 => ktr_room); (case k9wv3 => exact BindsTo.of_eq rfl); (case c5v3 => decide); (case kBv3 => exact locs rfl); (case c2v3 => exact rfl); (case c3v3 => exact rfl); (case c4v3 => exact rfl); k_whole; intro g' L' h' FG' F' N' B' X' T'; (try dsimp only); (try k_lift B'); (try k_fold))))
  k_with "my off" => (((rename (_ ≠ _ ∧ _ ≠ _ ∧ _ ≠ _) ∧ _ => off9w); (simp only [ne_eq] at off9w); (simp only [LCg.Off3, and_true, ne_eq, off9w, not_false_eq_true, and_self, true_and]); (first | done | ((repeat' (refine And.intro ?_ ?_)); all_goals exact neN (by walk_at "my ne")))))
  k_with "ite" => ((k_here; first
      | (refine' ite_posI ?hcv5 ?_; (case hcv5 => k_dflt (exact of_decide_eq_true (by exact rfl))))
      | (refine' ite_negI ?hcv5 ?_; (case hcv5 => k_dflt (exact of_decide_eq_false (by exact rfl))))))
  k_with "my fact" => (first | (with_reducible assumption) | (simp only [ne_eq, not_false_eq_true, *]; done))
  k_with "my ne" => (first | (walk_at "my fact") | exact Ne.symm (by walk_at "my fact") | exact Nat.ne_of_lt (by walk_at "my fact") | exact Nat.ne_of_gt (by walk_at "my fact") | exact Nat.ne_of_lt (Nat.lt_succ_of_lt (by walk_at "my fact")) | exact Nat.ne_of_gt (Nat.lt_succ_of_lt (by walk_at "my fact")) | (walk_say "NE by omega"; omega))
  k_with "my side" => ((with_reducible ((repeat' (refine And.intro ?_ ?_)) <;> first | exact trivial | assumption | (walk_at "my arith"))))
  k_with "my arith" => (first
        | ((show IntMulOk _ _); first | exact PySem.IntMulOk.of_right (PySem.intBits_le_64 (by decide) (by decide)) | exact PySem.IntMulOk.of_left (PySem.intBits_le_64 (by decide) (by decide)) | exact PySem.IntMulOk.of_right (PySem.intBits_le_64 (by omega) (by omega)) | exact PySem.IntMulOk.of_left (PySem.intBits_le_64 (by omega) (by omega)) | mul_fits)
        | ((show Builtin.divisionGoesByPylong _ _ = false); first | exact PyProof.noPylong_of_log2 (by decide +kernel) | exact PyProof.noPylong_small (by omega))
        | omega
        | decide)
  k_with "my no" => (first | with_reducible exact False.elim p9w | with_reducible exact absurd trivial p9w | with_reducible exact absurd rfl p9w | (law_purse 20000 => omega))
  k_with "execs cons" => ((k_here; (first
        | ((with_reducible show wpAny _ _ (execs (Stmt.Return (some _) _ :: _) _) _ _ _); (fail_if_success (with_reducible show wpAny _ _ (execs (Stmt.Return (some (Expr.Tuple _ _ _)) _ :: _) _) _ _ _)); (fail_if_success (with_reducible show wpAny _ _ (execs (Stmt.Return (some (Expr.List _ _)) _ :: _) _) _ _ _)); (fail_if_success (with_reducible show wpAny _ _ (execs (Stmt.Return (some (Expr.Dict _ _ _)) _ :: _) _) _ _ _)); k_dflt ((with_reducible refine' st_retE ?hev11 ?Fv11 ?Xv11 ?Tv11 (fun t => ?ev11) ?hkv11 ?hcv11 (fun t9w tk9w => ?_))); (case hev11 => k_dflt (exact rfl)); (case Fv11 => k_asm); (case Xv11 => k_asm); (case Tv11 => k_asm); (case ev11 => k_dflt (exact rfl)); (case hkv11 => k_dflt (exact rfl)); (case hcv11 => walk_at "my side"); (try dsimp only))
        | ((with_reducible show wpAny _ _ (execs (Stmt.If _ _ [] _ :: _) _) _ _ _); k_dflt ((with_reducible refine' st_if0E ?hev11 ?Fv11 ?Xv11 ?Tv11 ?ev11 ?hkv11 ?hcv11 (fun p9w tk9w => ?_) (fun p9w tk9w => ?_))); (case hev11 => k_dflt (exact rfl)); (case Fv11 => k_asm); (case Xv11 => k_asm); (case Tv11 => k_asm); (case ev11 => k_dflt (exact rfl)); (case hkv11 => k_dflt (exact rfl)); (case hcv11 => walk_at "my side"); all_goals first | (exfalso; walk_at "my no") | (try dsimp only))
        | ((with_reducible show wpAny _ _ (execs (Stmt.If _ _ (_ :: _) _ :: _) _) _ _ _); k_dflt ((with_reducible refine' st_ifE ?hev11 ?Fv11 ?Xv11 ?Tv11 ?ev11 ?hkv11 ?hcv11 (fun p9w tk9w => ?_) (fun p9w tk9w => ?_))); (case hev11 => k_dflt (exact rfl)); (case Fv11 => k_asm); (case Xv11 => k_asm); (case Tv11 => k_asm); (case ev11 => k_dflt (exact rfl)); (case hkv11 => k_dflt (exact rfl)); (case hcv11 => walk_at "my side"); all_goals first | (exfalso; walk_at "my no") | (try dsimp only))
        | ((with_reducible show wpAny _ _ (execs (Stmt.Assign [Expr.Name _ _] _ _ :: _) _) _ _ _); k_dflt ((with_reducible refine' st_assignE ?hev11 ?Fv11 ?Nv11 ?Xv11 ?Tv11 (fun t => ?ev11) ?hkv11 ?hxv11 ?hsv11 ?hcv11 (fun t9w tk9w h9w => ?_))); (case hev11 => k_dflt (exact rfl)); (case Fv11 => k_asm); (case Nv11 => k_asm); (case Xv11 => k_asm); (case Tv11 => k_asm); (case ev11 => k_dflt (exact rfl)); (case hkv11 => k_dflt (exact rfl)); (case hxv11 => k_dflt (exact rfl)); (case hsv11 => k_dflt (exact rfl)); (case hcv11 => walk_at "my side"); intro m9w F9w N9w; (try k_sweep); (try dsimp only)))))
  k_with "eval BinOp" => ((k_here; k_dflt ((with_reducible refine' ev_peE ?hev12 ?Fv12 ?Xv12 ?Tv12 (fun t => ?ev12) ?hkv12 ?hcv12 (fun t9w tk9w => ?_)); (case hev12 => k_dflt (exact rfl)); (case Fv12 => k_asm); (case Xv12 => k_asm); (case Tv12 => k_asm); (case ev12 => k_dflt (exact rfl)); (case hkv12 => k_dflt (exact rfl)); (case hcv12 => walk_at "my side")); (try dsimp only)))
  k_with "eval IfExp" => ((k_here; k_dflt ((with_reducible refine' ev_ifE ?hev13 ?Fv13 ?Xv13 ?Tv13 ?ev13 ?hkv13 ?hcv13 (fun p9w tk9w => ?_) (fun p9w tk9w => ?_)); (case hev13 => k_dflt (exact rfl)); (case Fv13 => k_asm); (case Xv13 => k_asm); (case Tv13 => k_asm); (case ev13 => k_dflt (exact rfl)); (case hkv13 => k_dflt (exact rfl)); (case hcv13 => walk_at "my side"); all_goals first | (exfalso; walk_at "my no") | (try dsimp only))))
  k_with "eval Call" => ((k_here; (with_reducible show wpAny _ _ (eval (Expr.Call (Expr.Name _ _) (_ :: _) [] _) _) _ _ _); k_dflt ((with_reducible refine' ev_callE ?hev14 ?Fv14 ?Xv14 ?Tv14 ?efv14 ?hfv14 (fun t => ?eav14) ?hkv14 ?hcv14 (fun t9w tk9w => ?_)); (case hev14 => k_dflt (exact rfl)); (case Fv14 => k_asm); (case Xv14 => k_asm); (case Tv14 => k_asm); (case efv14 => k_dflt (exact rfl)); (case hfv14 => k_dflt (exact rfl)); (case eav14 => k_dflt (exact rfl)); (case hkv14 => k_dflt (exact rfl)); (case hcv14 => walk_at "my side"))))
  k_with "my nm" => ((k_dflt (refine' nm_ok ?Fv15 ?Xv15 ?Tv15 ?hkv15); (case Fv15 => k_asm); (case Xv15 => k_asm); (case Tv15 => k_asm); (case hkv15 => k_dflt (exact rfl))))
  k_with "spliced" => ((k_here; (with_reducible show wpAny _ _ (spliced (backTo _ (starEach (_ :: _) _))) _ _ _); (fail_if_success (with_reducible show wpAny _ _ (spliced (backTo _ (starEach (_ :: _ :: _ :: _ :: _ :: _ :: _ :: _) _))) _ _ _)); k_dflt ((with_reducible refine' xe_all ?hnv16 (fun tk => ?ev16) ?hcv16 (fun tk9w k9w => ?_))); (case hnv16 => walk_at "my nm"); (case ev16 => k_dflt (exact rfl)); (case hcv16 => walk_at "my side"); (try dsimp only [List.cons_append, List.nil_append])))
  k_with "storeName" => ((k_here; k_dflt ((with_reducible refine' st_storeE ?hev17 ?Fv17 ?Nv17 (fun tk9w h9w => ?_) ?hkv17 ?hxv17)); (case hev17 => k_dflt (exact rfl)); (case Fv17 => k_asm); (case Nv17 => k_asm); (case hkv17 => k_dflt (exact rfl)); (case hxv17 => k_dflt (exact rfl)); intro m9w F9w N9w; (try k_sweep); (try dsimp only)))
  k_with "call ref" => ((k_here; k_dflt (refine' hexv_c ?kSv18 (fun hv9w h9w tk9w F9w N9w => ?_) (fun v9w t9w hv9w h9w tk9w F9w N9w => ?_); (case kSv18 => walk_at "my site")); all_goals ((try dsimp only); (try k_fold))))
  k_with "call ref" => ((k_here; k_dflt (refine' figs_c ?kbv21 ?klv21 ?kSv21 (fun hv9w h9w tk9w F9w N9w => ?_) (fun v9w t9w hv9w h9w tk9w F9w N9w => ?_); (case kbv21 => kba_ints2); (case klv21 => kba_size); (case kSv21 => walk_at "my site")); all_goals ((try dsimp only); (try k_fold))))
  k_with "pyIter ref" => (((with_reducible show wpAny _ _ (pyIter (Value.ref _)) (fun it s₂ => LoopAtV _ _ _ _ _ _ _ _ _ it s₂) _ _); (rename Fr _ _ _ _ => lF'); (rename News _ _ _ _ => lN'); (with_unfolding_all refine iter_tupleUnr (by rfl) lF' lN' (by k_mem) ?_); clear lF' lN'; intro i' l1; (try k_lt l1)))
  k_with "TupRest" => ((with_unfolding_all first | (refine TupRest.succ (fun it' h' tk' hit' F' N' => ?_)) | (refine TupRest.zero (fun h' tk' F' N' => ?_))))
  k_with "getMethod bytes" => ((k_here; (with_reducible refine method_join ?_)))
  k_with "getMethod bytes" => ((k_here; (with_reducible refine method_split ?_)))
  k_with "my ints" => (first | kba_ints | exact (rfl : KBw.bInts _ = ([47] : List Int)) | exact (rfl : KBw.bInts _ = ([] : List Int)) | kba_ints2)
  k_with "my list" => (first | exact News.isList (by k_asm) (by k_mem) | is_list)
  k_with "call builtin:bytes.join" => ((k_here; k_dflt (first
      | (refine' join3 ?lv28 ?hsv28 ?h1v28 ?h2v28 ?h3v28 ?hzv28 ?_; (case lv28 => walk_at "my list"); (case hsv28 => walk_at "my ints"); (case h1v28 => walk_at "my ints"); (case h2v28 => walk_at "my ints"); (case h3v28 => walk_at "my ints"); (case hzv28 => kba_size))); intro B9w t9w k9w hB9w; (try simp only [List.nil_append, List.cons_append, List.append_assoc] at hB9w)))
  k_with "call ref" => ((k_here; k_dflt (refine' rgb_c ?h1v29 ?h2v29 ?h3v29 ?h4v29 ?h5v29 (fun D9w t9w u9w v9w h9w tk9w o9w F9w N9w => ?_) ?kSv29; (case h1v29 => assumption); (case h2v29 => first | assumption | decide | omega); (case h3v29 => first | assumption | omega); (case h4v29 => first | assumption | omega); (case h5v29 => first | assumption | omega); (case kSv29 => walk_at "my site")); (try simp only [LCg.Off1, and_true] at o9w); (try dsimp only); (try k_fold)))
  k_with "call builtin:bytes.split" => ((k_here; k_dflt (refine' split_call ?h1v30 ?h2v30 ?h3v30 ?h4v30 (fun D9w b1 b2 b3 t1 t2 t3 k1 k2 k3 h9w tk9w hsg e1 e2 e3 z1 z2 z3 F9w N9w l9w => ?_) (fun D9w vs9w h9w tk9w hsg e1 z1 F9w N9w l9w => ?_); (case h1v30 => k_asm); (case h2v30 => k_asm); (case h3v30 => walk_at "my ints"); (case h4v30 => kba_size)); all_goals ((try k_lt l9w); (try simp only [List.length_take, List.length_drop] at z1 z2 z3))))
  k_with "subscriptTail" => ((k_here; (with_reducible show wpAny _ _ (subscriptTail _ _ (Value.bytes _ _) (Value.int _ _)) _ _ _); (first
      | (refine' figs_item (nib_hi ?h1v31 ?h2v31 ?h3v31) ?h4v31 ?h5v31 (fun t9w k9w => ?_); (case h1v31 => assumption); (case h2v31 => omega); (case h3v31 => omega); (case h4v31 => omega); (case h5v31 => omega))
      | (refine' figs_item (nib_lo ?h1v31 ?h2v31 ?h3v31) ?h4v31 ?h5v31 (fun t9w k9w => ?_); (case h1v31 => assumption); (case h2v31 => omega); (case h3v31 => omega); (case h4v31 => omega); (case h5v31 => omega)))))
  k_with "call ref" => ((k_here; k_dflt (refine' figs_cb ?kbv36 ?klv36 ?kSv36 (fun hv9w h9w tk9w F9w N9w => ?_) (fun v9w t9w hv9w lo9w hi9w h9w tk9w F9w N9w => ?_); (case kbv36 => kba_ints2); (case klv36 => kba_size); (case kSv36 => walk_at "my site")); all_goals ((try dsimp only); (try k_fold))))
  k_with "Exists" => ((k_here; (refine made_bytes (by k_asm) (by first | k_asm | exact News.nil) (Top.nolimit (by k_asm)) (by rfl) (of_decide_eq_true (by rfl)) ?_; intro h' o' F' N' l1 lo' hd'; (try k_lt l1))))
  k_with "eval Dict" => ((k_here; (with_reducible refine Dict_made_bytes (by with_unfolding_all rfl) (by with_unfolding_all assumption) (by with_unfolding_all rfl) (by with_unfolding_all rfl) (List.cons_ne_nil _ _) (by with_unfolding_all decide) ?_; intro _)))
  k_with "my enterC" => ((refine wpAny_call ?_; k_dflt (refine' code_defCG ?k1v44 ?k2v44 ?k3v44 ?k4v44 ?k5v44 ?kAv44 ?kFv44 ?kKv44 ?k6v44 ?k7v44 ?k8v44 ?k9wv44 ?kBv44 ?kDv44 ?_ ?c2v44 ?c3v44 ?c4v44; (case kAv44 => exact rfl); (case kFv44 => exact rfl); (case kKv44 => assumption); (case k1v44 => k_asm); (case k2v44 => k_asm); (case k3v44 => k_asm); (case k4v44 => k_asm); (case k5v44 => k_asm); (case k6v44 => k_is); (case k7v44 => k_is); (case k8v44 => ktr_room); (case k9wv44 => exact BindsTo.of_eq rfl); (case kBv44 => exact rfl); (case kDv44 => decide +kernel); (case c2v44 => exact rfl); (case c3v44 => exact rfl); (case c4v44 => exact rfl); k_whole)))
  k_with "my pull" => (first | exact Pull.head | (refine' Pull.tail ?ptlv49; (case ptlv49 => walk_at "my pull")))
  k_with "my off" => (((try simp only [LCg.Off1, and_true]); (repeat' (refine And.intro ?_ ?_)); all_goals first | exact trivial | (walk_at "my ne")))
  k_with "my pow" => (first | omega | exact pow16_pos _ | exact pow16_le (by omega) | decide)
  k_with "call ref" => ((k_here; k_dflt (refine' draw_c ?P1v52 ?P2v52 ?hIv52 ?h1v52 ?h2v52 ?h3v52 ?h4v52 ?h5v52 ?h6v52 ?h7v52 (fun k9w v9w t9w u9w h9w tk9w hk9w lo9w hi9w dv9w F9w N9w => ?_) ?kSv52; (case kSv52 => walk_at "my site"); (case P1v52 => walk_at "my pull"); (case P2v52 => walk_at "my pull"); (case hIv52 => l_ints); (case h1v52 => first | assumption | omega); (case h2v52 => omega); (case h3v52 => omega); (case h4v52 => walk_at "my pow"); (case h5v52 => walk_at "my pow"); (case h6v52 => omega); (case h7v52 => walk_at "my off")); (try dsimp only); (try k_fold)))
  k_with "call ref" => ((k_here; k_dflt (refine' small_c ?kbv61 ?klv61 (fun B9w t9w h9w tk9w hB9w F9w N9w => ?_) ?kSv61; (case kSv61 => walk_at "my site"); (case kbv61 => walk_at "my ints"); (case klv61 => first | assumption | kba_size)); (try dsimp only); (try k_fold)))
  k_with "call ref" => ((k_here; k_dflt (refine' digs_c ?kbv62 ?klv62 (fun hv9w h9w tk9w F9w N9w => ?_) (fun v9w t9w hv9w h9w tk9w F9w N9w => ?_) ?kSv62; (case kSv62 => walk_at "my site"); (case kbv62 => walk_at "my ints"); (case klv62 => first | assumption | kba_size)); all_goals ((try dsimp only); (try k_fold))))
  k_with "call ref" => ((k_here; k_dflt (refine' parts_c ?kb1v63 ?kb2v63 ?kb3v63 ?kl1v63 ?kl2v63 ?kl3v63 ?kDv63 (fun hv9w h9w tk9w F9w N9w => ?_) (fun v9w t9w hv9w h9w tk9w F9w N9w => ?_) ?kSv63; (case kSv63 => walk_at "my site"); (case kDv63 => k_mem); (case kb1v63 => assumption); (case kb2v63 => assumption); (case kb3v63 => assumption); (case kl1v63 => first | assumption | omega); (case kl2v63 => first | assumption | omega); (case kl3v63 => first | assumption | omega)); all_goals ((try dsimp only); (try k_fold))))
  k_with "call ref" => ((k_here; k_dflt (refine' names_c (fun D9w o9w kvs9w h9w tk9w off9w lo9w hd9w ht9w F9w N9w => ?_) ?kSv64; (case kSv64 => walk_at "my site")); (try simp only [LCg.Off1, and_true] at off9w); (try dsimp only); (try k_fold)))
  k_with "call ref" => ((k_here; k_dflt (refine' lnames_c (fun D9w o9w kvs9w h9w tk9w off9w lo9w hd9w ht9w F9w N9w => ?_) ?kSv65; (case kSv65 => walk_at "my site")); (try simp only [LCg.Off1, and_true] at off9w); (try dsimp only); (try k_fold)))
  k_with "getMethod ref" => ((k_here; kda_here; (with_reducible show wpAny _ _ (getMethod (Value.ref _) (Str.ofString "get") _) _ _ _); k_dflt (refine kdg_method (knd := bytesKind _ _) (by k_asm) (by k_mem) (by k_asm) ?_)))
  k_with "call builtin:dict.get" => ((k_here; kda_here; k_dflt (refine' get_names ?n1v67 ?n2v67 ?n3v67 ?n4v67 ?n5v67 ?n6v67 (fun hv9w t9w => ?_) (fun v9w t9w k9w hv9w => ?_); (case n1v67 => k_asm); (case n2v67 => k_mem); (case n3v67 => k_asm); (case n4v67 => k_asm); (case n5v67 => assumption); (case n6v67 => walk_at "my ints")); all_goals (try dsimp only)))
  k_with "call builtin:len" => ((k_here; (with_reducible show wpAny _ _ (call (Value.builtin "len") [Value.ref _]) _ _ _); k_dflt (refine' len_gen ?n1v68 ?n2v68 ?n3v68 (fun t9w k9w => ?_); (case n1v68 => k_asm); (case n2v68 => k_mem); (case n3v68 => assumption))))
  k_with "call ref" => ((k_here; k_dflt (refine' dircol_c ?h1v113 ?h2v113 ?h3v113 (fun v9w t9w h9w tk9w hv9w F9w N9w => ?_) ?kSv113; (case kSv113 => walk_at "my site"); (case h1v113 => walk_at "my byte"); (case h2v113 => walk_at "my byte"); (case h3v113 => walk_at "my byte")); (try dsimp only); (try k_fold)))
  k_with "my byte" => (first | omega | ((simp only [List.getD_cons_zero, List.getD_cons_succ, Int.toNat_zero, Int.toNat_one, Int.reduceToNat]); omega))
  k_with "call ref" => ((k_here; (with_reducible show wpAny _ _ (call (Value.ref 29) _) _ _ _); k_dflt (refine' penw_c ?hpv129 ?hTv129 (fun e9w R9w h9w tk9w o9w F9w N9w => ?_) (fun e9w R9w h9w tk9w o9w F9w N9w => ?_) (fun e9w R9w h9w tk9w o9w F9w N9w => ?_) ?kSv129; (case kSv129 => walk_at "my site"); (case hpv129 => omega); (case hTv129 => k_mem)); all_goals (try (exfalso; omega)); all_goals ((try simp only [LCg.Off1, and_true] at o9w); (try dsimp only); (try k_fold))))
  k_with "call ref" => ((k_here; (with_reducible show wpAny _ _ (call (Value.ref 72) _) _ _ _); k_dflt (refine' plain_c ?hpv132 ?hnv132 ?hTv132 (fun e9w x9w t9w R9w h9w tk9w hx9w o9w F9w N9w => ?_) (fun e9w x9w t9w R9w h9w tk9w hx9w o9w F9w N9w => ?_) (fun e9w x9w t9w R9w h9w tk9w hx9w o9w F9w N9w => ?_) ?kSv132; (case kSv132 => walk_at "my site"); (case hpv132 => assumption); (case hnv132 => assumption); (case hTv132 => k_mem)); all_goals ((try simp only [LCg.Off1, and_true] at o9w); (try dsimp only); (try k_fold))))
  k_with "call ref" => ((k_here; (with_reducible show wpAny _ _ (call (Value.ref 77) _) _ _ _); k_dflt (first
      | (refine' pcol_i1 ?hcv133 ?hmv133 (fun v9w t9w h9w tk9w hv9w F9w N9w => ?_) ?kSv133; (case kSv133 => walk_at "my site"); (case hmv133 => k_mem); (case hcv133 => assumption))
      | (refine' pcol_i3 ?hcv133 ?hmv133 (fun v9w t9w h9w tk9w hv9w F9w N9w => ?_) ?kSv133; (case kSv133 => walk_at "my site"); (case hmv133 => k_mem); (case hcv133 => assumption))); (try dsimp only); (try k_fold)))
  exact trivial
theorem told_j {prog : Program} {w : World} {p : Program} {loose : List Str} {mean : ExcName → Option Value} {mg mb : Str → Option Value} {dp un : Nat} {gd : Option (List Code)} {cn : Str} {cs : Scope} {a : Addr} {ccd : Value} {cl : List (Str × Addr)} {outer : List Env} {A₀ : Around} {base h₀ : Heap} {L : Addr} {m : Str → Option Value} {s : Shared} {Q E : Value → Shared → Prop} {news : List (Addr × Obj)}
    {pa b : Addr} {k : Int} {t : Tok} {n nb : Nat} {vs : List Value} {ns : List Int} {n1 rest : List (Addr × Obj)}
    (P1 : Pull (pa, W.listOf #[.ref b, .int k t] n) news n1) (P2 : Pull (b, W.listOf vs.toArray nb) n1 rest) (hI : IntsAre vs ns) (hlen : ns.length ≤ 63) (hk0 : 0 ≤ k) (hk1 : k ≤ 80000) (hpb : @Ne Nat pa b) (hne : LCg.Off1 pa rest)
    (h : ∀ (k' : Int) (o : Option Int) (tv : Tok) (D : Addr) (B : Array UInt8) (tb t' : Tok) (ks : List Int) (h' : Heap) (tk' : Nat), k ≤ k' → k' ≤ k + 20 → KBw.bInts B = ks → Safe ks → ks.length ≤ 40 → octV ks = o → (∀ v, o = some v → 0 ≤ v ∧ v < 16777216) → LCg.Off1 D news → Fr h₀ L h' m →
      News h₀ L h' ((D, tupOf #[.bytes B tb, optI o tv]) :: (pa, W.listOf #[.ref b, .int k' t'] n) :: (b, W.listOf vs.toArray nb) :: rest) → Q (.ref D) { s with heap := h', toks := tk' })
    (S : Site w p loose mean mg mb dp un 3 cs outer A₀ base h₀ L s.heap m news) :
    wpAny (model prog w) (ktrTop dp un gd cn cs L a ccd cl outer) (call (.ref 204) [.ref pa]) Q E s :=
  told_c P1 P2 hI hlen hk0 hk1 hpb hne
    ⟨fun k' D B tb t' ks h' tk' a1 a2 a3 a4 a5 a6 a7 a8 a9 => h k' none tb D B tb t' ks h' tk' a1 a2 a3 a4 a5 a6 (fun _ e => nomatch e) a7 a8 a9,
     fun k' v tv D B tb t' ks h' tk' a1 a2 a3 a4 a5 a6 a7 a8 a9 b1 b2 => h k' (some v) tv D B tb t' ks h' tk' a1 a2 a3 a4 a5 a6 (fun x e => by cases e; exact ⟨a7, a8⟩) a9 b1 b2⟩ S
theorem octs_j {prog : Program} {w : World} {p : Program} {loose : List Str} {mean : ExcName → Option Value} {mg mb : Str → Option Value} {dp un : Nat} {gd : Option (List Code)} {cn : Str} {cs : Scope} {a : Addr} {ccd : Value} {cl : List (Str × Addr)} {outer : List Env} {A₀ : Around} {base h₀ : Heap} {L : Addr} {m : Str → Option Value} {s : Shared} {Q E : Value → Shared → Prop} {news : List (Addr × Obj)}
    {b : Array UInt8} {t : Tok} {ks : List Int} (hb : KBw.bInts b = ks) (hl : ks.length ≤ 100)
    (h : ∀ t h' tk', Fr h₀ L h' m → News h₀ L h' news → Q (optI (octV (ks.foldl smallG [])) t) { s with heap := h', toks := tk' })
    (S : Site w p loose mean mg mb dp un 4 cs outer A₀ base h₀ L s.heap m news) :
    wpAny (model prog w) (ktrTop dp un gd cn cs L a ccd cl outer) (call (.ref 143) [.bytes b t]) Q E s :=
  octs_c hb hl (fun e h' tk' F N => by have z := h t h' tk' F N; rw [e] at z; exact z) (fun v t' e h' tk' F N => by have z := h t' h' tk' F N; rw [e] at z; exact z) S
/-- the test fell out False, all stands -/
noncomputable def FalseP (h₀ : Heap) (L : Addr) (m : Str → Option Value) (s : Shared) (news : List (Addr × Obj)) (v : Bool) (s' : Shared) : Prop :=
  v = false ∧ ∃ h' k, s' = { s with heap := h', toks := k } ∧ Fr h₀ L h' m ∧ News h₀ L h' news
section
variable {prog : Program} {w : World} {M : Model} {A : Around} {E : Value → Shared → Prop} {s : Shared} {h₀ : Heap} {L : Addr} {m : Str → Option Value} {news : List (Addr × Obj)}
theorem due_join {T : Sem Bool} {Q : Bool → Shared → Prop} {o : Option Int} {t : Tok} {x : Str} (_hx : m x = some (optI o t)) (_F : Fr h₀ L s.heap m) (_N : News h₀ L s.heap news)
    (h1 : o = none → wpAny M A T (FalseP h₀ L m s news) E s) (h2 : ∀ v, o = some v → wpAny M A T (FalseP h₀ L m s news) E s)
    (h : ∀ h' k, Fr h₀ L h' m → News h₀ L h' news → Q false { s with heap := h', toks := k }) : wpAny M A T Q E s := by
  have z : wpAny M A T (FalseP h₀ L m s news) E s := by
    rcases o with _ | v
    · exact h1 rfl
    · exact h2 v rfl
  exact wpAny_mono z (fun b s' ⟨e, h', k, e2, F', N'⟩ => by rw [e, e2]; exact h h' k F' N') fun _ _ e => e
theorem ne_opt {o o' : Option Int} {t u : Tok} {Q : Value → Shared → Prop} (e : o = o') (h : Q (.bool false) s) : wpAny (model prog w) A (compareOp .NotEq (optI o t) (optI o' u)) Q E s := by
  subst e
  rcases o with _ | v
  · exact EqNone.ne_none_none h
  · exact PyProof.Rows.ne_int (by rw [bne_self_eq_false]; exact h)
theorem ne_int_false {a b : Int} {t u : Tok} {Q : Value → Shared → Prop} (e : a = b) (h : Q (.bool false) s) : wpAny (model prog w) A (compareOp .NotEq (.int a t) (.int b u)) Q E s := by
  subst e
  exact PyProof.Rows.ne_int (by rw [bne_self_eq_false]; exact h)
end
theorem ne_opt_some {prog : Program} {w : World} {A : Around} {E : Value → Shared → Prop} {s : Shared} {o : Option Int} {v : Int} {t u : Tok} {Q : Value → Shared → Prop} (e : o = some v) (h : Q (.bool false) s) : wpAny (model prog w) A (compareOp .NotEq (optI o t) (.int v u)) Q E s := by
  subst e
  exact PyProof.Rows.ne_int (by rw [bne_self_eq_false]; exact h)
theorem pull_news {h₀ h : Heap} {L : Addr} {q : Addr × Obj} {news base : List (Addr × Obj)} (N : News h₀ L h news) (P : Pull q news base) : News h₀ L h (q :: base) := fun x hx => N x (P.mem x hx)
section
variable {prog : Program} {w : World} {A : Around} {E : Value → Shared → Prop} {s : Shared} {env : Env} {h₀ : Heap} {x : Str} {body : List Stmt} {Q : Flow → Shared → Prop}
/-- the law's three turns, walked once -/
theorem law_rest {I pa b : Addr} {nn : Nat} {stored : List Str} {m₀ : Str → Option Value} {k : Int} {t : Tok} {base : List (Addr × Obj)} (hsx : stored.contains x = true)
    (turn : ∀ (i : Nat) (k' : Int) (t' u : Tok) (it : Obj) (uu : Str → Option Value) h tk (Rest : (Str → Option Value) → List (Addr × Obj) → Prop), k ≤ k' → k' ≤ k + 90 →
      Fr h₀ env.locals h (fun z => if z = x then some (.int (0 + (i : Int)) u) else if stored.contains z then uu z else m₀ z) → News h₀ env.locals h ((I, it) :: (pa, W.listOf #[.ref b, .int k' t'] nn) :: base) →
      (∀ m' k'' t'', k' ≤ k'' → k'' ≤ k' + 30 → (∀ z, stored.contains z = false → m' z = m₀ z) → Rest m' ((pa, W.listOf #[.ref b, .int k'' t''] nn) :: base)) →
      wpAny (model prog w) A (execs body env) (UnrPost h₀ env.locals { s with heap := h, toks := tk } I it Rest Q) E { s with heap := h, toks := tk })
    (done : ∀ (k' : Int) (t' : Tok) (uu : Str → Option Value) h tk, k ≤ k' → k' ≤ k + 90 → Fr h₀ env.locals h (fun z => if stored.contains z then uu z else m₀ z) → News h₀ env.locals h ((pa, W.listOf #[.ref b, .int k' t'] nn) :: base) → Q .next { s with heap := h, toks := tk }) :
    RangeRest prog w A E h₀ env x body Q s I 0 3 3 0 m₀ ((pa, W.listOf #[.ref b, .int k t] nn) :: base) := by
  have shape : ∀ (m₁ : Str → Option Value), (∀ z, stored.contains z = false → m₁ z = m₀ z) → m₁ = fun z => if stored.contains z then m₁ z else m₀ z := by
    intro m₁ h2
    funext z
    cases hc : stored.contains z with
    | true => rw [if_pos rfl]
    | false => rw [if_neg (by decide)]; exact h2 z hc
  have key : ∀ (j i : Nat) (k' : Int) (t' : Tok) (m₁ : Str → Option Value), i + j = 3 → k ≤ k' → k' ≤ k + 30 * (i : Int) → (∀ z, stored.contains z = false → m₁ z = m₀ z) → RangeRest prog w A E h₀ env x body Q s I 0 3 j i m₁ ((pa, W.listOf #[.ref b, .int k' t'] nn) :: base) := by
    intro j
    induction j with
    | zero =>
      intro i k' t' m₁ e l1 l2 h2
      refine RangeRest.zero fun h tk F N => ?_
      rw [shape m₁ h2] at F
      exact done k' t' m₁ h tk l1 (by omega) F N
    | succ j ih =>
      intro i k' t' m₁ e l1 l2 h2
      refine RangeRest.succ fun u h tk F N => ?_
      rw [shape m₁ h2] at F
      exact turn i k' t' u _ m₁ h tk _ l1 (by omega) F N fun m' k'' t'' a1 a2 h2' => ih (i + 1) k'' t'' m' (by omega) (by omega) (by push_cast; omega) h2'
  exact key 3 0 k t m₀ rfl (Int.le_refl _) (by omega) fun _ _ => rfl
end

section
local macro_rules | `(tactic| k_qdec) => `(tactic| decide +kernel)
theorem set88 : True := by
  w_top off
  k_with "call ref" => ((k_here; (with_reducible show wpAny _ _ (call (Value.ref 204) _) _ _ _); k_dflt (refine' told_j ?P1v154 ?P2v154 ?hIv154 ?h1v154 ?h2v154 ?h3v154 ?h4v154 ?h7v154 (fun k9w o9w tv9w D9w B9w tb9w u9w ks9w h9w tk9w lo9w hi9w hB9w hs9w hz9w ho9w hv9w of9w F9w N9w => ?_) ?kSv154; (case kSv154 => walk_at "my site"); (case P1v154 => walk_at "my pull"); (case P2v154 => walk_at "my pull"); (case hIv154 => l_ints); (case h1v154 => first | assumption | (rw [List.length_map, List.length_take]; omega) | omega); (case h2v154 => omega); (case h3v154 => omega); (case h4v154 => omega); (case h7v154 => walk_at "my off")); (try simp only [LCg.Off1, and_true] at of9w); (try dsimp only); (try k_fold)))
  k_with "call ref" => ((k_here; (with_reducible show wpAny _ _ (call (Value.ref 211) _) _ _ _); k_dflt (refine' dress_c ?P1v155 ?P2v155 ?hIv155 ?h1v155 ?h2v155 ?h3v155 ?h4v155 ?h7v155 ?hbv155 ?hzv155 ?hsv155 (fun k9w B9w rs9w t9w u9w h9w tk9w lo9w hi9w hB9w hl9w hf9w F9w N9w => ?_) ?kSv155; (case kSv155 => walk_at "my site"); (case P1v155 => walk_at "my pull"); (case P2v155 => walk_at "my pull"); (case hIv155 => l_ints); (case h1v155 => first | assumption | (rw [List.length_map, List.length_take]; omega) | omega); (case h2v155 => omega); (case h3v155 => omega); (case h4v155 => omega); (case h7v155 => walk_at "my off"); (case hbv155 => assumption); (case hzv155 => assumption); (case hsv155 => assumption)); (try dsimp only); (try k_fold)))
  k_with "call ref" => ((k_here; (with_reducible show wpAny _ _ (call (Value.ref 143) _) _ _ _); k_dflt (refine' octs_j ?hbv156 ?hzv156 (fun t9w h9w tk9w F9w N9w => ?_) ?kSv156; (case kSv156 => walk_at "my site"); (case hbv156 => assumption); (case hzv156 => first | omega | simp [rgbOct])); (try dsimp only); (try k_fold)))
  k_with "call ref" => ((k_here; (with_reducible show wpAny _ _ (call (Value.ref 150) _) _ _ _); k_dflt (refine' colo_c ?hcv157 ?hrv157 ?hgv157 ?hbv157 ?q1v157 ?q2v157 ?q3v157 ?q4v157 ?q5v157 ?q6v157 (fun B9w t9w h9w tk9w hB9w F9w N9w => ?_) ?kSv157; (case kSv157 => walk_at "my site"); (case hcv157 => assumption); (case hrv157 => assumption); (case hgv157 => assumption); (case hbv157 => assumption); (case q1v157 => assumption); (case q2v157 => assumption); (case q3v157 => assumption); (case q4v157 => assumption); (case q5v157 => assumption); (case q6v157 => assumption)); (try dsimp only); (try k_fold)))
  k_with "call ref" => ((k_here; (with_reducible show wpAny _ _ (call (Value.ref 171) _) _ _ _); k_dflt (refine' pal_c ?h0v158 ?h1v158 (fun t9w h9w tk9w F9w N9w => ?_) ?kSv158; (case kSv158 => walk_at "my site"); (case h0v158 => omega); (case h1v158 => omega)); (try dsimp only); (try k_fold)))
  k_with "call ref" => ((k_here; (with_reducible show wpAny _ _ (call (Value.ref 225) _) _ _ _); k_dflt (refine' place_c ?P1v159 ?P2v159 ?hIv159 ?h1v159 ?h2v159 ?h3v159 ?h4v159 ?h7v159 (fun k9w t9w h9w tk9w lo9w hi9w F9w N9w => ?_) ?kSv159; (case kSv159 => walk_at "my site"); (case P1v159 => walk_at "my pull"); (case P2v159 => walk_at "my pull"); (case hIv159 => l_ints); (case h1v159 => first | assumption | (rw [List.length_map, List.length_take]; omega) | omega); (case h2v159 => omega); (case h3v159 => omega); (case h4v159 => omega); (case h7v159 => walk_at "my off")); (try dsimp only); (try k_fold)))
  k_with "call ref" => ((k_here; (with_reducible show wpAny _ _ (call (Value.ref 230) _) _ _ _); k_dflt (refine' prt_c ?P1v160 ?P2v160 ?hIv160 ?h1v160 ?h2v160 ?h3v160 ?h4v160 ?h7v160 (fun k9w t9w h9w tk9w lo9w hi9w F9w N9w => ?_) ?kSv160; (case kSv160 => walk_at "my site"); (case P1v160 => walk_at "my pull"); (case P2v160 => walk_at "my pull"); (case hIv160 => l_ints); (case h1v160 => first | assumption | (rw [List.length_map, List.length_take]; omega) | omega); (case h2v160 => omega); (case h3v160 => omega); (case h4v160 => omega); (case h7v160 => walk_at "my off")); (try dsimp only); (try k_fold)))
  k_with "compareOp NotEq" => ((k_here; k_dflt (first
      | (refine' ne_opt ?ev161 ?_; (case ev161 => walk_at "my oct"))
      | (refine' ne_opt_some ?ev161 ?_; (case ev161 => walk_at "my oct"))
      | (refine' ne_int_false ?ev161 ?_; (case ev161 => exact rfl)))))
  k_with "my oct" => (first
      | ((rw [‹List.foldl smallG [] _ = _›]); assumption)
      | exact (octV_back (by assumption) (by assumption) (by assumption) (by assumption) (by assumption) (by assumption) (by assumption) (by assumption) (by assumption) (by assumption)).1)
  k_with "isTrue BoolOp" => ((k_here; (fail_if_success (with_reducible show wpAny _ _ _ (FalseP _ _ _ _ _) _ _)); (rename Fr _ _ _ _ => jF9w); (rename News _ _ _ _ => jN9w); (rename (∀ v : Int, _ = some v → 0 ≤ v ∧ v < 16777216) => hv8); k_dflt (refine' due_join (x := Str.ofString "due") ?hxv163 ?jfv163 ?jnv163 (fun e9w => ?_) (fun v9w e9w => ?_) (fun h9w k9w F9w N9w => ?_); (case jfv163 => exact jF9w); (case jnv163 => exact jN9w); (case hxv163 => exact rfl)); all_goals first
      | ((rename (_ : Option Int) = some _ => e7); (obtain ⟨lo9w, hi9w⟩ := hv8 _ e7); (obtain ⟨r9w, g9w, b9w, ra9w, rb9w, ga9w, gb9w, ba9w, bb9w, hc9w, hr9w, hg9w, hb9w, q1, q2, q3, q4, q5, q6⟩ := nib_split lo9w hi9w); subst e7; (try dsimp (zetaDelta := true) only [optI] at jF9w); (try dsimp only [optI] at jN9w ⊢))
      | ((rename (_ : Option Int) = none => e7); subst e7; (try dsimp (zetaDelta := true) only [optI] at jF9w); (try dsimp only [optI] at jN9w ⊢))
      | skip))
  k_with "FalseP" => ((exact ⟨rfl, _, _, rfl, by k_asm, by k_asm⟩))
  k_with "call ref" => ((k_here; (with_reducible show wpAny _ _ (call (Value.ref 187) _) _ _ _); k_dflt (refine' draw_c ?P1v165 ?P2v165 ?hIv165 ?h1v165 ?h2v165 ?h3v165 ?h4v165 ?h5v165 ?h6v165 ?h7v165 (fun k9w v9w t9w u9w h9w tk9w hk9w lo9w hi9w dv9w F9w N9w => ?_) ?kSv165; (case kSv165 => walk_at "my site"); (case P1v165 => walk_at "my pull"); (case P2v165 => walk_at "my pull"); (case hIv165 => l_ints); (case h1v165 => first | assumption | (rw [List.length_map, List.length_take]; omega) | omega); (case h2v165 => omega); (case h3v165 => omega); (case h4v165 => walk_at "my pow"); (case h5v165 => walk_at "my pow"); (case h6v165 => omega); (case h7v165 => walk_at "my off")); subst hk9w; clear dv9w; (try simp only [Int.reduceToNat, Int.reducePow] at hi9w); (try dsimp only); (try k_fold)))
  k_with "pyIter ref" => ((k_here; (rename Fr _ _ _ _ => lF9w); (rename News _ _ _ _ => lN9w); (have hP9w := pull_news (q := (_, W.listOf #[.ref _, .int _ _] _)) lN9w (by walk_at "my pull")); (with_unfolding_all refine iter_rangeUnr (n := 3) (by rfl) (by assumption) (by decide) (by rfl) lF9w hP9w ?_); (intro i9w l19); (try k_lt l19); (refine' law_rest (stored := [Str.ofString "turn", Str.ofString "octets", Str.ofString "due"]) ?hxv166 (fun j9w k9w t9w u9w it9w uu9w h9w tk9w Rest9w kl9w kh9w F9w N9w hR9w => ?turnv166) (fun k9w t9w uu9w h9w tk9w kl9w kh9w F9w N9w => ?donev166)); (case hxv166 => decide); (all_goals (try k_sweep))))
  k_with "UnrEnd" => ((k_here; (refine' UnrEnd.intro ?Fv167 ?Nv167 _ ?subv167 ?offv167 (hR9w _ ?kkv167 ?ttv167 ?l1v167 ?l2v167 ?zv167)); (case Fv167 => assumption); (case Nv167 => k_asm); (case subv167 => lcg_sub); (case offv167 => walk_at "my offI"); (case l1v167 => omega); (case l2v167 => omega); (case zv167 => (intro z h2; (try dsimp (zetaDelta := true) only); repeat (first | rfl | rw [if_neg (show ¬ List.contains _ z = true from fun e => by rw [h2] at e; cases e)] | rw [if_neg (show ¬ z = _ from fun e => by subst e; exact absurd h2 (by decide))])))))
  k_with "my offI" => ((intro q hq; (repeat (cases hq with | head => exact neN (by walk_at "my ne") | tail _ hq => ?_)); cases hq))
  exact trivial
theorem holds : PySem.Challenge.rw_og0250_01.Holds := hd (by
  k_go0
  (all_goals try k_fold)
  k_steps
  all_goals (exfalso; (rename sixteen _ ≠ _ => a9); exact a9 rfl))

end
end Mine
theorem PySem.Challenge.cw_og0250_01_holds : PySem.Challenge.rw_og0250_01.Holds := by
  exact Mine.holds


