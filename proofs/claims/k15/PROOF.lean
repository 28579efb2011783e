import PyProof.Rows.All
import Wide.All
import OpenK.AllK
import Wide.FinOn
import KE.KStateDown
import HandS.ForMost
import HandS.ForExc
import HandS.Evl
import HandS.Wide
import HandS.WideBits
import HandS.IsInst
import HandS.StrMore
import HandS.Defaults
import HandS.Flow
import HandS.TryOnly
import HandS.HeadEnd
import HandS.Head0
import HandS.Head1
import HandS.Head2
import HandS.HeadHook1
import HandS.HeadHook2
import HandS.ExcIs
import HandS.ExcField
import HandS.ExcInit
import HandS.SuiteRaise
import HandS.ExcInitHot
import PyProof.Rows.StrMeet
import HandS.TryMany
import HandS.Rev
import HandS.EndBits
import PySem.Challenge.RW_keyrise_k15_fractions_of_any_signs
set_option Elab.async false
set_option linter.all false
set_option maxRecDepth 100000
set_option maxHeartbeats 4000000
namespace Kr
open PySem PySem.Spec PyProof.Rows L2 Evl
/-! ### texts by their codes -/
def T (l : List Nat) : Str := ⟨l.toArray⟩
theorem T_cps (l : List Nat) : (T l).cps.toList = l := rfl
theorem T_len (l : List Nat) : (T l).length = l.length := by
  show l.toArray.size = l.length
  simp
theorem T_add (a b : List Nat) : T a ++ T b = T (a ++ b) := by
  show (⟨a.toArray ++ b.toArray⟩ : Str) = ⟨(a ++ b).toArray⟩
  simp
theorem T_inj {a b : List Nat} : T a = T b ↔ a = b := by
  constructor
  · intro h
    have := congrArg (fun z : Str => z.cps.toList) h
    exact this
  · rintro rfl; rfl
theorem T_eta (z : Str) : ∃ l, z = T l := ⟨z.cps.toList, by cases z; rename_i c; cases c; rfl⟩

/-! ### operations on values, named -/
abbrev rAddI : R2 := rI0 fun i j => .int (i + j)
abbrev rSubI : R2 := rI0 fun i j => .int (i - j)
abbrev rMulI : R2 := rI CMulX fun i j => .int (i * j)
abbrev rDivI : R2 := rI CDivW fun i j => .int (i / j)
abbrev rModI : R2 := rI (fun _ j => 0 < j) fun i j => .int (i % j)
abbrev rShrI : R2 := rI (fun _ j => 0 ≤ j) fun i j => .int (i / 2 ^ j.toNat)
abbrev rShlI : R2 := rI CShl fun i j => .int (i * 2 ^ j.toNat)
abbrev rPowI : R2 := rI CPow fun i j => .int (i ^ j.toNat)
abbrev rAndI : R2 := rI0 fun i j => .int (Builtin.bitAnd i j)
abbrev rLtI : R2 := rI0 fun i j => .bl (decide (i < j))
abbrev rLeI : R2 := rI0 fun i j => .bl (decide (i ≤ j))
abbrev rGtI : R2 := rI0 fun i j => .bl (decide (j < i))
abbrev rGeI : R2 := rI0 fun i j => .bl (decide (j ≤ i))
def rAddT : R2 := fun x y H Q => ∃ i j, x = .str i ∧ y = .str j ∧ i.length + j.length ≤ sizeLine ∧ Q (.str (i ++ j)) H
def rLtT : R2 := fun x y H Q => ∃ i j, x = .str i ∧ y = .str j ∧ Q (.bl (decide (i.cps.toList < j.cps.toList))) H
def rLeT : R2 := fun x y H Q => ∃ i j, x = .str i ∧ y = .str j ∧ Q (.bl (!decide (j.cps.toList < i.cps.toList))) H
def rMulT : R2 := fun x y H Q => ∃ (i : Str) (n : Int), x = .str i ∧ y = .int n ∧ -(2 ^ 62) ≤ n ∧ n < 2 ^ 62 ∧ i.length * n.toNat ≤ sizeLine ∧ Q (.str (T (List.replicate n.toNat i.cps.toList).flatten)) H
def rStrip : V → List V → Hp → VK → Prop := fun x xs H Q => ∃ a b, x = .str a ∧ xs = [.str b] ∧ a.length ≤ sizeLine ∧ Q (.str (Txt.rstripChars a b)) H
def rJoin (K : PySem.W.Frag) : V → List V → Hp → VK → Prop := fun x xs H Q => ∃ a p, ∃ ys : List Str, x = .str a ∧ xs = [.ref p] ∧ (SqL K H p (ys.map V.str) ∨ SqT K H p (ys.map V.str)) ∧ (ys.map (·.length)).sum + ys.length * a.length ≤ 16777216 ∧ Q (.str (Txt.join a ys)) H
section
variable {X : Cx}
theorem op_addT : OpR X (binaryOp .Add) rAddT := op_add_str
theorem op_ltT' : OpR X (compareOp .Lt) rLtT := op_lt_str
theorem op_leT' : OpR X (compareOp .LtE) rLeT := op_le_str
theorem mt_rstripC : MtR X "str.rstrip" rStrip := mt_rstripChars
theorem mt_joinK : MtR X "str.join" (rJoin X.K) := mt_join
theorem flat_rep (k : Nat) (c : Array Nat) : ((List.replicate k c).foldl (· ++ ·) #[]).toList = (List.replicate k c.toList).flatten := by
  have key : ∀ (k : Nat) (a : Array Nat), ((List.replicate k c).foldl (· ++ ·) a).toList = a.toList ++ (List.replicate k c.toList).flatten := by
    intro k
    induction k with
    | zero => intro a; simp
    | succ k ih =>
      intro a
      rw [List.replicate_succ, List.foldl_cons, ih]
      simp [List.replicate_succ]
  rw [key]
  simp
theorem op_mulT : OpR X (binaryOp .Mult) rMulT := by
  intro pins s σ H x y v u Q I rx ry h
  obtain ⟨i, n, rfl, rfl, h1, h2, h3, q⟩ := h
  obtain ⟨t, rfl⟩ := rx
  obtain ⟨t', rfl⟩ := ry
  have hsz : sizeLine = 16777216 := sizeLine_eq
  refine PySem.P.mul_str ?_ (fun g1 g2 => ?_) (fun g1 g2 => ?_) ?_
  · have e1 : decide (n < -(2 ^ 63 : Int)) = false := decide_eq_false (by omega)
    have e2 : decide (n ≥ 2 ^ 63) = false := decide_eq_false (by omega)
    rw [e1, e2] <;> rfl
  · have hn : 1 ≤ n := by omega
    intro g
    have h5 : (i.length : Int) * n ≤ 16777216 := by
      have e : n = (n.toNat : Int) := by omega
      rw [e, ← Int.natCast_mul]
      omega
    have h6 : (2 ^ 63 - 1 : Int) / n < (i.length : Int) := g
    have h7 := (Int.ediv_lt_iff_lt_mul (show 0 < n by omega)).mp h6
    omega
  · have : ¬ (i.length * n.toNat > 2 ^ 24) := by
      have e : (2 : Nat) ^ 24 = 16777216 := by decide
      rw [e]; omega
    simpa [Builtin.Str.tooLong, hsz] using this
  · by_cases g : n < 1
    · rw [if_pos g]
      refine ⟨by rw [hsz]; decide, ?_⟩
      refine ⟨.str _, H, I.tok _, ⟨_, rfl⟩, ?_⟩
      have e : n.toNat = 0 := by omega
      rw [e] at q
      exact q
    · rw [if_neg g]
      by_cases g2 : (n == 1 || i.length == 0) = true
      · rw [if_pos g2]
        refine ⟨.str _, H, I, ⟨_, rfl⟩, ?_⟩
        have e : T (List.replicate n.toNat i.cps.toList).flatten = i := by
          obtain ⟨l, rfl⟩ := T_eta i
          rw [T_inj, T_cps]
          rw [Bool.or_eq_true] at g2
          rcases g2 with g2 | g2
          · have : n = 1 := by simpa using g2
            subst this
            simp
          · have : l = [] := by
              have := T_len l
              rw [beq_iff_eq] at g2
              rw [g2] at this
              exact List.eq_nil_of_length_eq_zero this.symm
            subst this
            simp
        rw [e] at q
        exact q
      · rw [if_neg g2]
        have e : (⟨(List.replicate n.toNat i.cps).foldl (· ++ ·) #[]⟩ : Str) = T (List.replicate n.toNat i.cps.toList).flatten := by
          rw [← flat_rep]
          rfl
        rw [e]
        refine ⟨?_, ⟨.str _, H, I.tok _, ⟨_, rfl⟩, q⟩⟩
        rw [T_len]
        have key : ∀ k : Nat, (List.replicate k i.cps.toList).flatten.length = k * i.cps.size := by
          intro k
          induction k with
          | zero => simp
          | succ k ih => rw [List.replicate_succ, List.flatten_cons, List.length_append, ih, Array.length_toList, Nat.succ_mul, Nat.add_comm]
        rw [key]
        have : n.toNat * i.cps.size = i.cps.size * n.toNat := Nat.mul_comm _ _
        have h8 : i.length = i.cps.size := rfl
        rw [h8] at h3
        omega
end
end Kr
namespace Kr
open PySem PySem.Spec PyProof.Rows L2 Evl
/-! ### rules that the hand layer lacks -/
section
variable {X : Cx}
theorem pe_T {x : Str} {l : List Nat} {j : Nat} {pos : Pos} (h : x = T l) : PE X (.Constant (.str x) j pos) (tC (.str (T l))) := by
  subst h
  exact pe_str
def rIsN0 : R2 := fun x y H Q => y = .non ∧ Q (.bl (decide (x = .non))) H
def rNotN0 : R2 := fun x y H Q => y = .non ∧ Q (.bl (!decide (x = .non))) H
theorem op_isN0 : OpR X (compareOp .Is) rIsN0 := op_isN
theorem op_notN0 : OpR X (compareOp .IsNot) rNotN0 := op_notN
/-- len -/
def rLenK (K : PySem.W.Frag) : List V → Hp → VK → Prop := fun xs H Q => ∃ x n, xs = [x] ∧ LenV K x H n ∧ Q (.int n) H
theorem call_lenK : CallR X (.builtin "len") (rLenK X.K) := call_len
/-- int of a truth, of a number -/
def rIntB : List V → Hp → VK → Prop := fun xs H Q => (∃ i, xs = [.int i] ∧ Q (.int i) H) ∨ ∃ k, xs = [.bl k] ∧ Q (.int (if k then 1 else 0)) H
theorem call_intB : CallR X (.type "int") rIntB := call_int1
end
/-! ### values of expressions: what the parts are worth, the whole is worth -/
section
variable {K : PySem.W.Frag} {σ : L2.St} {H : Hp} {ta tb te : TE} {t u : TT} {x y z v : V}
theorem rv_addI {i j : Int} : RV rAddI (.int i) (.int j) H (.int (i + j)) := rv_I0
theorem rv_subI {i j : Int} : RV rSubI (.int i) (.int j) H (.int (i - j)) := rv_I0
theorem rv_mulI {i j : Int} (h : CMulX i j) : RV rMulI (.int i) (.int j) H (.int (i * j)) := rv_I h
theorem rv_divI {i j : Int} (h : CDivW i j) : RV rDivI (.int i) (.int j) H (.int (i / j)) := rv_I h
theorem rv_modI {i j : Int} (h : 0 < j) : RV rModI (.int i) (.int j) H (.int (i % j)) := rv_I h
theorem rv_shrI {i j : Int} (h : 0 ≤ j) : RV rShrI (.int i) (.int j) H (.int (i / 2 ^ j.toNat)) := rv_I h
theorem rv_shlI {i j : Int} (h : CShl i j) : RV rShlI (.int i) (.int j) H (.int (i * 2 ^ j.toNat)) := rv_I h
theorem rv_powI {i j : Int} (h : CPow i j) : RV rPowI (.int i) (.int j) H (.int (i ^ j.toNat)) := rv_I h
theorem rv_andI {i j : Int} : RV rAndI (.int i) (.int j) H (.int (Builtin.bitAnd i j)) := rv_I0
theorem rv_ltI {i j : Int} : RV rLtI (.int i) (.int j) H (.bl (decide (i < j))) := rv_I0
theorem rv_leI {i j : Int} : RV rLeI (.int i) (.int j) H (.bl (decide (i ≤ j))) := rv_I0
theorem rv_gtI {i j : Int} : RV rGtI (.int i) (.int j) H (.bl (decide (j < i))) := rv_I0
theorem rv_geI {i j : Int} : RV rGeI (.int i) (.int j) H (.bl (decide (j ≤ i))) := rv_I0
theorem rv_addT {a b : List Nat} (h : a.length + b.length ≤ 16000000) : RV rAddT (.str (T a)) (.str (T b)) H (.str (T (a ++ b))) := fun H1 _ Q q =>
  ⟨T a, T b, rfl, rfl, by rw [T_len, T_len, sizeLine_eq]; omega, by rw [T_add]; exact q H1 (Ex.refl H1)⟩
theorem rv_ltT {a b : List Nat} : RV rLtT (.str (T a)) (.str (T b)) H (.bl (decide (a < b))) := fun H1 _ Q q => ⟨T a, T b, rfl, rfl, q H1 (Ex.refl H1)⟩
theorem rv_leT {a b : List Nat} : RV rLeT (.str (T a)) (.str (T b)) H (.bl (!decide (b < a))) := fun H1 _ Q q => ⟨T a, T b, rfl, rfl, q H1 (Ex.refl H1)⟩
theorem rv_mulT {a : List Nat} {n : Int} (h0 : n < 2 ^ 62) (h1 : -(2 ^ 62) ≤ n) (h : a.length * n.toNat ≤ 16000000) : RV rMulT (.str (T a)) (.int n) H (.str (T (List.replicate n.toNat a).flatten)) := fun H1 _ Q q =>
  ⟨T a, n, rfl, rfl, h1, h0, by rw [T_len, sizeLine_eq]; omega, q H1 (Ex.refl H1)⟩
theorem dec_T {a b : List Nat} : decide (V.str (T a) = V.str (T b)) = decide (a = b) := by
  by_cases h : a = b
  · subst h; simp
  · rw [decide_eq_false h, decide_eq_false (fun e => h (T_inj.mp (V.str.inj e)))]
theorem dec_I {a b : Int} : decide (V.int a = V.int b) = decide (a = b) := by
  by_cases h : a = b
  · subst h; simp
  · rw [decide_eq_false h, decide_eq_false (fun e => h (V.int.inj e))]
theorem dec_B {a b : Bool} : decide (V.bl a = V.bl b) = decide (a = b) := by cases a <;> cases b <;> decide
theorem rv_eqT {a b : List Nat} : RV rEq (.str (T a)) (.str (T b)) H (.bl (decide (a = b))) := by
  rw [← dec_T]; exact rv_eq rfl
theorem rv_neT {a b : List Nat} : RV rNe (.str (T a)) (.str (T b)) H (.bl (!decide (a = b))) := by
  rw [← dec_T]; exact rv_ne rfl
theorem rv_eqI {a b : Int} : RV rEq (.int a) (.int b) H (.bl (decide (a = b))) := by
  rw [← dec_I]; exact rv_eq rfl
theorem rv_neI {a b : Int} : RV rNe (.int a) (.int b) H (.bl (!decide (a = b))) := by
  rw [← dec_I]; exact rv_ne rfl
theorem rv_eqB {a b : Bool} : RV rEq (.bl a) (.bl b) H (.bl (decide (a = b))) := by
  rw [← dec_B]; exact rv_eq rfl
theorem rv_neB {a b : Bool} : RV rNe (.bl a) (.bl b) H (.bl (!decide (a = b))) := by
  rw [← dec_B]; exact rv_ne rfl
theorem rv_isN : RV rIsN0 x .non H (.bl (decide (x = .non))) := fun H1 _ Q q => ⟨rfl, q H1 (Ex.refl H1)⟩
theorem rv_notN : RV rNotN0 x .non H (.bl (!decide (x = .non))) := fun H1 _ Q q => ⟨rfl, q H1 (Ex.refl H1)⟩
/-- texts: an item, a slice, the length -/
theorem rv_ixT {l : List Nat} {i : Int} {c : Nat} (hz : l.length ≤ 16000000) (h : atI l i = some c) : RV rIxS (.str (T l)) (.int i) H (.str (T [c])) := fun H1 _ Q q =>
  ⟨T l, i, c, rfl, rfl, by rw [T_len, sizeLine_eq]; omega, h, q H1 (Ex.refl H1)⟩
def cutL (l : List Nat) (lo hi : Option Int) : List Nat := (l.drop (HT.sIx l.length 0 lo)).take (HT.sIx l.length l.length hi - HT.sIx l.length 0 lo)
theorem cutS_T (l : List Nat) (lo hi : Option Int) : cutS (T l) lo hi = T (cutL l lo hi) := by
  unfold cutS cutL T
  simp [Str.length]
theorem cutL_len (l : List Nat) (lo hi : Option Int) : (cutL l lo hi).length ≤ l.length := by
  unfold cutL
  rw [List.length_take, List.length_drop]
  omega
theorem cutL_pre {l : List Nat} {n : Nat} : cutL l none (some (n : Int)) = l.take n := by
  unfold cutL
  rw [HT.sIx_none, HT.sIx_nat]
  simp
theorem cutL_suf {l : List Nat} {n : Nat} : cutL l (some (n : Int)) none = l.drop n := by
  unfold cutL
  rw [HT.sIx_none, HT.sIx_nat]
  by_cases h : n ≤ l.length
  · rw [Nat.min_eq_left h, List.take_of_length_le (by simp)]
  · rw [Nat.min_eq_right (by omega), Nat.sub_self, List.take_zero, List.drop_eq_nil_of_le (by omega)]
theorem cutL_last {l : List Nat} : cutL l none (some (-1)) = l.dropLast := by
  unfold cutL
  rw [HT.sIx_none, List.dropLast_eq_take]
  show (l.drop 0).take (((-1 : Int) + l.length).toNat - 0) = _
  rw [List.drop_zero, Nat.sub_zero]
  congr 1
  omega
theorem ev_slT {tl th : TO} {l : List Nat} {lo hi : Option Int} (h : Ev te σ H (.str (T l))) (hz : l.length ≤ 16000000) (h1 : EvO tl σ H lo) (h2 : EvO th σ H hi) : Ev (tSl rSlS te tl th) σ H (.str (T (cutL l lo hi))) := fun H1 e Q q =>
  h H1 e _ fun H2 e2 => h1 H2 (e.trans e2) _ fun H3 e3 => h2 H3 ((e.trans e2).trans e3) _ fun H4 e4 =>
    ⟨T l, rfl, by rw [T_len, sizeLine_eq]; omega, by rw [cutS_T]; exact q H4 ((e2.trans e3).trans e4)⟩
theorem ev_lenT {l : List Nat} (h : Ev ta σ H (.str (T l))) (hz : l.length ≤ 16000000) : Ev (tCB (rLenK K) (tCons ta tNil)) σ H (.int (l.length : Int)) := fun H1 e Q q =>
  h H1 e _ fun H2 e2 => ⟨.str (T l), l.length, rfl, ⟨by rw [T_len, sizeLine_eq]; omega, (T_len l).symm⟩, q H2 e2⟩
theorem ev_lenS {p : Addr} {xs : List V} (h : Ev ta σ H (.ref p)) (hs : SqL K H p xs ∨ SqT K H p xs) : Ev (tCB (rLenK K) (tCons ta tNil)) σ H (.int (xs.length : Int)) := fun H1 e Q q =>
  h H1 e _ fun H2 e2 => ⟨.ref p, xs.length, rfl, by
    rcases hs with hs | hs
    · exact .inl ⟨xs, ex_l (e.trans e2) hs, rfl⟩
    · exact .inr ⟨xs, ex_t (e.trans e2) hs, rfl⟩, q H2 e2⟩
theorem ev_lenNL {xs : List V} (h : EvL ta σ H xs) : Ev (tCB (rLenK K) (tCons ta tNil)) σ H (.int (xs.length : Int)) := fun H1 e Q q =>
  h H1 e _ fun p H2 _ e2 hp => ⟨.ref p, xs.length, rfl, .inl ⟨xs, sq_of hp, rfl⟩, q H2 e2⟩
/-- int(b) -/
theorem ev_intB {b : Bool} (h : Ev ta σ H (.bl b)) : Ev (tCB rIntB (tCons ta tNil)) σ H (.int (if b then 1 else 0)) := fun H1 e Q q =>
  h H1 e _ fun H2 e2 => .inr ⟨b, rfl, q H2 e2⟩
theorem ev_intI {i : Int} (h : Ev ta σ H (.int i)) : Ev (tCB rIntB (tCons ta tNil)) σ H (.int i) := fun H1 e Q q =>
  h H1 e _ fun H2 e2 => .inl ⟨i, rfl, q H2 e2⟩
/-- an item of a written list -/
theorem ev_ixNL {xs : List V} {i : Int} (h : EvL ta σ H xs) (hi : ∀ H1, Ex H H1 → Ev tb σ H1 (.int i)) (hv : atI xs i = some v) : Ev (tOp (rIxL K) ta tb) σ H v :=
  ev_opL1 h hi fun p H1 h1 _ => rv_ixL (sq_of h1) hv
/-- isinstance of scalars -/
def tyS : V → Option String
  | .non => some "NoneType"
  | .bl _ => some "bool"
  | .int _ => some "int"
  | .str _ => some "str"
  | _ => none
theorem tyS_ok {x : V} {n : String} (h : tyS x = some n) (H : Hp) : TyX K H x (.type n) := by
  cases x with
  | non => cases h; exact .base .non
  | bl b => cases h; exact .base (.bl b)
  | int i => cases h; exact .base (.int i)
  | str s => cases h; exact .base (.str s)
  | _ => cases h
theorem ev_isi {n m : String} {b : Bool} (h : Ev ta σ H x) (hn : tyS x = some n) (hb : kitB n m = some b) : Ev (tCB (rIsi K) (tCons ta (tCons (tC (.ty m)) tNil))) σ H (.bl b) := fun H1 e Q q =>
  h H1 e _ fun H2 e2 => ⟨x, .ty m, .type n, .type m, b, rfl, .ty m, tyS_ok hn H2, kit_ty hb, q H2 e2⟩
theorem ev_isiL {p : Addr} {xs : List V} {m : String} {b : Bool} (h : Ev ta σ H (.ref p)) (hp : H p = some (.lst xs)) (hb : kitB "list" m = some b) : Ev (tCB (rIsi K) (tCons ta (tCons (tC (.ty m)) tNil))) σ H (.bl b) := fun H1 e Q q =>
  h H1 e _ fun H2 e2 => ⟨.ref p, .ty m, .type "list", .type m, b, rfl, .ty m, .base (.lst ((e.trans e2) _ _ hp)), kit_ty hb, q H2 e2⟩
theorem ev_isiT {p : Addr} {xs : List V} {m : String} {b : Bool} (h : Ev ta σ H (.ref p)) (hp : H p = some (.tup xs)) (hb : kitB "tuple" m = some b) : Ev (tCB (rIsi K) (tCons ta (tCons (tC (.ty m)) tNil))) σ H (.bl b) := fun H1 e Q q =>
  h H1 e _ fun H2 e2 => ⟨.ref p, .ty m, .type "tuple", .type m, b, rfl, .ty m, .base (.tup ((e.trans e2) _ _ hp)), kit_ty hb, q H2 e2⟩
end
/-! ### promises of defs whose answer is a function of their arguments -/
def pureSp (n : Nat) (F : List V → Option V) : Sp := fun vs H Q _ => vs.length = n ∧ ∃ v, F vs = some v ∧ RetV v H Q
theorem use_pure {n : Nat} {F : List V → Option V} {vs : List V} {v : V} {H : Hp} (h : F vs = some v) (hn : vs.length = n) : SpV (pureSp n F) vs H v := fun H1 e Q q E => ⟨hn, v, h, fun H2 e2 => q H2 e2⟩
/-- .. the first argument a list -/
def pureSpL (K : PySem.W.Frag) (n : Nat) (F : List V → List V → Option V) : Sp := fun vs H Q _ => ∃ a xs us, vs = .ref a :: us ∧ us.length = n ∧ SqL K H a xs ∧ ∃ v, F xs us = some v ∧ RetV v H Q
theorem pureSpL_len {K : PySem.W.Frag} {n : Nat} {F : List V → List V → Option V} {vs : List V} {H : Hp} {Q : VK} {E : XK} (h : pureSpL K n F vs H Q E) : vs.length = n + 1 := by
  obtain ⟨a, xs, us, rfl, hn, _⟩ := h
  rw [List.length_cons, hn]
theorem use_pureL {K : PySem.W.Frag} {n : Nat} {F : List V → List V → Option V} {a : Addr} {xs us : List V} {v : V} {H : Hp} (hs : SqL K H a xs) (h : F xs us = some v) (hn : us.length = n) : SpV (pureSpL K n F) (.ref a :: us) H v := fun H1 e Q q E =>
  ⟨a, xs, us, rfl, hn, ex_l e hs, v, h, fun H2 e2 => q H2 e2⟩
section
variable {K : PySem.W.Frag} {σ : L2.St} {H : Hp} {te : TE}
/-- a call whose first argument is a new list -/
theorem ev_callNL {n : Nat} {F : List V → List V → Option V} {E : XK} {tr : TA} {xs us : List V} {v : V} (h : EvL te σ H xs) (hr : ∀ H1, Ex H H1 → EvA tr σ H1 us) (hF : F xs us = some v) (hn : us.length = n) :
    Ev (tCall (pureSpL K n F) [] E (tCons te tr)) σ H v := fun H1 e Q q =>
  h H1 e _ fun p H2 _ e2 hp => hr H2 (e.trans e2) H2 (Ex.refl H2) _ fun H3 e3 => by
    show pureSpL K n F ((.ref p :: us) ++ []) H3 Q E
    rw [List.append_nil]
    exact ⟨p, xs, us, rfl, hn, sq_of (e3 _ _ hp), v, hF, fun H4 e4 => q H4 ((e2.trans e3).trans e4)⟩
end

/-! ### the text's facts -/
def fdOf (K : PySem.W.Frag) (p : Str × Option Str) : FuncData := match K.lookup (He.fAd K p) with
  | some ⟨_, _, .func fd, _⟩ => fd
  | _ => PySem.W.fnOf "" "" ⟨[], [], none, [], [], none, []⟩ [] ⟨.function, [], false, false, []⟩ .none .none .none .none none .none .none
theorem fun_fdOf {K : PySem.W.Frag} {x qual : Str} {params : Arguments} {body : List Stmt} {scope : Scope} {dvs : List V} {kws : List (Str × V)} {p : Str × Option Str}
    (h : ∃ fd, FunD K x qual params body scope dvs kws (He.fAd K p) fd) : FunD K x qual params body scope dvs kws (He.fAd K p) (fdOf K p) := by
  obtain ⟨fd, F⟩ := h
  have e : fdOf K p = fd := by
    obtain ⟨oc, od, dV, kV, doc, pm, an, cdv, ct, osl, _, lk, _⟩ := F.ex
    unfold fdOf
    rw [lk]
  rw [e]
  exact F
theorem cx_none {P : Program} {w : World} {H : Hp} {s : Shared} {e : Value} {s' : Shared} (z : L2.CX P w [] H s (fun _ _ _ => False) e s') : False := by
  obtain ⟨_, _, _, _, _, _, _, _, _, _, _, _, z⟩ := z
  exact z
section
variable {X : Cx}
/-- a module's number, text -/
theorem pe_gint {x : Str} {i : Int} {pos : Pos} (hg : Gl X x) (hm : ∃ t, X.mg x = some (.int i t)) (hd : (x == ("__debug__" : Str)) = false := by decide) : PE X (.Name x pos) (tC (.int i)) := by
  obtain ⟨t, e⟩ := hm
  exact pe_glob hg e ⟨t, rfl⟩ hd
theorem pe_gstr {x : Str} {z : Str} {l : List Nat} {pos : Pos} (hg : Gl X x) (hm : ∃ t, X.mg x = some (.str z t)) (hz : z = T l) (hd : (x == ("__debug__" : Str)) = false := by decide) : PE X (.Name x pos) (tC (.str (T l))) := by
  obtain ⟨t, e⟩ := hm
  subst hz
  exact pe_glob hg e ⟨t, rfl⟩ hd
end
/-- a law's promise: called with the script, it gives True -/
def lawSp (K : PySem.W.Frag) : Sp := fun vs H Q _ => ∃ (a : Addr) (ns : List Int), vs = [.ref a] ∧ SqL K H a (ns.map V.int) ∧ ns.length ≤ 63 ∧ Only H ∧ ∀ H', Q (.bl true) H'
theorem lawSp_len {K : PySem.W.Frag} {vs : List V} {H : Hp} {Q : VK} {E : XK} (h : lawSp K vs H Q E) : vs.length = 1 := by
  obtain ⟨a, ns, rfl, _⟩ := h
  rfl
theorem law_in {K : PySem.W.Frag} {H : Hp} {a : Addr} {ns : List Int} {E : XK} (hl : ns.length ≤ 63) (hO : Only H) (hS : SqL K H a (ns.map V.int)) : lawSp K [.ref a] H (fun v _ => v = .bl true) E := ⟨a, ns, rfl, hS, hl, hO, fun _ => rfl⟩

/-- the end of a law over a head by facts, where what leaves a def depends on the world -/
theorem walk_w {l : PySem.W.OpenLaw} {n k : Nat} {q : Program} {loose : List Str} {XP : (Str → Option Value) → Heap → Prop} {YP : World → Heap → Prop} {d : DefRec} {x : Str}
    (hn : l.most = some n) (hn2 : n ≤ sizeLine) (hdf : d.params.defaults = []) (hr : Room k callerA)
    (F : ∀ (w : World) (mg : Str → Option Value) (fa : Addr) (h : Heap), YP w h → h.Ns mainGlobals mg → mg d.name = some (.ref fa) →
      ∃ (K : PySem.W.Frag) (fd : FuncData), K.In h ∧ (∀ (s : Shared) (u : Value), BindsTo s fd ⟨[u], []⟩ [(x, u)]) ∧
        (∀ (H : Hp) (a : Addr) (ns : List Int), ns.length ≤ n → Only H → SqL K H a (ns.map V.int) → lawSp K [.ref a] H (fun v _ => v = .bl true) fun _ _ _ => False) ∧
        ∀ base : Heap, K.In base → base.Ns mainGlobals mg → FnOk l.prog w K mg base (L2.CX l.prog w) k fa fd [x] (lawSp K)) :
    PySem.W.WalkO q loose XP YP l.row.toRowW d [] (fun f vs => PySem.call f vs) := by
  refine Att.attach_call hn hdf fun w s₀ s₁ mg mb fa o pm cd doc a vs ns G Y ho hd hcd hmg hobj hints hlen hg => ?_
  have Z := F w mg fa s₁.heap Y G.T.g hmg
  obtain ⟨K, fd, KX, hb, hsp, hF⟩ := Z
  exact law_call KX G.T.g G.T.b G.T.builtins G.T.nolimit hg hobj hints (Nat.le_trans hlen hn2) hr hF hb (fun H hO hS => hsp H a ns hlen hO hS)
    (fun H e s' z => cx_none z)
end Kr
/-! rows of two signs as lists of truths; the reading's own tactics -/
namespace Kr
open PySem PySem.Spec PyProof.Rows L2 Evl
/-! ### rows -/
def bc (b : Bool) : Nat := if b then 49 else 48
def R (b : List Bool) : List Nat := b.map bc
theorem R_app (a b : List Bool) : R (a ++ b) = R a ++ R b := List.map_append
theorem R_len (a : List Bool) : (R a).length = a.length := List.length_map _
theorem bc_inj {a b : Bool} (h : bc a = bc b) : a = b := by cases a <;> cases b <;> first | rfl | (exact absurd h (by decide))
theorem R_inj {a b : List Bool} (h : R a = R b) : a = b := by
  induction a generalizing b with
  | nil => cases b with
    | nil => rfl
    | cons y b => simp [R] at h
  | cons x a ih => cases b with
    | nil => simp [R] at h
    | cons y b =>
      simp only [R, List.map_cons, List.cons.injEq] at h
      rw [bc_inj h.1, ih h.2]
theorem R_take (a : List Bool) (n : Nat) : (R a).take n = R (a.take n) := by simp [R, List.map_take]
theorem R_drop (a : List Bool) (n : Nat) : (R a).drop n = R (a.drop n) := by simp [R, List.map_drop]
theorem lt_split {p x y : List Nat} : p ++ 48 :: x < p ++ 49 :: y := by
  induction p with
  | nil => exact List.Lex.rel (by decide)
  | cons c p ih => exact List.Lex.cons ih
theorem lt_pre {p y : List Nat} {c : Nat} : p < p ++ c :: y := by
  induction p with
  | nil => exact List.Lex.nil
  | cons d p ih => exact List.Lex.cons ih
/-! ### the script -/
def cellAt (ns : List Int) (k : Int) : Int := (ns[k.toNat]?).getD 0
theorem cell_at {ns : List Int} {j : Nat} (hj : j < ns.length) : ns[j]? = some (cellAt ns j) := by
  unfold cellAt
  rw [Int.toNat_natCast, List.getElem?_eq_getElem hj]
  rfl
/-- a cell of the script by its place -/
theorem at_int {ns : List Int} {j : Nat} (hj : j < ns.length) : atI (ns.map V.int) (j : Int) = some (.int (cellAt ns j)) := by
  refine atI_nat (j := j) ?_
  rw [List.getElem?_map, cell_at hj]
  rfl
theorem cut_len {ns : List Int} (h : ns.length ≤ 63) : ((cutV (ns.map V.int) none (some 63)).length : Int) = (ns.length : Int) := by
  unfold cutV
  rw [HT.sIx_none, show HT.sIx (ns.map V.int).length (ns.map V.int).length (some 63) = min 63 (ns.map V.int).length from HT.sIx_nat _ _ 63]
  simp
  omega
theorem ev_len63 {K : PySem.W.Frag} {σ : L2.St} {H : Hp} {te : TE} {a : Addr} {ns : List Int} (h : Ev te σ H (.ref a)) (hs : SqL K H a (ns.map V.int)) (hl : ns.length ≤ 63) :
    Ev (tCB (rLenK K) (tCons (tSl (rSlL K) te tNoPart (tPart (tC (.int 63)))) tNil)) σ H (.int (ns.length : Int)) := by
  have := ev_lenNL (K := K) (el_sl (K := K) h eo_none (eo_some (ev_c (v := .int 63))) hs)
  rw [cut_len hl] at this
  exact this
/-! ### one rule an operation, for apply -/
section
variable {K : PySem.W.Frag} {σ : L2.St} {H : Hp} {ta tb te : TE} {x : V}
theorem ev_addI {i j : Int} (ha : Ev ta σ H (.int i)) (hb : Ev tb σ H (.int j)) : Ev (tOp rAddI ta tb) σ H (.int (i + j)) := ev_op ha hb rv_addI
theorem ev_subI {i j : Int} (ha : Ev ta σ H (.int i)) (hb : Ev tb σ H (.int j)) : Ev (tOp rSubI ta tb) σ H (.int (i - j)) := ev_op ha hb rv_subI
theorem ev_mulI {i j : Int} (ha : Ev ta σ H (.int i)) (hb : Ev tb σ H (.int j)) (h : CMulX i j) : Ev (tOp rMulI ta tb) σ H (.int (i * j)) := ev_op ha hb (rv_mulI h)
theorem ev_divI {i j : Int} (ha : Ev ta σ H (.int i)) (hb : Ev tb σ H (.int j)) (h : CDivW i j) : Ev (tOp rDivI ta tb) σ H (.int (i / j)) := ev_op ha hb (rv_divI h)
theorem ev_modI {i j : Int} (ha : Ev ta σ H (.int i)) (hb : Ev tb σ H (.int j)) (h : 0 < j) : Ev (tOp rModI ta tb) σ H (.int (i % j)) := ev_op ha hb (rv_modI h)
theorem ev_shrI {i j : Int} (ha : Ev ta σ H (.int i)) (hb : Ev tb σ H (.int j)) (h : 0 ≤ j) : Ev (tOp rShrI ta tb) σ H (.int (i / 2 ^ j.toNat)) := ev_op ha hb (rv_shrI h)
theorem ev_shlI {i j : Int} (ha : Ev ta σ H (.int i)) (hb : Ev tb σ H (.int j)) (h : CShl i j) : Ev (tOp rShlI ta tb) σ H (.int (i * 2 ^ j.toNat)) := ev_op ha hb (rv_shlI h)
theorem ev_powI {i j : Int} (ha : Ev ta σ H (.int i)) (hb : Ev tb σ H (.int j)) (h : CPow i j) : Ev (tOp rPowI ta tb) σ H (.int (i ^ j.toNat)) := ev_op ha hb (rv_powI h)
theorem ev_andI {i j : Int} (ha : Ev ta σ H (.int i)) (hb : Ev tb σ H (.int j)) : Ev (tOp rAndI ta tb) σ H (.int (Builtin.bitAnd i j)) := ev_op ha hb rv_andI
theorem ev_ltI {i j : Int} (ha : Ev ta σ H (.int i)) (hb : Ev tb σ H (.int j)) : Ev (tOp rLtI ta tb) σ H (.bl (decide (i < j))) := ev_op ha hb rv_ltI
theorem ev_leI {i j : Int} (ha : Ev ta σ H (.int i)) (hb : Ev tb σ H (.int j)) : Ev (tOp rLeI ta tb) σ H (.bl (decide (i ≤ j))) := ev_op ha hb rv_leI
theorem ev_gtI {i j : Int} (ha : Ev ta σ H (.int i)) (hb : Ev tb σ H (.int j)) : Ev (tOp rGtI ta tb) σ H (.bl (decide (j < i))) := ev_op ha hb rv_gtI
theorem ev_geI {i j : Int} (ha : Ev ta σ H (.int i)) (hb : Ev tb σ H (.int j)) : Ev (tOp rGeI ta tb) σ H (.bl (decide (j ≤ i))) := ev_op ha hb rv_geI
theorem ev_eqI {i j : Int} (ha : Ev ta σ H (.int i)) (hb : Ev tb σ H (.int j)) : Ev (tOp rEq ta tb) σ H (.bl (decide (i = j))) := ev_op ha hb rv_eqI
theorem ev_neI {i j : Int} (ha : Ev ta σ H (.int i)) (hb : Ev tb σ H (.int j)) : Ev (tOp rNe ta tb) σ H (.bl (!decide (i = j))) := ev_op ha hb rv_neI
theorem ev_eqB {i j : Bool} (ha : Ev ta σ H (.bl i)) (hb : Ev tb σ H (.bl j)) : Ev (tOp rEq ta tb) σ H (.bl (decide (i = j))) := ev_op ha hb rv_eqB
theorem ev_neB {i j : Bool} (ha : Ev ta σ H (.bl i)) (hb : Ev tb σ H (.bl j)) : Ev (tOp rNe ta tb) σ H (.bl (!decide (i = j))) := ev_op ha hb rv_neB
theorem ev_addT {a b : List Nat} (ha : Ev ta σ H (.str (T a))) (hb : Ev tb σ H (.str (T b))) (h : a.length + b.length ≤ 16000000) : Ev (tOp rAddT ta tb) σ H (.str (T (a ++ b))) := ev_op ha hb (rv_addT h)
theorem ev_ltT {a b : List Nat} (ha : Ev ta σ H (.str (T a))) (hb : Ev tb σ H (.str (T b))) : Ev (tOp rLtT ta tb) σ H (.bl (decide (a < b))) := ev_op ha hb rv_ltT
theorem ev_leT {a b : List Nat} (ha : Ev ta σ H (.str (T a))) (hb : Ev tb σ H (.str (T b))) : Ev (tOp rLeT ta tb) σ H (.bl (!decide (b < a))) := ev_op ha hb rv_leT
theorem ev_eqT {a b : List Nat} (ha : Ev ta σ H (.str (T a))) (hb : Ev tb σ H (.str (T b))) : Ev (tOp rEq ta tb) σ H (.bl (decide (a = b))) := ev_op ha hb rv_eqT
theorem ev_neT {a b : List Nat} (ha : Ev ta σ H (.str (T a))) (hb : Ev tb σ H (.str (T b))) : Ev (tOp rNe ta tb) σ H (.bl (!decide (a = b))) := ev_op ha hb rv_neT
theorem ev_mulT {a : List Nat} {n : Int} (ha : Ev ta σ H (.str (T a))) (hb : Ev tb σ H (.int n)) (h0 : n < 2 ^ 62) (h1 : -(2 ^ 62) ≤ n) (h : a.length * n.toNat ≤ 16000000) : Ev (tOp rMulT ta tb) σ H (.str (T (List.replicate n.toNat a).flatten)) := ev_op ha hb (rv_mulT h0 h1 h)
theorem ev_ixT {l : List Nat} {i : Int} {c : Nat} (ha : Ev ta σ H (.str (T l))) (hb : Ev tb σ H (.int i)) (hz : l.length ≤ 16000000) (h : atI l i = some c) : Ev (tOp rIxS ta tb) σ H (.str (T [c])) := ev_op ha hb (rv_ixT hz h)
theorem ev_isN (ha : Ev ta σ H x) : Ev (tOp rIsN0 ta (tC .non)) σ H (.bl (decide (x = .non))) := ev_op ha ev_c rv_isN
theorem ev_notN (ha : Ev ta σ H x) : Ev (tOp rNotN0 ta (tC .non)) σ H (.bl (!decide (x = .non))) := ev_op ha ev_c rv_notN
theorem ev_neg {i : Int} (ha : Ev ta σ H (.int i)) : Ev (tUn (rU fun i => .int (-i)) ta) σ H (.int (-i)) := ev_un ha ru_neg
theorem ev_bits {i : Int} (ha : Ev ta σ H (.int i)) : Ev (tBits ta) σ H (.int (Builtin.Int.intBits i : Nat)) := fun H1 e Q q => ha H1 e _ fun H2 e2 => ⟨i, rfl, q H2 e2⟩
end
theorem bit_at (x : Int) (j : Nat) : atI [48, 49] (Builtin.bitAnd (x / 2 ^ ((j : Int)).toNat) 1) = some (bc (decide (x / 2 ^ j % 2 = 1))) := by
  have e : Builtin.bitAnd (x / 2 ^ ((j : Int)).toNat) 1 = x / 2 ^ j % 2 := by
    have := PySem.W.kbt_mask (x / 2 ^ j) 1
    rw [Int.toNat_natCast]
    exact this
  rw [e]
  have : x / 2 ^ j % 2 = 0 ∨ x / 2 ^ j % 2 = 1 := by omega
  rcases this with h | h <;> rw [h] <;> rfl
end Kr
/-! errors of the text's own: raised with a text, caught and kept as values, asked for their classes -/
namespace Kr
open PySem PySem.Spec PyProof.Rows L2 Evl
/-! ### facts of the error classes, looked up by the names -/
def exCB (K : PySem.W.Frag) (C : Addr) : Bool :=
  decide (PySem.W.findIn K (.ref C) "__getattribute__" = some (some (.builtin "BaseException.__getattribute__"))) && (decide (PySem.W.findIn K (.ref C) "__getattr__" = some none) &&
  (decide (PySem.W.subIn K (.ref C) (.type "BaseException") = some true) && (PySem.W.hasDictIn K C && (decide (PySem.W.findIn K (.ref C) "__class__" = some (some (.builtin "object.__class__"))) &&
  (decide (PySem.W.specialIn K (.builtin "object.__class__") "__get__" = some (some (.builtin "getset_descriptor.__get__"))) && (decide (PySem.W.takesIn K (.builtin "object.__class__") = some true) &&
  decide (PySem.W.mroIn K C (.type "object") = some true)))))))
theorem exCB_ok {K : PySem.W.Frag} {C : Addr} (h : exCB K C = true) : ExcC K C := by
  obtain ⟨h1, h⟩ := He.ba h
  obtain ⟨h2, h⟩ := He.ba h
  obtain ⟨h3, h⟩ := He.ba h
  obtain ⟨h4, h⟩ := He.ba h
  obtain ⟨h5, h⟩ := He.ba h
  obtain ⟨h6, h⟩ := He.ba h
  obtain ⟨h7, h8⟩ := He.ba h
  exact ⟨of_decide_eq_true h1, of_decide_eq_true h2, of_decide_eq_true h3, h4, of_decide_eq_true h5, of_decide_eq_true h6, of_decide_eq_true h7, of_decide_eq_true h8⟩
/-- RiseError stands above each of L, none of L above another one -/
def exsB (K : PySem.W.Frag) (L : List Str) : Bool := decide (PySem.W.exmOne K (.ref (He.ga K "RiseError")) (.ref (He.ga K "RiseError")) = some true) && L.all fun x => exCB K (He.ga K x) &&
  (decide (PySem.W.kitOne K (.ref (He.ga K x)) (.ref (He.ga K "RiseError")) = some true) && (decide (PySem.W.kitOne K (.ref (He.ga K x)) (.type "ValueError") = some true) && (decide (PySem.W.exmOne K (.ref (He.ga K x)) (.ref (He.ga K "RiseError")) = some true) &&
  L.all fun y => decide (PySem.W.kitOne K (.ref (He.ga K x)) (.ref (He.ga K y)) = some (decide (x = y))) && decide (PySem.W.exmOne K (.ref (He.ga K x)) (.ref (He.ga K y)) = some (decide (x = y))))))
structure KxL (L : List Str) (K : PySem.W.Frag) : Prop where
  ok : exsB K L = true
section
variable {L : List Str} {K : PySem.W.Frag} {x y : Str}
theorem KxL.at_ (k : KxL L K) (hx : x ∈ L) : exCB K (He.ga K x) = true ∧ PySem.W.kitOne K (.ref (He.ga K x)) (.ref (He.ga K "RiseError")) = some true ∧ PySem.W.kitOne K (.ref (He.ga K x)) (.type "ValueError") = some true ∧
    PySem.W.exmOne K (.ref (He.ga K x)) (.ref (He.ga K "RiseError")) = some true ∧ ∀ y ∈ L, PySem.W.kitOne K (.ref (He.ga K x)) (.ref (He.ga K y)) = some (decide (x = y)) ∧ PySem.W.exmOne K (.ref (He.ga K x)) (.ref (He.ga K y)) = some (decide (x = y)) := by
  obtain ⟨_, h⟩ := He.ba k.ok
  have h := List.all_eq_true.mp h x hx
  obtain ⟨h1, h⟩ := He.ba h
  obtain ⟨h2, h⟩ := He.ba h
  obtain ⟨h3, h⟩ := He.ba h
  obtain ⟨h4, h⟩ := He.ba h
  refine ⟨h1, of_decide_eq_true h2, of_decide_eq_true h3, of_decide_eq_true h4, fun y hy => ?_⟩
  obtain ⟨a, b⟩ := He.ba (List.all_eq_true.mp h y hy)
  exact ⟨of_decide_eq_true a, of_decide_eq_true b⟩
theorem KxL.exc (k : KxL L K) (hx : x ∈ L) : ExcC K (He.ga K x) := exCB_ok (k.at_ hx).1
theorem KxL.root (k : KxL L K) (hx : x ∈ L) : PySem.W.kitOne K (.ref (He.ga K x)) (.ref (He.ga K "RiseError")) = some true := (k.at_ hx).2.1
theorem KxL.val (k : KxL L K) (hx : x ∈ L) : PySem.W.kitOne K (.ref (He.ga K x)) (.type "ValueError") = some true := (k.at_ hx).2.2.1
theorem KxL.exR (k : KxL L K) (hx : x ∈ L) : PySem.W.exmOne K (.ref (He.ga K x)) (.ref (He.ga K "RiseError")) = some true := (k.at_ hx).2.2.2.1
theorem KxL.kit (k : KxL L K) (hx : x ∈ L) (hy : y ∈ L) : PySem.W.kitOne K (.ref (He.ga K x)) (.ref (He.ga K y)) = some (decide (x = y)) := ((k.at_ hx).2.2.2.2 y hy).1
theorem KxL.exm (k : KxL L K) (hx : x ∈ L) (hy : y ∈ L) : PySem.W.exmOne K (.ref (He.ga K x)) (.ref (He.ga K y)) = some (decide (x = y)) := ((k.at_ hx).2.2.2.2 y hy).2
end
/-! ### the head's look, one more answer of one's own beside -/
abbrev AlM : Type := He.AlD × Bool
def frM (g : Addr → Option Obj) (n : Nat) : PySem.W.Frag := He.frG g (He.asD g n ++ [cStatics])
def hookM (n : Nat) (fa : List He.Fa) (fn : List He.DefD) (ex : PySem.W.Frag → Bool) : PySem.W.Hook where
  α := AlM
  obs := fun s => (He.obsD fa fn (frM s.heap.get? n), ex (frM s.heap.get? n))
  val := fun _ => (He.valD fn, true)
  says := fun _ h => ∃ K : PySem.W.Frag, K.In h ∧ He.SaysD fa fn K ∧ ex K = true
  of := fun _ _ e => ⟨_, He.frG_in, congrArg (fun z : AlM => z.1) e, congrArg (fun z : AlM => z.2) e⟩
  keeps := fun _ _ _ ⟨K, hK, c⟩ k => ⟨K, PySem.W.Frag.In.keeps hK k, c⟩
def obsM (n : Nat) (fa : List He.Fa) (fn : List He.DefD) (ex : PySem.W.Frag → Bool) (g : Addr → Option Obj) : AlM := (He.obsD fa fn (frM g n), ex (frM g n))
theorem obsM_eq {n : Nat} {fa : List He.Fa} {fn : List He.DefD} {ex : PySem.W.Frag → Bool} {g : Addr → Option Obj} {s : Shared} (h : ∀ a, g a = s.heap.get? a) : obsM n fa fn ex g = (hookM n fa fn ex).obs s := by
  have e : g = s.heap.get? := funext h
  rw [e] <;> rfl
/-! ### raise X('..') -/
def tRaiseX (cls : Value) (E : XK) : TS := fun _ _ H => E cls none H
section
variable {X : Cx}
theorem pmk_txt {x m : Str} {C : Addr} {j : Nat} {p p2 pos : Pos}
    (c : PySem.W.excIn X.K C He.veBase "ValueError.__new__" = true ∧ PySem.W.keepIn X.K (.ref C) = true ∧ PySem.W.subIn X.K (.ref C) (.type "BaseException") = some true ∧ PySem.W.typeIn X.K (.ref C) = some (.type "type"))
    (g : X.mg x = some (.ref C)) (hg : Gl X x := by rfl) (hd : (x == ("__debug__" : Str)) = false := by decide) :
    PMk X (.Call (.Name x p) [.Constant (.str m) j p2] [] pos) (fun _ H Q => Q (.ref C) none H) :=
  pmk_own PySem.F.excBase_ValueError c.1 g c.2.1 (raises_own c.2.2.1 c.2.2.2) hg hd
end
/-- a promise's ways out -/
def RaiseX (cls : Value) (H : Hp) (E : XK) : Prop := ∀ H', Ex H H' → E cls none H'
/-! ### an error that was caught stands as a value -/
def ExK (cls : Value) (d : Option Addr) (a : Addr) : HO := .ext fun h => ∃ oe : Obj, h.get? a = some oe ∧ Zc cls d oe ∧ ∃ vs, oe.data = .fields vs
theorem exK_ok {P : Program} {w : World} {H : Hp} {h : Heap} {a : Addr} {cls : Value} {d : Option Addr} {oe : Obj} (e : h.get? a = some oe) (z : Zc cls d oe) (f : ∃ vs, oe.data = .fields vs) : ObjOk P w H h a (ExK cls d a) :=
  ⟨⟨oe, e, z, f⟩, ⟨oe, e⟩, fun _ _ ⟨o, q, r⟩ k => ⟨o, k o q, r⟩⟩
section
variable {X : Cx} {pins : List (Addr × Obj)} {σ : L2.St} {H : Hp} {s : Shared}
/-- what was pinned, new in this def, is tracked from now on -/
theorem inv_track {a : Addr} {oe : Obj} {cls : Value} {d : Option Addr} (I : Inv X ((a, oe) :: pins) σ H s) (hz : Zc cls d oe) (hv : ∃ vs, oe.data = .fields vs) (hnew : X.s_0.heap.get? a = none)
    (hpn : ∀ p ∈ X.pn ++ pins, p.1 ≠ a) : Inv X pins σ (upd H a (ExK cls d a)) s := by
  have hp : (a, oe) ∈ X.pn ++ (a, oe) :: pins := List.mem_append_right _ List.mem_cons_self
  obtain ⟨hget, hn, hL, hF, hnc⟩ := I.pin _ hp
  have ne0 : ∀ b o, X.s_0.heap.get? b = some o → b ≠ a := fun b o e z => by
    rw [z, hnew] at e
    cases e
  have neH : ∀ b u, H b = some u → b ≠ a := fun b u e z => by
    rw [z, hn] at e
    cases e
  refine ⟨I.ok, I.os, I.bare, ⟨I.base.keep, I.base.slot, fun b o e n hx => ?_, I.base.there, fun b xs e => ?_, fun b o u e => ?_, fun b ps e => ?_⟩, I.loc, I.cell, ?_, fun x c e => ?_, fun p hp' => ?_, fun b u e => ?_, I.len⟩
  · rw [upd_ne (ne0 b o e)]
    exact I.base.free b o e n hx
  · have q := I.base.tups b xs e
    rw [upd_ne (neH b _ q)]
    exact q
  · have q := I.base.frzs b o u e
    rw [upd_ne (neH b _ q)]
    exact q
  · obtain ⟨m, q⟩ := I.base.tbls b ps e
    exact ⟨m, by rw [upd_ne (neH b _ q)]; exact q⟩
  · rw [upd_ne (Ne.symm hL)]
    exact I.free
  · have hc : c ≠ a := fun z => by
      obtain ⟨v, o, ho, hd⟩ := I.cell x c e
      rw [z] at ho
      have := ho.symm.trans hget
      cases this
      exact hnc v hd
    rw [upd_ne hc]
    exact I.freeC x c e
  · have hp2 : p ∈ X.pn ++ (a, oe) :: pins := by
      rcases List.mem_append.mp hp' with z | z
      · exact List.mem_append_left _ z
      · exact List.mem_append_right _ (List.mem_cons_of_mem _ z)
    obtain ⟨p1, p2, p3, p4, p5⟩ := I.pin p hp2
    exact ⟨p1, by rw [upd_ne (hpn p hp')]; exact p2, p3, p4, p5⟩
  · by_cases hb : b = a
    · subst hb
      rw [upd_same] at e
      cases e
      exact exK_ok hget hz hv
    · rw [upd_ne hb] at e
      exact (I.hok b u e).stay (fun c v _ q => q) (fun c q => by rw [upd_ne (neH c _ q)]; exact q) (fun c xs q => by rw [upd_ne (neH c _ q)]; exact q)
end
/-- what the clause 'except x as n' wishes, the error kept behind the suite's end -/
def wKeep (K : PySem.W.Frag) (c : Value) (i : Nat) (ts : Addr → Value → Option Addr → TS) (Wout : WX) (D : Ends) : WX := fun cls d σ H =>
  ∃ b, PySem.W.exmOne K cls c = some b ∧
    (b = true → ∀ a, H a = none → ts a cls d { nx := fun σ' H' => D.nx (σ'.set i none) (upd H' a (ExK cls d a)), rt := fun _ _ => False } (σ.set i (some (.ref a))) H) ∧
    (b = false → Wout cls d σ H)
section
variable {X : Cx} {x n : Str} {c : Value} {i : Nat} {body suite : List Stmt} {b₀ : Stmt} {np pos pos' : Pos} {tb : WX → TS} {ts : Addr → Value → Option Addr → TS} {Wout : WX}
theorem ps_try_keep (hs : X.stack = X.env :: X.outer) (hf : X.env.frame = some X.env.locals) (hex : X.ex = []) (hN : X.N.Nodup) (hi : X.N[i]? = some n) (hln : X.env.kindOf n = some .local) (hc : Names X x c) (tk : Takes X Wout)
    (hb : ∀ (W : WX) (pn : List (Addr × Obj)) (xe : Value → Shared → Prop), Takes (X.tr pn xe) W → PassesOwn (model X.prog X.w) X.A X.env xe → PSs (X.tr pn xe) body (tb W))
    (hsu : ∀ (a : Addr) (oe : Obj) (cls : Value) (d : Option Addr) (pn : List (Addr × Obj)), Zc cls d oe → (∃ vs, oe.data = .fields vs) → PSs (X.suite a ((a, oe) :: pn)) (b₀ :: suite) (ts a cls d)) :
    PS X (.Try body [.ExceptHandler (some (.Name x np)) (some n) (b₀ :: suite) pos'] [] [] pos) (fun D σ H => tb (wKeep X.K c i ts Wout D) D σ H) := by
  refine ⟨fun pins s σ H D I h => ?_⟩
  have okX := I.ok
  have frX : X.A.frames = some (X.env :: X.outer) := by rw [okX.frames, hs]
  refine wpAny_Try_except (wpAny_mono ((hb (wKeep X.K c i ts Wout D) (X.pn ++ pins) _ (fun u s1 air => ?air) PassesOwn.looking).run [] s σ H D (I.toTry _) h) (fun f s1 done => ?done) (fun e s1 he => he))
  case done =>
    cases f with
    | next => obtain ⟨σ1, H1, J, q⟩ := done; exact wpAny_execs_nil ⟨σ1, H1, J.ofTry okX, q⟩
    | brk => obtain ⟨σ1, H1, J, q⟩ := done; exact ⟨σ1, H1, J.ofTry okX, q⟩
    | cont => obtain ⟨σ1, H1, J, q⟩ := done; exact ⟨σ1, H1, J.ofTry okX, q⟩
    | ret u => obtain ⟨v, σ1, H1, J, r, q⟩ := done; exact ⟨v, σ1, H1, J.ofTry okX, r, q⟩
  case air =>
    obtain ⟨a, B, s2, pins2, σ2, H2, cls, d, rfl, J0, nb, up, sky, na, os, ag, b, hb1, hyes, hno⟩ := air
    have J : Inv X pins σ2 H2 s2 := J0.ofTry okX
    rw [show (X.tr (X.pn ++ pins) _).stack = X.env :: X.outer from hs] at sky
    show wpAny (model X.prog X.w) X.A (noteFrame (.ref a) X.env) _ _ _
    refine Sky.land Zc.steady frX hf sky fun h3 fl3 up3 => ?_
    have J3 : Inv X pins σ2 H2 { s1 with heap := h3 } := J.landed nb fl3.1 (up.trans up3) os ag
    obtain ⟨oe3, vs3, he3, hz3, hd3⟩ := fl3.there
    have far : a ∉ frs (X.env :: X.outer) := fun hm => by
      obtain ⟨_, o', e', hnf⟩ := fl3.2.2.1.mem hm
      have e2 := he3.symm.trans e'
      cases e2
      exact hnf _ hd3
    have nL : a ≠ X.env.locals := fun z => far (List.mem_filterMap.mpr ⟨X.env, List.mem_cons_self, by rw [hf, z]⟩)
    have nF : a ∉ X.fs := fun hm => by
      obtain ⟨e, he, q⟩ := List.mem_filterMap.mp hm
      exact far (List.mem_filterMap.mpr ⟨e, List.mem_cons_of_mem _ he, q⟩)
    -- the error is new in this def
    have ground : ∀ o, s2.heap.get? a = some o → False := fun o e => by
      have := nb a o e (by rw [show (X.tr (X.pn ++ pins) _).stack = X.env :: X.outer from hs]; exact far)
      rw [fl3.2.1] at this
      cases this
    have hnew : X.s_0.heap.get? a = none := by
      cases e : X.s_0.heap.get? a with
      | none => rfl
      | some o =>
        obtain ⟨o', e'⟩ := J.base.there a o e (by rw [hex]; exact fun z => nomatch z)
        exact (ground o' e').elim
    have hpn : ∀ p ∈ X.pn ++ pins, p.1 ≠ a := fun p hp z => by
      have e := (J.pin p hp).1
      rw [z] at e
      exact ground _ e
    have S3 := J3.suite he3 hd3 na nL nF
    refine wpAny_handleBy_cons (codeAny_handlers_test ?_) (by intro q; cases q)
    have LT : PySem.W.Looks (model X.prog X.w) h3 (typeOf (.ref a)) cls := fun A Q E s k q => wpAny_typeOf_ref (k _ _ he3) (by rw [hz3.1]; exact q)
    have LM := PySem.W.exm_one (M := model X.prog X.w) J3.kIn LT hb1
    have named : ∀ {Q : Value → Shared → Prop} {E : Value → Shared → Prop}, Q c { s1 with heap := h3 } → wpAny (model X.prog X.w) (X.A.mark (some (.ref a))) (eval (.Name x np) X.env) Q E { s1 with heap := h3 } := fun {Q E} q => by
      obtain ⟨hg, hdbg, hm | ⟨hm, hv, hnn⟩⟩ := hc
      · exact ld_glob (X := X.suite a ((a, oe3) :: (X.pn ++ pins))) S3 hg hm q hdbg
      · exact ld_blt (X := X.suite a ((a, oe3) :: (X.pn ++ pins))) S3 hg hm hv q hnn hdbg
    refine named (LM.here ?_)
    cases b with
    | true =>
      refine codeAny_handlers_suite_as (HandSPX.lands_againZ fl3 fun h4 fl4 up4 => ?_)
      have J4 : Inv X pins σ2 H2 { s1 with heap := h4 } := J.landed nb fl4.1 ((up.trans up3).trans up4) os ag
      obtain ⟨oe4, vs4, he4, hz4, hd4⟩ := fl4.there
      have S4 := J4.suite he4 hd4 na nL nF
      refine store_ok (X := X.suite a ((a, oe4) :: (X.pn ++ pins))) (v := .ref a) S4 hN hi (.inl hln) rfl (fun s5 S5 => ?_) (.inr hln)
      refine wpAny_mono ((hsu a oe4 cls d (X.pn ++ pins) hz4 ⟨_, hd4⟩).run [] s5 _ H2 _ S5 (hyes rfl a na)) (fun f s6 hsp => ?_) (fun _ _ z => False.elim z)
      cases f with
      | next =>
        obtain ⟨σ6, H6, S6, q6⟩ := hsp
        have P6 : Inv X ((a, oe4) :: pins) σ6 H6 s6 := ⟨okX, S6.os, S6.bare, S6.base, S6.loc, S6.cell, S6.free, S6.freeC, fun p hp => S6.pin p (List.mem_append_left _ (by
          rcases List.mem_append.mp hp with z | z
          · exact List.mem_cons_of_mem _ (List.mem_append_left _ z)
          · rcases List.mem_cons.mp z with z | z
            · rw [z]; exact List.mem_cons_self
            · exact List.mem_cons_of_mem _ (List.mem_append_right _ z))), S6.hok, S6.len⟩
        exact gone_ok P6 hN hi hln fun s7 J7 => ⟨_, _, inv_track J7 hz4 ⟨_, hd4⟩ hnew hpn, q6⟩
      | brk => obtain ⟨_, _, _, q6⟩ := hsp; exact q6.elim
      | cont => obtain ⟨_, _, _, q6⟩ := hsp; exact q6.elim
      | ret u => obtain ⟨_, _, _, _, _, q6⟩ := hsp; exact q6.elim
    | false =>
      show wpAny _ X.A (handleBy (.ref a) X.env []) _ _ _
      refine wpAny_handleBy_nil ?_
      obtain ⟨k1, k2, k3, oe, vs, T, oT, ts', he, hz, hd, h1, hr⟩ := id fl3
      unfold PySem.passOn
      refine wpAny_bind (wpAny_field he hd h1 ?_)
      rw [if_neg (show ¬ ((Value.ref T == Value.none) = true) from by simp)]
      have out : wpAny (model X.prog X.w) X.A (setFlight (.ref a) X.env.frame) (fun _ s4 => wpAny (model X.prog X.w) X.A (throw (.ref a) : Sem Flow) (SP X pins D) X.xe s4) X.xe { s1 with heap := h3 } := by
        rw [hf]
        refine HandSPX.setFlight_upZ fl3 fun h4 hh4 up4 => wpAny_throw (tk _ _ ?_)
        exact ⟨a, B, s2, pins, σ2, H2, cls, d, rfl, J, nb, (up.trans up3).trans up4, .inr (.inr (by rw [hs]; exact hh4)), na, os, ag, hno rfl⟩
      first
        | exact wpAny_bind (wpAny_pure (wpAny_bind out))
        | exact wpAny_bind out
end
end Kr
/-! isinstance of kept errors, with a dict of their own or without -/
namespace Kr
open PySem PySem.Spec PyProof.Rows L2 Evl
section
open PySem.W PySem.Calls
variable {prog : Program} {w : World} {A : Around} {E : Value → Shared → Prop} {s : Shared} {K : Frag} {x D : Addr} {ox : Obj} {od : Option Obj}
/-- an error's __class__, whether it has a dict or not -/
theorem cls_of_err {Q : Option Value → Shared → Prop} (c : ExcC K D) (X : K.In s.heap) (I : PySem.W.InstAt s.heap x ox D od) (h : Q (some (.ref D)) { s with toks := s.toks + 1 }) :
    wpAny (model prog w) A (getAttr? (.ref x) "__class__") Q E s := by
  obtain ⟨hga, hgt, hsub, hdct, ha, hn, htk, hm⟩ := c
  have found : findObj K D od "__class__" = some (.bind (.builtin "getset_descriptor.__get__") (.builtin "object.__class__")) := by
    obtain ⟨cd, hc, _⟩ := any_some hdct
    unfold findObj
    rw [hc, Option.bind_some, ha, Option.bind_some]
    simp [hn, htk]
  obtain ⟨hp, g, dr, t, os⟩ := s
  have ty := I.type (M := model prog w)
  have at1 := looks_findIn (M := model prog w) X hga
  have at2 := looks_findIn (M := model prog w) X hgt
  have at3 := looks_find (M := model prog w) X I found
  have isB : Looks (model prog w) hp (isInstance (.ref x) (.type "BaseException")) true := ty.andThen (looks_subIn X hsub)
  have no : (Value.builtin "BaseException.__getattribute__" == Value.builtin "object.__getattribute__") = false := by decide +kernel
  unfold getAttr? getAttrBy? getAttrBy
  refine wpAny_bind (wpAny_mkText (wpAny_bind (wpAny_attempt (wpAny_holding (wpAny_bind (ty.at (wpAny_bind (at1.at ?_))))))))
  have no2 : (onTheHeap (Value.ref D) && Value.builtin "BaseException.__getattribute__" == Value.builtin "object.__getattribute__") = false := by rw [no]; rfl
  show wpAny _ _ (if (onTheHeap (Value.ref D) && Value.builtin "BaseException.__getattribute__" == Value.builtin "object.__getattribute__") = true then _ else _) _ _ _
  rw [no2, if_neg Bool.false_ne_true]
  unfold getAttrByItsOwn hookBefore
  refine wpAny_bind ?_
  rw [if_pos (show onTheHeap (Value.ref D) = true from rfl)]
  refine at2.at (wpAny_bind (wpAny_attempt (wpAny_holding ?_)))
  unfold callGetattribute
  rw [show (false && onTheHeap (Value.builtin "BaseException.__getattribute__")) = false from rfl, if_neg Bool.false_ne_true]
  unfold boundAndCalled
  rw [PySem.F.excAttr_ValueError.ga.bind (.ref x)]
  refine wpAny_bind (wpAny_pure ?_)
  show wpAny _ _ (call (.builtin "BaseException.__getattribute__") [.ref x, .str "__class__" t]) _ _ _
  refine wpAny_call (codeAny_call_builtin PySem.F.excAttr_ValueError.ga.plain PySem.F.entry_bexc_ga ?_)
  refine @check_slot (model prog w) _ _ ⟨hp, g, dr, t + 1, os⟩ "BaseException.__getattribute__" "BaseException" "__getattribute__" (.ref x) [.str "__class__" t] [] _ (by decide +kernel) (by decide +kernel) isB (PySem.F.args_bexc_ga (.ref x) (.str "__class__" t)) ?_
  unfold Builtin.«object.__getattribute__»
  refine wpAny_bind (wpAny_of_eq (a := ((Value.ref x : Value), [Value.str "__class__" t])) (by first | rfl | (simp only [slotArgs]; rfl)) (wpAny_bind (wpAny_pure (wpAny_bind (ty.at (wpAny_bind (at3.at ?_)))))))
  show wpAny _ _ (holding [Value.builtin "object.__class__"] (call (.builtin "getset_descriptor.__get__") [.builtin "object.__class__", .ref x, .ref D]) >>= ret) _ _ _
  refine wpAny_bind (wpAny_holding (wpAny_call (class_get (s := ⟨hp, g, dr, t + 1, os⟩) (ox := ox) (od := od) X I hm (wpAny_pure ?_))))
  show wpAny _ _ (handedOut (.ref D)) _ _ _
  rw [handedOut_of (v := .ref D) rfl]
  first
    | exact wpAny_pure (wpAny_pure h)
    | exact wpAny_pure h
    | exact wpAny_pure (wpAny_bind (wpAny_pure (wpAny_pure h)))
theorem kitx_err (c : ExcC K D) : KitX K (.ref x) (.ref D) (fun h => PySem.W.InstAt h x ox D od) where
  ty := fun _ _ _ I => I.type
  it := fun M h X _ => by
    obtain ⟨cd, e, _⟩ := any_some c.hd
    unfold clsIn at e
    split at e
    · rename_i q
      intro A' Q' E' s' k z
      unfold isType loadHead
      exact wpAny_bind (wpAny_loadPart (k _ _ (X _ _ q)) (wpAny_pure z))
    · cases e
  ne := fun h tp dd its n sl X htp => by
    obtain ⟨cd, e, _⟩ := any_some c.hd
    refine Bool.eq_false_iff.mpr fun z => ?_
    obtain rfl : D = tp := Value.ref.inj (beq_iff_eq.mp z)
    unfold clsIn at e
    split at e
    · rename_i q
      have y := (X _ _ q).symm.trans htp
      cases y
    · cases e
  ca := fun X I k => cls_of_err c X I k
end
/-- a kept error's dict, if it has one, is tracked -/
def XdOk (H : Hp) (d : Option Addr) : Prop := d = none ∨ ∃ dd fs, d = some dd ∧ H dd = some (.xd fs)
/-- isinstance(e, c) of a kept error -/
def rIsX (K : PySem.W.Frag) : List V → Hp → VK → Prop := fun xs H Q => ∃ (a D : Addr) (d : Option Addr) (c : V) (cv : Value) (b : Bool), xs = [.ref a, c] ∧ H a = some (ExK (.ref D) d a) ∧ XdOk H d ∧ ExcC K D ∧ ClsV c cv ∧ PySem.W.kitOne K (.ref D) cv = some b ∧ Q (.bl b) H
section
variable {X : Cx}
theorem inst_of_err {pins : List (Addr × Obj)} {s : Shared} {σ : L2.St} {H : Hp} {a D : Addr} {d : Option Addr} (I : Inv X pins σ H s) (ha : H a = some (ExK (.ref D) d a)) (hd : XdOk H d) : ∃ oe od, PySem.W.InstAt s.heap a oe D od := by
  obtain ⟨⟨oe, e, z, vs, hv⟩, _, _⟩ := I.hok a _ ha
  obtain ⟨oc, odi, oda, osl⟩ := oe
  obtain ⟨h1, h2⟩ := z
  dsimp only at h1 h2 hv
  subst h1 h2 hv
  rcases hd with rfl | ⟨dd, fs, rfl, hx⟩
  · exact ⟨_, none, e, rfl, rfl, trivial⟩
  · obtain ⟨mA, hns, _⟩ := (show ObjOk X.prog X.w H s.heap dd (.xd fs) from I.hok dd _ hx)
    obtain ⟨od, ho, _⟩ := lookIn_ns hns
    exact ⟨_, some od, e, rfl, rfl, ho⟩
theorem call_isX : CallR X (.builtin "isinstance") (rIsX X.K) := by
  intro pins s σ H xs us Q I r h
  obtain ⟨a, D, d, c, cv, b, rfl, ha, hd, hc, hcv, e, q⟩ := h
  obtain ⟨u1, u2, rfl, r1, r2⟩ := vals2 r
  obtain rfl : u1 = Value.ref a := r1
  have e2 := hcv.eq r2
  subst e2
  obtain ⟨oe, od, J⟩ := inst_of_err I ha hd
  exact PySem.W.kia_one (kitx_err hc) I.kIn J e (fun z => nomatch z) fun tk => ⟨.bl b, H, I.tok tk, rfl, q⟩
/-- isinstance of any value: plain, or a kept error -/
def rIsA (K : PySem.W.Frag) : List V → Hp → VK → Prop := fun xs H Q => rIsi K xs H Q ∨ rIsX K xs H Q
theorem call_isA : CallR X (.builtin "isinstance") (rIsA X.K) := by
  intro pins s σ H xs us Q I r h
  rcases h with h | h
  · exact call_isi pins s σ H xs us Q I r h
  · exact call_isX pins s σ H xs us Q I r h
/-- e.f of a kept error -/
def tXfK (K : PySem.W.Frag) (f : Str) (te : TE) : TE := fun σ H Q => te σ H fun x H1 => ∃ (a D dd : Addr) (fs : List (Str × V)) (v : V), x = .ref a ∧ H1 a = some (ExK (.ref D) (some dd) a) ∧ H1 dd = some (.xd fs) ∧ XfC K D ∧ PySem.W.findIn K (.ref D) f = some none ∧
  fs.lookup f = some v ∧ Q v H1
theorem pe_xfk {e : Expr} {te : TE} {pos : Pos} {n : Str} (he : PE X e te) (hb : attributeBase e n X.env (eval e X.env) = eval e X.env := by rfl) : PE X (.Attribute e n pos) (tXfK X.K n te) := by
  refine ⟨fun pins s σ H Q I h => attr_of hb (thn (he.run pins s σ H _ I h) fun u s1 hh => ?_)⟩
  obtain ⟨x, H1, I1, rx, a, D, dd, fs, v, rfl, ha, hx, T, hno, l, q⟩ := hh
  obtain rfl : u = Value.ref a := rx
  obtain ⟨⟨oe, e0, z, vs, hv⟩, _, _⟩ := I1.hok a _ ha
  obtain ⟨mA, hns, hr⟩ := (show ObjOk X.prog X.w H1 s1.heap dd (.xd fs) from I1.hok dd _ hx)
  obtain ⟨od, ho, hl⟩ := lookIn_ns hns
  obtain ⟨u, hu, ru⟩ := RelO.some_of (v := v) (o := mA n) (by rw [← l]; exact hr n)
  have J : PySem.W.InstAt s1.heap a oe D (some od) := ⟨e0, z.1, by unfold PySem.W.notCls; rw [hv] <;> rfl, by rw [z.2]; exact ho⟩
  exact HandSPX.exc_get I1.kIn J T.ga T.gg T.exC (PySem.W.findObj_own T.hdC hno rfl (by rw [hl, hu])) (handed_of ru) ⟨v, H1, I1.tok _, ru, q⟩
end
def tTryKeep (K : PySem.W.Frag) (c : Value) (i : Nat) (tb : WX → TS) (ts : Addr → Value → Option Addr → TS) (Wout : WX) : TS := fun D σ H => tb (wKeep K c i ts Wout D) D σ H
end Kr
/-! comprehensions whose items are functions of what is walked; join; loops over texts -/
namespace Kr
open PySem PySem.Spec PyProof.Rows L2 Evl
section
variable {K : PySem.W.Frag} {σ : L2.St} {H : Hp} {tl te tb : TE} {t : TT}
theorem given_all (n : Nat) (v : Nat → V) : given n (fun _ => true) v = (List.range n).map v := by
  unfold given
  rw [List.filter_eq_self.mpr (fun _ _ => rfl)]
/-- [te for j in range(n)] -/
theorem el_mapR {ta : TA} {j : Nat} {vs : List Nat} {n : Int} (v : Nat → V) (h : EvA ta σ H [.int n]) (hn : 0 ≤ n ∧ n ≤ 40000) (hw : ∀ x, wipe ((wipe σ vs).set j (some x)) vs = wipe σ vs)
    (he : ∀ (i : Nat) H1, Ex H H1 → (i : Int) < n → Ev te ((wipe σ vs).set j (some (.int (i : Int)))) H1 (v i)) : EvL (tLc (iRng1 ta) (gName j) tYes te vs) σ H ((List.range n.toNat).map v) := by
  rw [← given_all]
  exact el_lcR1 (fun _ => true) v h hn hw (fun i H1 _ _ => fun H2 e2 Q q => q H2 (Ex.refl H2)) fun i H1 e hi _ => he i H1 e hi
/-- [te for j in xs] -/
theorem el_mapL {a : Addr} {xs : List V} {j : Nat} {vs : List Nat} (g : V → V) (h : Ev tl σ H (.ref a)) (hx : SqL K H a xs) (hz : xs.length ≤ 40000) (hw : ∀ x, wipe ((wipe σ vs).set j (some x)) vs = wipe σ vs)
    (he : ∀ x ∈ xs, ∀ H1, Ex H H1 → Ev te ((wipe σ vs).set j (some x)) H1 (g x)) : EvL (tLc (iList K tl) (gName j) tYes te vs) σ H (xs.map g) := by
  have key : given xs.length (fun _ => true) (fun i => g (xs.getD i .non)) = xs.map g := by
    rw [given_all]
    apply List.ext_getElem?
    intro i
    rw [List.getElem?_map, List.getElem?_map]
    by_cases hi : i < xs.length
    · rw [List.getElem?_range hi, List.getElem?_eq_getElem hi]
      simp [List.getD, List.getElem?_eq_getElem hi]
    · rw [List.getElem?_eq_none (by simpa using hi), List.getElem?_eq_none (by simpa using hi)]
      rfl
  rw [← key]
  refine el_lcL (fun _ => true) _ h hx hz hw (fun i x H1 _ _ => fun H2 e2 Q q => q H2 (Ex.refl H2)) fun i x H1 e hi _ => ?_
  have e2 : xs.getD i .non = x := by simp [List.getD, hi]
  rw [e2]
  exact he x (List.mem_of_getElem? hi) H1 e
theorem tYes_step {σ : L2.St} {H : Hp} {A B : Hp → Prop} (h : A H) : tYes σ H fun b H3 => if b = true then A H3 else B H3 := by
  show (if true = true then A H else B H)
  rw [if_pos rfl]
  exact h
/-- [te for j in a text] -/
theorem el_mapS {l : List Nat} {j : Nat} {vs : List Nat} (g : Nat → V) (h : Ev tl σ H (.str (T l))) (hz : l.length ≤ 1000000) (hw : ∀ x, wipe ((wipe σ vs).set j (some x)) vs = wipe σ vs)
    (he : ∀ c ∈ l, ∀ H1, Ex H H1 → Ev te ((wipe σ vs).set j (some (.str (T [c])))) H1 (g c)) : EvL (tLc (iStr tl) (gName j) tYes te vs) σ H (l.map g) := fun H0 e Q q => h H0 e _ fun H1 e1 => ⟨T l, rfl, fun Dl hD => by
  have hsz : (T l).cps.size = l.length := by simp [T]
  refine ⟨fun i m H' => m = l.length - i ∧ i ≤ l.length ∧ Ex H1 H' ∧ H' Dl = some (.lst ((l.take i).map g)), ⟨l.length, by simp, Nat.zero_le _, Ex.new hD, upd_same⟩, ?_⟩
  rintro i m H' ⟨rfl, hi, eH, hDl⟩
  by_cases hlt : i < l.length
  · refine .inr ⟨by show i < (T l).cps.size; rw [hsz]; exact hlt, fun H2 => Ex H1 H2 ∧ H2 Dl = some (.lst ((l.take (i + 1)).map g)), fun H2 p => ⟨l.length - (i + 1), by omega, rfl, hlt, p.1, p.2⟩, fun x H2 y => ?_⟩
    obtain ⟨rfl, c, hc, rfl⟩ := y
    have hc2 : l[i]? = some c := by
      have : (T l).cps[i]? = l[i]? := by simp [T]
      rw [← this]; exact hc
    refine ⟨hw _, ?_⟩
    refine tYes_step ?_
    refine he c (List.mem_of_getElem? hc2) H2 ((e.trans e1).trans eH) H2 (Ex.refl H2) _ fun H3 e3 => ⟨(l.take i).map g, e3 _ _ hDl, ?_, Ex.mut (eH.trans e3) hD, ?_⟩
    · rw [List.length_map, List.length_take, sizeLine_eq]
      omega
    · rw [upd_same, List.take_add_one, hc2]
      simp
  · have : i = l.length := by omega
    subst this
    rw [List.take_length] at hDl
    exact .inl ⟨by show (T l).cps.size ≤ l.length; rw [hsz]; exact Nat.le_refl _, q Dl H' (fresh_back e1 hD) (e1.trans eH) hDl⟩⟩
theorem join_T : ∀ ps : List (List Nat), Txt.join (T []) (ps.map T) = T ps.flatten := by
  intro ps
  rw [TL.join_eq]
  refine TL.ext_tl ?_
  have hj := TL.tl_join (T []) (ps.map T)
  rw [hj]
  have : (ps.map T).map TL.tl = ps := by
    rw [List.map_map]
    exact List.map_id' ps
  rw [this]
  show TL.joinL [] ps = ps.flatten
  clear hj this
  induction ps with
  | nil => rfl
  | cons p ps ih => cases ps with
    | nil => simp [TL.joinL]
    | cons r ps =>
      show p ++ ([] ++ TL.joinL [] (r :: ps)) = _
      rw [ih]
      simp
/-- "".join(..) of a new list of texts -/
theorem ev_join {ps : List (List Nat)} (h : EvL tl σ H (ps.map fun p => V.str (T p))) (hz : ps.flatten.length ≤ 16000000) (hn : ps.length ≤ 1000000) :
    Ev (tBM K "str" (rJoin K) (tC (.str (T []))) (tCons tl tNil)) σ H (.str (T ps.flatten)) := fun H1 e Q q => ⟨rfl, h H1 e _ fun p H2 _ e2 hp => ⟨T [], p, ps.map T, rfl, rfl, .inl (by
    rw [List.map_map]
    exact sq_of hp), by
    have e1 : ((ps.map T).map (·.length)).sum = ps.flatten.length := by
      rw [List.map_map, List.length_flatten]
      congr 1
    have e2 : (T []).length = 0 := rfl
    rw [e1, e2]
    omega, by
    rw [join_T]
    exact q H2 e2⟩⟩
theorem R_flat (b : List Bool) : (b.map fun x => [bc x]).flatten = R b := by
  induction b with
  | nil => rfl
  | cons x b ih => simp [R, ih]
end
theorem ones_R (n : Nat) : (List.replicate n [49]).flatten = R (List.replicate n true) := by
  induction n with
  | zero => rfl
  | succ n ih => rw [List.replicate_succ, List.flatten_cons, ih, List.replicate_succ]; rfl
theorem ev_ones {σ : L2.St} {H : Hp} {te : TE} {n : Int} (h : Ev te σ H (.int n)) (h0 : 0 ≤ n) (h1 : n ≤ 1000) : Ev (tOp rMulT (tC (.str (T [49]))) te) σ H (.str (T (R (List.replicate n.toNat true)))) :=
  ev_is (ev_mulT ev_c h (by omega) (by omega) (by simp; omega)) (by rw [ones_R])
/-- a statement whose ways meet again -/
theorem q_cond {tu tz : TS} {D : Ends} {σ : L2.St} {H : Hp} (P : L2.St → Hp → Prop) (h : ∀ M : L2.St → Hp → Prop, (∀ σ' H', P σ' H' → M σ' H') → tu { D with nx := M } σ H) (k : ∀ σ' H', P σ' H' → tz D σ' H') : tSeq tu tz D σ H :=
  h _ k
end Kr
/-! lists of plain values compared; kept errors asked for their classes; tries -/
namespace Kr
open PySem PySem.Spec PyProof.Rows L2 Evl
/-! ### plain values as data -/
def toD : V → PyData
  | .bl b => .bool b
  | .int i => .int i
  | .str s => .str s
  | _ => .none
def plainV : V → Bool
  | .non => true
  | .bl _ => true
  | .int _ => true
  | .str s => s.cps.all (· < 0x110000)
  | _ => false
theorem dp_plain {K : PySem.W.Frag} {H : Hp} {x : V} (h : plainV x = true) : Dp K H x (toD x) := by
  cases x with
  | non => exact .non
  | bl b => exact .bl b
  | int i => exact .int i
  | str s => exact .str s
  | _ => cases h
theorem dpAll_plain {K : PySem.W.Frag} {H : Hp} : ∀ {xs : List V}, xs.all plainV = true → DpAll K H xs (xs.map toD)
  | [], _ => .nil
  | x :: xs, h => by
    rw [List.all_cons, Bool.and_eq_true] at h
    exact .cons (dp_plain h.1) (dpAll_plain h.2)
theorem lay_plain {x : V} (h : plainV x = true) : (toD x).canLay0 = true := by
  cases x with
  | str s => exact h
  | non => rfl
  | bl b => rfl
  | int i => rfl
  | _ => cases h
theorem layAll_plain : ∀ {xs : List V}, xs.all plainV = true → PyData.canLayAll0 (xs.map toD) = true
  | [], _ => by simp [PyData.canLayAll0]
  | x :: xs, h => by
    rw [List.all_cons, Bool.and_eq_true] at h
    rw [List.map_cons, PyData.canLayAll0, lay_plain h.1, layAll_plain h.2]
    rfl
theorem depth_plain {x : V} : (toD x).depth = 0 := by cases x <;> simp [toD, PyData.depth]
theorem depthAll_plain : ∀ {xs : List V}, PyData.depthAll (xs.map toD) = 0
  | [] => by simp [PyData.depthAll]
  | x :: xs => by
    rw [List.map_cons, PyData.depthAll, depth_plain, depthAll_plain]
    rfl
theorem shaped_plain {x : V} (h : plainV x = true) : SeqAt.shaped (toD x) = true := by
  unfold SeqAt.shaped
  rw [lay_plain h, depth_plain]
  rfl
theorem shaped_list {xs : List V} (h : xs.all plainV = true) : SeqAt.shaped (.list (xs.map toD)) = true := by
  unfold SeqAt.shaped
  rw [show (PyData.list (xs.map toD)).canLay0 = true by rw [PyData.canLay0]; exact layAll_plain h]
  rw [show (PyData.list (xs.map toD)).depth = 1 by rw [PyData.depth, depthAll_plain]]
  rfl
theorem shaped_tup {xs : List V} (h : xs.all plainV = true) : SeqAt.shaped (.tuple (xs.map toD)) = true := by
  unfold SeqAt.shaped
  rw [show (PyData.tuple (xs.map toD)).canLay0 = true by rw [PyData.canLay0]; exact layAll_plain h]
  rw [show (PyData.tuple (xs.map toD)).depth = 1 by rw [PyData.depth, depthAll_plain]]
  rfl
theorem eqv_same {d : PyData} (h : SeqAt.shaped d = true) : PyData.eqv d d = true := PySem.SeqAt.eqv_refl d (SeqAt.canLay_of_shaped h)
section
variable {K : PySem.W.Frag} {σ : L2.St} {H : Hp} {ta tb te : TE} {x : V}
theorem rv_eqD {y : V} {d e : PyData} (h : Dp K H x d) (h2 : Dp K H y e) (hd : SeqAt.shaped d = true) (he : SeqAt.shaped e = true) (hm : ∀ H1, Ex H H1 → Dp K H1 x d) (hm2 : ∀ H1, Ex H H1 → Dp K H1 y e) : RV (rEqD K) x y H (.bl (PyData.eqv d e)) := fun H1 e1 Q q =>
  ⟨d, e, hm H1 e1, hm2 H1 e1, hd, he, q H1 (Ex.refl H1)⟩
mutual
theorem dp_mono {H1 : Hp} (e : Ex H H1) : ∀ {v : V} {d : PyData}, Dp K H v d → Dp K H1 v d
  | _, _, .non => .non
  | _, _, .bl b => .bl b
  | _, _, .int i => .int i
  | _, _, .str s => .str s
  | _, _, .lst h a => .lst (ex_l e h) (dpAll_mono e a)
  | _, _, .tup h a => .tup (ex_t e h) (dpAll_mono e a)
theorem dpAll_mono {H1 : Hp} (e : Ex H H1) : ∀ {vs : List V} {ds : List PyData}, DpAll K H vs ds → DpAll K H1 vs ds
  | _, _, .nil => .nil
  | _, _, .cons h a => .cons (dp_mono e h) (dpAll_mono e a)
end
/-- xs == ys, xs != ys of two new lists of like plain values -/
theorem ev_eqNL {xs : List V} (ha : EvL ta σ H xs) (hb : ∀ H1, Ex H H1 → EvL tb σ H1 xs) (h : xs.all plainV = true) : Ev (tOp (rEqD K) ta tb) σ H (.bl true) := fun H1 e Q q =>
  ha H1 e _ fun p H2 _ e2 hp => hb H2 (e.trans e2) H2 (Ex.refl H2) _ fun r H3 _ e3 hr => ⟨.list (xs.map toD), .list (xs.map toD), .lst (sq_of (e3 _ _ hp)) (dpAll_plain h), .lst (sq_of hr) (dpAll_plain h), shaped_list h, shaped_list h, by
    rw [eqv_same (shaped_list h)]
    exact q H3 (e2.trans e3)⟩
theorem ev_neNL {xs : List V} (ha : EvL ta σ H xs) (hb : ∀ H1, Ex H H1 → EvL tb σ H1 xs) (h : xs.all plainV = true) : Ev (tOp (rNeD K) ta tb) σ H (.bl false) := fun H1 e Q q =>
  ha H1 e _ fun p H2 _ e2 hp => hb H2 (e.trans e2) H2 (Ex.refl H2) _ fun r H3 _ e3 hr => ⟨.list (xs.map toD), .list (xs.map toD), .lst (sq_of (e3 _ _ hp)) (dpAll_plain h), .lst (sq_of hr) (dpAll_plain h), shaped_list h, shaped_list h, by
    rw [eqv_same (shaped_list h)]
    exact q H3 (e2.trans e3)⟩
/-- a + b of lists: the first one a name's | new -/
theorem el_cat {p : Addr} {xs ys : List V} (ha : Ev ta σ H (.ref p)) (hp : H p = some (.lst xs)) (hb : EvL tb σ H ys) (hz : xs.length + ys.length ≤ 100000) : EvL (tOp rCat ta tb) σ H (xs ++ ys) := fun H1 e Q q =>
  ha H1 e _ fun H2 e2 => hb H2 (e.trans e2) _ fun r H3 hr e3 h3 => ⟨p, r, xs, ys, rfl, rfl, ((e.trans e2).trans e3) _ _ hp, h3, sz_of hz, fun l hl => q l _ (fresh_back (e2.trans e3) hl) ((e2.trans e3).trans (Ex.new hl)) upd_same⟩
theorem el_catN {xs ys : List V} (ha : EvL ta σ H xs) (hb : ∀ H1, Ex H H1 → EvL tb σ H1 ys) (hz : xs.length + ys.length ≤ 100000) : EvL (tOp rCat ta tb) σ H (xs ++ ys) := fun H1 e Q q =>
  ha H1 e _ fun p H2 _ e2 hp => hb H2 (e.trans e2) H2 (Ex.refl H2) _ fun r H3 _ e3 h3 => ⟨p, r, xs, ys, rfl, rfl, e3 _ _ hp, h3, sz_of hz, fun l hl => q l _ (fresh_back (e2.trans e3) hl) ((e2.trans e3).trans (Ex.new hl)) upd_same⟩
/-- a list * n, the list new -/
theorem el_repN {xs : List V} {n : Int} (ha : EvL ta σ H xs) (hb : ∀ H1, Ex H H1 → Ev tb σ H1 (.int n)) (h0 : -100000 ≤ n) (h1 : n ≤ 100000) (hz : xs.length * n.toNat ≤ 100000) : EvL (tOp rRep ta tb) σ H (List.replicate n.toNat xs).flatten := fun H1 e Q q =>
  ha H1 e _ fun p H2 _ e2 hp => hb H2 (e.trans e2) H2 (Ex.refl H2) _ fun H3 e3 => ⟨p, n, xs, rfl, rfl, e3 _ _ hp, by omega, by omega, sz_of hz, fun l hl => q l _ (fresh_back (e2.trans e3) hl) ((e2.trans e3).trans (Ex.new hl)) upd_same⟩
/-! ### kept errors -/
theorem xd_mono {H1 : Hp} {d : Option Addr} (e : Ex H H1) (h : XdOk H d) : XdOk H1 d := by
  rcases h with rfl | ⟨dd, fs, rfl, h⟩
  · exact .inl rfl
  · exact .inr ⟨dd, fs, rfl, e _ _ h⟩
/-- x is a kept error of the class named n -/
def IsErr (K : PySem.W.Frag) (H : Hp) (x : V) (n : Str) : Prop := ∃ a d, x = .ref a ∧ H a = some (ExK (.ref (He.ga K n)) d a) ∧ XdOk H d
theorem IsErr.mono {H1 : Hp} {n : Str} (e : Ex H H1) (h : IsErr K H x n) : IsErr K H1 x n := by
  obtain ⟨a, d, r, h1, h2⟩ := h
  exact ⟨a, d, r, e _ _ h1, xd_mono e h2⟩
theorem ev_isE {c : V} {cv : Value} {n : Str} {b : Bool} (h : Ev ta σ H x) (hx : IsErr K H x n) (hc : ExcC K (He.ga K n)) (hcv : ClsV c cv) (hb : PySem.W.kitOne K (.ref (He.ga K n)) cv = some b) :
    Ev (tCB (rIsA K) (tCons ta (tCons (tC c) tNil))) σ H (.bl b) := fun H1 e Q q => h H1 e _ fun H2 e2 => by
  obtain ⟨a, d, rfl, h1, h2⟩ := hx.mono (e.trans e2)
  exact .inr ⟨a, He.ga K n, d, c, cv, b, rfl, h1, h2, hc, hcv, hb, q H2 e2⟩
/-- .. of a plain value -/
theorem ev_isP {n m : String} {b : Bool} (h : Ev ta σ H x) (hn : tyS x = some n) (hb : kitB n m = some b) : Ev (tCB (rIsA K) (tCons ta (tCons (tC (.ty m)) tNil))) σ H (.bl b) := fun H1 e Q q =>
  h H1 e _ fun H2 e2 => .inl ⟨x, .ty m, .type n, .type m, b, rfl, .ty m, tyS_ok hn H2, kit_ty hb, q H2 e2⟩
theorem ev_callS {sp : Sp} {vs : List V} {E : L2.St → XK} {ta : TA} {z : V} (h : EvA ta σ H vs) (hs : SpV sp vs H z) : Ev (tCallS sp E ta) σ H z := fun H1 e Q q =>
  h H1 e _ fun H2 e2 => hs H2 (e.trans e2) Q (fun H3 e3 => q H3 (e2.trans e3)) (E σ)
theorem s_dropX {sp : Sp} {vs : List V} {E : L2.St → XK} {ta : TA} {D : Ends} (h : EvA ta σ H vs) (k : ∀ H1, Ex H H1 → sp vs H1 (fun _ H2 => D.nx σ H2) (E σ)) : tDrop (tCallS sp E ta) D σ H := h H (Ex.refl H) _ k
end
/-! ### tries -/
section
variable {K : PySem.W.Frag} {σ : L2.St} {H : Hp} {D : Ends} {tz : TS} {c : Value} {i : Nat} {tb : WX → TS} {ts : Addr → Value → Option Addr → TS} {Wout : WX}
theorem q_try (h : tb (wKeep K c i ts Wout { D with nx := tz D }) { D with nx := tz D } σ H) : tSeq (tTryKeep K c i tb ts Wout) tz D σ H := h
/-- an error comes to a clause that names it, its suite keeps it in slot j -/
theorem keep_err {j : Nat} {cls : Value} {d : Option Addr} (he : PySem.W.exmOne K cls c = some true) (hi : i < σ.length) (h : ∀ a, H a = none → D.nx ((((σ.set i (some (.ref a))).set j (some (.ref a)))).set i none) (upd H a (ExK cls d a))) :
    wKeep K c i (fun _ _ _ => tAsg (tVar i) (gName j)) Wout D cls d σ H :=
  ⟨true, he, fun _ a ha => ⟨.ref a, by rw [List.getElem?_set_self hi], h a ha⟩, fun z => nomatch z⟩
end
theorem RetV.mono {v : V} {H H1 : Hp} {Q : VK} (q : RetV v H Q) (e : Ex H H1) : RetV v H1 Q := fun H2 e2 => q H2 (e.trans e2)
theorem RetL.mono {xs : List V} {H H1 : Hp} {Q : VK} (q : RetL xs H Q) (e : Ex H H1) : RetL xs H1 Q := fun p H2 hp e2 h => q p H2 (fresh_back e hp) (e.trans e2) h
end Kr
/-! what two rows begin with in common; new lists as arguments; answers of which a word is told -/
namespace Kr
open PySem PySem.Spec PyProof.Rows L2 Evl
/-- how many signs two rows begin with in common -/
def com : List Bool → List Bool → Nat
  | x :: a, y :: b => if x = y then com a b + 1 else 0
  | _, _ => 0
theorem com_nil (a : List Bool) : com a [] = 0 := by cases a <;> rfl
theorem com_le : ∀ (a b : List Bool), com a b ≤ a.length
  | [], _ => Nat.zero_le _
  | x :: a, [] => Nat.zero_le _
  | x :: a, y :: b => by
    have := com_le a b
    unfold com
    split
    · exact Nat.succ_le_succ this
    · exact Nat.zero_le _
theorem com_symm : ∀ (a b : List Bool), com a b = com b a
  | [], [] => rfl
  | [], _ :: _ => rfl
  | _ :: _, [] => rfl
  | x :: a, y :: b => by
    unfold com
    rw [com_symm a b]
    by_cases h : x = y
    · subst h; rfl
    · rw [if_neg h, if_neg (fun z => h z.symm)]
theorem com_le2 (a b : List Bool) : com a b ≤ b.length := by rw [com_symm]; exact com_le b a
theorem com_end {a b : List Bool} {i : Nat} (h : ¬ (i < a.length ∧ i < b.length)) : com (a.drop i) (b.drop i) = 0 := by
  by_cases h1 : i < a.length
  · rw [List.drop_eq_nil_of_le (as := b) (i := i) (by omega), com_nil]
  · rw [List.drop_eq_nil_of_le (as := a) (i := i) (by omega)]
    cases b.drop i <;> rfl
theorem com_at {a b : List Bool} {i : Nat} (h1 : i < a.length) (h2 : i < b.length) : com (a.drop i) (b.drop i) = if a[i] = b[i] then com (a.drop (i + 1)) (b.drop (i + 1)) + 1 else 0 := by
  rw [List.drop_eq_getElem_cons h1, List.drop_eq_getElem_cons h2]
  rfl
theorem com_take : ∀ (a b : List Bool), a.take (com a b) = b.take (com a b)
  | [], b => by cases b <;> rfl
  | x :: a, [] => rfl
  | x :: a, y :: b => by
    unfold com
    split
    · rename_i h
      subst h
      rw [List.take_succ_cons, List.take_succ_cons, com_take a b]
    · rfl
theorem R_at {b : List Bool} {i : Nat} (h : i < b.length) : atI (R b) (i : Int) = some (bc b[i]) := by
  refine atI_nat ?_
  rw [R, List.getElem?_map, List.getElem?_eq_getElem h]
  rfl
theorem R_eq {a b : List Bool} : R a = R b ↔ a = b := ⟨R_inj, fun h => by rw [h]⟩
theorem cutL_mid {l : List Nat} {i j : Nat} : cutL l (some (i : Int)) (some (j : Int)) = (l.drop i).take (j - i) := by
  unfold cutL
  rw [HT.sIx_nat, HT.sIx_nat]
  by_cases h : i ≤ l.length
  · rw [Nat.min_eq_left h]
    by_cases h2 : j ≤ l.length
    · rw [Nat.min_eq_left h2]
    · rw [Nat.min_eq_right (by omega), List.take_of_length_le (l := l.drop i) (i := l.length - i) (by simp), List.take_of_length_le (by simp; omega)]
  · rw [Nat.min_eq_right (a := i) (by omega), List.drop_eq_nil_of_le (Nat.le_refl _), List.drop_eq_nil_of_le (by omega)]
    simp
theorem R_mid {b : List Bool} {i j : Nat} : cutL (R b) (some (i : Int)) (some (j : Int)) = R ((b.drop i).take (j - i)) := by rw [cutL_mid, R_drop, R_take]
/-- one sign cut out of each -/
theorem cut1_eq {a b : List Bool} {i : Nat} (h : i < a.length) : ((a.drop i).take 1 = (b.drop i).take 1) ↔ ∃ h2 : i < b.length, a[i] = b[i] := by
  have ha : (a.drop i).take 1 = [a[i]] := by rw [List.drop_eq_getElem_cons h]; rfl
  rw [ha]
  by_cases h2 : i < b.length
  · have hb : (b.drop i).take 1 = [b[i]] := by rw [List.drop_eq_getElem_cons h2]; rfl
    rw [hb]
    simp [h2]
  · rw [List.drop_eq_nil_of_le (as := b) (i := i) (by omega)]
    simp [h2]
section
variable {K : PySem.W.Frag} {σ : L2.St} {H : Hp} {ta tb te : TE} {D : Ends} {tz : TS} {x z : V}
/-- a call one of whose arguments is a new list -/
theorem ev_callL1 {sp : Sp} {E : XK} {xs : List V} (h : EvL ta σ H xs) (hb : ∀ H1, Ex H H1 → Ev tb σ H1 x) (hs : ∀ p H1, Ex H H1 → H1 p = some (.lst xs) → SpV sp [.ref p, x] H1 z) : Ev (tCall sp [] E (tCons ta (tCons tb tNil))) σ H z := fun H1 e Q q =>
  h H1 e _ fun p H2 _ e2 hp => hb H2 (e.trans e2) H2 (Ex.refl H2) _ fun H3 e3 => hs p H3 ((e.trans e2).trans e3) (e3 _ _ hp) H3 (Ex.refl H3) Q (fun H4 e4 => q H4 ((e2.trans e3).trans e4)) E
/-- a new list of which a word holds -/
def EvM (te : TE) (σ : L2.St) (H : Hp) (P : List V → Prop) : Prop := ∀ H1, Ex H H1 → ∀ Q : VK, (∀ xs p H2, P xs → H1 p = none → Ex H1 H2 → H2 p = some (.lst xs) → Q (.ref p) H2) → te σ H1 Q
/-- a value of which a word holds -/
def EvW (te : TE) (σ : L2.St) (H : Hp) (P : V → Prop) : Prop := ∀ H1, Ex H H1 → ∀ Q : VK, (∀ v H2, P v → Ex H1 H2 → Q v H2) → te σ H1 Q
theorem q_asgW {i : Nat} {P : V → Prop} (h : EvW te σ H P) (k : ∀ v H1, P v → Ex H H1 → tz D (σ.set i (some v)) H1) : tSeq (tAsg te (gName i)) tz D σ H := h H (Ex.refl H) _ k
theorem q_asgM {i : Nat} {P : List V → Prop} (h : EvM te σ H P) (k : ∀ xs p H1, P xs → H p = none → Ex H H1 → H1 p = some (.lst xs) → tz D (σ.set i (some (.ref p))) H1) : tSeq (tAsg te (gName i)) tz D σ H := h H (Ex.refl H) _ k
/-- a, b = a new list of two -/
theorem q_two {i j : Nat} {P : V → V → Prop} (h : EvM te σ H (fun xs => ∃ x y, xs = [x, y] ∧ P x y)) (k : ∀ x y H1, P x y → Ex H H1 → tz D ((σ.set i (some x)).set j (some y)) H1) : tSeq (tAsg te (gLst K 2 (gCons (gName i) (gCons (gName j) gNil)))) tz D σ H :=
  h H (Ex.refl H) _ fun xs p H1 ⟨x, y, e, hP⟩ _ e1 h1 => ⟨p, xs, rfl, sq_of h1, by rw [e]; rfl, by
    subst e
    exact ⟨x, [y], rfl, y, [], rfl, rfl, k x y H1 hP e1⟩⟩
/-- a call that may raise, its answer in a name -/
theorem s_asgX {sp : Sp} {vs : List V} {E : L2.St → XK} {ta : TA} {i : Nat} (h : EvA ta σ H vs) (k : ∀ H1, Ex H H1 → sp vs H1 (fun v H2 => D.nx (σ.set i (some v)) H2) (E σ)) : tAsg (tCallS sp E ta) (gName i) D σ H := h H (Ex.refl H) _ k
end
end Kr
/-! min and max of two texts; > and strip of texts; the order of rows -/
namespace PySem.Krt
open PySem Sem
/-- < of two values that are texts -/
def ltS : Value → Value → Bool
  | .str x _, .str y _ => decide (x.cps.toList < y.cps.toList)
  | _, _ => false
def isS : Value → Prop | .str _ _ => True | _ => False
theorem cmpOf_ltS {prog : Program} {w : World} {A : Around} (vs : Array Value) (hn : ∀ v ∈ vs, isS v) :
    CmpOf prog w A .Lt (fun i v => vs[i]? = some v) (fun i j => ltS (vs.getD i .none) (vs.getD j .none)) := fun i j vi vj s Q E hi hj h => by
  have e1 : vs.getD i .none = vi := by simp [Array.getD_eq_getD_getElem?, hi]
  have e2 : vs.getD j .none = vj := by simp [Array.getD_eq_getD_getElem?, hj]
  simp only [e1, e2] at h
  have n1 := hn _ (Array.mem_of_getElem? hi)
  have n2 := hn _ (Array.mem_of_getElem? hj)
  cases vi with
  | str x t => cases vj with
    | str y u => exact richCompare_gives (op := .Lt) (typeIs_str s _ t) (typeIs_str s _ u) F.slot_str_lt F.entry_str_lt (F.args_str_lt_2 _ _) (gives_str_lt _ _ t u) (fun x => nomatch x) h
    | _ => exact n2.elim
  | _ => exact n1.elim
theorem cmpOf_gtS {prog : Program} {w : World} {A : Around} (vs : Array Value) (hn : ∀ v ∈ vs, isS v) :
    CmpOf prog w A .Gt (fun i v => vs[i]? = some v) (fun i j => ltS (vs.getD j .none) (vs.getD i .none)) := fun i j vi vj s Q E hi hj h => by
  have e1 : vs.getD i .none = vi := by simp [Array.getD_eq_getD_getElem?, hi]
  have e2 : vs.getD j .none = vj := by simp [Array.getD_eq_getD_getElem?, hj]
  simp only [e1, e2] at h
  have n1 := hn _ (Array.mem_of_getElem? hi)
  have n2 := hn _ (Array.mem_of_getElem? hj)
  cases vi with
  | str x t => cases vj with
    | str y u => exact richCompare_gives (op := .Gt) (typeIs_str s _ t) (typeIs_str s _ u) F.slot_str_gt F.entry_str_gt (F.args_str_gt_2 _ _) (gives_str_gt _ _ t u) (fun x => nomatch x) h
    | _ => exact n2.elim
  | _ => exact n1.elim
theorem two_old {s : Shared} {a b : Value} {h' : Heap} (hk : ∀ c o, c ∉ [(s.heap.push { cls := .type "tuple", data := .seq #[a, b] }).objs.size] → ((s.heap.push { cls := .type "tuple", data := .seq #[a, b] }).push { cls := .type "tuple_iterator", data := .fields #[.ref s.heap.objs.size, .int 0 0] }).get? c = some o → h'.get? c = some o) :
    ∀ c o, s.heap.get? c = some o → h'.get? c = some o := fun c o e => by
  refine hk c o (fun hm => ?_) (Heap.get?_push_of_some _ (Heap.get?_push_of_some _ e))
  rcases List.mem_cons.mp hm with e1 | hm
  · have := Heap.lt_size e
    rw [e1, Heap.size_push] at this
    exact Nat.lt_irrefl _ (Nat.lt_of_succ_lt this)
  · cases hm
section
variable {prog : Program} {w : World} {A : Around} {E : Value → Shared → Prop} {s : Shared} {Q : Value → Shared → Prop} {a b : Value}
theorem min_two_txt (hh : A.handled = none) (ha : isS a) (hb : isS b)
    (h : ∀ h' tk, (∀ c o, s.heap.get? c = some o → h'.get? c = some o) → Q (if ltS b a then b else a) { s with heap := h', toks := tk }) :
    wpAny (model prog w) A (call (.builtin "min") [a, b]) Q E s := by
  have hT : (s.heap.push { cls := .type "tuple", data := .seq #[a, b] }).IsTuple s.heap.objs.size #[a, b] := ⟨_, Heap.get?_push_size _ rfl, rfl, 0, rfl⟩
  have hsz : (s.heap.push { cls := .type "tuple", data := .seq #[a, b] }).objs.size = s.heap.objs.size + 1 := Heap.size_push ..
  refine call_min_two (wpAny_pyIter_tuple hT ⟨_, [_, s.heap.objs.size], [_], _, _, _, _, rfl, Walks.tuple (A := A.in1) hh _ s.heap.objs.size (by rw [hsz]; exact Nat.ne_of_lt (Nat.lt_succ_self _)) #[a, b],
    ⟨⟨_, Heap.get?_push_size _ rfl, rfl, rfl⟩, hT.push _⟩, fun c hc => ?_, by simp, cmpOf_ltS #[a, b] (by simp [ha, hb]), fun v h' tk hP hk => ?_⟩)
  · show c < ((s.heap.push _).push _).objs.size
    rw [Heap.size_push, hsz]
    rcases List.mem_cons.mp hc with e1 | hc
    · rw [e1, hsz]; exact Nat.lt_succ_self _
    · rcases List.mem_cons.mp hc with e1 | hc
      · rw [e1]; exact Nat.lt_succ_of_lt (Nat.lt_succ_self _)
      · cases hc
  · have := h h' tk (two_old hk)
    have hv : v = if ltS b a then b else a := by
      cases hc : ltS b a <;> simp [argBest, hc] at hP <;> simp [hP]
    rw [hv]
    exact this
theorem max_two_txt (hh : A.handled = none) (ha : isS a) (hb : isS b)
    (h : ∀ h' tk, (∀ c o, s.heap.get? c = some o → h'.get? c = some o) → Q (if ltS a b then b else a) { s with heap := h', toks := tk }) :
    wpAny (model prog w) A (call (.builtin "max") [a, b]) Q E s := by
  have hT : (s.heap.push { cls := .type "tuple", data := .seq #[a, b] }).IsTuple s.heap.objs.size #[a, b] := ⟨_, Heap.get?_push_size _ rfl, rfl, 0, rfl⟩
  have hsz : (s.heap.push { cls := .type "tuple", data := .seq #[a, b] }).objs.size = s.heap.objs.size + 1 := Heap.size_push ..
  refine call_max_two (wpAny_pyIter_tuple hT ⟨_, [_, s.heap.objs.size], [_], _, _, _, _, rfl, Walks.tuple (A := A.in1) hh _ s.heap.objs.size (by rw [hsz]; exact Nat.ne_of_lt (Nat.lt_succ_self _)) #[a, b],
    ⟨⟨_, Heap.get?_push_size _ rfl, rfl, rfl⟩, hT.push _⟩, fun c hc => ?_, by simp, cmpOf_gtS #[a, b] (by simp [ha, hb]), fun v h' tk hP hk => ?_⟩)
  · show c < ((s.heap.push _).push _).objs.size
    rw [Heap.size_push, hsz]
    rcases List.mem_cons.mp hc with e1 | hc
    · rw [e1, hsz]; exact Nat.lt_succ_self _
    · rcases List.mem_cons.mp hc with e1 | hc
      · rw [e1]; exact Nat.lt_succ_of_lt (Nat.lt_succ_self _)
      · cases hc
  · have := h h' tk (two_old hk)
    have hv : v = if ltS a b then b else a := by
      cases hc : ltS a b <;> simp [argBest, hc] at hP <;> simp [hP]
    rw [hv]
    exact this
end
end PySem.Krt
namespace Kr
open PySem PySem.Spec PyProof.Rows L2 Evl
def rMinT : List V → Hp → VK → Prop := fun xs H Q => ∃ i j, xs = [.str i, .str j] ∧ Q (.str (if j.cps.toList < i.cps.toList then j else i)) H
def rMaxT : List V → Hp → VK → Prop := fun xs H Q => ∃ i j, xs = [.str i, .str j] ∧ Q (.str (if i.cps.toList < j.cps.toList then j else i)) H
def rGtT : R2 := fun x y H Q => ∃ i j, x = .str i ∧ y = .str j ∧ Q (.bl (decide (j.cps.toList < i.cps.toList))) H
def rGeT : R2 := fun x y H Q => ∃ i j, x = .str i ∧ y = .str j ∧ Q (.bl (!decide (i.cps.toList < j.cps.toList))) H
def rStripC : V → List V → Hp → VK → Prop := fun x xs H Q => ∃ a b, x = .str a ∧ xs = [.str b] ∧ a.length ≤ sizeLine ∧ Q (.str (Txt.stripChars a b)) H
section
variable {X : Cx}
theorem call_minT (hc : X.calm = true) : CallR X (.builtin "min") rMinT := by
  intro pins s σ H xs us Q I r h
  obtain ⟨i, j, rfl, q⟩ := h
  obtain ⟨u, w', rfl, ⟨t, rfl⟩, ⟨t', rfl⟩⟩ := vals2 r
  refine PySem.Krt.min_two_txt (I.ok.hd hc) trivial trivial fun h' tk k => ⟨_, H, I.kept k, ?_, q⟩
  unfold PySem.Krt.ltS
  by_cases hj : j.cps.toList < i.cps.toList
  · rw [if_pos hj, if_pos (by simpa using hj)]; exact ⟨_, rfl⟩
  · rw [if_neg hj, if_neg (by simpa using hj)]; exact ⟨_, rfl⟩
theorem call_maxT (hc : X.calm = true) : CallR X (.builtin "max") rMaxT := by
  intro pins s σ H xs us Q I r h
  obtain ⟨i, j, rfl, q⟩ := h
  obtain ⟨u, w', rfl, ⟨t, rfl⟩, ⟨t', rfl⟩⟩ := vals2 r
  refine PySem.Krt.max_two_txt (I.ok.hd hc) trivial trivial fun h' tk k => ⟨_, H, I.kept k, ?_, q⟩
  unfold PySem.Krt.ltS
  by_cases hj : i.cps.toList < j.cps.toList
  · rw [if_pos hj, if_pos (by simpa using hj)]; exact ⟨_, rfl⟩
  · rw [if_neg hj, if_neg (by simpa using hj)]; exact ⟨_, rfl⟩
theorem op_gtT' : OpR X (compareOp .Gt) rGtT := op_gt_str
theorem op_geT' : OpR X (compareOp .GtE) rGeT := op_ge_str
theorem mt_stripC : MtR X "str.strip" rStripC := mt_stripChars
end
section
variable {K : PySem.W.Frag} {σ : L2.St} {H : Hp} {ta tb te : TE} {x : V}
theorem ev_minT {a b : List Nat} (ha : Ev ta σ H (.str (T a))) (hb : Ev tb σ H (.str (T b))) : Ev (tCB rMinT (tCons ta (tCons tb tNil))) σ H (.str (T (if b < a then b else a))) := fun H1 e Q q =>
  ha H1 e _ fun H2 e2 => hb H2 (e.trans e2) _ fun H3 e3 => ⟨T a, T b, rfl, by
    have := q H3 (e2.trans e3)
    by_cases h : b < a
    · rw [if_pos h] at this; rw [if_pos (show (T b).cps.toList < (T a).cps.toList from h)]; exact this
    · rw [if_neg h] at this; rw [if_neg (show ¬ (T b).cps.toList < (T a).cps.toList from h)]; exact this⟩
theorem ev_maxT {a b : List Nat} (ha : Ev ta σ H (.str (T a))) (hb : Ev tb σ H (.str (T b))) : Ev (tCB rMaxT (tCons ta (tCons tb tNil))) σ H (.str (T (if a < b then b else a))) := fun H1 e Q q =>
  ha H1 e _ fun H2 e2 => hb H2 (e.trans e2) _ fun H3 e3 => ⟨T a, T b, rfl, by
    have := q H3 (e2.trans e3)
    by_cases h : a < b
    · rw [if_pos h] at this; rw [if_pos (show (T a).cps.toList < (T b).cps.toList from h)]; exact this
    · rw [if_neg h] at this; rw [if_neg (show ¬ (T a).cps.toList < (T b).cps.toList from h)]; exact this⟩
theorem rv_gtT {a b : List Nat} : RV rGtT (.str (T a)) (.str (T b)) H (.bl (decide (b < a))) := fun H1 _ Q q => ⟨T a, T b, rfl, rfl, q H1 (Ex.refl H1)⟩
theorem ev_gtT {a b : List Nat} (ha : Ev ta σ H (.str (T a))) (hb : Ev tb σ H (.str (T b))) : Ev (tOp rGtT ta tb) σ H (.bl (decide (b < a))) := ev_op ha hb rv_gtT
theorem rv_geT {a b : List Nat} : RV rGeT (.str (T a)) (.str (T b)) H (.bl (!decide (a < b))) := fun H1 _ Q q => ⟨T a, T b, rfl, rfl, q H1 (Ex.refl H1)⟩
theorem ev_geT {a b : List Nat} (ha : Ev ta σ H (.str (T a))) (hb : Ev tb σ H (.str (T b))) : Ev (tOp rGeT ta tb) σ H (.bl (!decide (a < b))) := ev_op ha hb rv_geT
theorem strip_R (b : List Bool) : Txt.stripChars (T (R b)) (T [48, 49]) = T [] := by
  have hg : ∀ c ∈ R b, (T [48, 49]).cps.contains c = true := by
    intro c hc
    obtain ⟨x, _, rfl⟩ := List.mem_map.mp hc
    cases x <;> simp [T, bc]
  show Txt.stripBy (fun c => (T [48, 49]).cps.contains c) true true (T (R b)) = _
  rw [stripBy_eq]
  have e : stripLo (fun c => (T [48, 49]).cps.contains c) true (T (R b)) = (R b).length := by
    unfold stripLo
    rw [if_pos rfl]
    show ((R b).takeWhile _).length = _
    congr 1
    generalize R b = l at hg
    induction l with
    | nil => rfl
    | cons c l ih => rw [List.takeWhile_cons, if_pos (hg c (List.mem_cons_self ..)), ih fun d hd => hg d (List.mem_cons_of_mem _ hd)]
  rw [e]
  unfold Builtin.Str.strSub T
  simp
theorem ev_stripR {b : List Bool} (h : Ev ta σ H (.str (T (R b)))) (hl : b.length ≤ 1000000) : Ev (tBM K "str" rStripC ta (tCons (tC (.str (T [48, 49]))) tNil)) σ H (.str (T [])) := fun H1 e Q q =>
  h H1 e _ fun H2 e2 => ⟨rfl, T (R b), T [48, 49], rfl, rfl, by rw [T_len, R_len, sizeLine_eq]; omega, by
    rw [strip_R]
    exact q H2 e2⟩
end
/-! ### the order of rows -/
theorem not_lt_pre : ∀ (p t : List Nat), ¬ p ++ t < p
  | [], t => by simp
  | c :: p, t => by
    rw [List.cons_append, List.cons_lt_cons_iff]
    rintro (h | ⟨_, h⟩)
    · exact Nat.lt_irrefl _ h
    · exact not_lt_pre p t h
theorem R_lt_or : ∀ (a b : List Bool), ¬ R a < R b → R a ≠ R b → R b < R a
  | [], [], _, h => absurd rfl h
  | [], y :: b, h, _ => absurd (List.Lex.nil) h
  | x :: a, [], _, _ => List.Lex.nil
  | x :: a, y :: b, h, h2 => by
    show bc y :: R b < bc x :: R a
    have h3 : ¬ bc x :: R a < bc y :: R b := h
    have h4 : ¬ bc x :: R a = bc y :: R b := h2
    rw [List.cons_lt_cons_iff] at h3 ⊢
    by_cases hb : bc x = bc y
    · rw [hb] at h3 h4
      exact .inr ⟨hb.symm, R_lt_or a b (fun z => h3 (.inr ⟨rfl, z⟩)) (fun z => h4 (by rw [z]))⟩
    · have : ¬ bc x < bc y := fun z => h3 (.inl z)
      exact .inl (by omega)
/-- how the lesser of two rows comes to be the lesser -/
theorem R_lt_cases : ∀ (a b : List Bool), R a < R b → (∃ c t, b = a ++ c :: t ∧ com a b = a.length) ∨ ∃ p s t, a = p ++ false :: s ∧ b = p ++ true :: t ∧ com a b = p.length
  | [], [], h => by cases h
  | [], y :: b, _ => .inl ⟨y, b, rfl, rfl⟩
  | x :: a, [], h => by cases h
  | x :: a, y :: b, h => by
    have h3 : bc x :: R a < bc y :: R b := h
    rw [List.cons_lt_cons_iff] at h3
    rcases h3 with h3 | ⟨h3, h4⟩
    · cases x with
      | true => cases y <;> exact absurd h3 (by decide)
      | false => cases y with
        | false => exact absurd h3 (by decide)
        | true => exact .inr ⟨[], a, b, rfl, rfl, rfl⟩
    · have hxy := bc_inj h3
      subst hxy
      have hc : com (x :: a) (x :: b) = com a b + 1 := if_pos rfl
      rcases R_lt_cases a b h4 with ⟨c, t, h5, h6⟩ | ⟨p, s, t, h5, h6, h7⟩
      · exact .inl ⟨c, t, by rw [List.cons_append, ← h5], by rw [hc, h6]; rfl⟩
      · exact .inr ⟨x :: p, s, t, by rw [List.cons_append, ← h5], by rw [List.cons_append, ← h6], by rw [hc, h7]; rfl⟩
theorem R_lt_pre {a : List Bool} {c : Bool} {t : List Bool} : R a < R (a ++ c :: t) := by rw [R_app]; exact lt_pre
theorem R_lt_split {p s t : List Bool} : R (p ++ false :: s) < R (p ++ true :: t) := by rw [R_app, R_app]; exact lt_split
theorem R_not_lt_pre {p t : List Bool} : ¬ R (p ++ t) < R p := by rw [R_app]; exact not_lt_pre _ _
end Kr
/-! fields of instances of one class, a method of one of two classes, errors with an __init__ of their own that calls RiseError's -/
namespace Kr
open PySem PySem.Spec PyProof.Rows L2 Evl
section
variable {X : Cx} {o e value : Expr} {f : Str} {pos pos' tpos : Pos} {ta tv : TE} {C : Addr}
def tFldC (C : Addr) (ta : TE) (f : Str) : TE := fun σ H Q => ta σ H fun x H1 => ∃ a dx fs v, x = .ref a ∧ H1 a = some (.ins C dx fs) ∧ fs.lookup f = some v ∧ Q v H1
def sFldC (C : Addr) (ta tv : TE) (f : Str) : TS := fun D σ H => tv σ H fun y H1 => ta σ H1 fun x H2 => ∃ a dx fs, x = .ref a ∧ H2 a = some (.ins C dx fs) ∧ fs.length < 1000 ∧ D.nx σ (upd H2 a (.ins C dx (putF f y fs)))
def sFldAugC (C : Addr) (ta tv : TE) (rd : V → V → Hp → VK → Prop) (f : Str) : TS := fun D σ H => ta σ H fun x H1 => ∃ a dx fs v, x = .ref a ∧ H1 a = some (.ins C dx fs) ∧ fs.lookup f = some v ∧
  tv σ H1 fun y H2 => rd v y H2 fun z H3 => ∃ dx' fs', H3 a = some (.ins C dx' fs') ∧ fs'.length < 1000 ∧ D.nx σ (upd H3 a (.ins C dx' (putF f z fs')))
theorem pe_fldC (c : Cls X.K C) (n : NoAttr X.K C f) (he : PE X e ta) (hb : attributeBase e f X.env (eval e X.env) = eval e X.env := by rfl) : PE X (.Attribute e f pos) (tFldC C ta f) := by
  refine ⟨fun pins s σ H Q I h => ?_⟩
  refine attr_of hb (thn (he.run pins s σ H _ I h) fun u s1 ⟨x, H1, I1, rx, a, dx, fs, v, ex, ea, l, q⟩ => ?_)
  subst ex
  obtain rfl : u = Value.ref a := rx
  exact getattr_ok I1 ea c n l fun u' s2 I2 ru => ⟨v, H1, I2, ru, q⟩
theorem ps_fldC (c : Cls X.K C) (n : NoAttr X.K C f) (ha : PE X o ta) (hv : PE X value tv) (hs : swapsWith value (some (.Attribute o f pos')) pos.line X.env = pure false := by rfl) : PS X (.Assign [.Attribute o f pos'] value pos) (sFldC C ta tv f) := by
  refine ⟨fun pins s σ H D I h => ?_⟩
  refine plainObj_wpAny_Assign_Attribute (thn (hv.run pins s σ H _ I h) fun u s1 ⟨y, H1, I1, ry, q⟩ => thn (ha.run pins s1 σ H1 _ I1 q) fun ov s2 ⟨x, H2, I2, rx, a, dx, fs, ex, ea, l, q2⟩ => ?_) hs
  subst ex
  obtain rfl : ov = Value.ref a := rx
  exact setattr_ok I2 ea c n l ry fun s3 I3 => ⟨σ, _, I3, q2⟩
theorem ps_fldaugC {op : Operator} {rd : V → V → Hp → VK → Prop} (c : Cls X.K C) (n : NoAttr X.K C f) (ha : PE X o ta) (hv : PE X value tv) (hop : InOp X op rd) : PS X (.AugAssign (.Attribute o f tpos) op value pos) (sFldAugC C ta tv rd f) := by
  refine ⟨fun pins s σ H D I h => ?_⟩
  refine wpAny_AugAssign_AttributeAny (thn (ha.run pins s σ H _ I h) fun ov s1 ⟨x, H1, I1, rx, a, dx, fs, v, ex, ea, l, q⟩ => ?_)
  subst ex
  obtain rfl : ov = Value.ref a := rx
  refine getattr_ok I1 ea c n l fun u s2 I2 ru => thn (hv.run pins s2 σ H1 _ I2 q) fun w3 s3 ⟨y, H2, I3, ry, q3⟩ => thn (hop pins s3 σ H2 v y u w3 _ I3 ru ry q3) fun w4 s4 ⟨z, H3, I4, rz, dx', fs', ea', l', q4⟩ => ?_
  exact setattr_ok I4 ea' c n l' rz fun s5 I5 => ⟨σ, _, I5, q4⟩
/-- one of two readings, whichever is known to hold -/
def tOr2 (t u : TE) : TE := fun σ H Q => t σ H Q ∨ u σ H Q
theorem pe_or2 {t u : TE} (h1 : PE X e t) (h2 : PE X e u) : PE X e (tOr2 t u) :=
  ⟨fun pins s σ H Q I h => h.elim (fun h => h1.run pins s σ H Q I h) fun h => h2.run pins s σ H Q I h⟩
end
/-! ### errors with an own __init__ -/
def oexB (K : PySem.W.Frag) (C : Addr) : Bool := (match K.lookup C with
  | some ⟨.type "type", _, .cls cd, sl⟩ => (match cd.mro, sl.toList with
    | .ref C' :: bm, [_, _, _, _, some (.builtin n), _] => decide (C' = C) && (decide (n = "ValueError.__new__") && (!cd.hasDel && (cd.hasDict && PySem.HandSPX.refsVE bm)))
    | _, _ => false)
  | _ => false) && (decide (PySem.W.findIn K (.ref C) "__setattr__" = some (some (.builtin "object.__setattr__"))) && (decide (PySem.W.subIn K (.ref C) (.type "BaseException") = some true) && (decide (PySem.W.typeIn K (.ref C) = some (.type "type")) && PySem.W.keepIn K (.ref C))))
theorem oexB_ok {K : PySem.W.Frag} {C : Addr} (h : oexB K C = true) : OexC K C := by
  obtain ⟨h0, h⟩ := He.ba h
  obtain ⟨h1, h⟩ := He.ba h
  obtain ⟨h2, h⟩ := He.ba h
  obtain ⟨h3, h4⟩ := He.ba h
  refine ⟨?_, of_decide_eq_true h1, of_decide_eq_true h2, of_decide_eq_true h3, h4⟩
  split at h0
  · rename_i dd cd sl ho
    split at h0
    · rename_i C' bm k0 k1 k2 k3 n k5 hm hs
      obtain ⟨e1, h0⟩ := He.ba h0
      obtain ⟨e2, h0⟩ := He.ba h0
      obtain ⟨e3, h0⟩ := He.ba h0
      obtain ⟨e4, e5⟩ := He.ba h0
      have e1 := of_decide_eq_true e1
      have e2 := of_decide_eq_true e2
      subst e1 e2
      obtain ⟨nm, bs, mro, ns, qn, hd, sn, sub, ab, col, del⟩ := cd
      dsimp only at hm e3 e4
      have e3 : del = false := by simpa using e3
      subst hm e3 e4
      have hsl : sl = #[k0, k1, k2, k3, some (.builtin "ValueError.__new__"), k5] := by
        obtain ⟨l⟩ := sl
        simp only at hs
        rw [hs]
      subst hsl
      exact ⟨_, _, _, _, _, _, _, _, _, _, _, _, _, _, _, ho, e5⟩
    · cases h0
  · cases h0
/-- what the text's errors with own __init__ are asked for, by the names -/
def ownB (K : PySem.W.Frag) (x : Str) : Bool := oexB K (He.ga K x) && (decide (PySem.W.findIn K (.ref (He.ga K x)) "__init__" = some (some (.ref (He.ma K (He.ga K x) "__init__")))) && (decide (PySem.W.typeIn K (.ref (He.ma K (He.ga K x) "__init__")) = some (.type "function")) &&
  decide (PySem.W.findIn K (.ref (He.ga K x)) "place" = some none)))
def rootB (K : PySem.W.Frag) : Bool := decide (PySem.W.specialIn K (.ref (He.ga K "RiseError")) "__getattribute__" = some (some (.builtin "type.__getattribute__"))) && (PySem.W.readsIn K (He.ga K "RiseError") (.type "type") &&
  (match PySem.W.findCls K (.ref (He.ga K "RiseError")) (.type "type") "__init__" with
  | some (.val (.builtin n)) => decide (n = "ValueError.__init__")
  | _ => false))
structure OwnX (K : PySem.W.Frag) (C fI : Addr) : Prop where
  T : OexC K C
  i : PySem.W.findIn K (.ref C) "__init__" = some (some (.ref fI))
  t : PySem.W.typeIn K (.ref fI) = some (.type "function")
  p : PySem.W.findIn K (.ref C) "place" = some none
theorem ownB_ok {K : PySem.W.Frag} {x : Str} (h : ownB K x = true) : OwnX K (He.ga K x) (He.ma K (He.ga K x) "__init__") := by
  obtain ⟨h1, h⟩ := He.ba h
  obtain ⟨h2, h⟩ := He.ba h
  obtain ⟨h3, h4⟩ := He.ba h
  exact ⟨oexB_ok h1, of_decide_eq_true h2, of_decide_eq_true h3, of_decide_eq_true h4⟩
structure RootX (K : PySem.W.Frag) : Prop where
  g : PySem.W.specialIn K (.ref (He.ga K "RiseError")) "__getattribute__" = some (some (.builtin "type.__getattribute__"))
  r : PySem.W.readsIn K (He.ga K "RiseError") (.type "type") = true
  f : PySem.W.findCls K (.ref (He.ga K "RiseError")) (.type "type") "__init__" = some (.val (.builtin "ValueError.__init__"))
theorem rootB_ok {K : PySem.W.Frag} (h : rootB K = true) : RootX K := by
  obtain ⟨h1, h⟩ := He.ba h
  obtain ⟨h2, h3⟩ := He.ba h
  refine ⟨of_decide_eq_true h1, h2, ?_⟩
  split at h3
  · rename_i n e
    rw [e, of_decide_eq_true h3]
  · cases h3
/-- RiseError.__init__(self, ..), self a new error of the class at C -/
def tRinit (C : Addr) (ta : TA) : TE := fun σ H Q => ta σ H fun vs H1 => ∃ (a : Addr) (ws : List V), vs = .ref a :: ws ∧ ws.length ≤ 1000 ∧ H1 a = some (exo a C none) ∧ Q .non H1
def tOstC (C : Addr) (f : Str) (to te : TE) : TS := fun D σ H => te σ H fun y H1 => to σ H1 fun x H2 => ∃ a : Addr, x = .ref a ∧ H2 a = some (exo a C none) ∧ ∀ dx, H2 dx = none → dx ≠ a → D.nx σ (upd (upd H2 dx (exd dx [(f, y)])) a (exo a C (some dx)))
section
variable {X : Cx} {o e : Expr} {es : List Expr} {to te : TE} {ta : TA} {f x : Str} {p p' p1 p2 pos : Pos} {C fI : Addr}
theorem pe_rinit {pl : Sem Bool} (T : OwnX X.K C fI) (R : RootX X.K) (hg : Gl X "RiseError") (hm : X.mg "RiseError" = some (.ref (He.ga X.K "RiseError"))) (ha : PA X (e :: es) ta)
    (hc : eval (.Call (.Attribute (.Name "RiseError" p1) "__init__" p2) (e :: es) [] pos) X.env = (do
      let ov ← eval (.Name "RiseError" p1) X.env
      standAt p2.atName
      let (f, first) ← holding [ov] (getMethod ov "__init__" pl)
      callWith pos f first (backTo pos (starEach (e :: es) X.env)) (backToKw pos (keywordEach [] X.env))) := by rfl)
    (he : starEach (e :: es) X.env = (false, eval e X.env) :: starEach es X.env := by rfl) (hpl : (backTo pos (starEach es X.env)).any (·.1) = false := by rfl) :
    PE X (.Call (.Attribute (.Name "RiseError" p1) "__init__" p2) (e :: es) [] pos) (tRinit C ta) := by
  refine ⟨fun pins s σ H Q I h => ?_⟩
  refine PySem.W.methodCall_KW (ld_glob I hg hm ?_ (by decide)) hc
  refine PySem.W.method_cls I.kIn R.g (PySem.W.cls_value I.kIn R.r R.f (by decide +kernel) ?_)
  show wpAny _ _ (callWith pos (Value.builtin "ValueError.__init__") [] (backTo pos (starEach (e :: es) X.env)) []) _ _ _
  refine PyProof.Rows.callWith_method1 (thn (ha.run pos pins _ σ H _ (I.tok _) h) fun us s1 ⟨vs, H1, I1, r1, a, ws, ev, hl, ea, q⟩ => ?_) he hpl
  subst ev
  cases r1 with
  | @cons _ u0 _ ur ra rw' =>
    obtain rfl : u0 = Value.ref a := ra
    have hlen : ur.length ≤ sizeLine := by
      rw [← Paired.length rw', sizeLine_eq]
      omega
    exact oinit_ok T.T I1 ea hlen fun s' J => ⟨.non, H1, J, rfl, q⟩
theorem ps_ostC (T : OwnX X.K C fI) (ho : PE X o to) (he : PE X e te) (hs : swapsWith e (some (.Attribute o "place" p')) pos.line X.env = pure false := by rfl) : PS X (.Assign [.Attribute o "place" p'] e pos) (tOstC C "place" to te) := by
  refine ⟨fun pins s σ H D I h => ?_⟩
  refine plainObj_wpAny_Assign_Attribute (thn (he.run pins s σ H _ I h) fun v s1 ⟨y, H1, I1, r1, q1⟩ => thn (ho.run pins s1 σ H1 _ I1 q1) fun u s2 ⟨x, H2, I2, r2, a, ex, ea, q⟩ => ?_) hs
  subst ex
  obtain rfl : u = Value.ref a := r2
  exact ost_new T.T I2 ea T.p r1 fun dx s' n ne J => ⟨σ, _, J, q dx n ne⟩
end
/-- raise C(..) -/
def tRaiseO (C : Addr) (sp : Sp) (ta : TA) (E : XK) : TS := fun _ σ H => tMkO C sp [] ta σ H E
/-- the promise of __init__(self, place) of such a class -/
def placeSp (C : Addr) : Sp := fun vs H Q _ => ∃ (a : Addr) (y : V), vs = [.ref a, y] ∧ H a = some (exo a C none) ∧ ∀ dx H1, Ex H H1 → H1 dx = none → dx ≠ a → Q .non (upd (upd H1 dx (exd dx [("place", y)])) a (exo a C (some dx)))
theorem placeSp_len {C : Addr} {vs H Q E} (h : placeSp C vs H Q E) : vs.length = 2 := by
  obtain ⟨a, y, rfl, _⟩ := h
  rfl
/-- a promise's ways out: an error with a place -/
def RaiseD (cls : Value) (p : Int) (H : Hp) (E : XK) : Prop := ∀ d H', H d = none → Ex H H' → H' d = some (.xd [("place", .int p)]) → E cls (some d) H'
theorem RaiseD.mono {cls : Value} {p : Int} {H H1 : Hp} {E : XK} (h : RaiseD cls p H E) (e : Ex H H1) : RaiseD cls p H1 E := fun d H' hd e2 h2 => h d H' (fresh_back e hd) (e.trans e2) h2
theorem ev_rinit {C a : Addr} {ws : List V} {ta : TA} {σ : L2.St} {H : Hp} (h : EvA ta σ H (.ref a :: ws)) (hl : ws.length ≤ 1000) (ha : H a = some (exo a C none)) : Ev (tRinit C ta) σ H .non := fun H1 e Q q =>
  h H1 e _ fun H2 e2 => ⟨a, ws, rfl, hl, (e.trans e2) _ _ ha, q H2 e2⟩
theorem s_ostC {C a : Addr} {f : Str} {to te : TE} {y : V} {σ : L2.St} {H : Hp} {D : Ends} (h1 : Ev te σ H y) (h2 : Ev to σ H (.ref a)) (ha : H a = some (exo a C none)) (k : ∀ dx H1, Ex H H1 → H1 dx = none → dx ≠ a → D.nx σ (upd (upd H1 dx (exd dx [(f, y)])) a (exo a C (some dx)))) : tOstC C f to te D σ H :=
  h1 H (Ex.refl H) _ fun H1 e1 => h2 H1 e1 _ fun H2 e2 => ⟨a, rfl, (e1.trans e2) _ _ ha, fun dx hd hne => k dx H2 (e1.trans e2) hd hne⟩
theorem rd_place {C : Addr} {m : List Nat} (vs : List V) (H : Hp) (Q : VK) (E : XK) (h : placeSp C vs H Q E) :
    (tSeq (tDrop (tRinit C (tCons (tVar 0) (tCons (tC (.str (T m))) tNil)))) (tOstC C "place" (tVar 0) (tVar 1))) { nx := fun _ H' => Q .non H', rt := Q } (start ["self", "place"] vs) H := by
  obtain ⟨a, y, rfl, ha, q⟩ := h
  refine q_drop (ev_rinit (a := a) (ws := [.str (T m)]) (ea_cons (ev_var rfl) (ea_cons ev_c ea_nil)) (by simp) ha) fun H1 e1 => ?_
  exact s_ostC (y := y) (ev_var rfl) (ev_var rfl) (e1 _ _ ha) fun dx H2 e2 hd hne => q dx H2 (e1.trans e2) hd hne
theorem s_raiseO {C : Addr} {ta : TA} {E : XK} {D : Ends} {σ : L2.St} {H : Hp} {p : Int} (h : EvA ta σ H [.int p]) (k : RaiseD (.ref C) p H E) : tRaiseO C (placeSp C) ta E D σ H :=
  h H (Ex.refl H) _ fun H1 e1 => ⟨by simp, fun a ha => ⟨a, .int p, rfl, upd_same, fun dx H2 e2 hd hne => ⟨rfl, dx, [("place", .int p)], upd_same, by rw [upd_ne hne, upd_same], by
    have := fresh_back e2 hd
    rwa [upd_ne hne] at this, by
    refine k dx _ ?_ ?_ upd_same
    · have := fresh_back e2 hd
      rw [upd_ne hne] at this
      exact fresh_back e1 this
    · intro b o hb
      have h1 := e1 _ _ hb
      have hba : b ≠ a := fun z => by rw [z, ha] at h1; cases h1
      have h2 : H2 b = some o := e2 _ _ (by rw [upd_ne hba]; exact h1)
      have hbd : b ≠ dx := fun z => by rw [z, hd] at h2; cases h2
      rw [upd_ne hbd, del_ne hba, upd_ne hba, upd_ne hbd]
      exact h2⟩⟩⟩
def KoL (L : List Str) (K : PySem.W.Frag) : Prop := ∀ x ∈ L, OwnX K (He.ga K x) (He.ma K (He.ga K x) "__init__")
end Kr
/-! signs as they are read: the object, what is read of it, how a promise that reads ends -/
namespace Kr
open PySem PySem.Spec PyProof.Rows L2 Evl
/-- all but the object at a stays -/
def ExU (a : Addr) (H H' : Hp) : Prop := ∀ b o, b ≠ a → H b = some o → H' b = some o
theorem ExU.refl (a : Addr) (H : Hp) : ExU a H H := fun _ _ _ h => h
theorem ExU.trans {a : Addr} {H H1 H2 : Hp} (x : ExU a H H1) (y : ExU a H1 H2) : ExU a H H2 := fun b o n h => y b o n (x b o n h)
theorem exu {a : Addr} {H H1 : Hp} (e : Ex H H1) : ExU a H H1 := fun b o _ h => e b o h
theorem ExU.upd {a : Addr} {H H1 : Hp} {o : HO} (e : ExU a H H1) : ExU a H (upd H1 a o) := fun b u n h => by rw [upd_ne n]; exact e b u n h
/-- what H does not know may have changed -/
theorem ExU.ex {a : Addr} {H H1 : Hp} (e : ExU a H H1) (h : H a = none) : Ex H H1 := fun b o hb => e b o (fun z => by rw [z, h] at hb; cases hb) hb
/-- the signs that are read, at the object a -/
def SrcB (K : PySem.W.Frag) (H : Hp) (a : Addr) (b : List Bool) (t : Nat) (f : Bool) : Prop := ∃ dx, H a = some (.ins (He.ga K "Source") dx [("signs", .str (T (R b))), ("at", .int (t : Int)), ("fills", .bl f)])
/-- x reads the object at a, each sign exchanged or not, through k others -/
inductive Src (K : PySem.W.Frag) (H : Hp) (a : Addr) : V → Bool → Nat → Prop
  | base : Src K H a (.ref a) false 0
  | turn {t dx : Addr} {y : V} {n : Bool} {k : Nat} (h : H t = some (.ins (He.ga K "TurnedSource") dx [("inner", y)])) (ne : t ≠ a) (r : Src K H a y n k) : Src K H a (.ref t) (!n) (k + 1)
theorem Src.mono {K : PySem.W.Frag} {H H1 : Hp} {a : Addr} {x : V} {n : Bool} {k : Nat} (e : ExU a H H1) (s : Src K H a x n k) : Src K H1 a x n k := by
  induction s with
  | base => exact .base
  | turn h ne r ih => exact .turn (e _ _ ne h) ne ih
theorem SrcB.mono {K : PySem.W.Frag} {H H1 : Hp} {a : Addr} {b : List Bool} {t : Nat} {f : Bool} (e : Ex H H1) (s : SrcB K H a b t f) : SrcB K H1 a b t f := by
  obtain ⟨dx, h⟩ := s
  exact ⟨dx, e _ _ h⟩
theorem SrcB.some {K : PySem.W.Frag} {H : Hp} {a : Addr} {b : List Bool} {t : Nat} {f : Bool} (s : SrcB K H a b t f) : H a ≠ none := by
  obtain ⟨dx, h⟩ := s
  rw [h]
  exact fun z => nomatch z
/-! ### what is read -/
inductive Res (α : Type) where
  | ok (v : α) (t : Nat)
  | bad (c : Str) (p : Int)
def Res.bind {α β : Type} (r : Res α) (g : α → Nat → Res β) : Res β := match r with
  | .ok v t => g v t
  | .bad c p => .bad c p
/-- the next sign -/
def takeB (b : List Bool) (f n w : Bool) (t : Nat) : Res Bool := match b[t]? with
  | some c => .ok (c != n) (t + 1)
  | none => if f then .ok w (t + 1) else .bad "Short" b.length
theorem takeB_turn (b : List Bool) (f n w : Bool) (t : Nat) : takeB b f (!n) w t = (takeB b f n (!w) t).bind fun c t' => .ok (!c) t' := by
  unfold takeB
  cases b[t]? with
  | some c => cases c <;> cases n <;> rfl
  | none => cases f <;> simp [Res.bind]
/-- more binary digits -/
def tdig (b : List Bool) (f n : Bool) : Nat → Int → Nat → Res Int
  | 0, x, t => .ok x t
  | k + 1, x, t => (takeB b f n false t).bind fun c t' => tdig b f n k (x * 2 + (if c then 1 else 0)) t'
def tones (b : List Bool) (f n : Bool) : Nat → Bool → Nat → Nat → Res Nat
  | 0, _, o, t => .ok o t
  | k + 1, w, o, t => (takeB b f n w t).bind fun c t' => if c then tones b f n k false (o + 1) t' else .ok o t'
def tcount (b : List Bool) (f n w : Bool) (t : Nat) : Res Int :=
  (tones b f n 7 w 0 t).bind fun o t1 => (tdig b f n o 1 t1).bind fun s t2 => (tdig b f n (s - 1).toNat 1 t2).bind fun x t3 => .ok (x - 1) t3
def twhole (b : List Bool) (f n : Bool) (t : Nat) : Res Int :=
  (takeB b f n true t).bind fun c t1 => if c then tcount b f n false t1 else (tcount b f (!n) false t1).bind fun x t2 => .ok (-1 - x) t2
def tfix (b : List Bool) (f n : Bool) (most : Int) : Nat → Int → Nat → Res Int
  | 0, x, t => .ok x t
  | k + 1, x, t => (takeB b f n false t).bind fun c t' => if x * 2 + (if c then 1 else 0) > most / 2 ^ k then .bad "Wrong" ((t' : Int) - 1) else tfix b f n most k (x * 2 + (if c then 1 else 0)) t'
/-! ### how a promise that reads ends -/
def RaiseU (a : Addr) (cls : Value) (p : Int) (H : Hp) (E : XK) : Prop := ∀ d H', d ≠ a → H d = none → ExU a H H' → H' d = some (.xd [("place", .int p)]) → E cls (some d) H'
theorem RaiseU.mono {a : Addr} {cls : Value} {p : Int} {H H1 : Hp} {E : XK} (e : ExU a H H1) (h : RaiseU a cls p H E) : RaiseU a cls p H1 E := fun d H' hn hd e2 h2 =>
  h d H' hn (by
    cases q : H d with
    | none => rfl
    | some o => rw [e d o hn q] at hd; cases hd) (e.trans e2) h2
theorem RaiseU.d {a : Addr} {cls : Value} {p : Int} {H : Hp} {E : XK} (h : RaiseU a cls p H E) (ha : H a ≠ none) : RaiseD cls p H E := fun d H' hd e h2 =>
  h d H' (fun z => ha (by rw [← z]; exact hd)) hd (exu e) h2
def Fin {α : Type} (K : PySem.W.Frag) (val : α → V) (a : Addr) (b : List Bool) (f : Bool) (H : Hp) (Q : VK) (E : XK) : Res α → Prop
  | .ok v t => ∀ H', ExU a H H' → SrcB K H' a b t f → Q (val v) H'
  | .bad c p => RaiseU a (.ref (He.ga K c)) p H E
theorem Fin.mono {α : Type} {K : PySem.W.Frag} {val : α → V} {a : Addr} {b : List Bool} {f : Bool} {H H1 : Hp} {Q : VK} {E : XK} {r : Res α} (h : Fin K val a b f H Q E r) (e : ExU a H H1) : Fin K val a b f H1 Q E r := by
  cases r with
  | ok v t => exact fun H' e2 s => h H' (e.trans e2) s
  | bad c p => exact RaiseU.mono e h
/-- a part of what is read, then the rest -/
theorem Fin.step {α β : Type} {K : PySem.W.Frag} {val : α → V} {wal : β → V} {a : Addr} {b : List Bool} {f : Bool} {H : Hp} {Q Q2 : VK} {E : XK} {r : Res α} {g : α → Nat → Res β} (h : Fin K wal a b f H Q E (r.bind g))
    (k : ∀ v t H', r = .ok v t → ExU a H H' → SrcB K H' a b t f → Fin K wal a b f H' Q E (g v t) → Q2 (val v) H') : Fin K val a b f H Q2 E r := by
  cases r with
  | ok v t => exact fun H' e s => k v t H' rfl e s (Fin.mono (show Fin K wal a b f H Q E (g v t) from h) e)
  | bad c p => exact h
abbrev vB (c : Bool) : V := .str (T [bc c])
/-- a new tuple -/
def RetU (xs : List V) (H : Hp) (Q : VK) : Prop := ∀ p H2, H p = none → Ex H H2 → H2 p = some (.tup xs) → Q (.ref p) H2
theorem RetU.mono {xs : List V} {H H1 : Hp} {Q : VK} (q : RetU xs H Q) (e : Ex H H1) : RetU xs H1 Q := fun p H2 hp e2 h => q p H2 (fresh_back e hp) (e.trans e2) h
/-- what is told of a row read from a place on: the number and the place behind it -/
def FinR (K : PySem.W.Frag) (H : Hp) (Q : VK) (E : XK) : Res Int → Prop
  | .ok v t => RetU [.int v, .int (t : Int)] H Q
  | .bad c p => RaiseD (.ref (He.ga K c)) p H E
theorem Res.bind_assoc {α β γ : Type} (r : Res α) (g : α → Nat → Res β) (h : β → Nat → Res γ) : (r.bind g).bind h = r.bind fun v t => (g v t).bind h := by cases r <;> rfl
/-- x reads the signs b from t on, through at most D others -/
structure Rdr (D : Nat) (K : PySem.W.Frag) (H : Hp) (x : V) (a : Addr) (b : List Bool) (f n : Bool) (t : Nat) : Prop where
  j : ∃ j, j ≤ D ∧ Src K H a x n j
  s : SrcB K H a b t f
  l : b.length ≤ 1000000
theorem Rdr.after {D : Nat} {K : PySem.W.Frag} {H H' : Hp} {x : V} {a : Addr} {b : List Bool} {f n : Bool} {t t' : Nat} (r : Rdr D K H x a b f n t) (e : ExU a H H') (s : SrcB K H' a b t' f) : Rdr D K H' x a b f n t' := by
  obtain ⟨⟨j, hj, hx⟩, _, l⟩ := r
  exact ⟨⟨j, hj, hx.mono e⟩, s, l⟩
theorem Rdr.mono {D : Nat} {K : PySem.W.Frag} {H H' : Hp} {x : V} {a : Addr} {b : List Bool} {f n : Bool} {t : Nat} (r : Rdr D K H x a b f n t) (e : Ex H H') : Rdr D K H' x a b f n t := r.after (exu e) (r.s.mono e)
theorem tdig_rng {b : List Bool} {f n : Bool} : ∀ {k : Nat} {x y : Int} {t t' : Nat}, tdig b f n k x t = .ok y t' → x * 2 ^ k ≤ y ∧ y < (x + 1) * 2 ^ k
  | 0, x, y, t, t', h => by
    cases h
    simp
    omega
  | k + 1, x, y, t, t', h => by
    unfold tdig at h
    cases ht : takeB b f n false t with
    | bad c p => rw [ht] at h; cases h
    | ok c t1 =>
      rw [ht] at h
      have := tdig_rng (show tdig b f n k _ t1 = .ok y t' from h)
      have e1 : x * 2 ^ (k + 1) = x * 2 * 2 ^ k := by rw [Int.pow_succ, Int.mul_assoc, Int.mul_comm (2 ^ k) 2]
      have e2 : (x + 1) * 2 ^ (k + 1) = (x * 2 + 2) * 2 ^ k := by rw [Int.pow_succ, Int.mul_comm (2 ^ k) 2, ← Int.mul_assoc, Int.add_mul x 1 2, Int.one_mul]
      have hp : (0 : Int) < 2 ^ k := Int.pow_pos (by decide)
      rw [e1, e2]
      cases c with
      | true =>
        have h1 := Int.mul_le_mul_of_nonneg_right (show x * 2 ≤ x * 2 + 1 by omega) (Int.le_of_lt hp)
        have h2 : (x * 2 + 1 + 1) = x * 2 + 2 := by omega
        simp only [if_true] at this
        rw [h2] at this
        exact ⟨Int.le_trans h1 this.1, this.2⟩
      | false =>
        have h1 := Int.mul_le_mul_of_nonneg_right (show x * 2 + 1 ≤ x * 2 + 2 by omega) (Int.le_of_lt hp)
        simp only [Bool.false_eq_true, if_false, Int.add_zero] at this
        exact ⟨this.1, Int.lt_of_lt_of_le this.2 h1⟩
theorem tones_rng {b : List Bool} {f n : Bool} : ∀ {k : Nat} {w : Bool} {o o' t t' : Nat}, tones b f n k w o t = .ok o' t' → o ≤ o' ∧ o' ≤ o + k
  | 0, w, o, o', t, t', h => by
    cases h
    omega
  | k + 1, w, o, o', t, t', h => by
    unfold tones at h
    cases ht : takeB b f n w t with
    | bad c p => rw [ht] at h; cases h
    | ok c t1 =>
      rw [ht] at h
      cases c with
      | true =>
        have := tones_rng (show tones b f n k false (o + 1) t1 = .ok o' t' from h)
        omega
      | false =>
        cases (show Res.ok o t1 = .ok o' t' from h)
        omega
theorem putF_len (f : Str) (v : V) : ∀ fs : List (Str × V), (putF f v fs).length ≤ fs.length + 1
  | [] => Nat.le_refl _
  | (g, x) :: r => by
    unfold putF
    split
    · simp
    · have := putF_len f v r
      simp
      omega
def rMin2 : List V → Hp → VK → Prop := fun xs H Q => ∃ i j, xs = [.int i, .int j] ∧ Q (.int (if j < i then j else i)) H
theorem ev_min2 {σ : L2.St} {H : Hp} {ta tb : TE} {i j : Int} (ha : Ev ta σ H (.int i)) (hb : Ev tb σ H (.int j)) : Ev (tCB rMin2 (tCons ta (tCons tb tNil))) σ H (.int (if j < i then j else i)) := fun H1 e Q q =>
  ha H1 e _ fun H2 e2 => hb H2 (e.trans e2) _ fun H3 e3 => ⟨i, j, rfl, q H3 (e2.trans e3)⟩
section
variable {K : PySem.W.Frag} {σ : L2.St} {H : Hp} {ta : TE} {v : V} {C a dx : Addr} {fs : List (Str × V)} {f : Str}
theorem ev_fldC (h : Ev ta σ H (.ref a)) (ha : H a = some (.ins C dx fs)) (hl : fs.lookup f = some v) : Ev (tFldC C ta f) σ H v := fun H1 e Q q =>
  h H1 e _ fun H2 e2 => ⟨a, dx, fs, v, rfl, (e.trans e2) _ _ ha, hl, q H2 e2⟩
/-- self.f = value -/
theorem q_fldC {te : TE} {D : Ends} {tz : TS} (h1 : Ev te σ H v) (h2 : Ev ta σ H (.ref a)) (ha : H a = some (.ins C dx fs)) (hn : fs.length < 1000) (k : ∀ H1, ExU a H H1 → H1 a = some (.ins C dx (putF f v fs)) → tz D σ H1) : tSeq (sFldC C ta te f) tz D σ H :=
  h1 H (Ex.refl H) _ fun H1 e1 => h2 H1 e1 _ fun H2 e2 => ⟨a, dx, fs, rfl, (e1.trans e2) _ _ ha, hn, k _ (ExU.upd (exu (e1.trans e2))) upd_same⟩
theorem s_fldC {te : TE} {D : Ends} (h1 : Ev te σ H v) (h2 : Ev ta σ H (.ref a)) (ha : H a = some (.ins C dx fs)) (hn : fs.length < 1000) (k : ∀ H1, ExU a H H1 → H1 a = some (.ins C dx (putF f v fs)) → D.nx σ H1) : sFldC C ta te f D σ H :=
  h1 H (Ex.refl H) _ fun H1 e1 => h2 H1 e1 _ fun H2 e2 => ⟨a, dx, fs, rfl, (e1.trans e2) _ _ ha, hn, k _ (ExU.upd (exu (e1.trans e2))) upd_same⟩
/-- self.f += n -/
theorem q_augC {te : TE} {D : Ends} {tz : TS} {i j : Int} (h2 : Ev ta σ H (.ref a)) (ha : H a = some (.ins C dx fs)) (hl : fs.lookup f = some (.int i)) (h1 : Ev te σ H (.int j)) (hn : fs.length < 1000) (k : ∀ H1, ExU a H H1 → H1 a = some (.ins C dx (putF f (.int (i + j)) fs)) → tz D σ H1) : tSeq (sFldAugC C ta te rAdd f) tz D σ H :=
  h2 H (Ex.refl H) _ fun H1 e1 => ⟨a, dx, fs, .int i, rfl, e1 _ _ ha, hl, h1 H1 e1 _ fun H2 e2 => ⟨i, j, rfl, rfl, dx, fs, (e1.trans e2) _ _ ha, hn, k _ (ExU.upd (exu (e1.trans e2))) upd_same⟩⟩
/-- a method of an instance of C -/
theorem go_meth {m : Str} {sp : Sp} {E : XK} {t : TA} {vs : List V} {Q : VK} (h : Ev ta σ H (.ref a)) (ha : H a = some (.ins C dx fs)) (hl : fs.lookup m = none) (ht : ∀ H1, Ex H H1 → EvA t σ H1 vs) (k : ∀ H1, Ex H H1 → sp (.ref a :: vs) H1 Q E) : tMeth C m sp [] E ta t σ H Q :=
  h H (Ex.refl H) _ fun H1 e1 => ⟨a, dx, fs, rfl, e1 _ _ ha, hl, ht H1 e1 H1 (Ex.refl H1) _ fun H2 e2 => by rw [List.append_nil]; exact k H2 (e1.trans e2)⟩
theorem ev_meth {m : Str} {sp : Sp} {E : XK} {t : TA} {vs : List V} {z : V} (h : Ev ta σ H (.ref a)) (ha : H a = some (.ins C dx fs)) (hl : fs.lookup m = none) (ht : EvA t σ H vs) (hs : SpV sp (.ref a :: vs) H z) : Ev (tMeth C m sp [] E ta t) σ H z := fun H1 e Q q =>
  go_meth (h.mono e) (e _ _ ha) hl (fun H2 e2 => fun H3 e3 => ht H3 ((e.trans e2).trans e3)) fun H2 e2 => hs H2 (e.trans e2) Q (fun H3 e3 => q H3 (e2.trans e3)) E
/-- a sign is read here; P tells what is known then -/
def GoS (tk : TE) (σ : L2.St) (H : Hp) (P : Bool → Hp → Prop) : Prop := ∀ H1, Ex H H1 → ∀ Q : VK, (∀ c H', P c H' → Q (vB c) H') → tk σ H1 Q
theorem bc_one (c : Bool) : decide ([bc c] = [49]) = c := by cases c <;> decide
/-- .. and asked whether it is a one -/
theorem t_one {tk : TE} {P : Bool → Hp → Prop} {Q : Bool → Hp → Prop} (h : GoS tk σ H P) (k : ∀ c H' H2, P c H' → Ex H' H2 → Q c H2) : tTest (tOp rEq tk (tC (.str (T [49])))) σ H Q :=
  h H (Ex.refl H) _ fun c H' p => (ev_c : Ev (tC (.str (T [49]))) σ H' _) H' (Ex.refl H') _ fun H0 e0 => rv_eqT (a := [bc c]) (b := [49]) H0 (Ex.refl H0) _ fun H2 e2 => ⟨c, by rw [bc_one], k c H' H2 p (e0.trans e2)⟩
/-- number = number * 2 + int(sign == '1') -/
theorem s_num {tk : TE} {P : Bool → Hp → Prop} {i : Nat} {x : Int} {D : Ends} (hx : σ[i]? = some (some (.int x))) (hm : CMulX x 2) (h : GoS tk σ H P) (k : ∀ c H' H2, P c H' → Ex H' H2 → D.nx (σ.set i (some (.int (x * 2 + (if c then 1 else 0))))) H2) :
    tAsg (tOp rAddI (tOp rMulI (tVar i) (tC (.int 2))) (tCB rIntB (tCons (tOp rEq tk (tC (.str (T [49])))) tNil))) (gName i) D σ H :=
  (ev_mulI (ev_var hx) ev_c hm : Ev (tOp rMulI (tVar i) (tC (.int 2))) σ H _) H (Ex.refl H) _ fun H1 e1 => h H1 e1 _ fun c H' p => (ev_c : Ev (tC (.str (T [49]))) σ H' _) H' (Ex.refl H') _ fun H0 e0 => rv_eqT (a := [bc c]) (b := [49]) H0 (Ex.refl H0) _ fun H2 e2 =>
    Or.inr ⟨c, by rw [bc_one], ⟨_, _, rfl, rfl, k c H' H2 p (e0.trans e2)⟩⟩
theorem q_num {tk : TE} {P : Bool → Hp → Prop} {i : Nat} {x : Int} {D : Ends} {tz : TS} (hx : σ[i]? = some (some (.int x))) (hm : CMulX x 2) (h : GoS tk σ H P) (k : ∀ c H' H2, P c H' → Ex H' H2 → tz D (σ.set i (some (.int (x * 2 + (if c then 1 else 0))))) H2) :
    tSeq (tAsg (tOp rAddI (tOp rMulI (tVar i) (tC (.int 2))) (tCB rIntB (tCons (tOp rEq tk (tC (.str (T [49])))) tNil))) (gName i)) tz D σ H := s_num (D := { D with nx := tz D }) hx hm h k
/-- name = f(..), f's promise met -/
theorem q_asgF {sp : Sp} {E : XK} {t : TA} {vs : List V} {i : Nat} {D : Ends} {tz : TS} (h : EvA t σ H vs) (k : ∀ H1, Ex H H1 → sp vs H1 (fun v H2 => tz D (σ.set i (some v)) H2) E) : tSeq (tAsg (tCall sp [] E t) (gName i)) tz D σ H :=
  h H (Ex.refl H) _ fun H1 e1 => by rw [List.append_nil]; exact k H1 e1
theorem s_retSubF {sp : Sp} {E : XK} {t : TA} {vs : List V} {D : Ends} {c : Int} (h : EvA t σ H vs) (k : ∀ H1, Ex H H1 → sp vs H1 (fun v H2 => rSubI v (.int c) H2 D.rt) E) : tRet (tOp rSubI (tCall sp [] E t) (tC (.int c))) D σ H :=
  h H (Ex.refl H) _ fun H1 e1 => by rw [List.append_nil]; exact k H1 e1
theorem s_retF {sp : Sp} {E : XK} {t : TA} {vs : List V} {D : Ends} (h : EvA t σ H vs) (k : ∀ H1, Ex H H1 → sp vs H1 D.rt E) : tRet (tCall sp [] E t) D σ H :=
  h H (Ex.refl H) _ fun H1 e1 => by rw [List.append_nil]; exact k H1 e1
/-- C(..): the new instance stands when its __init__ is done -/
theorem go_make {sp : Sp} {E : XK} {t : TA} {vs : List V} {Q : VK} (ht : EvA t σ H vs) (k : ∀ x dx H1, Ex H H1 → H1 x = none → H1 dx = none → dx ≠ x → sp (.ref x :: vs) (upd (upd H1 dx (.own x)) x (.ins C dx [])) (fun v H2 => v = .non ∧ Q (.ref x) H2) E) : tMake C sp [] E t σ H Q :=
  ht H (Ex.refl H) _ fun H1 e1 x dx hx hd hne => by rw [List.append_nil]; exact k x dx H1 e1 hx hd hne
end
end Kr
/-! rows of counts, whole numbers and bounded numbers; what is read of them -/
namespace Kr
open PySem PySem.Spec PyProof.Rows L2 Evl
def neg (b : List Bool) : List Bool := b.map (!·)
theorem neg_len (b : List Bool) : (neg b).length = b.length := List.length_map _
theorem neg_neg (b : List Bool) : neg (neg b) = b := by
  induction b with
  | nil => rfl
  | cons x b ih =>
    show (!!x) :: neg (neg b) = x :: b
    rw [ih, Bool.not_not]
theorem neg_app (a b : List Bool) : neg (a ++ b) = neg a ++ neg b := List.map_append
/-- the k lower binary digits of x, the higher ones first -/
def digs (x : Int) : Nat → List Bool
  | 0 => []
  | k + 1 => decide (x / 2 ^ k % 2 = 1) :: digs x k
theorem digs_len (x : Int) (k : Nat) : (digs x k).length = k := by
  induction k with
  | zero => rfl
  | succ k ih => rw [digs, List.length_cons, ih]
theorem digs_map (x : Int) : ∀ k : Nat, digs x k = (List.range k).map fun i => decide (x / 2 ^ (k - 1 - i) % 2 = 1)
  | 0 => rfl
  | k + 1 => by
    rw [digs, List.range_succ_eq_map, List.map_cons, List.map_map, digs_map x k]
    congr 1
    refine List.map_congr_left fun i hi => ?_
    have : i < k := List.mem_range.mp hi
    show decide (x / 2 ^ (k - 1 - i) % 2 = 1) = decide (x / 2 ^ (k + 1 - 1 - (i + 1)) % 2 = 1)
    rw [show k + 1 - 1 - (i + 1) = k - 1 - i by omega]
/-- how many binary digits a number from one on has -/
def blen (m : Nat) : Nat := m.log2 + 1
theorem bits_nat {m : Nat} (h : 0 < m) : Builtin.Int.intBits (m : Int) = blen m := by
  unfold Builtin.Int.intBits blen
  rw [if_neg (by simp; omega)]
  rfl
/-- the row of a count -/
def countRow (n : Nat) : List Bool :=
  List.replicate (blen (blen (n + 1)) - 1) true ++ (if blen (blen (n + 1)) - 1 < 7 then [false] else []) ++ digs (blen (n + 1) : Nat) (blen (blen (n + 1)) - 1) ++ digs ((n + 1 : Nat) : Int) (blen (n + 1) - 1)
def countOk (n : Int) : Prop := 0 ≤ n ∧ n < 2 ^ 255 - 1
instance (n : Int) : Decidable (countOk n) := by unfold countOk; infer_instance
theorem blen_le {m k : Nat} (h : m < 2 ^ k) (hm : 0 < m) : blen m ≤ k := by
  unfold blen
  have := (Nat.log2_lt (by omega)).mpr h
  omega
theorem blen_gt {m k : Nat} (h : 2 ^ k ≤ m) : k < blen m := by
  unfold blen
  have hm : m ≠ 0 := by
    have := Nat.two_pow_pos k
    omega
  have := (Nat.le_log2 hm).mpr h
  omega
theorem blen_pos (m : Nat) : 0 < blen m := Nat.succ_pos _
theorem countRow_len {n : Nat} (h : countOk n) : (countRow n).length ≤ 300 := by
  have h1 : blen (n + 1) ≤ 255 := blen_le (by have := h.2; omega) (by omega)
  have h2 : blen (blen (n + 1)) ≤ 8 := blen_le (by omega) (blen_pos _)
  unfold countRow
  simp only [List.length_append, List.length_replicate, digs_len]
  split <;> simp <;> omega
def wholeOk (n : Int) : Prop := -(2 ^ 255) < n + 0 ∧ n < 2 ^ 255 - 1
def wholeRow (n : Int) : List Bool := if n < 0 then false :: neg (countRow (-1 - n).toNat) else true :: countRow n.toNat
theorem wholeOk_neg {n : Int} (h : n < 0) : wholeOk n ↔ countOk (-1 - n) := by
  unfold wholeOk countOk
  constructor
  · rintro ⟨a, b⟩; omega
  · rintro ⟨a, b⟩; omega
theorem wholeOk_pos {n : Int} (h : ¬ n < 0) : wholeOk n ↔ countOk n := by
  unfold wholeOk countOk
  constructor
  · rintro ⟨a, b⟩; omega
  · rintro ⟨a, b⟩; omega
/-- the binary digits of most, none for nought -/
def flen (m : Nat) : Nat := if m = 0 then 0 else blen m
theorem bits_all (m : Nat) : Builtin.Int.intBits (m : Int) = flen m := by
  unfold flen
  by_cases h : m = 0
  · subst h; rfl
  · rw [if_neg h, bits_nat (by omega)]
theorem flen_le {m k : Nat} (h : m < 2 ^ k) : flen m ≤ k := by
  unfold flen
  by_cases h0 : m = 0
  · rw [if_pos h0]; exact Nat.zero_le _
  · rw [if_neg h0]; exact blen_le h (by omega)
def fixedRow (n m : Int) : List Bool := digs n (flen m.toNat)
/-! ### rows read -/
/-- a row, turned or not -/
def nz (n : Bool) (l : List Bool) : List Bool := l.map (· != n)
theorem nz_false (l : List Bool) : nz false l = l := by
  induction l with
  | nil => rfl
  | cons x l ih => cases x <;> simp [nz] at ih ⊢ <;> exact ih
theorem nz_true (l : List Bool) : nz true l = neg l := by
  induction l with
  | nil => rfl
  | cons x l ih => cases x <;> simp [nz, neg] at ih ⊢
theorem nz_app (n : Bool) (a b : List Bool) : nz n (a ++ b) = nz n a ++ nz n b := List.map_append
theorem nz_neg (n : Bool) (l : List Bool) : nz n (neg l) = nz (!n) l := by
  unfold nz neg
  rw [List.map_map]
  refine List.map_congr_left fun c _ => ?_
  cases c <;> cases n <;> rfl
theorem nz_len (n : Bool) (l : List Bool) : (nz n l).length = l.length := List.length_map _
theorem takeB_at {b rest : List Bool} {f n w c : Bool} {t : Nat} (h : b.drop t = (c != n) :: rest) : takeB b f n w t = .ok c (t + 1) ∧ b.drop (t + 1) = rest := by
  have ht : b[t]? = some (c != n) := by
    rw [← List.head?_drop, h]
    rfl
  unfold takeB
  rw [ht]
  refine ⟨by cases c <;> cases n <;> rfl, ?_⟩
  rw [← List.tail_drop, h]
  rfl
theorem mod_two_pow (x : Int) (k : Nat) : x % 2 ^ (k + 1) = x / 2 ^ k % 2 * 2 ^ k + x % 2 ^ k := by
  have hp : (0 : Int) < 2 ^ k := Int.pow_pos (by decide)
  have hr0 := Int.emod_nonneg x (Int.ne_of_gt hp)
  have hr1 := Int.emod_lt_of_pos x hp
  have hx := Int.mul_ediv_add_emod x (2 ^ k)
  have hq := Int.mul_ediv_add_emod (x / 2 ^ k) 2
  have hq01 : x / 2 ^ k % 2 = 0 ∨ x / 2 ^ k % 2 = 1 := by omega
  generalize x % 2 ^ k = r at *
  generalize x / 2 ^ k = q at *
  generalize q % 2 = m at *
  generalize q / 2 = d at *
  have e : x = (m * 2 ^ k + r) + 2 ^ (k + 1) * d := by
    rw [Int.pow_succ, ← hx, ← hq]
    rw [Int.mul_add, Int.mul_comm m (2 ^ k), Int.mul_assoc (2 ^ k) 2 d]
    omega
  rw [e, Int.add_mul_emod_self_left]
  have h2 : (2 : Int) ^ (k + 1) = 2 * 2 ^ k := by rw [Int.pow_succ, Int.mul_comm]
  rcases hq01 with rfl | rfl
  · exact Int.emod_eq_of_lt (by omega) (by omega)
  · exact Int.emod_eq_of_lt (by omega) (by omega)
theorem tdig_at {b post : List Bool} {f n : Bool} {x : Int} : ∀ {k : Nat} {y : Int} {t : Nat}, b.drop t = nz n (digs x k) ++ post → tdig b f n k y t = .ok (y * 2 ^ k + x % 2 ^ k) (t + k) ∧ b.drop (t + k) = post
  | 0, y, t, h => by
    refine ⟨?_, h⟩
    unfold tdig
    rw [Int.pow_zero, Int.mul_one, Int.emod_one, Int.add_zero]
    rfl
  | k + 1, y, t, h => by
    obtain ⟨h1, h2⟩ := takeB_at (f := f) (w := false) (show b.drop t = (decide (x / 2 ^ k % 2 = 1) != n) :: (nz n (digs x k) ++ post) from h)
    unfold tdig
    rw [h1]
    obtain ⟨h3, h4⟩ := tdig_at (f := f) (y := y * 2 + (if decide (x / 2 ^ k % 2 = 1) = true then 1 else 0)) h2
    refine ⟨?_, by rw [show t + (k + 1) = t + 1 + k by omega]; exact h4⟩
    show tdig b f n k _ (t + 1) = _
    rw [h3, mod_two_pow, show t + (k + 1) = t + 1 + k by omega]
    congr 1
    have hp : (2 : Int) ^ (k + 1) = 2 * 2 ^ k := by rw [Int.pow_succ, Int.mul_comm]
    have : x / 2 ^ k % 2 = 0 ∨ x / 2 ^ k % 2 = 1 := by omega
    rw [hp, ← Int.mul_assoc]
    rcases this with h | h <;> rw [h] <;> simp
    rw [Int.add_mul, Int.one_mul]
    omega
theorem tones_at {b post : List Bool} {f n : Bool} : ∀ {k j o : Nat} {w : Bool} {t : Nat}, j ≤ k → b.drop t = nz n (List.replicate j true ++ (if j < k then [false] else [])) ++ post → tones b f n k w o t = .ok (o + j) (t + j + (if j < k then 1 else 0)) ∧ b.drop (t + j + (if j < k then 1 else 0)) = post
  | 0, j, o, w, t, hj, h => by
    obtain rfl : j = 0 := by omega
    exact ⟨rfl, h⟩
  | k + 1, 0, o, w, t, hj, h => by
    rw [if_pos (Nat.succ_pos k)] at h ⊢
    obtain ⟨h1, h2⟩ := takeB_at (f := f) (w := w) (c := false) (show b.drop t = (false != n) :: post from h)
    unfold tones
    rw [h1]
    exact ⟨rfl, h2⟩
  | k + 1, j + 1, o, w, t, hj, h => by
    obtain ⟨h1, h2⟩ := takeB_at (f := f) (w := w) (c := true) (show b.drop t = (true != n) :: (nz n (List.replicate j true ++ (if j + 1 < k + 1 then [false] else [])) ++ post) from h)
    have e : (if j + 1 < k + 1 then [false] else []) = (if j < k then [false] else [] : List Bool) := by
      by_cases q : j < k
      · rw [if_pos q, if_pos (by omega)]
      · rw [if_neg q, if_neg (by omega)]
    have e2 : (if j + 1 < k + 1 then 1 else 0) = (if j < k then 1 else 0 : Nat) := by
      by_cases q : j < k
      · rw [if_pos q, if_pos (by omega)]
      · rw [if_neg q, if_neg (by omega)]
    rw [e] at h2
    rw [e2]
    obtain ⟨h3, h4⟩ := tones_at (k := k) (j := j) (o := o + 1) (f := f) (w := false) (by omega) h2
    unfold tones
    rw [h1]
    refine ⟨?_, by rw [show t + (j + 1) = t + 1 + j by omega]; exact h4⟩
    show tones b f n k false (o + 1) (t + 1) = _
    rw [h3, show o + 1 + j = o + (j + 1) by omega, show t + 1 + j = t + (j + 1) by omega]
/-- the highest digit is a one -/
theorem blen_top {m : Nat} (h : 0 < m) : 1 * 2 ^ (blen m - 1) + (m : Int) % 2 ^ (blen m - 1) = m := by
  have h1 : 2 ^ (blen m - 1) ≤ m := by
    unfold blen
    exact Nat.log2_self_le (by omega)
  have h2 : m < 2 ^ blen m := by
    unfold blen
    exact Nat.lt_log2_self
  have h3 : 2 ^ blen m = 2 ^ (blen m - 1) * 2 := by
    rw [← Nat.pow_succ]
    congr 1
  have e : (m : Int) % 2 ^ (blen m - 1) = ((m % 2 ^ (blen m - 1) : Nat) : Int) := by simp
  rw [e, Int.one_mul]
  have e2 : m % 2 ^ (blen m - 1) = m - 2 ^ (blen m - 1) := by
    rw [Nat.mod_eq_sub_mod h1, Nat.mod_eq_of_lt (by omega)]
  rw [e2]
  have e3 : ((2 : Int) ^ (blen m - 1)) = ((2 ^ (blen m - 1) : Nat) : Int) := by simp
  rw [e3]
  omega
theorem countRow_size {m : Nat} (h : countOk m) : blen (m + 1) ≤ 255 ∧ blen (blen (m + 1)) ≤ 8 := by
  have h1 : blen (m + 1) ≤ 255 := blen_le (by have := h.2; omega) (by omega)
  exact ⟨h1, blen_le (by omega) (blen_pos _)⟩
theorem tcount_at {b post : List Bool} {f n w : Bool} {m t : Nat} (hm : countOk m) (h : b.drop t = nz n (countRow m) ++ post) : tcount b f n w t = .ok m (t + (countRow m).length) ∧ b.drop (t + (countRow m).length) = post := by
  obtain ⟨hs1, hs2⟩ := countRow_size hm
  have hz := blen_pos (blen (m + 1))
  unfold countRow at h ⊢
  have hM : (1 * 2 ^ (blen (m + 1) - 1) + ((m + 1 : Nat) : Int) % 2 ^ (blen (m + 1) - 1)) = ((m + 1 : Nat) : Int) := blen_top (Nat.succ_pos m)
  have hL : (1 * 2 ^ (blen (blen (m + 1)) - 1) + ((blen (m + 1) : Nat) : Int) % 2 ^ (blen (blen (m + 1)) - 1)) = ((blen (m + 1) : Nat) : Int) := blen_top (blen_pos _)
  have hpos := blen_pos (m + 1)
  generalize hj : blen (blen (m + 1)) - 1 = j at h hL ⊢
  generalize hl : blen (m + 1) = l at *
  rw [nz_app, nz_app, List.append_assoc, List.append_assoc] at h
  obtain ⟨h1, h2⟩ := tones_at (k := 7) (j := j) (o := 0) (f := f) (w := w) (by omega) h
  obtain ⟨h3, h4⟩ := tdig_at (f := f) (y := 1) h2
  obtain ⟨h5, h6⟩ := tdig_at (f := f) (y := 1) h4
  have len : (List.replicate j true ++ (if j < 7 then [false] else []) ++ digs (l : Int) j ++ digs ((m + 1 : Nat) : Int) (l - 1)).length = j + (if j < 7 then 1 else 0) + j + (l - 1) := by
    simp only [List.length_append, List.length_replicate, digs_len]
    split <;> rfl
  rw [len]
  refine ⟨?_, by rw [← h6]; congr 1; omega⟩
  unfold tcount
  rw [h1]
  show ((tdig b f n (0 + j) 1 _).bind _) = _
  rw [Nat.zero_add, h3]
  show ((tdig b f n (1 * 2 ^ j + (l : Int) % 2 ^ j - 1).toNat 1 _).bind _) = _
  rw [hL, show ((l : Int) - 1).toNat = l - 1 by omega, h5, hM]
  show Res.ok _ _ = Res.ok _ _
  congr 1
  · omega
  · omega
theorem twhole_at {b post : List Bool} {f n : Bool} {x : Int} {t : Nat} (hx : wholeOk x) (h : b.drop t = nz n (wholeRow x) ++ post) : twhole b f n t = .ok x (t + (wholeRow x).length) ∧ b.drop (t + (wholeRow x).length) = post := by
  unfold wholeRow at h ⊢
  by_cases h0 : x < 0
  · rw [if_pos h0] at h ⊢
    have hc : countOk (-1 - x) := (wholeOk_neg h0).mp hx
    obtain ⟨m, hm⟩ := Int.eq_ofNat_of_zero_le (show 0 ≤ -1 - x by omega)
    rw [hm] at h hc ⊢
    rw [Int.toNat_natCast] at h ⊢
    obtain ⟨h1, h2⟩ := takeB_at (f := f) (w := true) (c := false) (show b.drop t = (false != n) :: (nz n (neg (countRow m)) ++ post) from h)
    rw [nz_neg] at h2
    obtain ⟨h3, h4⟩ := tcount_at (f := f) (w := false) hc h2
    rw [List.length_cons, neg_len]
    refine ⟨?_, by rw [← h4]; congr 1; omega⟩
    unfold twhole
    rw [h1]
    show ((tcount b f (!n) false (t + 1)).bind _) = _
    rw [h3]
    show Res.ok _ _ = Res.ok _ _
    congr 1
    · omega
    · omega
  · rw [if_neg h0] at h ⊢
    have hc : countOk x := (wholeOk_pos h0).mp hx
    obtain ⟨m, hm⟩ := Int.eq_ofNat_of_zero_le (show 0 ≤ x by omega)
    subst hm
    rw [Int.toNat_natCast] at h ⊢
    obtain ⟨h1, h2⟩ := takeB_at (f := f) (w := true) (c := true) (show b.drop t = (true != n) :: (nz n (countRow m) ++ post) from h)
    obtain ⟨h3, h4⟩ := tcount_at (f := f) (w := false) hc h2
    rw [List.length_cons]
    refine ⟨?_, by rw [← h4]; congr 1; omega⟩
    unfold twhole
    rw [h1]
    show tcount b f n false (t + 1) = _
    rw [h3]
    congr 1
    omega
theorem div_digit (x : Int) (k : Nat) : x / 2 ^ (k + 1) * 2 + (if decide (x / 2 ^ k % 2 = 1) = true then 1 else 0) = x / 2 ^ k := by
  have h2 : x / 2 ^ (k + 1) = x / 2 ^ k / 2 := by
    rw [Int.pow_succ, Int.ediv_ediv_of_nonneg (Int.le_of_lt (Int.pow_pos (by decide)))]
  rw [h2]
  have : x / 2 ^ k % 2 = 0 ∨ x / 2 ^ k % 2 = 1 := by omega
  rcases this with h | h <;> rw [h] <;> simp <;> omega
theorem tfix_at {b post : List Bool} {f n : Bool} {x most : Int} (hx : x ≤ most) : ∀ {k : Nat} {t : Nat}, b.drop t = nz n (digs x k) ++ post → tfix b f n most k (x / 2 ^ k) t = .ok x (t + k) ∧ b.drop (t + k) = post
  | 0, t, h => by
    refine ⟨?_, h⟩
    unfold tfix
    rw [Int.pow_zero, Int.ediv_one]
    rfl
  | k + 1, t, h => by
    obtain ⟨h1, h2⟩ := takeB_at (f := f) (w := false) (show b.drop t = (decide (x / 2 ^ k % 2 = 1) != n) :: (nz n (digs x k) ++ post) from h)
    obtain ⟨h3, h4⟩ := tfix_at hx h2 (f := f)
    refine ⟨?_, by rw [show t + (k + 1) = t + 1 + k by omega]; exact h4⟩
    unfold tfix
    rw [h1]
    show (if x / 2 ^ (k + 1) * 2 + (if decide (x / 2 ^ k % 2 = 1) = true then 1 else 0) > most / 2 ^ k then _ else tfix b f n most k (x / 2 ^ (k + 1) * 2 + (if decide (x / 2 ^ k % 2 = 1) = true then 1 else 0)) (t + 1)) = _
    rw [div_digit, if_neg (by have := Int.ediv_le_ediv (Int.pow_pos (n := 2) (m := k) (by decide)) hx; omega), h3]
    congr 1
    omega
/-- the binary digits of a number, none for nought -/
def bin (m : Nat) : List Bool := digs (m : Int) (flen m)
end Kr
namespace Kr
open PySem PySem.Spec PyProof.Rows L2 Evl
theorem digs_last (x : Int) : ∀ k : Nat, digs x (k + 1) = digs (x / 2) k ++ [decide (x % 2 = 1)]
  | 0 => by
    show [decide (x / 2 ^ 0 % 2 = 1)] = _
    rw [Int.pow_zero, Int.ediv_one]
    rfl
  | k + 1 => by
    rw [digs, digs_last x k, digs]
    have : x / 2 / 2 ^ k = x / 2 ^ (k + 1) := by
      rw [Int.ediv_ediv_of_nonneg (by decide), Int.pow_succ, Int.mul_comm]
    rw [this]
    rfl
theorem bin_zero : bin 0 = [] := rfl
theorem flen_half {m : Nat} (h : 0 < m) : flen m = flen (m / 2) + 1 := by
  unfold flen
  rw [if_neg (by omega)]
  by_cases h2 : m / 2 = 0
  · rw [if_pos h2]
    obtain rfl : m = 1 := by omega
    rfl
  · rw [if_neg h2]
    unfold blen
    have h3 : m.log2 = (m / 2).log2 + 1 := by
      rw [Nat.log2_def m, if_pos (by omega)]
    rw [h3]
theorem bin_step {m : Nat} (h : 0 < m) : bin m = bin (m / 2) ++ [decide ((m : Int) % 2 = 1)] := by
  unfold bin
  rw [flen_half h, digs_last]
  congr 1
theorem bin_len (m : Nat) : (bin m).length = flen m := digs_len _ _
section
variable {K : PySem.W.Frag} {σ : L2.St} {H : Hp} {ta tb tc te : TE} {v x y z : V}
/-- an item of a tuple -/
theorem ev_ixU {p : Addr} {xs : List V} {i : Int} (ha : Ev ta σ H (.ref p)) (hp : H p = some (.tup xs)) (hb : Ev tb σ H (.int i)) (hv : atI xs i = some v) : Ev (tOp (rIxT K) ta tb) σ H v := ev_op ha hb (Evl.rv_ixT (st_of hp) hv)
theorem ev_lenU {p : Addr} {xs : List V} (ha : Ev ta σ H (.ref p)) (hp : H p = some (.tup xs)) : Ev (tCB (rLenK K) (tCons ta tNil)) σ H (.int (xs.length : Int)) := ev_lenS ha (.inr (st_of hp))
def SpU (sp : Sp) (vs : List V) (H : Hp) (xs : List V) : Prop := ∀ H1, Ex H H1 → ∀ Q : VK, RetU xs H1 Q → ∀ E : XK, sp vs H1 Q E
theorem eu_call {sp : Sp} {vs xs : List V} {E : XK} {t : TA} (h : EvA t σ H vs) (hs : SpU sp vs H xs) : EvU (tCall sp [] E t) σ H xs := fun H1 e Q q =>
  h H1 e _ fun H2 e2 => by
    rw [List.append_nil]
    exact hs H2 (e.trans e2) Q (fun p H3 hp e3 h3 => q p H3 (fresh_back e2 hp) (e2.trans e3) h3) E
/-- a call of three, the first a new tuple -/
theorem ev_callU3 {sp : Sp} {E : XK} {xs : List V} (h : EvU ta σ H xs) (hb : ∀ H1, Ex H H1 → Ev tb σ H1 x) (hc : ∀ H1, Ex H H1 → Ev tc σ H1 y) (hs : ∀ p H1, Ex H H1 → H1 p = some (.tup xs) → SpV sp [.ref p, x, y] H1 z) : Ev (tCall sp [] E (tCons ta (tCons tb (tCons tc tNil)))) σ H z := fun H1 e Q q =>
  h H1 e _ fun p H2 _ e2 hp => hb H2 (e.trans e2) H2 (Ex.refl H2) _ fun H3 e3 => hc H3 ((e.trans e2).trans e3) H3 (Ex.refl H3) _ fun H4 e4 => hs p H4 (((e.trans e2).trans e3).trans e4) ((e3.trans e4) _ _ hp) H4 (Ex.refl H4) Q (fun H5 e5 => q H5 (((e2.trans e3).trans e4).trans e5)) E
theorem ev_lenR {b : List Bool} (h : Ev ta σ H (.str (T (R b)))) (hl : b.length ≤ 16000000) : Ev (tCB (rLenK K) (tCons ta tNil)) σ H (.int (b.length : Int)) := by
  have := ev_lenT (K := K) h (by rw [R_len]; exact hl)
  rwa [R_len] at this
theorem ev_addR {a b : List Bool} (ha : Ev ta σ H (.str (T (R a)))) (hb : Ev tb σ H (.str (T (R b)))) (h : a.length + b.length ≤ 16000000) : Ev (tOp rAddT ta tb) σ H (.str (T (R (a ++ b)))) := by
  rw [R_app]
  exact ev_addT ha hb (by rw [R_len, R_len]; exact h)
end
theorem two_step {x : Int} {m : Nat} (c : Bool) (h : x.natAbs < 2 ^ m) : (x * 2 + (if c then 1 else 0)).natAbs < 2 ^ (m + 1) := by
  rw [Nat.pow_succ]
  cases c <;> simp <;> omega
theorem zeros_R (n : Nat) : (List.replicate n [48]).flatten = R (List.replicate n false) := by
  induction n with
  | zero => rfl
  | succ n ih => rw [List.replicate_succ, List.flatten_cons, ih, List.replicate_succ]; rfl
theorem ev_zeros {σ : L2.St} {H : Hp} {te : TE} {n : Int} (h : Ev te σ H (.int n)) (h0 : -1000 ≤ n) (h1 : n ≤ 1000) : Ev (tOp rMulT (tC (.str (T [48]))) te) σ H (.str (T (R (List.replicate n.toNat false)))) :=
  ev_is (ev_mulT ev_c h (by omega) (by omega) (by simp; omega)) (by rw [zeros_R])
end Kr
/-! the rows of counts and whole numbers stand as the numbers do; beginnings of texts -/
namespace Kr
open PySem PySem.Spec PyProof.Rows L2 Evl
/-- two rows part at a place, the one has 0 there, the other 1 -/
def Split (a b : List Bool) : Prop := ∃ p s t, a = p ++ false :: s ∧ b = p ++ true :: t
theorem Split.lt {a b : List Bool} (h : Split a b) : R a < R b := by
  obtain ⟨p, s, t, rfl, rfl⟩ := h
  exact R_lt_split
theorem Split.pre {a b : List Bool} (h : Split a b) (c : List Bool) : Split (c ++ a) (c ++ b) := by
  obtain ⟨p, s, t, rfl, rfl⟩ := h
  exact ⟨c ++ p, s, t, by rw [List.append_assoc], by rw [List.append_assoc]⟩
theorem Split.post {a b : List Bool} (h : Split a b) (c d : List Bool) : Split (a ++ c) (b ++ d) := by
  obtain ⟨p, s, t, rfl, rfl⟩ := h
  exact ⟨p, s ++ c, t ++ d, by rw [List.append_assoc]; rfl, by rw [List.append_assoc]; rfl⟩
theorem Split.neg {a b : List Bool} (h : Split a b) : Split (neg b) (neg a) := by
  obtain ⟨p, s, t, rfl, rfl⟩ := h
  exact ⟨Kr.neg p, Kr.neg t, Kr.neg s, by rw [neg_app]; rfl, by rw [neg_app]; rfl⟩
theorem Split.no1 {a b : List Bool} (h : Split a b) : ¬ a <+: b := by
  obtain ⟨p, s, t, rfl, rfl⟩ := h
  intro ⟨c, hc⟩
  rw [List.append_assoc] at hc
  have := List.append_cancel_left hc
  simp at this
theorem Split.no2 {a b : List Bool} (h : Split a b) : ¬ b <+: a := by
  obtain ⟨p, s, t, rfl, rfl⟩ := h
  intro ⟨c, hc⟩
  rw [List.append_assoc] at hc
  have := List.append_cancel_left hc
  simp at this
theorem Split.ne {a b : List Bool} (h : Split a b) : a ≠ b := fun z => h.no1 (by rw [z]; exact List.prefix_refl _)
theorem digs_split {x y : Int} : ∀ {k : Nat}, x % 2 ^ k < y % 2 ^ k → Split (digs x k) (digs y k)
  | 0, h => by
    rw [Int.pow_zero, Int.emod_one, Int.emod_one] at h
    exact absurd h (Int.lt_irrefl _)
  | k + 1, h => by
    rw [mod_two_pow x, mod_two_pow y] at h
    have hp : (0 : Int) < 2 ^ k := Int.pow_pos (by decide)
    have x0 := Int.emod_nonneg x (Int.ne_of_gt hp)
    have x1 := Int.emod_lt_of_pos x hp
    have y0 := Int.emod_nonneg y (Int.ne_of_gt hp)
    have y1 := Int.emod_lt_of_pos y hp
    have dx : x / 2 ^ k % 2 = 0 ∨ x / 2 ^ k % 2 = 1 := by omega
    have dy : y / 2 ^ k % 2 = 0 ∨ y / 2 ^ k % 2 = 1 := by omega
    rw [digs, digs]
    rcases dx with dx | dx <;> rcases dy with dy | dy <;> rw [dx, dy] at h ⊢
    · exact (digs_split (k := k) (by simpa using h)).pre [false]
    · exact ⟨[], digs x k, digs y k, rfl, rfl⟩
    · exact absurd h (by omega)
    · exact (digs_split (k := k) (by omega)).pre [true]
theorem blen_mono {n m : Nat} (h0 : 0 < n) (h : n ≤ m) : blen n ≤ blen m := by
  refine blen_le ?_ h0
  unfold blen
  exact Nat.lt_of_le_of_lt h Nat.lt_log2_self
/-- numbers of as many digits: what follows the first digit stands as the numbers -/
theorem top_lt {n m : Nat} (h0 : 0 < n) (h : n < m) (e : blen n = blen m) : ((n : Int) % 2 ^ (blen n - 1)) < ((m : Int) % 2 ^ (blen n - 1)) := by
  have h1 := blen_top h0
  have h2 := blen_top (show 0 < m by omega)
  rw [← e] at h2
  omega
theorem rep_split {i j : Nat} (h : i < j) (c : List Bool) : Split (List.replicate i true ++ false :: c) (List.replicate j true) := by
  refine ⟨List.replicate i true, c, List.replicate (j - i - 1) true, rfl, ?_⟩
  have : j = i + ((j - i - 1) + 1) := by omega
  conv => lhs; rw [this]
  rw [← List.replicate_append_replicate, List.replicate_succ]
theorem countRow_split {n m : Nat} (hn : countOk n) (hm : countOk m) (h : n < m) : Split (countRow n) (countRow m) := by
  obtain ⟨a1, a2⟩ := countRow_size hn
  obtain ⟨b1, b2⟩ := countRow_size hm
  have hL : blen (n + 1) ≤ blen (m + 1) := blen_mono (by omega) (by omega)
  have hS : blen (blen (n + 1)) ≤ blen (blen (m + 1)) := blen_mono (blen_pos _) hL
  have p1 := blen_pos (blen (n + 1))
  unfold countRow
  by_cases e : blen (blen (n + 1)) = blen (blen (m + 1))
  · rw [← e]
    by_cases e2 : blen (n + 1) = blen (m + 1)
    · rw [← e2]
      refine Split.pre (digs_split ?_) _
      exact top_lt (by omega) (by omega) e2
    · refine Split.post (Split.pre (digs_split ?_) _) _ _
      exact top_lt (blen_pos _) (by omega) e
  · rw [if_pos (by omega)]
    have := rep_split (i := blen (blen (n + 1)) - 1) (j := blen (blen (m + 1)) - 1) (by omega) []
    have h2 := this.post (digs (blen (n + 1) : Nat) (blen (blen (n + 1)) - 1) ++ digs ((n + 1 : Nat) : Int) (blen (n + 1) - 1)) ((if blen (blen (m + 1)) - 1 < 7 then [false] else []) ++ digs (blen (m + 1) : Nat) (blen (blen (m + 1)) - 1) ++ digs ((m + 1 : Nat) : Int) (blen (m + 1) - 1))
    simpa [List.append_assoc] using h2
theorem wholeRow_split {x y : Int} (hx : wholeOk x) (hy : wholeOk y) (h : x < y) : Split (wholeRow x) (wholeRow y) := by
  unfold wholeRow
  by_cases h0 : x < 0
  · by_cases h1 : y < 0
    · rw [if_pos h0, if_pos h1]
      have cx := (wholeOk_neg h0).mp hx
      have cy := (wholeOk_neg h1).mp hy
      refine Split.pre (c := [false]) (Split.neg (countRow_split ?_ ?_ (by omega)))
      · rw [Int.toNat_of_nonneg (by omega)]; exact cy
      · rw [Int.toNat_of_nonneg (by omega)]; exact cx
    · rw [if_pos h0, if_neg h1]
      exact ⟨[], _, _, rfl, rfl⟩
  · have h1 : ¬ y < 0 := by omega
    rw [if_neg h0, if_neg h1]
    have cx := (wholeOk_pos h0).mp hx
    have cy := (wholeOk_pos h1).mp hy
    refine Split.pre (c := [true]) (countRow_split ?_ ?_ (by omega))
    · rw [Int.toNat_of_nonneg (by omega)]; exact cx
    · rw [Int.toNat_of_nonneg (by omega)]; exact cy
theorem countRow_most {n : Nat} (h : countOk n) : (countRow n).length ≤ blen (n + 1) + 14 := by
  obtain ⟨a1, a2⟩ := countRow_size h
  have p1 := blen_pos (blen (n + 1))
  have p2 := blen_pos (n + 1)
  unfold countRow
  simp only [List.length_append, List.length_replicate, digs_len]
  split <;> simp <;> omega
theorem wholeRow_len {x : Int} (h : wholeOk x) : (wholeRow x).length ≤ 301 := by
  unfold wholeRow
  by_cases h0 : x < 0
  · rw [if_pos h0, List.length_cons, neg_len]
    have := countRow_len (n := (-1 - x).toNat) (by rw [Int.toNat_of_nonneg (by omega)]; exact (wholeOk_neg h0).mp h)
    omega
  · rw [if_neg h0, List.length_cons]
    have := countRow_len (n := x.toNat) (by rw [Int.toNat_of_nonneg (by omega)]; exact (wholeOk_pos h0).mp h)
    omega
section
variable {K : PySem.W.Frag} {σ : L2.St} {H : Hp} {ta tb : TE} {x z : V}
/-- a call of two, the second a value of which a word holds -/
theorem ev_callW2 {sp : Sp} {E : XK} {P : V → Prop} (ha : Ev ta σ H x) (hb : EvW tb σ H P) (hs : ∀ y H1, P y → Ex H H1 → SpV sp [x, y] H1 z) : Ev (tCall sp [] E (tCons ta (tCons tb tNil))) σ H z := fun H1 e Q q =>
  ha H1 e _ fun H2 e2 => hb H2 (e.trans e2) _ fun y H3 hy e3 => hs y H3 hy ((e.trans e2).trans e3) H3 (Ex.refl H3) Q (fun H4 e4 => q H4 ((e2.trans e3).trans e4)) E
/-- a call of two, the first what makes or reads -/
theorem go_call2 {te tw : TE} {sp : Sp} {E : XK} {Q : VK} {w : V} {P : V → Hp → Prop} (h : ∀ Q2 : VK, (∀ x H1, P x H1 → Q2 x H1) → te σ H Q2) (hw : ∀ H1, Ev tw σ H1 w) (k : ∀ x H1 H2, P x H1 → Ex H1 H2 → sp [x, w] H2 Q E) : tCall sp [] E (tCons te (tCons tw tNil)) σ H Q :=
  h _ fun x H1 p => hw H1 H1 (Ex.refl H1) _ fun H2 e2 => k x H1 H2 p e2
/-- return a op b, b what promises more -/
theorem s_retOpF {r : R2} {D : Ends} (ha : Ev ta σ H x) (k : ∀ H1, Ex H H1 → tb σ H1 (fun y H2 => r x y H2 D.rt)) : tRet (tOp r ta tb) D σ H := ha H (Ex.refl H) _ k
theorem s_retW {P : V → Prop} {D : Ends} (h : EvW tb σ H P) (k : ∀ v H1, P v → Ex H H1 → D.rt v H1) : tRet tb D σ H := h H (Ex.refl H) _ k
end
/-! ### startswith -/
def rStarts : V → List V → Hp → VK → Prop := fun x xs H Q => ∃ a b, x = .str a ∧ xs = [.str b] ∧ Q (.bl (Txt.startswith a b)) H
theorem mt_starts {X : Cx} : MtR X "str.startswith" rStarts := mt_startswith
theorem starts_T (a b : List Nat) : Txt.startswith (T a) (T b) = decide (b <+: a) := by
  unfold Txt.startswith
  rw [PySem.StrLaws.subAt_eq]
  show (decide (0 + (T b).length ≤ (T a).length) && (((T a).cps.toList.drop 0).take (T b).length == (T b).cps.toList)) = _
  rw [T_len, T_len]
  have e : (T a).cps.toList = a := rfl
  have e2 : (T b).cps.toList = b := rfl
  rw [e, e2, List.drop_zero, Nat.zero_add]
  by_cases h : b <+: a
  · rw [decide_eq_true h, decide_eq_true h.length_le, Bool.true_and, beq_iff_eq]
    exact (List.prefix_iff_eq_take.mp h).symm
  · rw [decide_eq_false h, Bool.and_eq_false_iff]
    refine .inr ?_
    rw [beq_eq_false_iff_ne]
    exact fun z => h (List.prefix_iff_eq_take.mpr z.symm)
theorem R_pre {a b : List Bool} : R b <+: R a ↔ b <+: a := by
  constructor
  · intro ⟨c, hc⟩
    refine List.prefix_iff_eq_take.mpr ?_
    have := congrArg (List.take (R b).length) hc
    rw [List.take_left, R_len, R_take] at this
    exact R_inj this
  · intro ⟨c, hc⟩
    exact ⟨R c, by rw [← R_app, hc]⟩
theorem ev_startsR {K : PySem.W.Frag} {σ : L2.St} {H : Hp} {ta tb : TE} {a b : List Bool} (ha : Ev ta σ H (.str (T (R a)))) (hb : Ev tb σ H (.str (T (R b)))) : Ev (tBM K "str" rStarts ta (tCons tb tNil)) σ H (.bl (decide (b <+: a))) := fun H1 e Q q =>
  ha H1 e _ fun H2 e2 => ⟨rfl, hb H2 (e.trans e2) _ fun H3 e3 => ⟨T (R a), T (R b), rfl, rfl, by
    have := q H3 (e2.trans e3)
    rw [starts_T]
    rwa [show decide (R b <+: R a) = decide (b <+: a) from decide_eq_decide.mpr R_pre]⟩⟩
theorem cut_lenN {ns : List Int} (k : Nat) : ((cutV (ns.map V.int) none (some (k : Int))).length : Int) = ((min k ns.length : Nat) : Int) := by
  unfold cutV
  rw [HT.sIx_none, HT.sIx_nat]
  simp
end Kr
/-! errors raised where nothing is handled (their context is None), and an except suite that raises another one -/
namespace Kr
open PySem PySem.Spec PyProof.Rows L2 Evl
section
variable {P : Program} {w : World} {K : PySem.W.Frag} {mg : Str → Option Value} {base : Heap} {k : Nat} {f : Addr} {fd : FuncData} {ps : List Str} {sp : Sp}
theorem cxN_up {outer : List Env} {H : Hp} {s s' : Shared} {E : XK} {u : Value} (h : L2N.CX P w outer H s E u s') : L2.CX P w outer H s E u s' := by
  obtain ⟨a, B, H1, cls, d, e, fl, r⟩ := h
  exact ⟨a, B, H1, cls, d, e, L2H.flyingZ_imp (fun _ z => L2N.Zn.zc z) fl, r⟩
/-- a def whose errors have no context keeps the weaker promise too -/
theorem fnok_up (F : FnOk P w K mg base (L2N.CX P w) k f fd ps sp) : FnOk P w K mg base (L2.CX P w) k f fd ps sp :=
  ⟨F.len, fun A outer s H args us vs Q E hr he hb hv hs => codeAny_mono (F.run A outer s H args us vs Q E hr he hb hv hs) fun r s' x => by
    cases r with
    | ok fl => cases fl <;> exact x
    | error er => exact cxN_up x⟩
end
theorem passLN {X : Cx} : Passes (L2N.CX X.prog X.w) X E0 := fun _ _ _ _ _ _ _ h => by
  obtain ⟨_, _, _, _, _, _, _, _, _, _, _, _, z⟩ := h
  exact z.elim
section
variable {X : Cx} {e : Expr} {es : List Expr} {ta : TA} {p pos : Pos}
/-- C(..) with an own __init__, nothing being handled: the new error's context is None -/
theorem pmkN_oex {CX : CXT} {x : Str} {C fI : Addr} {k : Nat} {fd : FuncData} {ps : List Str} {sp : Sp} (T : OexC X.K C) (iC : PySem.W.findIn X.K (.ref C) "__init__" = some (some (.ref fI))) (tI : PySem.W.typeIn X.K (.ref fI) = some (.type "function"))
    (F1 : FnOk X.prog X.w X.K X.mg X.base CX k fI fd ps sp) (room : Room (k + 1) X.A) (bi : Binds X.K fd ps []) (no : Passes CX X (fun _ _ _ => False)) (gx : Gl X x) (mx : X.mg x = some (.ref C)) (pa : PA X (e :: es) ta)
    (dbg : (x == ("__debug__" : Str)) = false := by decide) (se : starEach (e :: es) X.env = (false, eval e X.env) :: starEach es X.env := by rfl) (pl : (backTo pos (starEach es X.env)).any (·.1) = false := by rfl) :
    L2N.PMk X (.Call (.Name x p) (e :: es) [] pos) (tMkO C sp [] ta) := fun pn0 s0 σ0 H0 Q0 J0 w0 => by
  obtain ⟨_, _, _, _, bm, _, _, _, _, _, _, _, _, _, _, lk, mro⟩ := T.cls
  refine wpAny_Call_Name_kw (ld_glob J0 gx mx (PySem.W.callWith_K (h₀ := X.base) J0.ok.mod.kin T.kC (thn (pa.run pos pn0 s0 σ0 H0 _ J0 w0) fun us sA ⟨ws, HA, JA, rA, lA, wA⟩ => ⟨JA.kIn, ?_⟩) se pl) dbg)
  obtain ⟨hA, gA, dA, tA, oA⟩ := sA
  show wpAny _ _ (call (.ref C) us) _ _ _
  let n := hA.objs.size
  let hB := (hA.push (PySem.W.kdv_tup us)).push (PySem.HandSPX.excO C n)
  have old : ∀ b o, hA.get? b = some o → hB.get? b = some o := fun b o q => Heap.get?_push_of_some _ (Heap.get?_push_of_some _ q)
  have at1 : hB.get? (n + 1) = some (PySem.HandSPX.excO C n) := by
    show ((hA.push (PySem.W.kdv_tup us)).push (PySem.HandSPX.excO C hA.objs.size)).get? (hA.objs.size + 1) = some (PySem.HandSPX.excO C hA.objs.size)
    heap_get
  have le : hA.objs.size ≤ n + 1 := Nat.le_succ _
  have promise := wA (n + 1) (JA.hok.fresh le)
  have JB : Inv X pn0 σ0 (upd HA (n + 1) (exo (n + 1) C none)) ⟨hB, gA, dA, tA, oA⟩ := JA.laid (t' := tA) (a := n + 1) (o := exo (n + 1) C none) (h' := hB) old le (exo_ok at1)
  have rB : Vals (V.ref (n + 1) :: (ws ++ [])) (Value.ref (n + 1) :: (us ++ [])) := .cons rfl (rA.append .nil)
  have sizes : us.length ≤ sizeLine := by
    rw [← Paired.length rA, sizeLine_eq]; omega
  have many : (Value.ref (n + 1) :: us ++ []).length = ps.length := (rB.length.symm.trans (F1.len _ _ _ _ promise))
  have bb := bi _ (Value.ref (n + 1) :: us) JB.kIn many
  rw [List.cons_append] at bb
  have ran := F1.run _ X.stack _ _ ⟨Value.ref (n + 1) :: us, []⟩ (Value.ref (n + 1) :: (us ++ [])) _ _ (fun _ _ _ => False) (room.make C us []) (JB.env0.make C us []) bb rB promise
  refine wpAny_call (PySem.HandSPX.call_own F.excBase_ValueError (fun Y => PySem.HandSPX.refsVE_contains Y bm mro) (JA.kIn _ _ lk) (PySem.W.looks_findIn JA.kIn iC) (fun self => PySem.W.bind_fn JA.kIn self tI) sizes (codeAny_mono ran fun r sC out => ?_))
  match r, out with
  | .error er, out => exact no pn0 σ0 _ _ er sC JB out
  | .ok (.ret u), out =>
    obtain ⟨v, HC, osC, bareC, unC, okC, rv, non, d, fs, e1, e2, e3, qC⟩ := out
    subst non
    obtain ⟨hC, gC, dC, tC, oC⟩ := sC
    obtain ⟨t0, G, JG, kG, ge, hoe, na⟩ := mk_end0 (d2 := dC) (t2 := tC) JA le old unC okC osC bareC e1 e2 e3
    exact ⟨rv, n + 1, _, _, ⟨G, gC, dC, tC, oC⟩, _, .ref C, some d, rfl, JG, kG, ge, hoe, ⟨rfl, rfl, fun vs hv => by cases hv; rfl⟩, rfl, rfl, na, rfl, bareC, raises_own T.exC T.tyC, qC⟩
  | .ok .next, out => exact False.elim out
  | .ok .brk, out => exact False.elim out
  | .ok .cont, out => exact False.elim out
/-- X('..') made while an error is handled, or not -/
theorem pmkN_txt {x m : Str} {C : Addr} {j : Nat} {p p2 pos : Pos}
    (c : PySem.W.excIn X.K C He.veBase "ValueError.__new__" = true ∧ PySem.W.keepIn X.K (.ref C) = true ∧ PySem.W.subIn X.K (.ref C) (.type "BaseException") = some true ∧ PySem.W.typeIn X.K (.ref C) = some (.type "type"))
    (g : X.mg x = some (.ref C)) (hg : Gl X x := by rfl) (hd : (x == ("__debug__" : Str)) = false := by decide) :
    L2N.PMk X (.Call (.Name x p) [.Constant (.str m) j p2] [] pos) (fun _ H Q => Q (.ref C) none H) :=
  L2N.pmk_own PySem.F.excBase_ValueError c.1 g c.2.1 (raises_own c.2.2.1 c.2.2.2) hg hd
end
/-! ### more of lists -/
def rListK (K : PySem.W.Frag) : List V → Hp → VK → Prop := fun xs H Q => ∃ p ys, xs = [.ref p] ∧ (SqL K H p ys ∨ SqT K H p ys) ∧ ∀ l, H l = none → Q (.ref l) (upd H l (.lst ys))
def rInsertK : V → List V → Hp → VK → Prop := fun x vs H Q => ∃ (l : Addr) (xs : List V) (i : Int) (y : V), x = .ref l ∧ vs = [.int i, y] ∧ H l = some (.lst xs) ∧ xs.length < sizeLine ∧ 0 ≤ i ∧ i < 2 ^ 63 ∧ Q .non (upd H l (.lst (xs.take i.toNat ++ [y] ++ xs.drop i.toNat)))
def rAbs : List V → Hp → VK → Prop := fun xs H Q => ∃ i, xs = [.int i] ∧ Q (.int (if i < 0 then -i else i)) H
section
variable {X : Cx}
theorem call_listK : CallR X (.type "list") (rListK X.K) := call_list_of
theorem mt_insertK : MtR X "list.insert" rInsertK := mt_insert
end
section
variable {K : PySem.W.Frag} {σ : L2.St} {H : Hp} {ta tb te : TE} {v : V} {D : Ends} {tz : TS}
theorem el_copy {p : Addr} {ys : List V} (h : Ev ta σ H (.ref p)) (hs : SqL K H p ys) : EvL (tCB (rListK K) (tCons ta tNil)) σ H ys := fun H1 e Q q =>
  h H1 e _ fun H2 e2 => ⟨p, ys, rfl, .inl (ex_l (e.trans e2) hs), fun l hl => q l _ (fresh_back e2 hl) (e2.trans (Ex.new hl)) upd_same⟩
theorem q_insert {l : Addr} {xs : List V} {i : Nat} (hl : H l = some (.lst xs)) (ha : Ev ta σ H (.ref l)) (hi : Ev tb σ H (.int (i : Int))) (hv : Ev te σ H v) (hz : xs.length < 100000) (hi2 : i < 100000) (k : ∀ H1, Ex H H1 → tz D σ (upd H1 l (.lst (xs.take i ++ [v] ++ xs.drop i)))) :
    tSeq (tDrop (tBM K "list" rInsertK ta (tCons tb (tCons te tNil)))) tz D σ H :=
  ha H (Ex.refl H) _ fun H1 e1 => ⟨.inl ⟨rfl, xs, sq_of (e1 _ _ hl)⟩, hi H1 e1 _ fun H2 e2 => hv H2 (e1.trans e2) _ fun H3 e3 => ⟨l, xs, i, v, rfl, rfl, ((e1.trans e2).trans e3) _ _ hl, sz_lt hz, by omega, by omega, k H3 ((e1.trans e2).trans e3)⟩⟩
theorem s_insert {l : Addr} {xs : List V} {i : Nat} (hl : H l = some (.lst xs)) (ha : Ev ta σ H (.ref l)) (hi : Ev tb σ H (.int (i : Int))) (hv : Ev te σ H v) (hz : xs.length < 100000) (hi2 : i < 100000) (k : ∀ H1, Ex H H1 → D.nx σ (upd H1 l (.lst (xs.take i ++ [v] ++ xs.drop i)))) :
    tDrop (tBM K "list" rInsertK ta (tCons tb (tCons te tNil))) D σ H :=
  ha H (Ex.refl H) _ fun H1 e1 => ⟨.inl ⟨rfl, xs, sq_of (e1 _ _ hl)⟩, hi H1 e1 _ fun H2 e2 => hv H2 (e1.trans e2) _ fun H3 e3 => ⟨l, xs, i, v, rfl, rfl, ((e1.trans e2).trans e3) _ _ hl, sz_lt hz, by omega, by omega, k H3 ((e1.trans e2).trans e3)⟩⟩
theorem q_clear {l : Addr} {xs : List V} (hl : H l = some (.lst xs)) (ha : Ev ta σ H (.ref l)) (k : ∀ H1, Ex H H1 → tz D σ (upd H1 l (.lst []))) : tSeq (tDrop (tBM0 K "list" rClear ta)) tz D σ H :=
  ha H (Ex.refl H) _ fun H1 e1 => ⟨.inl ⟨rfl, xs, sq_of (e1 _ _ hl)⟩, l, xs, rfl, rfl, e1 _ _ hl, k H1 e1⟩
end
/-- try: .. except c: raise C('..') -/
def tTryRaise (K : PySem.W.Frag) (c : Value) (tb : WX → TS) (C : Value) (E : XK) : TS := fun D σ H => tb (wOnly K c (fun _ _ _ => tRaiseX C E) (fun cls d _ H => E cls d H) D) D σ H
end Kr
/-! pages: rows that ascend, the page made of them, the rows read of a page -/
namespace Kr
open PySem PySem.Spec PyProof.Rows L2 Evl
section
variable {K : PySem.W.Frag} {σ : L2.St} {H : Hp} {tl : TE} {D : Ends} {tu tz : TS}
/-- for i, x in enumerate(xs) -/
theorem s_forEnum {a : Addr} {xs : List V} {i j : Nat} (h : Ev tl σ H (.ref a)) (hx : SqL K H a xs) (Pv : Nat → L2.St → Hp → Prop) (h0 : ∀ H1, Ex H H1 → Pv 0 σ H1) (hl : ∀ k σ' H', k ≤ xs.length → Pv k σ' H' → SqL K H' a xs)
    (hs : ∀ k x σ' H' H2, xs[k]? = some x → Pv k σ' H' → Ex H' H2 → tu { D with nx := Pv (k + 1), ct := Pv (k + 1), bk := D.nx } ((σ'.set i (some (.int (k : Int)))).set j (some x)) H2) (hd : ∀ σ' H', Pv xs.length σ' H' → D.nx σ' H') :
    tFor (iEnum K (tCons tl tNil)) (gTup K 2 (gCons (gName i) (gCons (gName j) gNil))) tu D σ H :=
  h H (Ex.refl H) _ fun H1 e1 => ⟨a, xs, rfl, ex_l e1 hx, fun k m σ' H' => m = xs.length - k ∧ k ≤ xs.length ∧ Pv k σ' H', ⟨xs.length, rfl, Nat.zero_le _, h0 H1 e1⟩, by
    rintro k m σ' H' ⟨rfl, hk, p⟩
    by_cases hlt : k < xs.length
    · have hat : xs[k]? = some xs[k] := List.getElem?_eq_getElem hlt
      refine .inr ⟨⟨xs, xs[k], hl k σ' H' hk p, hat⟩, Pv (k + 1), fun σ2 H2 p2 => ⟨xs.length - (k + 1), by omega, rfl, hlt, p2⟩, ?_⟩
      rintro v H2 ⟨T, x, rfl, hT, rfl, hall⟩
      have hxx := hall xs (hl k σ' H' hk p)
      exact ⟨T, [.int (k : Nat), x], rfl, st_of upd_same, rfl, .int (k : Nat), [x], rfl, x, [], rfl, rfl, hs k x σ' H' _ hxx p (Ex.new hT)⟩
    · have : k = xs.length := by omega
      subst this
      exact .inl ⟨⟨xs, hl _ σ' H' hk p, Nat.le_refl _⟩, hd σ' H' p⟩⟩
theorem q_forEnum {a : Addr} {xs : List V} {i j : Nat} (h : Ev tl σ H (.ref a)) (hx : SqL K H a xs) (Pv : Nat → L2.St → Hp → Prop) (h0 : ∀ H1, Ex H H1 → Pv 0 σ H1) (hl : ∀ k σ' H', k ≤ xs.length → Pv k σ' H' → SqL K H' a xs)
    (hs : ∀ k x σ' H' H2, xs[k]? = some x → Pv k σ' H' → Ex H' H2 → tu { D with nx := Pv (k + 1), ct := Pv (k + 1), bk := tz D } ((σ'.set i (some (.int (k : Int)))).set j (some x)) H2) (hd : ∀ σ' H', Pv xs.length σ' H' → tz D σ' H') :
    tSeq (tFor (iEnum K (tCons tl tNil)) (gTup K 2 (gCons (gName i) (gCons (gName j) gNil))) tu) tz D σ H := s_forEnum (D := { D with nx := tz D }) h hx Pv h0 hl hs hd
/-- a, b = f(..), f telling a new tuple -/
theorem q_tupF {sp : Sp} {E : XK} {t : TA} {vs : List V} {i j : Nat} (h : EvA t σ H vs) (k : ∀ H1, Ex H H1 → ∀ Q2 : VK, (∀ x y, (∀ H2, Ex H1 H2 → tz D ((σ.set i (some x)).set j (some y)) H2) → RetU [x, y] H1 Q2) → sp vs H1 Q2 E) :
    tSeq (tAsg (tCall sp [] E t) (gTup K 2 (gCons (gName i) (gCons (gName j) gNil)))) tz D σ H :=
  h H (Ex.refl H) _ fun H1 e1 => by
    rw [List.append_nil]
    exact k H1 e1 _ fun x y hk p H2 hp e2 h2 => ⟨p, [x, y], rfl, st_of h2, rfl, x, [y], rfl, y, [], rfl, rfl, hk H2 e2⟩
end
section
variable {K : PySem.W.Frag} {σ : L2.St} {H : Hp} {D : Ends}
theorem s_tryR {c C : Value} {tb : WX → TS} {E : XK} (h : tb (wOnly K c (fun _ _ _ => tRaiseX C E) (fun cls d _ H => E cls d H) D) D σ H) : tTryRaise K c tb C E D σ H := h
theorem s_retX {sp : Sp} {vs : List V} {E : L2.St → XK} {ta : TA} (h : EvA ta σ H vs) (k : ∀ H1, Ex H H1 → sp vs H1 D.rt (E σ)) : tRet (tCallS sp E ta) D σ H := h H (Ex.refl H) _ k
end
/-! ### rows that ascend -/
def RL (rs : List (List Bool)) : List V := rs.map fun r => V.str (T (R r))
theorem RL_at {rs : List (List Bool)} {i : Nat} (h : i < rs.length) : (RL rs)[i]? = some (.str (T (R rs[i]))) := by
  unfold RL
  rw [List.getElem?_map, List.getElem?_eq_getElem h]
  rfl
theorem RL_len (rs : List (List Bool)) : (RL rs).length = rs.length := List.length_map _
theorem RL_app (a b : List (List Bool)) : RL (a ++ b) = RL a ++ RL b := List.map_append
theorem RL_inj {a b : List (List Bool)} (h : RL a = RL b) : a = b := by
  induction a generalizing b with
  | nil => cases b with
    | nil => rfl
    | cons y b => simp [RL] at h
  | cons x a ih => cases b with
    | nil => simp [RL] at h
    | cons y b =>
      simp only [RL, List.map_cons, List.cons.injEq] at h
      rw [R_inj (T_inj.mp (V.str.inj h.1)), ih h.2]
/-- each behind the one ahead of it, the first one behind last if there is one -/
def Asc : Option (List Bool) → List (List Bool) → Prop
  | _, [] => True
  | l, r :: rs => (∀ x, l = some x → R x < R r) ∧ Asc (some r) rs
instance decAsc : ∀ (l : Option (List Bool)) (rs : List (List Bool)), Decidable (Asc l rs)
  | _, [] => .isTrue trivial
  | none, r :: rs => match decAsc (some r) rs with
    | .isTrue h => .isTrue ⟨(fun _ z => nomatch z), h⟩
    | .isFalse h => .isFalse fun z => h z.2
  | some x, r :: rs => if h : R x < R r then match decAsc (some r) rs with
      | .isTrue h2 => .isTrue ⟨fun y z => by cases z; exact h, h2⟩
      | .isFalse h2 => .isFalse fun z => h2 z.2
    else .isFalse fun z => h (z.1 x rfl)
/-! ### the page -/
def entryRow (last row : List Bool) : List Bool := countRow (com last row) ++ countRow (row.length - com last row) ++ row.drop (com last row)
def pageBody : List Bool → List (List Bool) → List Bool
  | _, [] => []
  | last, r :: rs => entryRow last r ++ pageBody r rs
def pageRow (rs : List (List Bool)) : List Bool := countRow rs.length ++ pageBody [] rs
theorem small_count {n : Nat} (h : n ≤ 1000000) : countOk n := by
  refine ⟨by omega, ?_⟩
  have : (n : Int) ≤ 1000000 := by omega
  omega
theorem small_len {n : Nat} (h : n ≤ 1000000) : (countRow n).length ≤ 40 := by
  have h1 : blen (n + 1) ≤ 20 := blen_le (by omega) (by omega)
  have h2 : blen (blen (n + 1)) ≤ 5 := blen_le (by omega) (blen_pos _)
  unfold countRow
  simp only [List.length_append, List.length_replicate, digs_len]
  split <;> simp <;> omega
theorem entryRow_len {last row : List Bool} (h1 : row.length ≤ 1000000) : (entryRow last row).length ≤ 80 + row.length := by
  unfold entryRow
  have := com_le2 last row
  have a := small_len (n := com last row) (by omega)
  have b := small_len (n := row.length - com last row) (by omega)
  simp only [List.length_append, List.length_drop]
  omega
theorem pageBody_len {m : Nat} (hm : m ≤ 1000000) : ∀ {last : List Bool} {rs : List (List Bool)}, (∀ r ∈ rs, r.length ≤ m) → (pageBody last rs).length ≤ rs.length * (80 + m)
  | _, [], _ => Nat.zero_le _
  | last, r :: rs, h => by
    have hr := h r (List.mem_cons_self ..)
    have a := entryRow_len (last := last) (row := r) (by omega)
    have b := pageBody_len hm (last := r) (rs := rs) fun x hx => h x (List.mem_cons_of_mem _ hx)
    rw [pageBody, List.length_append, List.length_cons, Nat.succ_mul]
    omega
/-! ### the rows of a page -/
/-- a row of a page behind another one, and the place behind it -/
def entryAt (b : List Bool) (t : Nat) (last : List Bool) : Option (List Bool × Nat) := match tcount b false false false t with
  | .bad _ _ => none
  | .ok c t1 => match tcount b false false false t1 with
    | .bad _ _ => none
    | .ok m t2 => if (last.length : Int) < c ∨ (b.length : Int) - (t2 : Int) < m then none else
      if com last (last.take c.toNat ++ (b.drop t2).take m.toNat) ≠ c.toNat then none else some (last.take c.toNat ++ (b.drop t2).take m.toNat, t2 + m.toNat)
/-- k rows more, from the place t on, behind a last one if there is one -/
def rowsGo (b : List Bool) : Nat → Option (List Bool) → Nat → Nat → Option (List (List Bool) × Nat)
  | _, _, 0, t => some ([], t)
  | 0, _, _ + 1, _ => none
  | f + 1, l, k + 1, t => match entryAt b t (l.getD []) with
    | none => none
    | some (row, t') => if ∃ x, l = some x ∧ ¬ R x < R row then none else (rowsGo b f (some row) k t').map fun p => (row :: p.1, p.2)
def rowsOf (b : List Bool) : Option (List (List Bool)) := match tcount b false false false 0 with
  | .bad _ _ => none
  | .ok many t => match rowsGo b (b.length + 1) none many.toNat t with
    | none => none
    | some (rs, t') => if t' < b.length then none else some rs
/-! ### what reading does to the place -/
theorem takeB_le {b : List Bool} {n w c : Bool} {t t' : Nat} (h : takeB b false n w t = .ok c t') : t' = t + 1 ∧ t < b.length := by
  unfold takeB at h
  cases e : b[t]? with
  | none => rw [e] at h; cases h
  | some x =>
    rw [e] at h
    cases h
    exact ⟨rfl, (List.getElem?_eq_some_iff.mp e).1⟩
theorem takeB_bad {b : List Bool} {f n w : Bool} {t : Nat} {c : Str} {p : Int} (h : takeB b f n w t = .bad c p) : c = "Short" ∧ p = b.length := by
  unfold takeB at h
  cases e : b[t]? with
  | none =>
    rw [e] at h
    cases f with
    | true => cases h
    | false => cases h; exact ⟨rfl, rfl⟩
  | some x => rw [e] at h; cases h
theorem tdig_le {b : List Bool} {n : Bool} : ∀ {k : Nat} {x y : Int} {t t' : Nat}, tdig b false n k x t = .ok y t' → t ≤ t' ∧ (t ≤ b.length → t' ≤ b.length)
  | 0, x, y, t, t', h => by cases h; exact ⟨Nat.le_refl _, id⟩
  | k + 1, x, y, t, t', h => by
    unfold tdig at h
    cases e : takeB b false n false t with
    | bad c p => rw [e] at h; cases h
    | ok c t1 =>
      rw [e] at h
      obtain ⟨rfl, h2⟩ := takeB_le e
      have := tdig_le (show tdig b false n k _ _ = _ from h)
      exact ⟨by omega, fun _ => this.2 h2⟩
theorem tdig_bad {b : List Bool} {f n : Bool} {c : Str} {p : Int} : ∀ {k : Nat} {x : Int} {t : Nat}, tdig b f n k x t = .bad c p → c = "Short" ∧ p = b.length
  | 0, x, t, h => by cases h
  | k + 1, x, t, h => by
    unfold tdig at h
    cases e : takeB b f n false t with
    | bad c p => rw [e] at h; cases h; exact takeB_bad e
    | ok c t1 => rw [e] at h; exact tdig_bad (show tdig b f n k _ _ = _ from h)
theorem tones_le {b : List Bool} {n : Bool} : ∀ {k : Nat} {w : Bool} {o o' t t' : Nat}, tones b false n k w o t = .ok o' t' → t ≤ t' ∧ (t ≤ b.length → t' ≤ b.length) ∧ (0 < k → t < t')
  | 0, w, o, o', t, t', h => by cases h; exact ⟨Nat.le_refl _, id, fun z => by omega⟩
  | k + 1, w, o, o', t, t', h => by
    unfold tones at h
    cases e : takeB b false n w t with
    | bad c p => rw [e] at h; cases h
    | ok c t1 =>
      rw [e] at h
      obtain ⟨rfl, h2⟩ := takeB_le e
      cases c with
      | true =>
        have := tones_le (show tones b false n k false (o + 1) _ = _ from h)
        exact ⟨by omega, fun _ => this.2.1 h2, fun _ => by omega⟩
      | false =>
        cases (show Res.ok o (t + 1) = .ok o' t' from h)
        exact ⟨by omega, fun _ => h2, fun _ => by omega⟩
theorem tones_bad {b : List Bool} {f n : Bool} {c : Str} {p : Int} : ∀ {k : Nat} {w : Bool} {o t : Nat}, tones b f n k w o t = .bad c p → c = "Short" ∧ p = b.length
  | 0, w, o, t, h => by cases h
  | k + 1, w, o, t, h => by
    unfold tones at h
    cases e : takeB b f n w t with
    | bad c p => rw [e] at h; cases h; exact takeB_bad e
    | ok d t1 =>
      rw [e] at h
      cases d with
      | true => exact tones_bad (show tones b f n k false (o + 1) t1 = _ from h)
      | false => cases h
theorem tcount_ok {b : List Bool} {n w : Bool} {t t' : Nat} {x : Int} (h : tcount b false n w t = .ok x t') : 0 ≤ x ∧ t < t' ∧ (t ≤ b.length → t' ≤ b.length) := by
  unfold tcount at h
  cases e1 : tones b false n 7 w 0 t with
  | bad c p => rw [e1] at h; cases h
  | ok o t1 =>
    rw [e1] at h
    replace h : ((tdig b false n o 1 t1).bind fun s t2 => (tdig b false n (s - 1).toNat 1 t2).bind fun x t3 => .ok (x - 1) t3) = .ok x t' := h
    cases e2 : tdig b false n o 1 t1 with
    | bad c p => rw [e2] at h; cases h
    | ok s t2 =>
      rw [e2] at h
      replace h : ((tdig b false n (s - 1).toNat 1 t2).bind fun x t3 => .ok (x - 1) t3) = .ok x t' := h
      cases e3 : tdig b false n (s - 1).toNat 1 t2 with
      | bad c p => rw [e3] at h; cases h
      | ok y t3 =>
        rw [e3] at h
        cases h
        have l1 := tones_le e1
        have l2 := tdig_le e2
        have l3 := tdig_le e3
        have r3 := tdig_rng e3
        have hp : (0 : Int) < 2 ^ (s - 1).toNat := Int.pow_pos (by decide)
        exact ⟨by omega, by have := l1.2.2 (by decide); omega, fun z => l3.2 (l2.2 (l1.2.1 z))⟩
theorem tcount_bad {b : List Bool} {f n w : Bool} {t : Nat} {c : Str} {p : Int} (h : tcount b f n w t = .bad c p) : c = "Short" ∧ p = b.length := by
  unfold tcount at h
  cases e1 : tones b f n 7 w 0 t with
  | bad c p => rw [e1] at h; cases h; exact tones_bad e1
  | ok o t1 =>
    rw [e1] at h
    replace h : ((tdig b f n o 1 t1).bind fun s t2 => (tdig b f n (s - 1).toNat 1 t2).bind fun x t3 => .ok (x - 1) t3) = .bad c p := h
    cases e2 : tdig b f n o 1 t1 with
    | bad c p => rw [e2] at h; cases h; exact tdig_bad e2
    | ok s t2 =>
      rw [e2] at h
      replace h : ((tdig b f n (s - 1).toNat 1 t2).bind fun x t3 => .ok (x - 1) t3) = .bad c p := h
      cases e3 : tdig b f n (s - 1).toNat 1 t2 with
      | bad c p => rw [e3] at h; cases h; exact tdig_bad e3
      | ok y t3 => rw [e3] at h; cases h
theorem entryAt_le {b last row : List Bool} {t t' : Nat} (h : entryAt b t last = some (row, t')) (ht : t ≤ b.length) : t + 2 ≤ t' ∧ t' ≤ b.length ∧ row.length + t ≤ last.length + t' := by
  unfold entryAt at h
  cases e1 : tcount b false false false t with
  | bad c p => rw [e1] at h; cases h
  | ok c t1 =>
    rw [e1] at h
    dsimp only at h
    cases e2 : tcount b false false false t1 with
    | bad c p => rw [e2] at h; cases h
    | ok m t2 =>
      rw [e2] at h
      dsimp only at h
      split at h
      · cases h
      · rename_i hn
        split at h
        · cases h
        · cases h
          obtain ⟨a1, a2, a3⟩ := tcount_ok e1
          obtain ⟨b1, b2, b3⟩ := tcount_ok e2
          have := b3 (a3 ht)
          refine ⟨by omega, by omega, ?_⟩
          rw [List.length_append, List.length_take, List.length_take, List.length_drop]
          omega
/-! ### a page read -/
theorem entryAt_at {b last row post : List Bool} {t : Nat} (hr : row.length ≤ 1000000) (h : b.drop t = entryRow last row ++ post) : entryAt b t last = some (row, t + (entryRow last row).length) ∧ b.drop (t + (entryRow last row).length) = post := by
  unfold entryRow at h ⊢
  have c1 := com_le last row
  have c2 := com_le2 last row
  rw [List.append_assoc, List.append_assoc] at h
  obtain ⟨h1, h2⟩ := tcount_at (f := false) (n := false) (w := false) (m := com last row) (small_count (by omega)) (by rw [nz_false]; exact h)
  obtain ⟨h3, h4⟩ := tcount_at (f := false) (n := false) (w := false) (m := row.length - com last row) (small_count (by omega)) (by rw [nz_false]; exact h2)
  have hlen : b.length - (t + (countRow (com last row)).length + (countRow (row.length - com last row)).length) = (row.length - com last row) + post.length := by
    have := congrArg List.length h4
    rw [List.length_drop, List.length_append, List.length_drop] at this
    exact this
  have htk : (b.drop (t + (countRow (com last row)).length + (countRow (row.length - com last row)).length)).take (row.length - com last row) = row.drop (com last row) := by
    rw [h4, List.take_append_of_le_length (by rw [List.length_drop]; omega), List.take_of_length_le (by rw [List.length_drop]; omega)]
  have hrow : last.take (com last row) ++ row.drop (com last row) = row := by
    rw [com_take, List.take_append_drop]
  refine ⟨?_, ?_⟩
  · unfold entryAt
    rw [h1]
    dsimp only
    rw [h3]
    dsimp only
    rw [Int.toNat_natCast, Int.toNat_natCast, htk, hrow]
    rw [if_neg (by
      rintro (z | z)
      · omega
      · by_cases hz : row.length - com last row = 0
        · by_cases hb : t + (countRow (com last row)).length + (countRow (row.length - com last row)).length ≤ b.length
          · omega
          · have hd : b.drop (t + (countRow (com last row)).length) = [] ∨ t + (countRow (com last row)).length < b.length := by
              by_cases q : t + (countRow (com last row)).length < b.length
              · exact .inr q
              · exact .inl (List.drop_eq_nil_of_le (by omega))
            have := (tcount_ok h3).2.2
            rcases hd with hd | hd
            · rw [hd] at h2
              have := congrArg List.length h2
              rw [List.length_append] at this
              have hp : 0 < (countRow (row.length - com last row)).length := by
                have := (tcount_ok h3).2.1
                omega
              simp at this
              omega
            · have := this (by omega)
              omega
        · omega), if_neg (by simp)]
    congr 2
    rw [List.length_append, List.length_append, List.length_drop]
    omega
  · rw [List.length_append, List.length_append, List.length_drop]
    have : row.length - com last row = (row.drop (com last row)).length := by rw [List.length_drop]
    rw [show t + ((countRow (com last row)).length + (countRow (row.length - com last row)).length + (row.length - com last row)) = (t + (countRow (com last row)).length + (countRow (row.length - com last row)).length) + (row.length - com last row) by omega, ← List.drop_drop, h4, this, List.drop_left]
theorem rowsGo_at {b post : List Bool} : ∀ {rs : List (List Bool)} {l : Option (List Bool)} {f t : Nat}, rs.length ≤ f → (∀ r ∈ rs, r.length ≤ 1000000) → Asc l rs → b.drop t = pageBody (l.getD []) rs ++ post →
    rowsGo b f l rs.length t = some (rs, t + (pageBody (l.getD []) rs).length) ∧ b.drop (t + (pageBody (l.getD []) rs).length) = post
  | [], l, f, t, _, _, _, h => by
    refine ⟨?_, h⟩
    cases f <;> rfl
  | r :: rs, l, 0, t, hf, _, _, _ => by simp at hf
  | r :: rs, l, f + 1, t, hf, hl, ha, h => by
    rw [pageBody, List.append_assoc] at h
    obtain ⟨h1, h2⟩ := entryAt_at (hl r (List.mem_cons_self ..)) h
    obtain ⟨h3, h4⟩ := rowsGo_at (l := some r) (f := f) (by simpa using hf) (fun x hx => hl x (List.mem_cons_of_mem _ hx)) ha.2 h2
    rw [pageBody, List.length_append]
    refine ⟨?_, by rw [← Nat.add_assoc]; exact h4⟩
    rw [List.length_cons, rowsGo, h1]
    dsimp only
    rw [if_neg (by rintro ⟨x, hx, hn⟩; exact hn (ha.1 x hx)), h3]
    show some _ = some _
    congr 2
    rw [Nat.add_assoc]
    rfl
theorem rowsOf_page {rs : List (List Bool)} (hl : ∀ r ∈ rs, r.length ≤ 1000000) (hn : rs.length ≤ 1000000) (ha : Asc none rs) : rowsOf (pageRow rs) = some rs := by
  obtain ⟨h1, h2⟩ := tcount_at (b := pageRow rs) (post := pageBody [] rs) (f := false) (n := false) (w := false) (m := rs.length) (t := 0) (small_count hn) (by rw [nz_false]; rfl)
  have hf : rs.length ≤ (pageRow rs).length + 1 := by
    have : rs.length ≤ (pageBody [] rs).length := by
      clear h1 h2 ha hl hn
      generalize ([] : List Bool) = last
      induction rs generalizing last with
      | nil => exact Nat.zero_le _
      | cons r rs ih =>
        have := ih r
        rw [pageBody, List.length_append, List.length_cons]
        have hp : 0 < (entryRow last r).length := by
          unfold entryRow
          rw [List.length_append, List.length_append]
          have : 0 < (countRow (com last r)).length + (countRow (r.length - com last r)).length + (r.drop (com last r)).length := by
            by_cases hz : com last r = 0
            · rw [hz]
              have : (countRow 0).length = 1 := by decide
              omega
            · have : 0 < (countRow (com last r)).length := by
                unfold countRow
                have : 2 ≤ blen (com last r + 1) := blen_gt (k := 1) (by omega)
                simp only [List.length_append, List.length_replicate, digs_len]
                omega
              omega
          exact this
        omega
    unfold pageRow
    rw [List.length_append]
    omega
  obtain ⟨h3, h4⟩ := rowsGo_at (b := pageRow rs) (post := []) (rs := rs) (l := none) (f := (pageRow rs).length + 1) (t := 0 + (countRow rs.length).length) hf hl ha (by rw [h2, List.append_nil]; rfl)
  unfold rowsOf
  rw [h1]
  dsimp only
  rw [Int.toNat_natCast, h3]
  dsimp only
  rw [if_neg]
  have := congrArg List.length h4
  rw [List.length_drop] at this
  simp only [Option.getD_none, List.length_nil] at this ⊢
  omega
/-! ### lists of rows compared -/
theorem RL_plain (a : List (List Bool)) : (RL a).all plainV = true := by
  unfold RL
  rw [List.all_map, List.all_eq_true]
  intro r _
  show (T (R r)).cps.all (· < 0x110000) = true
  rw [Array.all_eq_true']
  intro c hc
  have : c ∈ R r := by simpa [T] using hc
  obtain ⟨x, _, rfl⟩ := List.mem_map.mp this
  cases x <;> decide
theorem eqvAll_RL : ∀ (a b : List (List Bool)), PyData.eqvAll ((RL a).map toD) ((RL b).map toD) = decide (a = b)
  | [], [] => by simp [RL, PyData.eqvAll]
  | [], y :: b => by simp [RL, PyData.eqvAll]
  | x :: a, [] => by simp [RL, PyData.eqvAll]
  | x :: a, y :: b => by
    show (PyData.eqv (.str (T (R x))) (.str (T (R y))) && PyData.eqvAll ((RL a).map toD) ((RL b).map toD)) = _
    rw [eqvAll_RL a b, PyData.eqv]
    by_cases h : x = y
    · subst h
      by_cases h2 : a = b
      · subst h2; simp
      · simp [h2]
    · have : (T (R x) == T (R y)) = false := by
        rw [beq_eq_false_iff_ne]
        exact fun z => h (R_inj (T_inj.mp z))
      rw [this]
      simp [h]
theorem eqv_RL (a b : List (List Bool)) : PyData.eqv (.list ((RL a).map toD)) (.list ((RL b).map toD)) = decide (a = b) := by
  rw [PyData.eqv]
  exact eqvAll_RL a b
section
variable {K : PySem.W.Frag} {σ : L2.St} {H : Hp} {ta tb : TE}
theorem ev_neRL {p q : Addr} {a b : List (List Bool)} (ha : Ev ta σ H (.ref p)) (hp : SqL K H p (RL a)) (hb : Ev tb σ H (.ref q)) (hq : SqL K H q (RL b)) : Ev (tOp (rNeD K) ta tb) σ H (.bl (!decide (a = b))) := fun H1 e Q k =>
  ha H1 e _ fun H2 e2 => hb H2 (e.trans e2) _ fun H3 e3 => ⟨.list ((RL a).map toD), .list ((RL b).map toD), .lst (ex_l ((e.trans e2).trans e3) hp) (dpAll_plain (RL_plain a)), .lst (ex_l ((e.trans e2).trans e3) hq) (dpAll_plain (RL_plain b)), shaped_list (RL_plain a), shaped_list (RL_plain b), by
    rw [eqv_RL]
    exact k H3 (e2.trans e3)⟩
theorem ev_neE {p : Addr} {a : List (List Bool)} (ha : Ev ta σ H (.ref p)) (hp : SqL K H p (RL a)) : Ev (tOp (rNeD K) ta (tLst tNil)) σ H (.bl (!decide (a = []))) := fun H1 e Q k =>
  ha H1 e _ fun H2 e2 => (el_lst ea_nil (by simp) : EvL (tLst tNil) σ H2 []) H2 (Ex.refl H2) _ fun r H3 _ e3 hr => ⟨.list ((RL a).map toD), .list ((RL []).map toD), .lst (ex_l ((e.trans e2).trans e3) hp) (dpAll_plain (RL_plain a)), .lst (sq_of hr) (dpAll_plain (RL_plain [])), shaped_list (RL_plain a), shaped_list (RL_plain []), by
    rw [eqv_RL]
    exact k H3 (e2.trans e3)⟩
end
/-- a row put in at its place -/
theorem asc_ins {row : List Bool} {B : List (List Bool)} : ∀ {A : List (List Bool)} {l : Option (List Bool)}, Asc l (A ++ B) → (∀ x ∈ A, R x < R row) → (∀ x, l = some x → R x < R row) → (∀ y ys, B = y :: ys → R row < R y) → Asc l (A ++ [row] ++ B)
  | [], l, h, _, hl, hB => by
    refine ⟨hl, ?_⟩
    cases B with
    | nil => trivial
    | cons y ys => exact ⟨fun x hx => by cases hx; exact hB y ys rfl, h.2⟩
  | a :: A, l, h, hA, hl, hB => ⟨h.1, asc_ins h.2 (fun x hx => hA x (List.mem_cons_of_mem _ hx)) (fun x hx => by cases hx; exact hA a (List.mem_cons_self ..)) hB⟩
/-- each row stands ahead of all behind it -/
theorem asc_lt : ∀ {rs : List (List Bool)} {l : Option (List Bool)} {i j : Nat} (hi : i < j) (hj : j < rs.length), Asc l rs → R rs[i] < R rs[j]
  | r :: rs, l, 0, 1, _, hj, h => by
    cases rs with
    | nil => simp at hj
    | cons y ys => exact h.2.1 r rfl
  | r :: rs, l, 0, j + 2, _, hj, h => by
    cases rs with
    | nil => simp at hj
    | cons y ys =>
      have h1 : R r < R y := h.2.1 r rfl
      have h2 := asc_lt (rs := y :: ys) (i := 0) (j := j + 1) (by omega) (by simpa using hj) h.2
      exact List.lt_trans h1 h2
  | r :: rs, l, i + 1, j + 1, hi, hj, h => asc_lt (rs := rs) (i := i) (j := j) (by omega) (by simpa using hj) h.2
theorem asc_none {rs : List (List Bool)} {l : Option (List Bool)} (h : Asc l rs) : Asc none rs := by
  cases rs with
  | nil => trivial
  | cons r rs => exact ⟨(fun x z => nomatch z), h.2⟩
/-- xs[i] = value, the value made already -/
theorem g_setL {σ : L2.St} {H : Hp} {ta tb : TE} {l : Addr} {xs : List V} {j : Nat} {v : V} {Q : L2.St → Hp → Prop} (hl : H l = some (.lst xs)) (ho : Ev ta σ H (.ref l)) (hi : Ev tb σ H (.int (j : Int))) (hj : j < xs.length) (k : ∀ H1, Ex H H1 → Q σ (upd H1 l (.lst (xs.set j v)))) : gSub ta tb rSetL v σ H Q :=
  ho H (Ex.refl H) _ fun H2 e2 => hi H2 e2 _ fun H3 e3 => ⟨l, xs, (j : Int), j, rfl, rfl, (e2.trans e3) _ _ hl, ixN_nat hj, k H3 (e2.trans e3)⟩
theorem twice_not {x : List Bool} {B : List (List Bool)} : ∀ {A : List (List Bool)} {l : Option (List Bool)}, ¬ Asc l (A ++ [x] ++ x :: B)
  | [], l, h => List.lt_irrefl _ (h.2.1 x rfl)
  | a :: A, l, h => twice_not h.2
theorem RL_ins (rs : List (List Bool)) (i : Nat) (r : List Bool) : (RL rs).take i ++ [V.str (T (R r))] ++ (RL rs).drop i = RL (rs.take i ++ [r] ++ rs.drop i) := by
  unfold RL
  rw [List.map_append, List.map_append, List.map_take, List.map_drop]
  rfl
end Kr
/-! rows picked, asked for, put in their order; pages with more behind -/
namespace Kr
open PySem PySem.Spec PyProof.Rows L2 Evl
/-- the rows ahead of one -/
def before (rs : List (List Bool)) (row : List Bool) : List (List Bool) := rs.filter fun r => decide (R r < R row)
theorem range_filter {α β : Type} (xs : List α) (d : α) (p : α → Bool) (g : α → β) : ((List.range xs.length).filter fun i => p (xs.getD i d)).map (fun i => g (xs.getD i d)) = (xs.filter p).map g := by
  have e : (List.range xs.length).map (fun i => xs.getD i d) = xs := by
    apply List.ext_getElem?
    intro i
    rw [List.getElem?_map]
    by_cases h : i < xs.length
    · rw [List.getElem?_range h]
      simp [List.getD, List.getElem?_eq_getElem h]
    · rw [List.getElem?_eq_none (by simpa using h), List.getElem?_eq_none (by simpa using h)]
      rfl
  conv => rhs; rw [← e]
  rw [List.filter_map, List.map_map]
  rfl
section
variable {K : PySem.W.Frag} {σ : L2.St} {H : Hp} {tl ta tb : TE} {t : TT}
/-- [one for one in rows if ..] -/
theorem el_filt {a : Addr} {rs : List (List Bool)} {j : Nat} {vs : List Nat} (p : List Bool → Bool) (h : Ev tl σ H (.ref a)) (hx : SqL K H a (RL rs)) (hz : rs.length ≤ 40000) (hw : ∀ x, wipe ((wipe σ vs).set j (some x)) vs = wipe σ vs) (hj : ∀ x : V, ((wipe σ vs).set j (some x))[j]? = some (some x))
    (ht : ∀ r ∈ rs, ∀ H1, Ex H H1 → EvT t ((wipe σ vs).set j (some (.str (T (R r))))) H1 (p r)) : EvL (tLc (iList K tl) (gName j) t (tVar j) vs) σ H (RL (rs.filter p)) := by
  have key : given (RL rs).length (fun i => p (rs.getD i [])) (fun i => V.str (T (R (rs.getD i [])))) = RL (rs.filter p) := by
    unfold given
    rw [RL_len]
    exact range_filter rs [] p fun r => V.str (T (R r))
  rw [← key]
  have at_ : ∀ {i : Nat} {x : V}, (RL rs)[i]? = some x → ∃ h : i < rs.length, x = .str (T (R rs[i])) ∧ rs.getD i [] = rs[i] := fun {i x} hi => by
    have h := (List.getElem?_eq_some_iff.mp hi).1
    rw [RL_len] at h
    rw [RL_at h] at hi
    exact ⟨h, (Option.some.inj hi).symm, by simp [List.getD, h]⟩
  refine el_lcL _ _ h hx (by rw [RL_len]; exact hz) hw (fun i x H1 e hi => ?_) (fun i x H1 e hi _ => ?_)
  · obtain ⟨hl, rfl, e2⟩ := at_ hi
    rw [e2]
    exact ht _ (List.getElem_mem hl) H1 e
  · obtain ⟨hl, rfl, e2⟩ := at_ hi
    rw [e2]
    exact ev_var (hj _)
theorem inV_RL (row : List Bool) : ∀ rs : List (List Bool), inV (.str (T (R row))) (RL rs) = decide (row ∈ rs)
  | [] => by simp [inV, RL]
  | r :: rs => by
    have ih := inV_RL row rs
    show (eqV (.str (T (R r))) (.str (T (R row))) || inV (.str (T (R row))) (RL rs)) = _
    rw [ih]
    show ((T (R r) == T (R row)) || _) = _
    by_cases h : r = row
    · subst h; simp
    · have : (T (R r) == T (R row)) = false := by
        rw [beq_eq_false_iff_ne]
        exact fun z => h (R_inj (T_inj.mp z))
      rw [this, Bool.false_or]
      by_cases h2 : row ∈ rs
      · simp [h2]
      · simp [h2, Ne.symm h]
theorem RL_flat (rs : List (List Bool)) : (RL rs).all flatV = true := by
  unfold RL
  rw [List.all_map, List.all_eq_true]
  intro r _
  rfl
theorem ev_inRL {a : Addr} {rs : List (List Bool)} {row : List Bool} (ha : Ev ta σ H (.str (T (R row)))) (hb : Ev tb σ H (.ref a)) (hx : SqL K H a (RL rs)) : Ev (tOp (rIn K false) ta tb) σ H (.bl (decide (row ∈ rs))) := by
  rw [← inV_RL]
  exact ev_op ha hb (rv_isL hx rfl (RL_flat rs))
theorem ev_niRL {a : Addr} {rs : List (List Bool)} {row : List Bool} (ha : Ev ta σ H (.str (T (R row)))) (hb : Ev tb σ H (.ref a)) (hx : SqL K H a (RL rs)) : Ev (tOp (rIn K true) ta tb) σ H (.bl (!decide (row ∈ rs))) := by
  rw [← inV_RL]
  exact ev_op ha hb (rv_niL hx rfl (RL_flat rs))
/-- a tuple compared with a new one, alike -/
theorem ev_eqU {p : Addr} {xs : List V} (ha : Ev ta σ H (.ref p)) (hp : H p = some (.tup xs)) (hb : EvU tb σ H xs) (h : xs.all plainV = true) : Ev (tOp (rEqD K) ta tb) σ H (.bl true) := fun H1 e Q q =>
  ha H1 e _ fun H2 e2 => hb H2 (e.trans e2) _ fun r H3 _ e3 hr => ⟨.tuple (xs.map toD), .tuple (xs.map toD), .tup (st_of (((e.trans e2).trans e3) _ _ hp)) (dpAll_plain h), .tup (st_of hr) (dpAll_plain h), shaped_tup h, shaped_tup h, by
    rw [eqv_same (shaped_tup h)]
    exact q H3 (e2.trans e3)⟩
theorem s_dropX2W {sp : Sp} {E : L2.St → XK} {D : Ends} {x : V} {P : V → Prop} (ha : Ev ta σ H x) (hb : EvW tb σ H P) (k : ∀ y H1, P y → Ex H H1 → sp [x, y] H1 (fun _ H2 => D.nx σ H2) (E σ)) : tDrop (tCallS sp E (tCons ta (tCons tb tNil))) D σ H :=
  ha H (Ex.refl H) _ fun H1 e1 => hb H1 e1 _ fun y H2 hy e2 => k y H2 hy (e1.trans e2)
end
/-! ### a page with more behind -/
theorem page_long {rs : List (List Bool)} {post : List Bool} : rs.length ≤ (pageRow rs ++ post).length + 1 := by
  have key : ∀ (rs : List (List Bool)) (last : List Bool), rs.length ≤ (pageBody last rs).length := by
    intro rs
    induction rs with
    | nil => exact fun _ => Nat.zero_le _
    | cons r rs ih =>
      intro last
      have := ih r
      rw [pageBody, List.length_append, List.length_cons]
      have hp : 0 < (entryRow last r).length := by
        unfold entryRow
        rw [List.length_append, List.length_append]
        by_cases hz : com last r = 0
        · rw [hz]
          have : (countRow 0).length = 1 := by decide
          omega
        · have : 0 < (countRow (com last r)).length := by
            unfold countRow
            have : 2 ≤ blen (com last r + 1) := blen_gt (k := 1) (by omega)
            simp only [List.length_append, List.length_replicate, digs_len]
            omega
          omega
      omega
  have := key rs []
  unfold pageRow
  rw [List.length_append, List.length_append]
  omega
theorem rowsOf_more {rs : List (List Bool)} {post : List Bool} (hl : ∀ r ∈ rs, r.length ≤ 1000000) (hn : rs.length ≤ 1000000) (ha : Asc none rs) (hp : post ≠ []) : rowsOf (pageRow rs ++ post) = none := by
  obtain ⟨h1, h2⟩ := tcount_at (b := pageRow rs ++ post) (post := pageBody [] rs ++ post) (f := false) (n := false) (w := false) (m := rs.length) (t := 0) (small_count hn) (by rw [nz_false]; unfold pageRow; rw [List.append_assoc]; rfl)
  obtain ⟨h3, h4⟩ := rowsGo_at (b := pageRow rs ++ post) (post := post) (rs := rs) (l := none) (f := (pageRow rs ++ post).length + 1) (t := 0 + (countRow rs.length).length) page_long hl ha (by rw [h2]; rfl)
  unfold rowsOf
  rw [h1]
  dsimp only
  rw [Int.toNat_natCast, h3]
  dsimp only
  rw [if_pos]
  have := congrArg List.length h4
  have hpp := List.length_pos_iff.mpr hp
  rw [List.length_drop] at this
  simp only [Option.getD_none] at this ⊢
  omega
theorem page_small {m : Nat} {rs : List (List Bool)} (hn : rs.length ≤ 100) (hl : ∀ r ∈ rs, r.length ≤ 100) : (pageRow rs).length ≤ 20000 := by
  have h1 := pageBody_len (m := 100) (by decide) (last := []) hl
  have h2 := small_len (n := rs.length) (by omega)
  have h3 : rs.length * (80 + 100) ≤ 100 * 180 := Nat.mul_le_mul_right _ hn
  unfold pageRow
  rw [List.length_append]
  omega
end Kr
/-! rows sorted; what refuses whatever comes behind -/
namespace Kr
open PySem PySem.Spec PyProof.Rows L2 Evl
def leR (a b : List Bool) : Bool := !decide (R b < R a)
theorem leR_trans (a b c : List Bool) (h1 : leR a b = true) (h2 : leR b c = true) : leR a c = true := by
  unfold leR at *
  rw [Bool.not_eq_true', decide_eq_false_iff_not] at *
  have h1 : R a ≤ R b := h1
  have h2 : R b ≤ R c := h2
  exact List.le_trans h1 h2
theorem leR_total (a b : List Bool) : (leR a b || leR b a) = true := by
  unfold leR
  by_cases h : R b < R a
  · rw [decide_eq_true h, decide_eq_false (List.lt_asymm h)]
    rfl
  · rw [decide_eq_false h]
    rfl
theorem leR_anti {a b : List Bool} (h1 : leR a b = true) (h2 : leR b a = true) : a = b := by
  unfold leR at *
  rw [Bool.not_eq_true', decide_eq_false_iff_not] at *
  by_cases h : R a = R b
  · exact R_inj h
  · exact absurd (R_lt_or a b h2 h) h1
/-- the rows in their order -/
def sortR (l : List (List Bool)) : List (List Bool) := l.mergeSort leR
theorem sortR_perm (l : List (List Bool)) : (sortR l).Perm l := List.mergeSort_perm l leR
theorem sortR_pair (l : List (List Bool)) : (sortR l).Pairwise fun a b => leR a b = true := List.pairwise_mergeSort leR_trans leR_total l
theorem sorted_eq {l m : List (List Bool)} (hl : l.Pairwise fun a b => leR a b = true) (hm : m.Pairwise fun a b => leR a b = true) (h : l.Perm m) : l = m :=
  List.Perm.eq_of_pairwise (fun a b _ _ h1 h2 => leR_anti h1 h2) hl hm h
theorem asc_pair : ∀ {l : Option (List Bool)} {rs : List (List Bool)}, Asc l rs → rs.Pairwise fun a b => R a < R b
  | _, [], _ => .nil
  | l, r :: rs, h => by
    refine .cons (fun x hx => ?_) (asc_pair h.2)
    obtain ⟨i, hi, rfl⟩ := List.mem_iff_getElem.mp hx
    exact asc_lt (rs := r :: rs) (i := 0) (j := i + 1) (by omega) (by simpa using hi) h
theorem pair_asc : ∀ {rs : List (List Bool)} {l : Option (List Bool)}, rs.Pairwise (fun a b => R a < R b) → (∀ x, l = some x → ∀ y ∈ rs, R x < R y) → Asc l rs
  | [], l, _, _ => trivial
  | r :: rs, l, h, hl => by
    rw [List.pairwise_cons] at h
    exact ⟨fun x hx => hl x hx r (List.mem_cons_self ..), pair_asc h.2 fun x hx y hy => by cases hx; exact h.1 y hy⟩
theorem asc_iff {rs : List (List Bool)} : Asc none rs ↔ rs.Pairwise fun a b => R a < R b := ⟨asc_pair, fun h => pair_asc h fun x hx => nomatch hx⟩
theorem lt_le {a b : List Bool} (h : R a < R b) : leR a b = true := by
  unfold leR
  rw [decide_eq_false (List.lt_asymm h)]
  rfl
theorem asc_nodup {rs : List (List Bool)} (h : Asc none rs) : rs.Nodup := by
  unfold List.Nodup
  refine (asc_pair h).imp fun {a b} hab => fun z => ?_
  rw [z] at hab
  exact List.lt_irrefl _ hab
theorem asc_sort {l : List (List Bool)} (h : l.Nodup) : Asc none (sortR l) := by
  rw [asc_iff]
  have h2 : (sortR l).Nodup := (sortR_perm l).nodup_iff.mpr h
  have h3 := (sortR_pair l).and h2
  refine h3.imp fun {a b} ⟨h4, h5⟩ => ?_
  unfold leR at h4
  rw [Bool.not_eq_true', decide_eq_false_iff_not] at h4
  exact R_lt_or b a h4 fun z => h5 (R_inj z).symm
theorem sort_asc {l : List (List Bool)} (h : Asc none l) : sortR l = l := sorted_eq (sortR_pair l) ((asc_pair h).imp lt_le) (sortR_perm l)
/-- rows that ascend are told by which they are -/
theorem asc_ext {l m : List (List Bool)} (hl : Asc none l) (hm : Asc none m) (h : ∀ r, r ∈ l ↔ r ∈ m) : l = m :=
  sorted_eq ((asc_pair hl).imp lt_le) ((asc_pair hm).imp lt_le) ((List.perm_ext_iff_of_nodup (asc_nodup hl) (asc_nodup hm)).mpr h)
theorem asc_filter {l : List (List Bool)} (h : Asc none l) (p : List Bool → Bool) : Asc none (l.filter p) := asc_iff.mpr ((asc_pair h).filter p)
theorem mem_sortR {l : List (List Bool)} {r : List Bool} : r ∈ sortR l ↔ r ∈ l := (sortR_perm l).mem_iff
theorem len_sortR (l : List (List Bool)) : (sortR l).length = l.length := (sortR_perm l).length_eq
/-! ### sorted() -/
def TRw (r : List Bool) : Str := T (R r)
theorem RL_TRw (l : List (List Bool)) : RL l = (l.map TRw).map V.str := by
  unfold RL
  rw [List.map_map]
  rfl
theorem risingS_pair : ∀ {p : Str} {l : List Str}, risingS p l = true → (p :: l).Pairwise fun a b => ¬ b.cps.toList < a.cps.toList
  | p, [], _ => .cons (fun _ h => (by cases h)) .nil
  | p, x :: r, h => by
    have h0 : (!ltCps x.cps.toList p.cps.toList && risingS x r) = true := h
    rw [Bool.and_eq_true, Bool.not_eq_true', ltCps_eq, decide_eq_false_iff_not] at h0
    have ih := risingS_pair h0.2
    refine .cons (fun y hy => ?_) ih
    rcases List.mem_cons.mp hy with rfl | hy
    · exact h0.1
    · have h1 : p.cps.toList ≤ x.cps.toList := h0.1
      have h2 : x.cps.toList ≤ y.cps.toList := (List.pairwise_cons.mp ih).1 y hy
      exact List.le_trans h1 h2
theorem sortedS_pair {l : List Str} (h : sortedS l = true) : l.Pairwise fun a b => ¬ b.cps.toList < a.cps.toList := by
  cases l with
  | nil => exact .nil
  | cons x r => exact risingS_pair h
theorem sorted_TRw {ys : List Str} {l : List (List Bool)} (hp : ys.Perm (l.map TRw)) (hs : sortedS ys = true) : ys = (sortR l).map TRw := by
  have h1 : ys.Perm ((sortR l).map TRw) := hp.trans ((sortR_perm l).map TRw).symm
  refine List.Perm.eq_of_pairwise (le := fun a b => ¬ b.cps.toList < a.cps.toList) (fun a b ha hb h1 h2 => ?_) (sortedS_pair hs) ?_ h1
  · obtain ⟨x, _, rfl⟩ := List.mem_map.mp (hp.mem_iff.mp ha)
    obtain ⟨y, _, rfl⟩ := List.mem_map.mp hb
    have h1 : ¬ R y < R x := h1
    have h2 : ¬ R x < R y := h2
    by_cases h : R x = R y
    · unfold TRw; rw [h]
    · exact absurd (R_lt_or x y h2 h) h1
  · rw [List.pairwise_map]
    refine (sortR_pair l).imp fun {a b} h => ?_
    unfold leR at h
    rw [Bool.not_eq_true', decide_eq_false_iff_not] at h
    exact h
section
variable {K : PySem.W.Frag} {σ : L2.St} {H : Hp} {te ta tb tl : TE} {x : V} {D : Ends}
theorem el_sorted {l : List (List Bool)} (h : EvL te σ H (RL l)) (hn : l.length < 64) : EvL (tCB (rSortedS K) (tCons te tNil)) σ H (RL (sortR l)) := fun H1 e Q q =>
  h H1 e _ fun p H2 hp e2 h2 => ⟨p, l.map TRw, rfl, by rw [← RL_TRw]; exact sq_of h2, by rw [List.length_map]; exact hn, fun ys r hperm hs hr => by
    rw [sorted_TRw hperm hs, ← RL_TRw]
    exact q r _ (fresh_back e2 hr) (e2.trans (Ex.new hr)) upd_same⟩
theorem el_catRL {p : Addr} {a b : List (List Bool)} (ha : Ev ta σ H (.ref p)) (hp : H p = some (.lst (RL a))) (hb : EvL tb σ H (RL b)) (hz : a.length + b.length ≤ 100000) : EvL (tOp rCat ta tb) σ H (RL (a ++ b)) := by
  rw [RL_app]
  exact el_cat ha hp hb (by rw [RL_len, RL_len]; exact hz)
theorem el_one {row : List Bool} (h : Ev te σ H (.str (T (R row)))) : EvL (tLst (tCons te tNil)) σ H (RL [row]) := el_lst (ea_cons h ea_nil) (by rw [RL_len]; simp)
/-- [one for one in rows if ..], over a new list -/
theorem el_filtN {rs : List (List Bool)} {t : TT} {j : Nat} {vs : List Nat} (p : List Bool → Bool) (h : EvL tl σ H (RL rs)) (hz : rs.length ≤ 40000) (hw : ∀ x, wipe ((wipe σ vs).set j (some x)) vs = wipe σ vs) (hj : ∀ x : V, ((wipe σ vs).set j (some x))[j]? = some (some x))
    (ht : ∀ r ∈ rs, ∀ H1, Ex H H1 → EvT t ((wipe σ vs).set j (some (.str (T (R r))))) H1 (p r)) : EvL (tLc (iList K tl) (gName j) t (tVar j) vs) σ H (RL (rs.filter p)) := by
  have key : given (RL rs).length (fun i => p (rs.getD i [])) (fun i => V.str (T (R (rs.getD i [])))) = RL (rs.filter p) := by
    unfold given
    rw [RL_len]
    exact range_filter rs [] p fun r => V.str (T (R r))
  rw [← key]
  have at_ : ∀ {i : Nat} {x : V}, (RL rs)[i]? = some x → ∃ h : i < rs.length, x = .str (T (R rs[i])) ∧ rs.getD i [] = rs[i] := fun {i x} hi => by
    have h := (List.getElem?_eq_some_iff.mp hi).1
    rw [RL_len] at h
    rw [RL_at h] at hi
    exact ⟨h, (Option.some.inj hi).symm, by simp [List.getD, h]⟩
  refine el_lcNL _ _ h (by rw [RL_len]; exact hz) hw (fun i x H1 e hi => ?_) (fun i x H1 e hi _ => ?_)
  · obtain ⟨hl, rfl, e2⟩ := at_ hi
    rw [e2]
    exact ht _ (List.getElem_mem hl) H1 e
  · obtain ⟨hl, rfl, e2⟩ := at_ hi
    rw [e2]
    exact ev_var (hj _)
/-! ### what never comes back -/
def Rz (te : TE) (σ : L2.St) (H : Hp) : Prop := ∀ H1, Ex H H1 → ∀ Q : VK, te σ H1 Q
def RzA (ta : TA) (σ : L2.St) (H : Hp) : Prop := ∀ H1, Ex H H1 → ∀ Q : List V → Hp → Prop, ta σ H1 Q
theorem rz_call {sp : Sp} {E : XK} {t : TA} {vs : List V} (h : EvA t σ H vs) (k : ∀ H1, Ex H H1 → ∀ Q : VK, sp vs H1 Q E) : Rz (tCall sp [] E t) σ H := fun H1 e Q => h H1 e _ fun H2 e2 => by
  rw [List.append_nil]
  exact k H2 (e.trans e2) Q
theorem rz_callA {sp : Sp} {dvs : List V} {E : XK} {t : TA} (h : RzA t σ H) : Rz (tCall sp dvs E t) σ H := fun H1 e Q => h H1 e _
theorem rz_cons {t : TA} (h : Rz te σ H) : RzA (tCons te t) σ H := fun H1 e Q => h H1 e _
theorem rz_cb {r : List V → Hp → VK → Prop} {t : TA} (h : RzA t σ H) : Rz (tCB r t) σ H := fun H1 e Q => h H1 e _
theorem rz_op1 {r : R2} (h : Rz ta σ H) : Rz (tOp r ta tb) σ H := fun H1 e Q => h H1 e _
theorem rz_op2 {r : R2} (ha : Ev ta σ H x) (h : Rz tb σ H) : Rz (tOp r ta tb) σ H := fun H1 e Q => ha H1 e _ fun H2 e2 => h H2 (e.trans e2) _
theorem rz_lc {g : TG} {t : TT} {vs : List Nat} (h : Rz tl σ H) : Rz (tLc (iList K tl) g t te vs) σ H := fun H1 e Q => h H1 e _
theorem s_retZ (h : Rz te σ H) : tRet te D σ H := h H (Ex.refl H) _
end
/-! ### what the rows of a page are -/
theorem rowsGo_asc {b : List Bool} : ∀ {f k t t' : Nat} {l : Option (List Bool)} {rs : List (List Bool)}, rowsGo b f l k t = some (rs, t') → t ≤ b.length → (l.getD []).length ≤ t → Asc l rs ∧ rs.length = k ∧ t + 2 * rs.length ≤ t' ∧ t' ≤ b.length ∧ ∀ r ∈ rs, r.length ≤ b.length
  | 0, 0, t, t', l, rs, h, ht, hl => by
    cases h
    exact ⟨trivial, rfl, Nat.le_refl _, ht, fun r hr => (by cases hr)⟩
  | f + 1, 0, t, t', l, rs, h, ht, hl => by
    have : rowsGo b (f + 1) l 0 t = some ([], t) := by simp [rowsGo]
    rw [this] at h
    cases h
    exact ⟨trivial, rfl, Nat.le_refl _, ht, fun r hr => (by cases hr)⟩
  | 0, k + 1, t, t', l, rs, h, ht, hl => by simp [rowsGo] at h
  | f + 1, k + 1, t, t', l, rs, h, ht, hl => by
    rw [rowsGo] at h
    cases he : entryAt b t (l.getD []) with
    | none => rw [he] at h; cases h
    | some rt =>
      obtain ⟨row, t1⟩ := rt
      rw [he] at h
      dsimp only at h
      obtain ⟨g1, g2, g3⟩ := entryAt_le he ht
      split at h
      · cases h
      · rename_i hn
        cases hg : rowsGo b f (some row) k t1 with
        | none => rw [hg] at h; cases h
        | some p =>
          obtain ⟨rs2, t2⟩ := p
          rw [hg] at h
          have h : some (row :: rs2, t2) = some (rs, t') := h
          cases h
          obtain ⟨i1, i2, i3, i4, i5⟩ := rowsGo_asc hg g2 (by show row.length ≤ t1; omega)
          refine ⟨⟨fun x hx => Classical.byContradiction fun z => hn ⟨x, hx, z⟩, i1⟩, by rw [List.length_cons, i2], by rw [List.length_cons]; omega, i4, fun r hr => ?_⟩
          rcases List.mem_cons.mp hr with rfl | hr
          · omega
          · exact i5 r hr
theorem rowsOf_asc {b : List Bool} {rs : List (List Bool)} (h : rowsOf b = some rs) : Asc none rs ∧ 2 * rs.length ≤ b.length ∧ ∀ r ∈ rs, r.length ≤ b.length := by
  unfold rowsOf at h
  cases e : tcount b false false false 0 with
  | bad c p => rw [e] at h; cases h
  | ok many t =>
    rw [e] at h
    dsimp only at h
    have ht := (tcount_ok e).2.2 (Nat.zero_le _)
    cases hg : rowsGo b (b.length + 1) none many.toNat t with
    | none => rw [hg] at h; cases h
    | some p =>
      obtain ⟨rs2, t2⟩ := p
      rw [hg] at h
      dsimp only at h
      split at h
      · cases h
      · cases h
        obtain ⟨i1, i2, i3, i4, i5⟩ := rowsGo_asc hg ht (Nat.zero_le _)
        exact ⟨i1, by omega, i5⟩
end Kr
namespace Kr
open PySem PySem.Spec PyProof.Rows L2 Evl
section
variable {K : PySem.W.Frag} {σ : L2.St} {H : Hp} {ta tb tl : TE} {x z : V}
/-- a new list compared with one that stands, alike -/
theorem ev_neLN {q : Addr} {a : List (List Bool)} (ha : EvL ta σ H (RL a)) (hb : Ev tb σ H (.ref q)) (hq : SqL K H q (RL a)) : Ev (tOp (rNeD K) ta tb) σ H (.bl false) := fun H1 e Q k =>
  ha H1 e _ fun p H2 _ e2 h2 => hb H2 (e.trans e2) _ fun H3 e3 => ⟨.list ((RL a).map toD), .list ((RL a).map toD), .lst (sq_of (e3 _ _ h2)) (dpAll_plain (RL_plain a)), .lst (ex_l ((e.trans e2).trans e3) hq) (dpAll_plain (RL_plain a)), shaped_list (RL_plain a), shaped_list (RL_plain a), by
    rw [eqv_same (shaped_list (RL_plain a))]
    exact k H3 (e2.trans e3)⟩
/-- a call of one, a new list -/
theorem ev_callL {sp : Sp} {E : XK} {xs : List V} (h : EvL ta σ H xs) (hs : ∀ p H1, Ex H H1 → H1 p = some (.lst xs) → SpV sp [.ref p] H1 z) : Ev (tCall sp [] E (tCons ta tNil)) σ H z := fun H1 e Q q =>
  h H1 e _ fun p H2 _ e2 hp => hs p H2 (e.trans e2) hp H2 (Ex.refl H2) Q (fun H3 e3 => q H3 (e2.trans e3)) E
theorem s_retF1L {sp : Sp} {E : XK} {xs : List V} {D : Ends} (h : EvL ta σ H xs) (k : ∀ p H1, H p = none → Ex H H1 → H1 p = some (.lst xs) → sp [.ref p] H1 D.rt E) : tRet (tCall sp [] E (tCons ta tNil)) D σ H :=
  h H (Ex.refl H) _ fun p H1 hp e1 h1 => k p H1 hp e1 h1
/-- two new tuples, alike -/
theorem ev_eqUU {xs : List V} (ha : EvU ta σ H xs) (hb : ∀ H1, Ex H H1 → EvU tb σ H1 xs) (h : xs.all plainV = true) : Ev (tOp (rEqD K) ta tb) σ H (.bl true) := fun H1 e Q q =>
  ha H1 e _ fun p H2 _ e2 hp => hb H2 (e.trans e2) H2 (Ex.refl H2) _ fun r H3 _ e3 hr => ⟨.tuple (xs.map toD), .tuple (xs.map toD), .tup (st_of (e3 _ _ hp)) (dpAll_plain h), .tup (st_of hr) (dpAll_plain h), shaped_tup h, shaped_tup h, by
    rw [eqv_same (shaped_tup h)]
    exact q H3 (e2.trans e3)⟩
end
end Kr
namespace Kr
open PySem PySem.Spec PyProof.Rows L2 Evl
/-- a new list and one that stands, together -/
theorem el_catN2 {σ : L2.St} {H : Hp} {ta tb : TE} {q : Addr} {a b : List (List Bool)} (ha : EvL ta σ H (RL a)) (hb : Ev tb σ H (.ref q)) (hq : H q = some (.lst (RL b))) (hz : a.length + b.length ≤ 100000) : EvL (tOp rCat ta tb) σ H (RL (a ++ b)) := fun H1 e Q k =>
  ha H1 e _ fun p H2 _ e2 h2 => hb H2 (e.trans e2) _ fun H3 e3 => ⟨p, q, RL a, RL b, rfl, rfl, e3 _ _ h2, ((e.trans e2).trans e3) _ _ hq, sz_of (by rw [RL_len, RL_len]; exact hz), fun l hl => k l _ (fresh_back (e2.trans e3) hl) ((e2.trans e3).trans (Ex.new hl)) (by rw [RL_app]; exact upd_same)⟩
end Kr
/-! slices with a step; sums; several except clauses without names -/
namespace Kr
open PySem PySem.Spec PyProof.Rows L2 Evl
theorem vals_pick {xs : List V} {us : List Value} (r : Vals xs us) : ∀ ix : List Nat, Vals (ix.filterMap (xs[·]?)) (ix.filterMap (us[·]?))
  | [] => .nil
  | i :: ix => by
    rw [List.filterMap_cons, List.filterMap_cons]
    cases e : xs[i]? with
    | none => rw [r.none_of e]; exact vals_pick r ix
    | some x =>
      obtain ⟨u, e2, q⟩ := r.get e
      rw [e2]
      exact .cons q (vals_pick r ix)
def slIx (lo hi st : Option Int) (n : Nat) : List Nat := sliceRange (sliceBounds lo hi st n).1 (sliceBounds lo hi st n).2.1 (sliceBounds lo hi st n).2.2
def stepV (xs : List V) (lo hi st : Option Int) : List V := (slIx lo hi st xs.length).filterMap (xs[·]?)
theorem slicePick_step (its : List Value) (lo hi st : Option Int) : slicePick its.toArray lo hi st = ((slIx lo hi st its.length).filterMap (its[·]?)).toArray := by
  unfold slicePick slIx
  simp only [List.size_toArray, List.getElem?_toArray]
variable {X : Cx}
def SlR3 (X : Cx) (r : V → Option Int → Option Int → Option Int → Hp → VK → Prop) : Prop :=
  ∀ (pins : List (Addr × Obj)) (s : Shared) (σ : L2.St) (H : Hp) (x : V) (v vl vu vs : Value) (lo hi st : Option Int) (sl : Addr) (Q : VK), Inv X pins σ H s → RelV x v → s.heap.IsSliceOf sl vl vu vs → IsPart vl lo → IsPart vu hi → IsPart vs st → r x lo hi st H Q →
    ∃ T id, typeLookup (.type T) "__getitem__" = pure (some (.builtin id)) ∧ s.TypeIs v T ∧ wpAny (model X.prog X.w) X.A (getItem v (.ref sl)) (EP X pins σ Q) X.xe s
def tSl3 (r : V → Option Int → Option Int → Option Int → Hp → VK → Prop) (te : TE) (tl th ts : TO) : TE := fun σ H Q => te σ H fun x H1 => tl σ H1 fun l H2 => th σ H2 fun u H3 => ts σ H3 fun st H4 => r x l u st H4 Q
theorem pe_slice3 {e : Expr} {lo hi : Option Expr} {se : Expr} {p2 pos : Pos} {te : TE} {tl th ts : TO} {r : V → Option Int → Option Int → Option Int → Hp → VK → Prop} (hr : SlR3 X r) (he : PE X e te) (hl : PO X lo tl) (hu : PO X hi th) (hs : PO X (some se) ts) : PE X (.Subscript e (.Slice lo hi (some se) p2) pos) (tSl3 r te tl th ts) := by
  refine ⟨fun pins s σ H Q I h => ?_⟩
  refine Subscript_ (thn (he.run pins s σ H _ I h) fun v s1 ⟨x, H1, I1, r1, q1⟩ => ?_)
  refine wpAny_Slice (thn (hl.run pins s1 σ H1 _ I1 q1) fun vl s2 ⟨l, H2, I2, pl, q2⟩ => thn (hu.run pins s2 σ H2 _ I2 q2) fun vu s3 ⟨u, H3, I3, pu, q3⟩ => thn (hs.run pins s3 σ H3 _ I3 q3) fun vs s4 ⟨st', H4, I4, ps, q4⟩ => ?_)
  have I5 : Inv X pins σ H4 { s4 with heap := s4.heap.push { cls := .type "slice", data := .fields #[vl, vu, vs] } } := I4.kept (t' := s4.toks) fun b ob q => Heap.get?_push_of_some _ q
  obtain ⟨T, id, hT, ht, hg⟩ := hr pins { s4 with heap := s4.heap.push { cls := .type "slice", data := .fields #[vl, vu, vs] } } σ H4 x v vl vu vs l u st' s4.heap.objs.size Q I5 r1 (Heap.IsSliceOf.new ..) pl pu ps q4
  show wpAny (model X.prog X.w) X.A (subscriptTail e (.Slice lo hi (some se) p2) v (.ref s4.heap.objs.size)) (EP X pins σ Q) X.xe { s4 with heap := s4.heap.push { cls := .type "slice", data := .fields #[vl, vu, vs] } }
  exact tail_any (ops := [v, .ref s4.heap.objs.size]) ht hT hg (by with_unfolding_all rfl)
def rSlL3 (K : PySem.W.Frag) : V → Option Int → Option Int → Option Int → Hp → VK → Prop := fun x lo hi st H Q => ∃ a xs, x = .ref a ∧ SqL K H a xs ∧ st ≠ some 0 ∧ ∀ p, H p = none → Q (.ref p) (upd H p (.lst (stepV xs lo hi st)))
theorem sl_list3 : SlR3 X (rSlL3 X.K) := by
  intro pins s σ H x v vl vu vs lo hi st sl Q I rx hs pl pu ps h
  obtain ⟨a, xs, rfl, hx, h0, q⟩ := h
  cases rx
  obtain ⟨its, r, ht, hz⟩ := I.list hx
  have hlen := r.length
  refine ⟨"list", _, slot_list_getitem.lookup, ht.isList.typeIs, ?_⟩
  refine wpAny_getItem_list_slice ht.isList hs pl pu ps h0 ?_ (by rw [List.size_toArray] <;> omega)
  have hv := vals_pick r (slIx lo hi st its.length)
  have hn : (stepV xs lo hi st).length ≤ sizeLine := by
    have := slicePick_size_le its.toArray lo hi st
    rw [slicePick_step, List.size_toArray, List.size_toArray] at this
    have e := hv.length
    unfold stepV
    rw [hlen]
    omega
  rw [slicePick_step]
  have hv' : Vals (stepV xs lo hi st) ((slIx lo hi st its.length).filterMap (its[·]?)) := by unfold stepV; rw [hlen]; exact hv
  refine ⟨.ref s.heap.objs.size, _, I.laid (t' := s.toks) (o := .lst (stepV xs lo hi st)) (fun b ob q => Heap.get?_push_of_some _ q) (Nat.le_refl _) ?_, rfl, q _ (I.hok.fresh (Nat.le_refl _))⟩
  exact ⟨hn, _, 0, hv', Heap.get?_push_size _ rfl⟩
theorem stepV_map {α : Type} (f : α → V) (ns : List α) (lo hi st : Option Int) : ∃ ms : List α, stepV (ns.map f) lo hi st = ms.map f ∧ (∀ m ∈ ms, m ∈ ns) ∧ ms.length ≤ ns.length ∧ ms = (slIx lo hi st ns.length).filterMap (ns[·]?) := by
  refine ⟨(slIx lo hi st ns.length).filterMap (ns[·]?), ?_, ?_, ?_, rfl⟩
  · unfold stepV
    rw [List.length_map, List.map_filterMap]
    congr 1
    funext i
    rw [List.getElem?_map]
  · intro m hm
    obtain ⟨i, _, e⟩ := List.mem_filterMap.mp hm
    exact List.mem_of_getElem? e
  · refine Nat.le_trans (List.length_filterMap_le _ _) ?_
    unfold slIx
    refine sliceRange_length_le _ _ _ _ (fun hc => ?_) fun hc => ?_
    · simp only [sliceBounds] at hc ⊢
      simp only [hc, if_true]
      constructor
      · cases lo with
        | none => simp
        | some i => dsimp only; omega
      · cases hi with
        | none => simp
        | some i => dsimp only; omega
    · simp only [sliceBounds] at hc ⊢
      simp only [hc, if_false]
      constructor
      · cases lo with
        | none => simp
        | some i => dsimp only; omega
      · cases hi with
        | none => simp
        | some i => dsimp only; omega
theorem sw_cell {elt : Expr} {gs : List Comprehension} {scope : Scope} {pos py : Pos} {y : Str} {l : Nat} {env : Env} (hy : env.scope.names.lookup y = some .cell) : swapsWith (.ListComp elt gs scope pos) (some (.Name y py)) l env = pure false := by
  have ky : env.kindOf y = some .cell := hy
  unfold swapsWith
  simp only [ky]
  cases h : env.blockKind == ScopeKind.function <;> rfl
def tTryMany (K : PySem.W.Frag) (l : List (Value × (Addr → Value → Option Addr → TS))) (tb : WX → TS) (Wout : WX) : TS := fun D σ H => tb (wMany K Wout D l) D σ H
theorem s_tryM {K : PySem.W.Frag} {l : List (Value × (Addr → Value → Option Addr → TS))} {tb : WX → TS} {Wout : WX} {D : Ends} {σ : L2.St} {H : Hp} (h : tb (wMany K Wout D l) D σ H) : tTryMany K l tb Wout D σ H := h
section
variable {K : PySem.W.Frag} {σ : L2.St} {H : Hp} {te ta tb tl : TE} {x : V} {D : Ends}
theorem el_sl3 {tl th ts : TO} {a : Addr} {xs : List V} {lo hi st : Option Int} (h : Ev te σ H (.ref a)) (h1 : EvO tl σ H lo) (h2 : EvO th σ H hi) (h3 : EvO ts σ H st) (h0 : st ≠ some 0) (hs : SqL K H a xs) : EvL (tSl3 (rSlL3 K) te tl th ts) σ H (stepV xs lo hi st) := fun H1 e _ q =>
  h H1 e _ fun H2 e2 => h1 H2 (e.trans e2) _ fun H3 e3 => h2 H3 ((e.trans e2).trans e3) _ fun H4 e4 => h3 H4 (((e.trans e2).trans e3).trans e4) _ fun H5 e5 =>
    ⟨a, xs, rfl, ex_l ((((e.trans e2).trans e3).trans e4).trans e5) hs, h0, fun p hp => q p _ (fresh_back (((e2.trans e3).trans e4).trans e5) hp) ((((e2.trans e3).trans e4).trans e5).trans (Ex.new hp)) upd_same⟩
theorem ev_sum {ns : List Int} (h : EvL te σ H (ns.map V.int)) : Ev (tCB (rSum K) (tCons te tNil)) σ H (.int ns.sum) := fun H1 e Q q =>
  h H1 e _ fun p H2 hp e2 h2 => ⟨p, ns, rfl, sq_of h2, q H2 e2⟩
theorem ev_sum3 {tl th ts : TO} {a : Addr} {ns : List Int} {lo hi st : Option Int} (h : Ev te σ H (.ref a)) (h1 : EvO tl σ H lo) (h2 : EvO th σ H hi) (h3 : EvO ts σ H st) (h0 : st ≠ some 0) (hs : SqL K H a (ns.map V.int)) : ∃ c : Int, Ev (tCB (rSum K) (tCons (tSl3 (rSlL3 K) te tl th ts) tNil)) σ H (.int c) := by
  obtain ⟨ms, e, _⟩ := stepV_map V.int ns lo hi st
  exact ⟨ms.sum, ev_sum (by rw [← e]; exact el_sl3 h h1 h2 h3 h0 hs)⟩
end
theorem R_dropL {b : List Bool} : (R b).dropLast = R b.dropLast := by
  unfold R
  rw [List.map_dropLast]
theorem q_tryM {K : PySem.W.Frag} {l : List (Value × (Addr → Value → Option Addr → TS))} {tb : WX → TS} {Wout : WX} {D : Ends} {σ : L2.St} {H : Hp} {tz : TS} (h : tb (wMany K Wout { D with nx := tz D } l) { D with nx := tz D } σ H) : tSeq (tTryMany K l tb Wout) tz D σ H := h
/-! where a row stands -/
theorem asc_split {rs : List (List Bool)} {l : Option (List Bool)} (h : Asc l rs) (row : List Bool) : before rs row ++ rs.filter (fun r => !decide (R r < R row)) = rs := by
  have hp := asc_pair h
  clear h
  unfold before
  induction hp with
  | nil => rfl
  | @cons r rs h1 h2 ih =>
    by_cases hr : R r < R row
    · rw [List.filter_cons_of_pos (by simp [hr]), List.filter_cons_of_neg (by simp [hr]), List.cons_append, ih]
    · have h3 : ∀ y ∈ r :: rs, ¬ R y < R row := fun y hy z => by
        rcases List.mem_cons.mp hy with rfl | hy
        · exact hr z
        · exact hr (List.lt_trans (h1 y hy) z)
      rw [List.filter_eq_nil_iff.mpr fun y hy => by simpa using h3 y hy, List.filter_eq_self.mpr fun y hy => by simpa using h3 y hy]
      rfl
theorem bef_le (rs : List (List Bool)) (row : List Bool) : (before rs row).length ≤ rs.length := List.length_filter_le _ _
theorem asc_put {rs : List (List Bool)} {row : List Bool} (h : Asc none rs) (hn : row ∉ rs) : Asc none (rs.take (before rs row).length ++ [row] ++ rs.drop (before rs row).length) := by
  have e := asc_split h row
  have e1 : rs.take (before rs row).length = before rs row := by
    conv => lhs; rw [← e]
    exact List.take_left' (by rw [e])
  have e2 : rs.drop (before rs row).length = rs.filter (fun r => !decide (R r < R row)) := by
    conv => lhs; rw [← e]
    exact List.drop_left' (by rw [e])
  rw [e1, e2]
  refine asc_ins (by rw [e]; exact h) (fun x hx => of_decide_eq_true (List.mem_filter.mp hx).2) (fun x z => nomatch z) fun y ys hy => ?_
  have hm : y ∈ rs.filter (fun r => !decide (R r < R row)) := by rw [hy]; exact List.mem_cons_self
  obtain ⟨hm1, hm2⟩ := List.mem_filter.mp hm
  have hm2 : ¬ R y < R row := by simpa using hm2
  exact R_lt_or _ _ hm2 fun z => hn (by rw [← R_inj z]; exact hm1)
theorem at_bef {rs : List (List Bool)} {row : List Bool} (h : Asc none rs) (hin : row ∈ rs) : rs[(before rs row).length]? = some row := by
  have e := asc_split h row
  have hp := asc_pair h
  have hm : row ∈ rs.filter (fun r => !decide (R r < R row)) := List.mem_filter.mpr ⟨hin, by simp [List.lt_irrefl]⟩
  have e2 : rs[(before rs row).length]? = (rs.filter (fun r => !decide (R r < R row)))[0]? := by
    conv => lhs; rw [← e]
    rw [List.getElem?_append_right (by rw [e]; exact Nat.le_refl _), e, Nat.sub_self]
  rw [e2]
  have hq := hp.filter (fun r => !decide (R r < R row))
  generalize hx : rs.filter (fun r => !decide (R r < R row)) = xs at hm hq
  cases xs with
  | nil => cases hm
  | cons x xs =>
    rcases List.mem_cons.mp hm with rfl | hm
    · rfl
    · have h1 := (List.pairwise_cons.mp hq).1 row hm
      have h2 : x ∈ rs.filter (fun r => !decide (R r < R row)) := by rw [hx]; exact List.mem_cons_self
      have h3 : ¬ R x < R row := by simpa using (List.mem_filter.mp h2).2
      exact absurd h1 h3
theorem asc_cut {rs : List (List Bool)} (h : Asc none rs) {ms : List (List Bool)} (hs : ms.Sublist rs) : Asc none ms := asc_iff.mpr ((asc_pair h).sublist hs)
theorem mem_put {rs : List (List Bool)} {row r : List Bool} {i : Nat} : r ∈ rs.take i ++ [row] ++ rs.drop i ↔ r ∈ rs ∨ r = row := by
  rw [List.mem_append, List.mem_append, List.mem_singleton]
  conv => rhs; rw [← List.take_append_drop i rs, List.mem_append]
  constructor
  · rintro ((h | h) | h)
    · exact .inl (.inl h)
    · exact .inr h
    · exact .inl (.inr h)
  · rintro ((h | h) | h)
    · exact .inl (.inl h)
    · exact .inr h
    · exact .inl (.inr h)
theorem put_sort {rs : List (List Bool)} {row : List Bool} (h : Asc none rs) (hn : row ∉ rs) (hnd : (rs ++ [row]).Nodup) : sortR (rs ++ [row]) = rs.take (before rs row).length ++ [row] ++ rs.drop (before rs row).length := by
  refine asc_ext (asc_sort hnd) (asc_put h hn) fun r => ?_
  rw [mem_sortR, mem_put, List.mem_append, List.mem_singleton]
theorem nodup_at {α : Type} : ∀ {xs : List α} {i j : Nat}, xs.Nodup → ∀ (hi : i < xs.length) (hj : j < xs.length), xs[i] = xs[j] → i = j
  | x :: xs, 0, 0, _, _, _, _ => rfl
  | x :: xs, 0, j + 1, h, _, hj, e => by
      have := (List.nodup_cons.mp h).1
      exact absurd (by rw [show x = xs[j]'(by simpa using hj) from e]; exact List.getElem_mem _) this
  | x :: xs, i + 1, 0, h, hi, _, e => by
      have := (List.nodup_cons.mp h).1
      exact absurd (by rw [← show xs[i]'(by simpa using hi) = x from e]; exact List.getElem_mem _) this
  | x :: xs, i + 1, j + 1, h, hi, hj, e => by
      rw [nodup_at (List.nodup_cons.mp h).2 (by simpa using hi) (by simpa using hj) e]
theorem drop_at {rs : List (List Bool)} {row : List Bool} (h : Asc none rs) (hin : row ∈ rs) : rs.eraseIdx (before rs row).length = rs.filter fun r => !decide (R r = R row) := by
  have hat := at_bef h hin
  refine asc_ext (asc_cut h (List.eraseIdx_sublist ..)) (asc_filter h _) fun r => ?_
  rw [List.mem_filter, List.mem_eraseIdx_iff_getElem?]
  have hnd := asc_nodup h
  constructor
  · rintro ⟨j, hj, e⟩
    refine ⟨List.mem_of_getElem? e, ?_⟩
    rw [Bool.not_eq_true', decide_eq_false_iff_not]
    intro z
    have z := R_inj z
    obtain ⟨h1, e1⟩ := List.getElem?_eq_some_iff.mp e
    obtain ⟨h2, e2⟩ := List.getElem?_eq_some_iff.mp hat
    exact hj (nodup_at hnd h1 h2 (by rw [e1, e2, z]))
  · rintro ⟨hr, hne⟩
    rw [Bool.not_eq_true', decide_eq_false_iff_not] at hne
    obtain ⟨j, hj⟩ := List.getElem?_of_mem hr
    refine ⟨j, fun z => ?_, hj⟩
    rw [z, hat] at hj
    exact hne (by rw [Option.some.inj hj])
section
variable {K : PySem.W.Frag} {σ : L2.St} {H : Hp} {te ta tb tl : TE} {x v : V} {D : Ends}
theorem s_popAt {l : Addr} {xs : List V} {i : Nat} {y : V} (hl : H l = some (.lst xs)) (ha : Ev ta σ H (.ref l)) (hi : Ev tb σ H (.int (i : Int))) (hy : xs[i]? = some y) (hi2 : i < 100000) (k : ∀ H1, Ex H H1 → D.nx σ (upd H1 l (.lst (xs.eraseIdx i)))) :
    tDrop (tBM K "list" rPopAt ta (tCons tb tNil)) D σ H :=
  ha H (Ex.refl H) _ fun H1 e1 => ⟨.inl ⟨rfl, xs, sq_of (e1 _ _ hl)⟩, hi H1 e1 _ fun H2 e2 => ⟨l, xs, i, i, y, rfl, rfl, (e1.trans e2) _ _ hl, by omega, by omega, by
    have := (List.getElem?_eq_some_iff.mp hy).1
    unfold seqIndex?
    rw [if_neg (show ¬ ((i : Int) < 0) by omega)]
    simp [this], hy, k H2 (e1.trans e2)⟩⟩
theorem ev_neUU {xs : List V} (ha : EvU ta σ H xs) (hb : ∀ H1, Ex H H1 → EvU tb σ H1 xs) (h : xs.all plainV = true) : Ev (tOp (rNeD K) ta tb) σ H (.bl false) := fun H1 e Q q =>
  ha H1 e _ fun p H2 _ e2 hp => hb H2 (e.trans e2) H2 (Ex.refl H2) _ fun r H3 _ e3 hr => ⟨.tuple (xs.map toD), .tuple (xs.map toD), .tup (st_of (e3 _ _ hp)) (dpAll_plain h), .tup (st_of hr) (dpAll_plain h), shaped_tup h, shaped_tup h, by
    rw [eqv_same (shaped_tup h)]
    exact q H3 (e2.trans e3)⟩
theorem el_slRL {tl th ts : TO} {a : Addr} {rs : List (List Bool)} {lo hi st : Option Int} (h : Ev te σ H (.ref a)) (h1 : EvO tl σ H lo) (h2 : EvO th σ H hi) (h3 : EvO ts σ H st) (h0 : st ≠ some 0) (hs : SqL K H a (RL rs)) : ∃ ms : List (List Bool), EvL (tSl3 (rSlL3 K) te tl th ts) σ H (RL ms) ∧ (∀ m ∈ ms, m ∈ rs) ∧ ms.length ≤ rs.length ∧ ms = (slIx lo hi st rs.length).filterMap (rs[·]?) := by
  obtain ⟨ms, e, g⟩ := stepV_map (fun r => V.str (T (R r))) rs lo hi st
  refine ⟨ms, ?_, g⟩
  have : stepV (RL rs) lo hi st = RL ms := e
  rw [← this]
  exact el_sl3 h h1 h2 h3 h0 hs
end
theorem slIx_two (n : Nat) : (slIx none none (some 2) n).Pairwise (· < ·) := by
  unfold slIx sliceRange
  simp only [sliceBounds, Option.getD_some, show (2 : Int) > 0 by decide, if_true]
  refine List.Pairwise.map _ (fun i j (h : i < j) => ?_) List.pairwise_lt_range
  omega
theorem asc_pick {rs : List (List Bool)} (h : Asc none rs) {ix : List Nat} (hx : ix.Pairwise (· < ·)) : Asc none (ix.filterMap (rs[·]?)) := by
  refine asc_iff.mpr (List.pairwise_filterMap.mpr (hx.imp fun {i j} hij a ha b hb => ?_))
  obtain ⟨h1, rfl⟩ := List.getElem?_eq_some_iff.mp ha
  obtain ⟨h2, rfl⟩ := List.getElem?_eq_some_iff.mp hb
  exact asc_lt hij h2 h
theorem RL_erase (rs : List (List Bool)) (i : Nat) : (RL rs).eraseIdx i = RL (rs.eraseIdx i) := by
  unfold RL
  rw [List.eraseIdx_eq_take_drop_succ, List.eraseIdx_eq_take_drop_succ, List.map_append, List.map_take, List.map_drop]
theorem RL_put (rs : List (List Bool)) (row : List Bool) (i : Nat) : (RL rs).take i ++ [.str (T (R row))] ++ (RL rs).drop i = RL (rs.take i ++ [row] ++ rs.drop i) := by
  unfold RL
  simp [List.map_take, List.map_drop]
theorem before_drop (rs : List (List Bool)) (row : List Bool) : before (rs.filter fun r => !decide (R r = R row)) row = before rs row := by
  unfold before
  rw [List.filter_filter]
  refine List.filter_congr fun r _ => ?_
  by_cases h : R r < R row
  · have : R r ≠ R row := fun z => List.lt_irrefl _ (by rw [z] at h; exact h)
    simp [h, this]
  · simp [h]
theorem before_app (xs ys : List (List Bool)) (row : List Bool) : before (xs ++ ys) row = before xs row ++ before ys row := by
  unfold before
  rw [List.filter_append]
theorem before_put (rs : List (List Bool)) (row : List Bool) (i : Nat) : before (rs.take i ++ [row] ++ rs.drop i) row = before rs row := by
  have h : before [row] row = [] := by
    unfold before
    rw [List.filter_eq_nil_iff]
    intro r hr
    rw [List.mem_singleton.mp hr]
    simp [List.lt_irrefl]
  rw [before_app, before_app, h, List.append_nil, ← before_app, List.take_append_drop]
end Kr
/-! several except clauses with names, each error kept -/
namespace Kr
open PySem PySem.Spec PyProof.Rows L2 Evl
/-- what the clauses 'except x as n' wish, one after the other -/
def wManyK (K : PySem.W.Frag) (Wout : WX) (D : Ends) : List (Value × Nat × (Addr → Value → Option Addr → TS)) → WX
  | [] => Wout
  | (c, i, ts) :: r => fun cls d σ H => ∃ b, PySem.W.exmOne K cls c = some b ∧
    (b = true → ∀ a, H a = none → ts a cls d { nx := fun σ' H' => D.nx (σ'.set i none) (upd H' a (ExK cls d a)), rt := fun _ _ => False } (σ.set i (some (.ref a))) H) ∧ (b = false → wManyK K Wout D r cls d σ H)
inductive HdsK (X : Cx) : List ExceptHandler → List (Value × Nat × (Addr → Value → Option Addr → TS)) → Prop
  | nil : HdsK X [] []
  | cons {x n : Str} {c : Value} {i : Nat} {ts : Addr → Value → Option Addr → TS} {b₀ : Stmt} {suite : List Stmt} {np pos' : Pos} {hds : List ExceptHandler} {l : List (Value × Nat × (Addr → Value → Option Addr → TS))}
      (hi : X.N[i]? = some n) (hln : X.env.kindOf n = some .local) (hc : Names X x c)
      (hsu : ∀ (a : Addr) (oe : Obj) (cls : Value) (d : Option Addr) (pn : List (Addr × Obj)), Zc cls d oe → (∃ vs, oe.data = .fields vs) → PSs (X.suite a ((a, oe) :: pn)) (b₀ :: suite) (ts a cls d)) (r : HdsK X hds l) :
      HdsK X (.ExceptHandler (some (.Name x np)) (some n) (b₀ :: suite) pos' :: hds) ((c, i, ts) :: l)
section
variable {X : Cx} {body : List Stmt} {h₀ : ExceptHandler} {hds : List ExceptHandler} {l : List (Value × Nat × (Addr → Value → Option Addr → TS))} {pos : Pos} {tb : WX → TS} {Wout : WX}
theorem ps_try_manyK (hs : X.stack = X.env :: X.outer) (hf : X.env.frame = some X.env.locals) (hex : X.ex = []) (hN : X.N.Nodup) (tk : Takes X Wout)
    (hb : ∀ (W : WX) (pn : List (Addr × Obj)) (xe : Value → Shared → Prop), Takes (X.tr pn xe) W → PassesOwn (model X.prog X.w) X.A X.env xe → PSs (X.tr pn xe) body (tb W))
    (hh : HdsK X (h₀ :: hds) l) : PS X (.Try body (h₀ :: hds) [] [] pos) (fun D σ H => tb (wManyK X.K Wout D l) D σ H) := by
  refine ⟨fun pins s σ H D I h => ?_⟩
  have okX := I.ok
  have frX : X.A.frames = some (X.env :: X.outer) := by rw [okX.frames, hs]
  refine wpAny_Try_except ?_
  refine wpAny_mono ((hb (wManyK X.K Wout D l) (X.pn ++ pins) (fun e s₁ => wpAny (model X.prog X.w) X.A (noteFrame e X.env) (fun _ s₂ => wpAny (model X.prog X.w) X.A (setFlight e none) (fun _ s₃ =>
    wpAny (model X.prog X.w) X.A (handleBy e X.env (h₀ :: hds)) (SP X pins D) X.xe s₃) X.xe s₂) X.xe s₁) (fun u s' air => ?_) PassesOwn.looking).run [] s σ H D (I.toTry _) h) (fun f s1 done => ?_) (fun e s1 he => he)
  · obtain ⟨a, B, s2, pins2, σ2, H2, cls, d, rfl, J0, nb, up, sky, na, os, ag, w⟩ := air
    have J : Inv X pins σ2 H2 s2 := J0.ofTry okX
    rw [show (X.tr (X.pn ++ pins) _).stack = X.env :: X.outer from hs] at sky
    show wpAny (model X.prog X.w) X.A (noteFrame (.ref a) X.env) _ _ _
    refine Sky.land Zc.steady frX hf sky fun h3 fl3 up3 => ?_
    have J3 : Inv X pins σ2 H2 { s' with heap := h3 } := J.landed nb fl3.1 (up.trans up3) os ag
    obtain ⟨oe3, vs3, he3, hz3, hd3⟩ := fl3.there
    have far : a ∉ frs (X.env :: X.outer) := fun hm => by
      obtain ⟨_, o', e', hnf⟩ := fl3.2.2.1.mem hm
      have e2 := he3.symm.trans e'
      cases e2
      exact hnf _ hd3
    have nL : a ≠ X.env.locals := fun z => far (List.mem_filterMap.mpr ⟨X.env, List.mem_cons_self, by rw [hf, z]⟩)
    have nF : a ∉ X.fs := fun hm => by
      obtain ⟨e, he, q⟩ := List.mem_filterMap.mp hm
      exact far (List.mem_filterMap.mpr ⟨e, List.mem_cons_of_mem _ he, q⟩)
    have ground : ∀ o, s2.heap.get? a = some o → False := fun o e => by
      have := nb a o e (by rw [show (X.tr (X.pn ++ pins) _).stack = X.env :: X.outer from hs]; exact far)
      rw [fl3.2.1] at this
      cases this
    have hnew : X.s_0.heap.get? a = none := by
      cases e : X.s_0.heap.get? a with
      | none => rfl
      | some o =>
        obtain ⟨o', e'⟩ := J.base.there a o e (by rw [hex]; exact fun z => nomatch z)
        exact (ground o' e').elim
    have hpn : ∀ p ∈ X.pn ++ pins, p.1 ≠ a := fun p hp z => by
      have e := (J.pin p hp).1
      rw [z] at e
      exact ground _ e
    have S3 := J3.suite he3 hd3 na nL nF
    have go : ∀ {hds' : List ExceptHandler} {l' : List (Value × Nat × (Addr → Value → Option Addr → TS))}, HdsK X hds' l' → wManyK X.K Wout D l' cls d σ2 H2 →
        wpAny (model X.prog X.w) X.A (handleBy (.ref a) X.env hds') (SP X pins D) X.xe { s' with heap := h3 } := by
      intro hds' l' hk
      induction hk with
      | nil =>
        intro w
        refine wpAny_handleBy_nil ?_
        obtain ⟨k1, k2, k3, oe, vs, T, oT, ts', he, hz, hd, h1, hr⟩ := id fl3
        unfold PySem.passOn
        refine wpAny_bind (wpAny_field he hd h1 ?_)
        rw [if_neg (show ¬ ((Value.ref T == Value.none) = true) from by simp)]
        have fin : wpAny (model X.prog X.w) X.A (setFlight (.ref a) X.env.frame) (fun _ s4 => wpAny (model X.prog X.w) X.A (throw (.ref a) : Sem Flow) (SP X pins D) X.xe s4) X.xe { s' with heap := h3 } := by
          rw [hf]
          refine HandSPX.setFlight_upZ fl3 fun h4 hh4 up4 => wpAny_throw (tk _ _ ?_)
          exact ⟨a, B, s2, pins, σ2, H2, cls, d, rfl, J, nb, (up.trans up3).trans up4, .inr (.inr (by rw [hs]; exact hh4)), na, os, ag, w⟩
        first
          | exact wpAny_bind (wpAny_pure (wpAny_bind fin))
          | exact wpAny_bind fin
      | @cons x n c i ts b₀ suite np pos' hds2 l2 hi hln hc hsu r ih =>
        intro w
        obtain ⟨b, hb1, hyes, hno⟩ := w
        refine wpAny_handleBy_cons (codeAny_handlers_test ?_) (by intro q; cases q)
        have LT : PySem.W.Looks (model X.prog X.w) h3 (typeOf (.ref a)) cls := fun A Q E s k q => wpAny_typeOf_ref (k _ _ he3) (by rw [hz3.1]; exact q)
        have LM := PySem.W.exm_one (M := model X.prog X.w) (J3.kIn) LT hb1
        have test : ∀ {Q : Value → Shared → Prop} {E : Value → Shared → Prop}, Q c { s' with heap := h3 } → wpAny (model X.prog X.w) (X.A.mark (some (.ref a))) (eval (.Name x np) X.env) Q E { s' with heap := h3 } := fun {Q E} q => by
          obtain ⟨hg, hdbg, hm | ⟨hm, hv, hnn⟩⟩ := hc
          · exact ld_glob (X := X.suite a ((a, oe3) :: (X.pn ++ pins))) S3 hg hm q hdbg
          · exact ld_blt (X := X.suite a ((a, oe3) :: (X.pn ++ pins))) S3 hg hm hv q hnn hdbg
        refine test (LM.here ?_)
        cases b with
        | true =>
          refine codeAny_handlers_suite_as (HandSPX.lands_againZ fl3 fun h4 fl4 up4 => ?_)
          have J4 : Inv X pins σ2 H2 { s' with heap := h4 } := J.landed nb fl4.1 ((up.trans up3).trans up4) os ag
          obtain ⟨oe4, vs4, he4, hz4, hd4⟩ := fl4.there
          have S4 := J4.suite he4 hd4 na nL nF
          refine store_ok (X := X.suite a ((a, oe4) :: (X.pn ++ pins))) (v := .ref a) S4 hN hi (.inl hln) rfl (fun s5 S5 => ?_) (.inr hln)
          refine wpAny_mono ((hsu a oe4 cls d (X.pn ++ pins) hz4 ⟨_, hd4⟩).run [] s5 _ H2 _ S5 (hyes rfl a na)) (fun f s6 hsp => ?_) (fun _ _ z => False.elim z)
          cases f with
          | next =>
            obtain ⟨σ6, H6, S6, q6⟩ := hsp
            have P6 : Inv X ((a, oe4) :: pins) σ6 H6 s6 := ⟨okX, S6.os, S6.bare, S6.base, S6.loc, S6.cell, S6.free, S6.freeC, fun p hp => S6.pin p (List.mem_append_left _ (by
              rcases List.mem_append.mp hp with z | z
              · exact List.mem_cons_of_mem _ (List.mem_append_left _ z)
              · rcases List.mem_cons.mp z with z | z
                · rw [z]; exact List.mem_cons_self
                · exact List.mem_cons_of_mem _ (List.mem_append_right _ z))), S6.hok, S6.len⟩
            exact gone_ok P6 hN hi hln fun s7 J7 => ⟨_, _, inv_track J7 hz4 ⟨_, hd4⟩ hnew hpn, q6⟩
          | brk => obtain ⟨_, _, _, q6⟩ := hsp; exact q6.elim
          | cont => obtain ⟨_, _, _, q6⟩ := hsp; exact q6.elim
          | ret u => obtain ⟨_, _, _, _, _, q6⟩ := hsp; exact q6.elim
        | false =>
          show wpAny _ X.A (handleBy (.ref a) X.env hds2) _ _ _
          exact ih (hno rfl)
    exact go hh w
  · cases f with
    | next => obtain ⟨σ1, H1, J, q⟩ := done; exact wpAny_execs_nil ⟨σ1, H1, J.ofTry okX, q⟩
    | brk => obtain ⟨σ1, H1, J, q⟩ := done; exact ⟨σ1, H1, J.ofTry okX, q⟩
    | cont => obtain ⟨σ1, H1, J, q⟩ := done; exact ⟨σ1, H1, J.ofTry okX, q⟩
    | ret u => obtain ⟨v, σ1, H1, J, r, q⟩ := done; exact ⟨v, σ1, H1, J.ofTry okX, r, q⟩
end
def tTryManyK (K : PySem.W.Frag) (l : List (Value × Nat × (Addr → Value → Option Addr → TS))) (tb : WX → TS) (Wout : WX) : TS := fun D σ H => tb (wManyK K Wout D l) D σ H
theorem q_tryMK {K : PySem.W.Frag} {l : List (Value × Nat × (Addr → Value → Option Addr → TS))} {tb : WX → TS} {Wout : WX} {D : Ends} {σ : L2.St} {H : Hp} {tz : TS} (h : tb (wManyK K Wout { D with nx := tz D } l) { D with nx := tz D } σ H) : tSeq (tTryManyK K l tb Wout) tz D σ H := h
end Kr
/-! the way back: what was read was a row; signs that are too few; more than a greatest number begins with -/
namespace Kr
open PySem PySem.Spec PyProof.Rows L2 Evl
theorem takeB_back {b : List Bool} {n w c : Bool} {t t' : Nat} (h : takeB b false n w t = .ok c t') : t' = t + 1 ∧ t < b.length ∧ b.drop t = (c != n) :: b.drop t' := by
  unfold takeB at h
  by_cases ht : t < b.length
  · rw [List.getElem?_eq_getElem ht] at h
    cases h
    refine ⟨rfl, ht, ?_⟩
    rw [List.drop_eq_getElem_cons ht]
    congr 1
    cases b[t] <;> cases n <;> rfl
  · rw [List.getElem?_eq_none (by omega)] at h
    cases h
theorem takeB_short {b : List Bool} {n w : Bool} {t : Nat} {c : Str} {p : Int} (h : takeB b false n w t = .bad c p) : c = "Short" ∧ p = b.length ∧ b.length ≤ t := by
  unfold takeB at h
  by_cases ht : t < b.length
  · rw [List.getElem?_eq_getElem ht] at h
    cases h
  · rw [List.getElem?_eq_none (by omega)] at h
    cases h
    exact ⟨rfl, rfl, by omega⟩
theorem takeB_full {b : List Bool} {f n w : Bool} {t : Nat} (h : t < b.length) : takeB b f n w t = .ok (b[t] != n) (t + 1) := by
  unfold takeB
  rw [List.getElem?_eq_getElem h]
theorem div_of_rng {x y : Int} {k : Nat} (h : y * 2 ^ k ≤ x ∧ x < (y + 1) * 2 ^ k) : x / 2 ^ k = y := by
  have hp : (0 : Int) < 2 ^ k := Int.pow_pos (by decide)
  have h1 := (Int.le_ediv_iff_mul_le hp).mpr h.1
  have h2 := (Int.ediv_lt_iff_lt_mul hp).mpr h.2
  omega
theorem one_mod (y : Int) (c : Bool) : decide ((y * 2 + (if c then 1 else 0)) % 2 = 1) = c := by
  cases c with
  | true => exact decide_eq_true (by simp)
  | false => exact decide_eq_false (by simp)
theorem tdig_back {b : List Bool} {n : Bool} : ∀ {k : Nat} {y x : Int} {t t' : Nat}, tdig b false n k y t = .ok x t' → t' = t + k ∧ x / 2 ^ k = y ∧ b.drop t = nz n (digs x k) ++ b.drop t'
  | 0, y, x, t, t', h => by
    cases h
    refine ⟨rfl, ?_, rfl⟩
    rw [Int.pow_zero, Int.ediv_one]
  | k + 1, y, x, t, t', h => by
    unfold tdig at h
    cases ht : takeB b false n false t with
    | bad c p => rw [ht] at h; cases h
    | ok c t1 =>
      rw [ht] at h
      have h : tdig b false n k (y * 2 + (if c then 1 else 0)) t1 = .ok x t' := h
      obtain ⟨rfl, h1, h2⟩ := takeB_back ht
      obtain ⟨rfl, h3, h4⟩ := tdig_back h
      refine ⟨by omega, ?_, ?_⟩
      · rw [Int.pow_succ, ← Int.ediv_ediv_of_nonneg (Int.le_of_lt (Int.pow_pos (by decide))), h3]
        cases c <;> simp <;> omega
      · rw [h2, h4, digs, h3, one_mod]
        rfl
theorem tones_back {b : List Bool} {n : Bool} : ∀ {k : Nat} {w : Bool} {o o' t t' : Nat}, tones b false n k w o t = .ok o' t' → ∃ j, j ≤ k ∧ o' = o + j ∧ b.drop t = nz n (List.replicate j true ++ (if j < k then [false] else [])) ++ b.drop t' ∧ t' = t + j + (if j < k then 1 else 0)
  | 0, w, o, o', t, t', h => by
    cases h
    exact ⟨0, Nat.le_refl _, rfl, rfl, rfl⟩
  | k + 1, w, o, o', t, t', h => by
    unfold tones at h
    cases ht : takeB b false n w t with
    | bad c p => rw [ht] at h; cases h
    | ok c t1 =>
      rw [ht] at h
      obtain ⟨rfl, h1, h2⟩ := takeB_back ht
      cases c with
      | false =>
        cases (show Res.ok o (t + 1) = .ok o' t' from h)
        refine ⟨0, Nat.zero_le _, rfl, ?_, ?_⟩
        · rw [if_pos (Nat.succ_pos k), h2]
          rfl
        · rw [if_pos (Nat.succ_pos k)]
      | true =>
        obtain ⟨j, hj, rfl, h3, h4⟩ := tones_back (show tones b false n k false (o + 1) (t + 1) = .ok o' t' from h)
        have e : (if j + 1 < k + 1 then [false] else []) = (if j < k then [false] else [] : List Bool) := by
          by_cases q : j < k
          · rw [if_pos q, if_pos (by omega)]
          · rw [if_neg q, if_neg (by omega)]
        have e2 : (if j + 1 < k + 1 then 1 else 0) = (if j < k then 1 else 0 : Nat) := by
          by_cases q : j < k
          · rw [if_pos q, if_pos (by omega)]
          · rw [if_neg q, if_neg (by omega)]
        refine ⟨j + 1, by omega, by omega, ?_, ?_⟩
        · rw [e, h2, h3]
          rfl
        · rw [e2]
          omega
theorem blen_of {m k : Nat} (h1 : 2 ^ k ≤ m) (h2 : m < 2 ^ (k + 1)) : blen m = k + 1 := by
  have := blen_gt h1
  have := blen_le h2 (by have := Nat.two_pow_pos k; omega)
  omega
theorem tcount_back {b : List Bool} {n w : Bool} {v : Int} {t t' : Nat} (h : tcount b false n w t = .ok v t') : countOk v ∧ b.drop t = nz n (countRow v.toNat) ++ b.drop t' ∧ t' = t + (countRow v.toNat).length := by
  unfold tcount at h
  cases h1 : tones b false n 7 w 0 t with
  | bad c p => rw [h1] at h; cases h
  | ok o t1 =>
    rw [h1] at h
    have h : (tdig b false n o 1 t1).bind _ = Res.ok v t' := h
    cases h2 : tdig b false n o 1 t1 with
    | bad c p => rw [h2] at h; cases h
    | ok s t2 =>
      rw [h2] at h
      have h : (tdig b false n (s - 1).toNat 1 t2).bind _ = Res.ok v t' := h
      cases h3 : tdig b false n (s - 1).toNat 1 t2 with
      | bad c p => rw [h3] at h; cases h
      | ok x t3 =>
        rw [h3] at h
        cases (show Res.ok (x - 1) t3 = Res.ok v t' from h)
        obtain ⟨j, hj, ho, d1, p1⟩ := tones_back h1
        rw [Nat.zero_add] at ho
        subst ho
        have r2 := tdig_rng h2
        have r3 := tdig_rng h3
        obtain ⟨p2, _, d2⟩ := tdig_back h2
        obtain ⟨p3, _, d3⟩ := tdig_back h3
        rw [Int.one_mul] at r2 r3
        have ho0 : (0 : Int) < 2 ^ o := Int.pow_pos (by decide)
        obtain ⟨sn, rfl⟩ := Int.eq_ofNat_of_zero_le (show 0 ≤ s by omega)
        have hs1 : 1 ≤ sn := by omega
        have e1 : ((sn : Int) - 1).toNat = sn - 1 := by omega
        rw [e1] at r3 p3 d3
        have hx0 : (0 : Int) < 2 ^ (sn - 1) := Int.pow_pos (by decide)
        obtain ⟨xn, rfl⟩ := Int.eq_ofNat_of_zero_le (show 0 ≤ x by omega)
        have bs : blen sn = o + 1 := blen_of (by
          have := r2.1
          have e : ((2 : Int) ^ o) = ((2 ^ o : Nat) : Int) := by simp
          rw [e] at this
          omega) (by
          have := r2.2
          have e : ((1 + 1 : Int) * 2 ^ o) = ((2 ^ (o + 1) : Nat) : Int) := by rw [Nat.pow_succ, Nat.mul_comm]; simp
          rw [e] at this
          omega)
        have bx : blen xn = sn - 1 + 1 := blen_of (by
          have := r3.1
          have e : ((2 : Int) ^ (sn - 1)) = ((2 ^ (sn - 1) : Nat) : Int) := by simp
          rw [e] at this
          omega) (by
          have := r3.2
          have e : ((1 + 1 : Int) * 2 ^ (sn - 1)) = ((2 ^ (sn - 1 + 1) : Nat) : Int) := by rw [Nat.pow_succ, Nat.mul_comm]; simp
          rw [e] at this
          omega)
        have hsn : sn ≤ 255 := by
          have h8 : (2 : Nat) ^ (o + 1) ≤ 2 ^ 8 := Nat.pow_le_pow_right (by decide) (by omega)
          have := r2.2
          have e : ((1 + 1 : Int) * 2 ^ o) = ((2 ^ (o + 1) : Nat) : Int) := by rw [Nat.pow_succ, Nat.mul_comm]; simp
          rw [e] at this
          omega
        have hxn : xn < 2 ^ 255 := by
          have h8 : (2 : Nat) ^ (sn - 1 + 1) ≤ 2 ^ 255 := Nat.pow_le_pow_right (by decide) (by omega)
          have := r3.2
          have e : ((1 + 1 : Int) * 2 ^ (sn - 1)) = ((2 ^ (sn - 1 + 1) : Nat) : Int) := by rw [Nat.pow_succ, Nat.mul_comm]; simp
          rw [e] at this
          omega
        have hx1 : 1 ≤ xn := by omega
        have ev : ((xn : Int) - 1).toNat = xn - 1 := by omega
        have row : countRow (xn - 1) = List.replicate o true ++ (if o < 7 then [false] else []) ++ digs (sn : Int) o ++ digs (xn : Int) (sn - 1) := by
          unfold countRow
          rw [show xn - 1 + 1 = xn by omega, bx, show sn - 1 + 1 = sn by omega, bs]
          simp
        rw [ev, row]
        refine ⟨⟨by omega, by omega⟩, ?_, ?_⟩
        · rw [nz_app, nz_app, List.append_assoc, List.append_assoc, ← d3, ← d2, ← d1]
        · simp only [List.length_append, List.length_replicate, digs_len]
          have : (if o < 7 then [false] else [] : List Bool).length = if o < 7 then 1 else 0 := by split <;> rfl
          rw [this]
          omega
theorem twhole_back {b : List Bool} {n : Bool} {v : Int} {t t' : Nat} (h : twhole b false n t = .ok v t') : wholeOk v ∧ b.drop t = nz n (wholeRow v) ++ b.drop t' ∧ t' = t + (wholeRow v).length := by
  unfold twhole at h
  cases h1 : takeB b false n true t with
  | bad c p => rw [h1] at h; cases h
  | ok c t1 =>
    rw [h1] at h
    obtain ⟨rfl, h2, h3⟩ := takeB_back h1
    cases c with
    | true =>
      obtain ⟨hv, h4, h5⟩ := tcount_back (show tcount b false n false (t + 1) = .ok v t' from h)
      have h0 : ¬ v < 0 := by have := hv.1; omega
      refine ⟨(wholeOk_pos h0).mpr hv, ?_, ?_⟩
      · unfold wholeRow
        rw [if_neg h0, h3, h4]
        rfl
      · unfold wholeRow
        rw [if_neg h0, List.length_cons]
        omega
    | false =>
      have h : (tcount b false (!n) false (t + 1)).bind (fun x t2 => Res.ok (-1 - x) t2) = Res.ok v t' := h
      cases h6 : tcount b false (!n) false (t + 1) with
      | bad c p => rw [h6] at h; cases h
      | ok x t2 =>
        rw [h6] at h
        cases (show Res.ok (-1 - x) t2 = Res.ok v t' from h)
        obtain ⟨hv, h4, h5⟩ := tcount_back h6
        have h0 : -1 - x < 0 := by have := hv.1; omega
        have e : -1 - (-1 - x) = x := by omega
        refine ⟨(wholeOk_neg h0).mpr (by rw [e]; exact hv), ?_, ?_⟩
        · unfold wholeRow
          rw [if_pos h0, e, h3, h4]
          show _ = nz n (false :: neg (countRow x.toNat)) ++ _
          rw [show nz n (false :: neg (countRow x.toNat)) = (false != n) :: nz n (neg (countRow x.toNat)) from rfl, nz_neg]
          rfl
        · unfold wholeRow
          rw [if_pos h0, e, List.length_cons, neg_len]
          omega
theorem tfix_back {b : List Bool} {n : Bool} {most : Int} : ∀ {k : Nat} {y x : Int} {t t' : Nat}, tfix b false n most k y t = .ok x t' → y ≤ most / 2 ^ k → t' = t + k ∧ x / 2 ^ k = y ∧ x ≤ most ∧ b.drop t = nz n (digs x k) ++ b.drop t'
  | 0, y, x, t, t', h, hy => by
    cases h
    rw [Int.pow_zero, Int.ediv_one] at hy
    refine ⟨rfl, ?_, hy, rfl⟩
    rw [Int.pow_zero, Int.ediv_one]
  | k + 1, y, x, t, t', h, hy => by
    unfold tfix at h
    cases ht : takeB b false n false t with
    | bad c p => rw [ht] at h; cases h
    | ok c t1 =>
      rw [ht] at h
      have h : (if y * 2 + (if c then 1 else 0) > most / 2 ^ k then .bad "Wrong" ((t1 : Int) - 1) else tfix b false n most k (y * 2 + (if c then 1 else 0)) t1) = Res.ok x t' := h
      by_cases hg : y * 2 + (if c then 1 else 0) > most / 2 ^ k
      · rw [if_pos hg] at h; cases h
      · rw [if_neg hg] at h
        obtain ⟨rfl, h1, h2⟩ := takeB_back ht
        obtain ⟨rfl, h3, h5, h4⟩ := tfix_back h (by omega)
        refine ⟨by omega, ?_, h5, ?_⟩
        · rw [Int.pow_succ, ← Int.ediv_ediv_of_nonneg (Int.le_of_lt (Int.pow_pos (by decide))), h3]
          cases c <;> simp <;> omega
        · rw [h2, h4, digs, h3, one_mod]
          rfl
/-! ### enough signs -/
theorem tdig_full {b : List Bool} {f n : Bool} : ∀ {k : Nat} {y : Int} {t : Nat}, t + k ≤ b.length → ∃ x, tdig b f n k y t = .ok x (t + k)
  | 0, y, t, h => ⟨y, rfl⟩
  | k + 1, y, t, h => by
    obtain ⟨x, hx⟩ := tdig_full (b := b) (f := f) (n := n) (k := k) (y := y * 2 + (if (b[t] != n) then 1 else 0)) (t := t + 1) (by omega)
    refine ⟨x, ?_⟩
    unfold tdig
    rw [takeB_full (by omega)]
    show tdig b f n k _ (t + 1) = _
    rw [hx]
    congr 1
    omega
theorem tones_full {b : List Bool} {f n : Bool} : ∀ {k : Nat} {w : Bool} {o t : Nat}, t + k ≤ b.length → ∃ o' t', tones b f n k w o t = .ok o' t' ∧ t' ≤ t + k
  | 0, w, o, t, h => ⟨o, t, rfl, Nat.le_refl _⟩
  | k + 1, w, o, t, h => by
    unfold tones
    rw [takeB_full (by omega)]
    cases (b[t] != n) with
    | false => exact ⟨o, t + 1, rfl, by omega⟩
    | true =>
      obtain ⟨o', t', h1, h2⟩ := tones_full (b := b) (f := f) (n := n) (k := k) (w := false) (o := o + 1) (t := t + 1) (by omega)
      exact ⟨o', t', h1, by omega⟩
theorem tcount_full {b : List Bool} {n w : Bool} {t : Nat} (h : t + 270 ≤ b.length) : ∃ v t', tcount b false n w t = .ok v t' := by
  obtain ⟨o, t1, h1, h2⟩ := tones_full (b := b) (f := false) (n := n) (k := 7) (w := w) (o := 0) (t := t) (by omega)
  have ho := tones_rng h1
  obtain ⟨s, h3⟩ := tdig_full (b := b) (f := false) (n := n) (k := o) (y := 1) (t := t1) (by omega)
  have hs := (tdig_rng h3).2
  have h8 : (2 : Nat) ^ (o + 1) ≤ 2 ^ 8 := Nat.pow_le_pow_right (by decide) (by omega)
  have e : ((1 + 1 : Int) * 2 ^ o) = ((2 ^ (o + 1) : Nat) : Int) := by rw [Nat.pow_succ, Nat.mul_comm]; simp
  rw [e] at hs
  obtain ⟨x, h4⟩ := tdig_full (b := b) (f := false) (n := n) (k := (s - 1).toNat) (y := 1) (t := t1 + o) (by omega)
  refine ⟨x - 1, t1 + o + (s - 1).toNat, ?_⟩
  unfold tcount
  rw [h1]
  show (tdig b false n o 1 t1).bind _ = _
  rw [h3]
  show (tdig b false n (s - 1).toNat 1 (t1 + o)).bind _ = _
  rw [h4]
  rfl
theorem twhole_full {b : List Bool} {n : Bool} {t : Nat} (h : t + 271 ≤ b.length) : ∃ v t', twhole b false n t = .ok v t' := by
  unfold twhole
  rw [takeB_full (by omega)]
  cases (b[t] != n) with
  | true => exact tcount_full (by omega)
  | false =>
    obtain ⟨v, t', h1⟩ := tcount_full (b := b) (n := !n) (w := false) (t := t + 1) (by omega)
    refine ⟨-1 - v, t', ?_⟩
    show (tcount b false (!n) false (t + 1)).bind _ = _
    rw [h1]
    rfl
theorem drop_pre {a b c : List Bool} {t t' : Nat} (h : (a ++ b).drop t = c ++ (a ++ b).drop t') (ht : t' ≤ a.length) (h0 : t' = t + c.length) : a.drop t = c ++ a.drop t' := by
  rw [List.drop_append_of_le_length (by omega), List.drop_append_of_le_length ht, ← List.append_assoc] at h
  exact List.append_cancel_right h
/-- where the signs are too few, more of them are read beyond the end -/
theorem tcount_more {b z : List Bool} {n w : Bool} {t : Nat} {c : Str} {p : Int} (h : tcount b false n w t = .bad c p) (ht : t ≤ b.length) (hz : 270 ≤ z.length) : ∃ v t', tcount (b ++ z) false n w t = .ok v t' ∧ b.length < t' := by
  obtain ⟨v, t', h1⟩ := tcount_full (b := b ++ z) (n := n) (w := w) (t := t) (by rw [List.length_append]; omega)
  refine ⟨v, t', h1, Classical.byContradiction fun hn => ?_⟩
  obtain ⟨hv, h2, h3⟩ := tcount_back h1
  have h4 := drop_pre h2 (by omega) (by rw [nz_len]; exact h3)
  obtain ⟨m, rfl⟩ := Int.eq_ofNat_of_zero_le hv.1
  have := (tcount_at (f := false) (w := w) hv h4).1
  rw [h] at this
  cases this
theorem twhole_more {b z : List Bool} {n : Bool} {t : Nat} {c : Str} {p : Int} (h : twhole b false n t = .bad c p) (ht : t ≤ b.length) (hz : 271 ≤ z.length) : ∃ v t', twhole (b ++ z) false n t = .ok v t' ∧ b.length < t' := by
  obtain ⟨v, t', h1⟩ := twhole_full (b := b ++ z) (n := n) (t := t) (by rw [List.length_append]; omega)
  refine ⟨v, t', h1, Classical.byContradiction fun hn => ?_⟩
  obtain ⟨hv, h2, h3⟩ := twhole_back h1
  have h4 := drop_pre h2 (by omega) (by rw [nz_len]; exact h3)
  have := (twhole_at (f := false) hv h4).1
  rw [h] at this
  cases this
theorem twhole_bad {b : List Bool} {n : Bool} {t : Nat} {c : Str} {p : Int} (h : twhole b false n t = .bad c p) : c = "Short" ∧ p = b.length := by
  unfold twhole at h
  cases h1 : takeB b false n true t with
  | bad c' p' =>
    rw [h1] at h
    cases (show Res.bad c' p' = Res.bad c p from h)
    obtain ⟨h2, h3, _⟩ := takeB_short h1
    exact ⟨h2, h3⟩
  | ok x t1 =>
    rw [h1] at h
    cases x with
    | true => exact tcount_bad (show tcount b false n false t1 = _ from h)
    | false =>
      have h : (tcount b false (!n) false t1).bind (fun x t2 => Res.ok (-1 - x) t2) = Res.bad c p := h
      cases h6 : tcount b false (!n) false t1 with
      | bad c' p' =>
        rw [h6] at h
        cases (show Res.bad c' p' = Res.bad c p from h)
        exact tcount_bad h6
      | ok x t2 => rw [h6] at h; cases h
theorem tfix_zeros {b : List Bool} {most : Int} : ∀ {k : Nat} {y : Int} {t : Nat}, 0 ≤ y → y ≤ most / 2 ^ k → t + k ≤ b.length → (∀ i, t ≤ i → i < t + k → b[i]? = some false) → ∃ x, tfix b false false most k y t = .ok x (t + k)
  | 0, y, t, _, _, _, _ => ⟨y, rfl⟩
  | k + 1, y, t, h0, hy, hl, hb => by
    have ht : takeB b false false false t = .ok false (t + 1) := by
      unfold takeB
      rw [hb t (Nat.le_refl _) (by omega)]
      rfl
    have h2 : most / 2 ^ (k + 1) = most / 2 ^ k / 2 := by rw [Int.pow_succ, Int.ediv_ediv_of_nonneg (Int.le_of_lt (Int.pow_pos (by decide)))]
    rw [h2] at hy
    obtain ⟨x, hx⟩ := tfix_zeros (b := b) (most := most) (k := k) (y := y * 2) (t := t + 1) (by omega) (by omega) (by omega) fun i h1 h3 => hb i (by omega) (by omega)
    refine ⟨x, ?_⟩
    unfold tfix
    rw [ht]
    show (if y * 2 + (if false = true then 1 else 0) > most / 2 ^ k then .bad "Wrong" _ else tfix b false false most k (y * 2 + (if false = true then 1 else 0)) (t + 1)) = _
    rw [if_neg (by simp; omega), show (if false = true then (1 : Int) else 0) = 0 from rfl, Int.add_zero, hx]
    congr 1
    omega
theorem tfix_more {b : List Bool} {most : Int} {m : Nat} : ∀ {k : Nat} {y : Int} {t : Nat} {p : Int}, k ≤ m → 0 ≤ y → y ≤ most / 2 ^ k → t ≤ b.length → tfix b false false most k y t = .bad "Short" p → p = b.length ∧ b.length < t + k ∧ ∃ x, tfix (b ++ List.replicate m false) false false most k y t = .ok x (t + k)
  | 0, y, t, p, _, _, _, _, h => by cases h
  | k + 1, y, t, p, hk, h0, hy, ht, h => by
    by_cases hlt : t < b.length
    · unfold tfix at h ⊢
      rw [takeB_full hlt] at h
      have hlt2 : t < (b ++ List.replicate m false).length := by rw [List.length_append]; omega
      rw [takeB_full hlt2]
      have eb : (b ++ List.replicate m false)[t] = b[t] := List.getElem_append_left hlt
      rw [eb]
      generalize (b[t] != false) = c at h ⊢
      have h : (if y * 2 + (if c then 1 else 0) > most / 2 ^ k then .bad "Wrong" _ else tfix b false false most k (y * 2 + (if c then 1 else 0)) (t + 1)) = Res.bad "Short" p := h
      by_cases hg : y * 2 + (if c then 1 else 0) > most / 2 ^ k
      · rw [if_pos hg] at h
        exact absurd (Res.bad.inj h).1 (by decide +kernel)
      · rw [if_neg hg] at h
        obtain ⟨h1, h2, x, h3⟩ := tfix_more (m := m) (by omega) (by cases c <;> simp <;> omega) (by omega) (by omega) h
        refine ⟨h1, by omega, x, ?_⟩
        show (if y * 2 + (if c then 1 else 0) > most / 2 ^ k then .bad "Wrong" _ else tfix _ false false most k (y * 2 + (if c then 1 else 0)) (t + 1)) = _
        rw [if_neg hg, h3]
        congr 1
        omega
    · obtain rfl : t = b.length := by omega
      refine ⟨?_, by omega, tfix_zeros h0 hy (by simp; omega) fun i h1 h2 => ?_⟩
      · unfold tfix at h
        unfold takeB at h
        rw [List.getElem?_eq_none (Nat.le_refl _)] at h
        have h : Res.bad "Short" (b.length : Int) = Res.bad "Short" p := h
        exact (Res.bad.inj h).2.symm
      · rw [List.getElem?_append_right h1, List.getElem?_replicate, if_pos (by omega)]
theorem tfix_bad {b : List Bool} {n : Bool} {most : Int} : ∀ {k : Nat} {y : Int} {t : Nat} {c : Str} {p : Int}, tfix b false n most k y t = .bad c p → (c = "Short" ∧ p = b.length) ∨ (c = "Wrong" ∧ (t : Int) ≤ p ∧ p < b.length)
  | 0, y, t, c, p, h => by cases h
  | k + 1, y, t, c, p, h => by
    unfold tfix at h
    cases ht : takeB b false n false t with
    | bad c' p' =>
      rw [ht] at h
      cases (show Res.bad c' p' = Res.bad c p from h)
      obtain ⟨h2, h3, _⟩ := takeB_short ht
      exact .inl ⟨h2, h3⟩
    | ok x t1 =>
      rw [ht] at h
      obtain ⟨rfl, hl, _⟩ := takeB_back ht
      have h : (if y * 2 + (if x then 1 else 0) > most / 2 ^ k then .bad "Wrong" (((t + 1 : Nat) : Int) - 1) else tfix b false n most k (y * 2 + (if x then 1 else 0)) (t + 1)) = Res.bad c p := h
      by_cases hg : y * 2 + (if x then 1 else 0) > most / 2 ^ k
      · rw [if_pos hg] at h
        cases h
        exact .inr ⟨rfl, by omega, by omega⟩
      · rw [if_neg hg] at h
        rcases tfix_bad h with h1 | ⟨h1, h2, h3⟩
        · exact .inl h1
        · exact .inr ⟨h1, by omega, h3⟩
/-! ### rows of like lengths stand as their worths do -/
def val : List Bool → Int
  | [] => 0
  | x :: l => (if x then 1 else 0) * 2 ^ l.length + val l
theorem val_rng : ∀ l : List Bool, 0 ≤ val l ∧ val l < 2 ^ l.length
  | [] => by simp [val]
  | x :: l => by
    have h := val_rng l
    have e : (2 : Int) ^ (l.length + 1) = 2 * 2 ^ l.length := by rw [Int.pow_succ, Int.mul_comm]
    rw [val, List.length_cons, e]
    cases x <;> simp <;> omega
theorem val_snoc : ∀ (l : List Bool) (c : Bool), val (l ++ [c]) = val l * 2 + (if c then 1 else 0)
  | [], c => by simp [val]
  | x :: l, c => by
    rw [List.cons_append, val, val_snoc l c, val, List.length_append, List.length_singleton, Int.pow_succ, Int.add_mul, ← Int.mul_assoc]
    omega
theorem val_lt : ∀ (a b : List Bool), a.length = b.length → (R a < R b ↔ val a < val b)
  | [], [], _ => by simp [R, val]
  | x :: a, y :: b, h => by
    have hl : a.length = b.length := by simpa using h
    have h1 := val_rng a
    have h2 := val_rng b
    have ih := val_lt a b hl
    show bc x :: R a < bc y :: R b ↔ _
    rw [List.cons_lt_cons_iff, ih, val, val, hl]
    rw [hl] at h1
    cases x <;> cases y <;> simp [bc] <;> omega
theorem val_digs (x : Int) : ∀ k : Nat, val (digs x k) = x % 2 ^ k
  | 0 => by simp [digs, val, Int.emod_one]
  | k + 1 => by
    rw [digs, val, digs_len, val_digs x k, mod_two_pow]
    have : x / 2 ^ k % 2 = 0 ∨ x / 2 ^ k % 2 = 1 := by omega
    rcases this with h | h <;> rw [h] <;> simp
theorem digs_take (x : Int) (k : Nat) : ∀ j : Nat, (digs x (j + k)).take j = digs (x / 2 ^ k) j
  | 0 => by simp [digs]
  | j + 1 => by
    rw [show j + 1 + k = (j + k) + 1 by omega, digs, List.take_succ_cons, digs_take x k j, digs]
    congr 2
    rw [Int.ediv_ediv_of_nonneg (Int.le_of_lt (Int.pow_pos (by decide))), ← Int.pow_add, Nat.add_comm]
theorem lt_flen (m : Nat) : m < 2 ^ flen m := by
  unfold flen
  split
  · rename_i h; subst h; decide
  · unfold blen; exact Nat.lt_log2_self
/-- the first j + 1 digits of m -/
theorem val_bin {m j : Nat} (h : j < flen m) : val ((bin m).take (j + 1)) = (m : Int) / 2 ^ (flen m - (j + 1)) := by
  unfold bin
  have e : flen m = (j + 1) + (flen m - (j + 1)) := by omega
  rw [show digs (m : Int) (flen m) = digs (m : Int) ((j + 1) + (flen m - (j + 1))) by rw [← e], digs_take, val_digs]
  have hp : (0 : Int) < 2 ^ (flen m - (j + 1)) := Int.pow_pos (by decide)
  refine Int.emod_eq_of_lt (Int.ediv_nonneg (by omega) (Int.le_of_lt hp)) ?_
  rw [Int.ediv_lt_iff_lt_mul hp, ← Int.pow_add, ← e]
  have := lt_flen m
  have e2 : ((2 : Int) ^ flen m) = ((2 ^ flen m : Nat) : Int) := by simp
  rw [e2]
  omega
theorem take_one {b : List Bool} {t j : Nat} (h : t + j < b.length) : (b.drop t).take (j + 1) = (b.drop t).take j ++ [b[t + j]] := by
  rw [List.take_add_one, List.getElem?_drop, List.getElem?_eq_getElem h]
  rfl
/-- more signs than the greatest number begins with -/
theorem too_step {b : List Bool} {m t j : Nat} (hj : j < flen m) (h : t + j < b.length) : decide (R ((bin m).take (j + 1)) < R ((b.drop t).take (j + 1))) = decide (val ((b.drop t).take j) * 2 + (if b[t + j] then 1 else 0) > (m : Int) / 2 ^ (flen m - (j + 1))) := by
  have hl : ((bin m).take (j + 1)).length = ((b.drop t).take (j + 1)).length := by
    rw [List.length_take, List.length_take, bin_len, List.length_drop]
    omega
  refine decide_eq_decide.mpr ?_
  rw [val_lt _ _ hl, val_bin hj, take_one h, val_snoc]
/-! ### a, b = f(..), f's promise met -/
theorem q_tupG {K : PySem.W.Frag} {σ : L2.St} {H : Hp} {sp : Sp} {E : XK} {t : TA} {vs : List V} {i j : Nat} {tz : TS} {D : Ends} (h : EvA t σ H vs) (k : ∀ H1, Ex H H1 → ∀ Q2 : VK, (∀ p x y H2, H2 p = some (.tup [x, y]) → tz D ((σ.set i (some x)).set j (some y)) H2 → Q2 (.ref p) H2) → sp vs H1 Q2 E) :
    tSeq (tAsg (tCall sp [] E t) (gTup K 2 (gCons (gName i) (gCons (gName j) gNil)))) tz D σ H :=
  h H (Ex.refl H) _ fun H1 e1 => by
    rw [List.append_nil]
    exact k H1 e1 _ fun p x y H2 h2 hk => ⟨p, [x, y], rfl, st_of h2, rfl, x, [y], rfl, y, [], rfl, rfl, hk⟩
end Kr
/-! signs read beyond the end as noughts; a, b = a new list of two; several small rules -/
namespace Kr
open PySem PySem.Spec PyProof.Rows L2 Evl
/-- the sign at a place, nought beyond the end -/
def sg (b : List Bool) (t : Nat) : Bool := b[t]?.getD false
theorem takeB_fill (b : List Bool) (t : Nat) : takeB b true false false t = .ok (sg b t) (t + 1) := by
  unfold takeB sg
  cases b[t]? with
  | none => rfl
  | some c => cases c <;> rfl
theorem takeB_strict {b : List Bool} {t : Nat} (h : t ≤ b.length) : takeB b false false false t = if t + 1 ≤ b.length then .ok (sg b t) (t + 1) else .bad "Short" b.length := by
  unfold takeB sg
  by_cases ht : t < b.length
  · rw [if_pos (show t + 1 ≤ b.length from ht), List.getElem?_eq_getElem ht]
    cases h2 : b[t] <;> simp
  · rw [if_neg (show ¬ t + 1 ≤ b.length from ht), List.getElem?_eq_none (by omega)]
    rfl
theorem tdig_fill (b : List Bool) : ∀ (k : Nat) (y : Int) (t : Nat), ∃ x, tdig b true false k y t = .ok x (t + k) ∧ (t ≤ b.length → tdig b false false k y t = if t + k ≤ b.length then .ok x (t + k) else .bad "Short" b.length)
  | 0, y, t => ⟨y, rfl, fun h => by rw [if_pos (by omega)]; rfl⟩
  | k + 1, y, t => by
    obtain ⟨x, h1, h2⟩ := tdig_fill b k (y * 2 + (if sg b t then 1 else 0)) (t + 1)
    refine ⟨x, ?_, fun h => ?_⟩
    · unfold tdig
      rw [takeB_fill]
      show tdig b true false k _ (t + 1) = _
      rw [h1]
      congr 1
      omega
    · unfold tdig
      rw [takeB_strict h]
      by_cases ht : t + 1 ≤ b.length
      · rw [if_pos ht]
        show tdig b false false k _ (t + 1) = _
        rw [h2 ht]
        by_cases h3 : t + 1 + k ≤ b.length
        · rw [if_pos h3, if_pos (by omega)]
          congr 1
          omega
        · rw [if_neg h3, if_neg (by omega)]
      · rw [if_neg ht, if_neg (by omega)]
        rfl
theorem tones_fill (b : List Bool) : ∀ (k o t : Nat), ∃ o' t', tones b true false k false o t = .ok o' t' ∧ t ≤ t' ∧ t' ≤ t + k ∧ (t ≤ b.length → tones b false false k false o t = if t' ≤ b.length then .ok o' t' else .bad "Short" b.length)
  | 0, o, t => ⟨o, t, rfl, Nat.le_refl _, Nat.le_refl _, fun h => by rw [if_pos h]; rfl⟩
  | k + 1, o, t => by
    cases hs : sg b t with
    | false =>
      refine ⟨o, t + 1, ?_, by omega, by omega, fun h => ?_⟩
      · unfold tones
        rw [takeB_fill, hs]
        rfl
      · unfold tones
        rw [takeB_strict h, hs]
        by_cases ht : t + 1 ≤ b.length
        · rw [if_pos ht, if_pos ht]
          rfl
        · rw [if_neg ht, if_neg ht]
          rfl
    | true =>
      obtain ⟨o', t', h1, h2, h4, h3⟩ := tones_fill b k (o + 1) (t + 1)
      refine ⟨o', t', ?_, by omega, by omega, fun h => ?_⟩
      · unfold tones
        rw [takeB_fill, hs]
        exact h1
      · unfold tones
        rw [takeB_strict h, hs]
        by_cases ht : t + 1 ≤ b.length
        · rw [if_pos ht]
          exact h3 ht
        · rw [if_neg ht, if_neg (by omega)]
          rfl
/-- the count that is read with noughts beyond the end, and the place behind it -/
theorem tcount_fill (b : List Bool) (t : Nat) : ∃ (o : Nat) (t1 : Nat) (s x : Int), tones b true false 7 false 0 t = .ok o t1 ∧ tdig b true false o 1 t1 = .ok s (t1 + o) ∧ tdig b true false (s - 1).toNat 1 (t1 + o) = .ok x (t1 + o + (s - 1).toNat) ∧
    tcount b true false false t = .ok (x - 1) (t1 + o + (s - 1).toNat) ∧ t ≤ t1 ∧ o ≤ 7 ∧ 1 ≤ s ∧ s ≤ 255 ∧ 1 ≤ x ∧ x < 2 ^ 255 ∧ t1 ≤ t + 7 ∧
    (t ≤ b.length → tcount b false false false t = if t1 + o + (s - 1).toNat ≤ b.length then .ok (x - 1) (t1 + o + (s - 1).toNat) else .bad "Short" b.length) := by
  obtain ⟨o, t1, h1, h2, h2b, h3⟩ := tones_fill b 7 0 t
  obtain ⟨s, h4, h5⟩ := tdig_fill b o 1 t1
  obtain ⟨x, h6, h7⟩ := tdig_fill b (s - 1).toNat 1 (t1 + o)
  have ho := tones_rng h1
  have hs := tdig_rng h4
  have hx := tdig_rng h6
  have p1 : (0 : Int) < 2 ^ o := Int.pow_pos (by decide)
  have p2 : (0 : Int) < 2 ^ (s - 1).toNat := Int.pow_pos (by decide)
  have hs255 : s ≤ 255 := by
    have h8 : (2 : Nat) ^ (o + 1) ≤ 2 ^ 8 := Nat.pow_le_pow_right (by decide) (by omega)
    have := hs.2
    have e : ((1 + 1 : Int) * 2 ^ o) = ((2 ^ (o + 1) : Nat) : Int) := by rw [Nat.pow_succ, Nat.mul_comm]; simp
    rw [e] at this
    omega
  have hx255 : x < 2 ^ 255 := by
    have h8 : (2 : Nat) ^ ((s - 1).toNat + 1) ≤ 2 ^ 255 := Nat.pow_le_pow_right (by decide) (by omega)
    have := hx.2
    have e : ((1 + 1 : Int) * 2 ^ (s - 1).toNat) = ((2 ^ ((s - 1).toNat + 1) : Nat) : Int) := by rw [Nat.pow_succ, Nat.mul_comm]; simp
    rw [e] at this
    have h9 : (((2 : Nat) ^ 255 : Nat) : Int) = (2 : Int) ^ 255 := by simp
    omega
  refine ⟨o, t1, s, x, h1, h4, h6, ?_, h2, by omega, by omega, hs255, by omega, hx255, h2b, fun ht => ?_⟩
  · unfold tcount
    rw [h1]
    show (tdig b true false o 1 t1).bind _ = _
    rw [h4]
    show (tdig b true false (s - 1).toNat 1 (t1 + o)).bind _ = _
    rw [h6]
    rfl
  · unfold tcount
    rw [h3 ht]
    by_cases ht1 : t1 ≤ b.length
    · rw [if_pos ht1]
      show (tdig b false false o 1 t1).bind _ = _
      rw [h5 ht1]
      by_cases ht2 : t1 + o ≤ b.length
      · rw [if_pos ht2]
        show (tdig b false false (s - 1).toNat 1 (t1 + o)).bind _ = _
        rw [h7 ht2]
        by_cases ht3 : t1 + o + (s - 1).toNat ≤ b.length
        · rw [if_pos ht3, if_pos ht3]
          rfl
        · rw [if_neg ht3, if_neg ht3]
          rfl
      · rw [if_neg ht2, if_neg (by omega)]
        rfl
    · rw [if_neg ht1, if_neg (by omega)]
      rfl
section
variable {K : PySem.W.Frag} {σ : L2.St} {H : Hp} {ta tb te : TE} {D : Ends} {tz : TS} {x y : V}
theorem q_lst2 {i j : Nat} (h : EvL te σ H [x, y]) (k : ∀ H1, Ex H H1 → tz D ((σ.set i (some x)).set j (some y)) H1) : tSeq (tAsg te (gLst K 2 (gCons (gName i) (gCons (gName j) gNil)))) tz D σ H :=
  h H (Ex.refl H) _ fun p H1 _ e1 h1 => ⟨p, [x, y], rfl, sq_of h1, rfl, x, [y], rfl, y, [], rfl, rfl, k H1 e1⟩
/-- page[at:at + 1] == '1' -/
theorem ev_sg {b : List Bool} {t i j : Nat} (hi : σ[i]? = some (some (.str (T (R b))))) (hj : σ[j]? = some (some (.int (t : Int)))) (hb : b.length ≤ 1000000) :
    Ev (tOp rEq (tSl rSlS (tVar i) (tPart (tVar j)) (tPart (tOp rAddI (tVar j) (tC (.int 1))))) (tC (.str (T [49])))) σ H (.bl (sg b t)) := by
  refine ev_is (ev_eqT (a := R ((b.drop t).take 1)) (ev_is (ev_slT (l := R b) (ev_var hi) (by rw [R_len]; omega) (eo_some (ev_var hj)) (eo_some (ev_is (ev_addI (ev_var hj) ev_c) (by rw [show (t : Int) + 1 = ((t + 1 : Nat) : Int) by omega])))) (by rw [R_mid, Nat.add_sub_cancel_left])) ev_c) ?_
  congr 1
  unfold sg
  by_cases ht : t < b.length
  · rw [List.drop_eq_getElem_cons ht, List.getElem?_eq_getElem ht]
    cases b[t] <;> rfl
  · rw [List.drop_eq_nil_of_le (by omega), List.getElem?_eq_none (by omega)]
    rfl
/-- [te for j in a new list] -/
theorem el_mapNL {tl : TE} {xs : List V} {j : Nat} {vs : List Nat} (g : V → V) (h : EvL tl σ H xs) (hz : xs.length ≤ 40000) (hw : ∀ x, wipe ((wipe σ vs).set j (some x)) vs = wipe σ vs)
    (he : ∀ x ∈ xs, ∀ H1, Ex H H1 → Ev te ((wipe σ vs).set j (some x)) H1 (g x)) : EvL (tLc (iList K tl) (gName j) tYes te vs) σ H (xs.map g) := by
  have key : given xs.length (fun _ => true) (fun i => g (xs.getD i .non)) = xs.map g := by
    rw [given_all]
    apply List.ext_getElem?
    intro i
    rw [List.getElem?_map, List.getElem?_map]
    by_cases hi : i < xs.length
    · rw [List.getElem?_range hi, List.getElem?_eq_getElem hi]
      simp [List.getD, List.getElem?_eq_getElem hi]
    · rw [List.getElem?_eq_none (by simpa using hi), List.getElem?_eq_none (by simpa using hi)]
      rfl
  rw [← key]
  refine el_lcNL (fun _ => true) _ h hz hw (fun i x H1 _ _ => fun H2 e2 Q q => q H2 (Ex.refl H2)) fun i x H1 e hi _ => ?_
  have e2 : xs.getD i .non = x := by simp [List.getD, hi]
  rw [e2]
  exact he x (List.mem_of_getElem? hi) H1 e
end
theorem cut_map (ns : List Int) (k : Nat) : cutV (ns.map V.int) none (some (k : Int)) = (ns.take k).map V.int := by
  unfold cutV
  rw [HT.sIx_none, HT.sIx_nat, List.drop_zero, Nat.sub_zero, List.length_map]
  by_cases h : k ≤ ns.length
  · rw [Nat.min_eq_left h, List.map_take]
  · rw [Nat.min_eq_right (by omega), List.take_of_length_le (by simp), List.take_of_length_le (by omega)]
theorem rep_bc (n : Nat) (c : Bool) : (List.replicate n [bc c]).flatten = R (List.replicate n c) := by
  induction n with
  | zero => rfl
  | succ n ih => rw [List.replicate_succ, List.flatten_cons, ih, List.replicate_succ]; rfl
theorem countRow_pos (n : Nat) : 0 < (countRow n).length := by
  unfold countRow
  by_cases h : blen (blen (n + 1)) - 1 < 7
  · rw [if_pos h]
    simp
    omega
  · rw [if_neg h]
    simp
    omega
theorem pageRow_pos (rs : List (List Bool)) : 0 < (pageRow rs).length := by
  unfold pageRow
  have := countRow_pos rs.length
  rw [List.length_append]
  omega
end Kr
/-! fractions and their steps; loops over reversed(..), divmod, items of a list or a tuple, names set by pairs -/
namespace Kr
open PySem PySem.Spec PyProof.Rows L2 Evl
/-! ### rules -/
def rDivmod : List V → Hp → VK → Prop := fun xs H Q => ∃ i j, xs = [.int i, .int j] ∧ CDivP i j ∧ ∀ p, H p = none → Q (.ref p) (upd H p (.tup [.int (i / j), .int (i % j)]))
def rIxA (K : PySem.W.Frag) : R2 := fun x y H Q => rIxL K x y H Q ∨ rIxT K x y H Q
section
variable {X : Cx}
theorem call_divmodN : CallR X (.builtin "divmod") rDivmod := call_divmodW
theorem ix_any : IxR X (rIxA X.K) := ix_list.or ix_tup
end
section
variable {K : PySem.W.Frag} {σ : L2.St} {H : Hp} {ta tb te tx : TE} {x y z v : V} {D : Ends} {tz tu : TS}
theorem eu_divmod {i j : Int} (ha : Ev ta σ H (.int i)) (hb : Ev tb σ H (.int j)) (h : CDivP i j) : EvU (tCB rDivmod (tCons ta (tCons tb tNil))) σ H [.int (i / j), .int (i % j)] := fun H1 e Q q =>
  ha H1 e _ fun H2 e2 => hb H2 (e.trans e2) _ fun H3 e3 => ⟨i, j, rfl, h, fun p hp => q p _ (fresh_back (e2.trans e3) hp) ((e2.trans e3).trans (Ex.new hp)) upd_same⟩
/-- a, b = a new tuple | one that stands -/
theorem q_tup2 {i j : Nat} (h : EvU te σ H [x, y]) (k : ∀ H1, Ex H H1 → tz D ((σ.set i (some x)).set j (some y)) H1) : tSeq (tAsg te (gTup K 2 (gCons (gName i) (gCons (gName j) gNil)))) tz D σ H :=
  h H (Ex.refl H) _ fun p H1 _ e1 h1 => ⟨p, [x, y], rfl, st_of h1, rfl, x, [y], rfl, y, [], rfl, rfl, k H1 e1⟩
theorem q_tupV {i j : Nat} {p : Addr} (h : Ev te σ H (.ref p)) (hp : SqT K H p [x, y]) (k : ∀ H1, Ex H H1 → tz D ((σ.set i (some x)).set j (some y)) H1) : tSeq (tAsg te (gTup K 2 (gCons (gName i) (gCons (gName j) gNil)))) tz D σ H :=
  h H (Ex.refl H) _ fun H1 e1 => ⟨p, [x, y], rfl, ex_t e1 hp, rfl, x, [y], rfl, y, [], rfl, rfl, k H1 e1⟩
/-- a, b = x, y -/
theorem s_par {i j : Nat} {t : TA} (h : EvA t σ H [x, y]) (k : ∀ H1, Ex H H1 → D.nx ((σ.set i (some x)).set j (some y)) H1) : tPar i j t D σ H := h H (Ex.refl H) _ fun H1 e1 => ⟨x, y, rfl, k H1 e1⟩
theorem q_par {i j : Nat} {t : TA} (h : EvA t σ H [x, y]) (k : ∀ H1, Ex H H1 → tz D ((σ.set i (some x)).set j (some y)) H1) : tSeq (tPar i j t) tz D σ H := s_par (D := { D with nx := tz D }) h k
/-- an item of a list or a tuple -/
theorem ev_ixA {p : Addr} {xs : List V} {i : Int} (ha : Ev ta σ H (.ref p)) (hp : SqL K H p xs ∨ SqT K H p xs) (hb : Ev tb σ H (.int i)) (hv : atI xs i = some v) : Ev (tOp (rIxA K) ta tb) σ H v := ev_op ha hb fun H1 e Q q => by
  rcases hp with hp | hp
  · exact .inl (rv_ixL hp hv H1 e Q q)
  · exact .inr (Evl.rv_ixT hp hv H1 e Q q)
/-- xs[-1] = e -/
theorem s_setLast {l : Addr} {xs : List V} (hl : H l = some (.lst xs)) (h : Ev te σ H v) (ho : Ev ta σ H (.ref l)) (hi : Ev tb σ H (.int (-1))) (hj : xs ≠ []) (k : ∀ H1, Ex H H1 → D.nx σ (upd H1 l (.lst (xs.dropLast ++ [v])))) : tAsg te (gSub ta tb rSetL) D σ H := h H (Ex.refl H) _ fun H1 e1 => ho H1 e1 _ fun H2 e2 => hi H2 (e1.trans e2) _ fun H3 e3 => by
  have hpos := List.length_pos_iff.mpr hj
  refine ⟨l, xs, -1, xs.length - 1, rfl, rfl, ((e1.trans e2).trans e3) l _ hl, ?_, ?_⟩
  · unfold ixN
    simp
    omega
  · have : xs.set (xs.length - 1) v = xs.dropLast ++ [v] := by
      obtain ⟨ys, y, rfl⟩ : ∃ ys y, xs = ys ++ [y] := ⟨xs.dropLast, xs.getLast hj, (List.dropLast_concat_getLast hj).symm⟩
      simp
    rw [this]
    exact k H3 ((e1.trans e2).trans e3)
/-- for x in reversed(a new list) -/
theorem s_forRevN {xs : List V} {tl : TE} {j : Nat} (h : EvL tl σ H xs) (Pv : Addr → Nat → L2.St → Hp → Prop) (h0 : ∀ p H1, H p = none → Ex H H1 → H1 p = some (.lst xs) → Pv p 0 σ H1) (hq : ∀ p i σ' H', Pv p i σ' H' → SqL K H' p xs)
    (hs : ∀ p (i : Nat) x σ' H', i < xs.length → xs[xs.length - 1 - i]? = some x → Pv p i σ' H' → tu { D with nx := Pv p (i + 1), ct := Pv p (i + 1), bk := D.nx } (σ'.set j (some x)) H') (hd : ∀ p σ' H', Pv p xs.length σ' H' → D.nx σ' H') : tFor (iRev K (tCons tl tNil)) (gName j) tu D σ H :=
  h H (Ex.refl H) _ fun p H1 hp e1 h1 => ⟨p, xs, rfl, sq_of h1, RT.for_Itv (Pv p) (h0 p H1 hp e1 h1) (hq p) (fun i x σ' H' hi hx hP => hs p i x σ' H' hi hx hP) (hd p)⟩
theorem q_forRevN {xs : List V} {tl : TE} {j : Nat} (h : EvL tl σ H xs) (Pv : Addr → Nat → L2.St → Hp → Prop) (h0 : ∀ p H1, H p = none → Ex H H1 → H1 p = some (.lst xs) → Pv p 0 σ H1) (hq : ∀ p i σ' H', Pv p i σ' H' → SqL K H' p xs)
    (hs : ∀ p (i : Nat) x σ' H', i < xs.length → xs[xs.length - 1 - i]? = some x → Pv p i σ' H' → tu { D with nx := Pv p (i + 1), ct := Pv p (i + 1), bk := tz D } (σ'.set j (some x)) H') (hd : ∀ p σ' H', Pv p xs.length σ' H' → tz D σ' H') : tSeq (tFor (iRev K (tCons tl tNil)) (gName j) tu) tz D σ H :=
  s_forRevN (D := { D with nx := tz D }) h Pv h0 hq hs hd
theorem ev_abs {i : Int} (h : Ev ta σ H (.int i)) : Ev (tCB rAbs (tCons ta tNil)) σ H (.int i.natAbs) := fun H1 e Q q =>
  h H1 e _ fun H2 e2 => ⟨i, rfl, by
    have : (if i < 0 then -i else i) = (i.natAbs : Int) := by split <;> omega
    rw [this]
    exact q H2 e2⟩
end
/-! ### fractions by their steps -/
def fracOf : List Int → Int × Int
  | [] => (1, 0)
  | a :: r => (a * (fracOf r).1 + (fracOf r).2, (fracOf r).1)
/-- all from one on, the last one from two on -/
def goodT : List Int → Prop
  | [] => False
  | [a] => 2 ≤ a
  | a :: b :: r => 1 ≤ a ∧ goodT (b :: r)
def goodS : List Int → Prop
  | [] => False
  | [_] => True
  | _ :: b :: r => goodT (b :: r)
theorem goodT_frac : ∀ {l : List Int}, goodT l → 0 < (fracOf l).2 ∧ (fracOf l).2 < (fracOf l).1
  | [a], h => by
    have h : 2 ≤ a := h
    show 0 < (1 : Int) ∧ (1 : Int) < a * 1 + 0
    omega
  | a :: b :: r, ⟨h1, h2⟩ => by
    obtain ⟨h3, h4⟩ := goodT_frac h2
    show 0 < (fracOf (b :: r)).1 ∧ (fracOf (b :: r)).1 < a * (fracOf (b :: r)).1 + (fracOf (b :: r)).2
    have : 1 * (fracOf (b :: r)).1 ≤ a * (fracOf (b :: r)).1 := Int.mul_le_mul_of_nonneg_right h1 (by omega)
    omega
/-- the rest behind the first step -/
theorem goodS_rest : ∀ {a : Int} {r : List Int}, goodS (a :: r) → 0 ≤ (fracOf r).2 ∧ (fracOf r).2 < (fracOf r).1
  | a, [], _ => by decide
  | a, b :: r, h => by
    have := goodT_frac (show goodT (b :: r) from h)
    omega
theorem goodS_tail {a b : Int} {r : List Int} (h : goodS (a :: b :: r)) : goodT (b :: r) := h
theorem goodT_S : ∀ {l : List Int}, goodT l → goodS l
  | [a], _ => trivial
  | a :: b :: r, h => h.2
theorem goodT_one : ∀ {l : List Int}, goodT l → ∀ s ∈ l, 1 ≤ s
  | [a], h, s, hs => by
    have h : 2 ≤ a := h
    rw [List.mem_singleton.mp hs]
    omega
  | a :: b :: r, h, s, hs => by
    rcases List.mem_cons.mp hs with rfl | hs
    · exact h.1
    · exact goodT_one h.2 s hs
theorem goodT_last : ∀ {l : List Int}, goodT l ↔ l ≠ [] ∧ (∀ s ∈ l, 1 ≤ s) ∧ l.getLast? ≠ some 1
  | [] => ⟨fun h => h.elim, fun h => absurd rfl h.1⟩
  | [a] => by
    show 2 ≤ a ↔ _
    simp
    omega
  | a :: b :: r => by
    show 1 ≤ a ∧ goodT (b :: r) ↔ _
    rw [goodT_last]
    simp only [List.getLast?_cons_cons, List.mem_cons, ne_eq, reduceCtorEq, not_false_eq_true, true_and, forall_eq_or_imp]
    constructor
    · rintro ⟨h1, h2, h3⟩
      exact ⟨⟨h1, h2⟩, h3⟩
    · rintro ⟨⟨h1, h2⟩, h3⟩
      exact ⟨h1, h2, h3⟩
/-- steps as the text asks for them -/
def endsOne (l : List Int) : Bool := decide (1 < l.length ∧ l.getLast? = some 1)
theorem goodS_iff {l : List Int} : goodS l ↔ l ≠ [] ∧ endsOne l = false ∧ ∀ s ∈ l.tail, 1 ≤ s := by
  cases l with
  | nil => exact ⟨fun h => h.elim, fun h => absurd rfl h.1⟩
  | cons a r => cases r with
    | nil => simp [goodS, endsOne]
    | cons b r =>
      show goodT (b :: r) ↔ _
      rw [goodT_last]
      simp [endsOne]
      exact ⟨fun h => ⟨h.2, h.1⟩, fun h => ⟨h.2, h.1⟩⟩
def stepsE (t b : Int) : List Int := if h : 0 < b then t / b :: stepsE b (t % b) else []
termination_by b.toNat
decreasing_by
  have := Int.emod_lt_of_pos t h
  have := Int.emod_nonneg t (show b ≠ 0 by omega)
  omega
def gcdE (a b : Int) : Nat := if h : 0 < b then gcdE b (a % b) else a.natAbs
termination_by b.toNat
decreasing_by
  have := Int.emod_lt_of_pos a h
  have := Int.emod_nonneg a (show b ≠ 0 by omega)
  omega
theorem stepsE_pos {t b : Int} (h : 0 < b) : stepsE t b = t / b :: stepsE b (t % b) := by rw [stepsE, dif_pos h]
theorem stepsE_zero (t : Int) : stepsE t 0 = [] := by rw [stepsE, dif_neg (by decide)]
theorem gcdE_pos {t b : Int} (h : 0 < b) : gcdE t b = gcdE b (t % b) := by rw [gcdE, dif_pos h]
theorem gcdE_zero (t : Int) : gcdE t 0 = t.natAbs := by rw [gcdE, dif_neg (by decide)]
theorem div_step {a p q : Int} (h0 : 0 ≤ q) (h : q < p) : (a * p + q) / p = a ∧ (a * p + q) % p = q := by
  constructor
  · rw [Int.add_comm, Int.add_mul_ediv_right _ _ (by omega), Int.ediv_eq_zero_of_lt h0 h, Int.zero_add]
  · rw [Int.add_comm, Int.add_mul_emod_self_right, Int.emod_eq_of_lt h0 h]
theorem steps_frac : ∀ {l : List Int}, goodS l → stepsE (fracOf l).1 (fracOf l).2 = l ∧ gcdE (fracOf l).1 (fracOf l).2 = 1
  | [a], h => by
    obtain ⟨h1, h2⟩ := goodS_rest h
    obtain ⟨e1, e2⟩ := div_step (a := a) h1 h2
    show stepsE (a * (fracOf []).1 + (fracOf []).2) (fracOf []).1 = [a] ∧ gcdE (a * (fracOf []).1 + (fracOf []).2) (fracOf []).1 = 1
    rw [stepsE_pos (by decide), gcdE_pos (by decide), e1, e2]
    show a :: stepsE 1 0 = [a] ∧ gcdE 1 0 = 1
    rw [stepsE_zero, gcdE_zero]
    exact ⟨rfl, rfl⟩
  | a :: b :: r, h => by
    obtain ⟨h1, h2⟩ := goodS_rest h
    obtain ⟨e1, e2⟩ := div_step (a := a) h1 h2
    obtain ⟨i1, i2⟩ := steps_frac (goodT_S (goodS_tail h))
    show stepsE (a * (fracOf (b :: r)).1 + (fracOf (b :: r)).2) (fracOf (b :: r)).1 = _ ∧ gcdE (a * (fracOf (b :: r)).1 + (fracOf (b :: r)).2) (fracOf (b :: r)).1 = 1
    rw [stepsE_pos (by omega), gcdE_pos (by omega), e1, e2, i1]
    exact ⟨rfl, i2⟩
theorem goodS_bottom : ∀ {l : List Int}, goodS l → 0 < (fracOf l).2
  | a :: r, h => by
    have := goodS_rest h
    show 0 < (fracOf r).1
    omega
theorem frac_lt {k : Nat} : ∀ {l : List Int}, (∀ s ∈ l, s.natAbs < 2 ^ k) → (fracOf l).1.natAbs < 2 ^ ((k + 1) * l.length + 1) ∧ (fracOf l).2.natAbs < 2 ^ ((k + 1) * l.length + 1)
  | [], _ => by simp [fracOf]
  | a :: r, h => by
    obtain ⟨h1, h2⟩ := frac_lt (l := r) fun s hs => h s (List.mem_cons_of_mem _ hs)
    have ha := h a (List.mem_cons_self ..)
    show (a * (fracOf r).1 + (fracOf r).2).natAbs < _ ∧ (fracOf r).1.natAbs < _
    have e : (k + 1) * (r.length + 1) + 1 = k + ((k + 1) * r.length + 1) + 1 := by rw [Nat.mul_succ]; omega
    rw [List.length_cons, e]
    generalize (k + 1) * r.length + 1 = m at h1 h2 ⊢
    have hm := wide_lt ha h1
    have h3 : (2 : Nat) ^ (k + m + 1) = 2 ^ (k + m) + 2 ^ (k + m) := by rw [Nat.pow_succ]; omega
    have h4 : (2 : Nat) ^ m ≤ 2 ^ (k + m) := Nat.pow_le_pow_right (by decide) (by omega)
    constructor
    · have := Int.natAbs_add_le (a * (fracOf r).1) (fracOf r).2
      omega
    · omega
theorem divp_of {t b : Int} (hb : 0 < b) (h : (t / b).natAbs < 2 ^ 2000) : CDivP t b := by
  refine divp_ok hb ?_
  -- t is below 2 ^ 2001 times b
  have e := Int.mul_ediv_add_emod t b
  have r0 := Int.emod_nonneg t (show b ≠ 0 by omega)
  have r1 := Int.emod_lt_of_pos t hb
  obtain ⟨n, rfl⟩ := Int.eq_ofNat_of_zero_le (Int.le_of_lt hb)
  have hn : 0 < n := by omega
  rw [bits_nat hn]
  have h1 : n < 2 ^ blen n := by unfold blen; exact Nat.lt_log2_self
  have ht : t.natAbs < 2 ^ (2001 + blen n) := by
    have h2 : t.natAbs ≤ n * (t / n).natAbs + n := by
      have h3 : t.natAbs ≤ ((n : Int) * (t / n)).natAbs + (t % n).natAbs := by
        rw [← e]
        have := Int.natAbs_add_le ((n : Int) * (t / n)) (t % n)
        rw [e]
        omega
      rw [Int.natAbs_mul, Int.natAbs_natCast] at h3
      omega
    have h5 : n * (t / (n : Int)).natAbs + n = n * ((t / (n : Int)).natAbs + 1) := by rw [Nat.mul_add, Nat.mul_one]
    have h6 : n * ((t / (n : Int)).natAbs + 1) ≤ n * 2 ^ 2000 := Nat.mul_le_mul_left _ h
    have h7 : n * 2 ^ 2000 < 2 ^ blen n * 2 ^ 2001 := Nat.lt_of_lt_of_le (Nat.mul_lt_mul_of_pos_right h1 (Nat.two_pow_pos _)) (Nat.mul_le_mul_left _ (Nat.pow_le_pow_right (by decide) (by decide)))
    rw [Nat.pow_add, Nat.mul_comm (2 ^ 2001)]
    omega
  have := PyProof.Rows.intBits_le ht
  omega
/-! ### rows of fractions -/
def tailRow (n : Bool) : List Int → List Bool
  | [] => nz n [false]
  | s :: r => nz n [true] ++ (nz (!n) (countRow (s - 1).toNat) ++ tailRow (!n) r)
def fracRow : List Int → List Bool
  | [] => []
  | a :: r => wholeRow a ++ tailRow false r
def rowOkS : List Int → Prop
  | [] => False
  | a :: r => wholeOk a ∧ ∀ s ∈ r, countOk (s - 1)
theorem tailRow_len : ∀ {n : Bool} {l : List Int}, (∀ s ∈ l, countOk (s - 1)) → (tailRow n l).length ≤ 301 * l.length + 1
  | n, [], _ => by simp [tailRow, nz]
  | n, s :: r, h => by
    have hc := h s (List.mem_cons_self ..)
    have h1 := countRow_len (n := (s - 1).toNat) (by rw [Int.toNat_of_nonneg hc.1]; exact hc)
    have h2 := tailRow_len (n := !n) (l := r) fun x hx => h x (List.mem_cons_of_mem _ hx)
    rw [tailRow, List.length_append, List.length_append, nz_len, nz_len, List.length_cons (as := r), Nat.mul_succ]
    simp only [List.length_singleton]
    omega
theorem exu_mut {a l : Addr} {H H' : Hp} {o : HO} (e : ExU a H H') (h : H l = none) : ExU a H (upd H' l o) := fun b u nb hb => by
  rw [upd_ne (ne_of_none hb h)]
  exact e b u nb hb
theorem s_asgZ {σ : L2.St} {H : Hp} {te : TE} {g : TG} {D : Ends} (h : Rz te σ H) : tAsg te g D σ H := h H (Ex.refl H) _
theorem q_asgZ {σ : L2.St} {H : Hp} {te : TE} {g : TG} {D : Ends} {tz : TS} (h : Rz te σ H) : tSeq (tAsg te g) tz D σ H := h H (Ex.refl H) _
/-- name = [f(..)], f's promise met -/
theorem q_asgLF {σ : L2.St} {H : Hp} {sp : Sp} {E : XK} {t : TA} {vs : List V} {i : Nat} {D : Ends} {tz : TS} (h : EvA t σ H vs) (k : ∀ H1, Ex H H1 → ∀ Q2 : VK, (∀ v H2, (∀ p, H2 p = none → tz D (σ.set i (some (.ref p))) (upd H2 p (.lst [v]))) → Q2 v H2) → sp vs H1 Q2 E) : tSeq (tAsg (tLst (tCons (tCall sp [] E t) tNil)) (gName i)) tz D σ H :=
  h H (Ex.refl H) _ fun H1 e1 => by
    rw [List.append_nil]
    exact k H1 e1 _ fun v H2 hk => ⟨sz_of (by simp), hk⟩
/-- xs.append(f(..) + c), f's promise met -/
theorem s_appF {K : PySem.W.Frag} {σ : L2.St} {H : Hp} {sp : Sp} {E : XK} {t : TA} {vs : List V} {ta tc : TE} {l : Addr} {xs : List V} {D : Ends} {c : Int} (hl : H l = some (.lst xs)) (ha : Ev ta σ H (.ref l)) (h : EvA t σ H vs)
    (k : ∀ H1, Ex H H1 → ∀ Q2 : VK, (∀ (i : Int) H2, H2 l = some (.lst xs) → xs.length < 100000 → Ev tc σ H2 (.int c) → (∀ H3, Ex H2 H3 → D.nx σ (upd H3 l (.lst (xs ++ [.int (i + c)])))) → Q2 (.int i) H2) → sp vs H1 Q2 E) :
    tDrop (tBM K "list" rAppend ta (tCons (tOp rAddI (tCall sp [] E t) tc) tNil)) D σ H := ha H (Ex.refl H) _ fun H1 e1 =>
  ⟨Or.inl ⟨rfl, xs, sq_of (e1 l _ hl)⟩, h H1 e1 _ fun H2 e2 => by
    rw [List.append_nil]
    exact k H2 (e1.trans e2) _ fun i H3 h3 hz hc hk => hc H3 (Ex.refl H3) _ fun H4 e4 => ⟨i, c, rfl, rfl, l, xs, _, rfl, rfl, e4 _ _ h3, sz_lt hz, hk H4 e4⟩⟩
/-! ### fractions as they are read -/
/-- the sign is exchanged at every second step -/
def lane (n : Bool) (k : Nat) : Bool := if k % 2 = 1 then !n else n
def tfracGo (b : List Bool) (f n : Bool) : Nat → List Int → Nat → Res (List Int)
  | 0, l, t => .ok l t
  | k + 1, l, t => (takeB b f (lane n (l.length - 1)) (endsOne l) t).bind fun c t1 => if c then (tcount b f (lane n l.length) true t1).bind fun v t2 => tfracGo b f n k (l ++ [v + 1]) t2 else if endsOne l then .bad "Wrong" ((t1 : Int) - 1) else .ok l t1
def tfrac (b : List Bool) (f n : Bool) (t : Nat) : Res (List Int) := (twhole b f n t).bind fun w t1 => tfracGo b f n (2 * (b.length - t1) + 3) [w] t1
def FinU (K : PySem.W.Frag) (a : Addr) (b : List Bool) (f : Bool) (H : Hp) (Q : VK) (E : XK) : Res (List Int) → Prop
  | .ok l t => ∀ p H', H p = none → ExU a H H' → H' p = some (.tup [.int (fracOf l).1, .int (fracOf l).2]) → SrcB K H' a b t f → Q (.ref p) H'
  | .bad c p => RaiseU a (.ref (He.ga K c)) p H E
theorem fresh_backU {a p : Addr} {H H' : Hp} (e : ExU a H H') (hp : p ≠ a) (h : H' p = none) : H p = none := by
  cases h1 : H p with
  | none => rfl
  | some o => rw [e p o hp h1] at h; cases h
theorem FinU.mono {K : PySem.W.Frag} {a : Addr} {b : List Bool} {f : Bool} {H H1 : Hp} {Q : VK} {E : XK} {r : Res (List Int)} (h : FinU K a b f H Q E r) (e : ExU a H H1) (ha : H1 a ≠ none) : FinU K a b f H1 Q E r := by
  cases r with
  | ok l t => exact fun p H' hp e2 h2 s => h p H' (fresh_backU e (fun z => ha (by rw [← z]; exact hp)) hp) (e.trans e2) h2 s
  | bad c p => exact RaiseU.mono e h
/-- a part of what is read, then the rest -/
theorem FinU.step {α : Type} {K : PySem.W.Frag} {val : α → V} {a : Addr} {b : List Bool} {f : Bool} {H : Hp} {Q Q2 : VK} {E : XK} {r : Res α} {g : α → Nat → Res (List Int)} (h : FinU K a b f H Q E (r.bind g))
    (k : ∀ v t H', r = .ok v t → ExU a H H' → SrcB K H' a b t f → FinU K a b f H' Q E (g v t) → Q2 (val v) H') : Fin K val a b f H Q2 E r := by
  cases r with
  | ok v t => exact fun H' e s => k v t H' rfl e s (FinU.mono (show FinU K a b f H Q E (g v t) from h) e s.some)
  | bad c p => exact h
/-- what the wished signs leave behind: a count of one -/
theorem tcount_wish {b : List Bool} {n : Bool} {t : Nat} (h : b.length ≤ t) : ∃ t', tcount b true n true t = .ok 1 t' := by
  have none : ∀ i, b.length ≤ i → b[i]? = none := fun i hi => List.getElem?_eq_none hi
  have t1 : ∀ (w : Bool) (i : Nat), b.length ≤ i → takeB b true n w i = .ok w (i + 1) := fun w i hi => by
    unfold takeB
    rw [none i hi]
    rfl
  refine ⟨t + 1 + 1 + 1 + 1, ?_⟩
  unfold tcount
  have ho : tones b true n 7 true 0 t = .ok 1 (t + 1 + 1) := by
    rw [tones, t1 true t h]
    show tones b true n 6 false 1 (t + 1) = _
    rw [tones, t1 false (t + 1) (by omega)]
    rfl
  have hd : ∀ i, b.length ≤ i → tdig b true n 1 1 i = .ok 2 (i + 1) := fun i hi => by
    rw [tdig, t1 false i hi]
    rfl
  rw [ho]
  show (tdig b true n 1 1 (t + 1 + 1)).bind _ = _
  rw [hd _ (by omega)]
  show (tdig b true n 1 1 (t + 1 + 1 + 1)).bind _ = _
  rw [hd _ (by omega)]
  rfl
theorem takeB_next {b : List Bool} {f n w c : Bool} {t t' : Nat} (h : takeB b f n w t = .ok c t') : t' = t + 1 := by
  unfold takeB at h
  cases e : b[t]? with
  | some x => rw [e] at h; cases h; rfl
  | none =>
    rw [e] at h
    cases f with
    | true => cases h; rfl
    | false => cases h
theorem tdig_next {b : List Bool} {f n : Bool} : ∀ {k : Nat} {x y : Int} {t t' : Nat}, tdig b f n k x t = .ok y t' → t' = t + k
  | 0, x, y, t, t', h => by cases h; rfl
  | k + 1, x, y, t, t', h => by
    unfold tdig at h
    cases e : takeB b f n false t with
    | bad c p => rw [e] at h; cases h
    | ok c t1 =>
      rw [e] at h
      have h1 := takeB_next e
      have h2 := tdig_next (show tdig b f n k _ t1 = .ok y t' from h)
      omega
theorem tones_next {b : List Bool} {f n : Bool} : ∀ {k : Nat} {w : Bool} {o o' t t' : Nat}, tones b f n k w o t = .ok o' t' → t ≤ t' ∧ (0 < k → t < t')
  | 0, w, o, o', t, t', h => by cases h; exact ⟨Nat.le_refl _, fun z => by omega⟩
  | k + 1, w, o, o', t, t', h => by
    unfold tones at h
    cases e : takeB b f n w t with
    | bad c p => rw [e] at h; cases h
    | ok c t1 =>
      rw [e] at h
      have h1 := takeB_next e
      cases c with
      | true =>
        have h2 := (tones_next (show tones b f n k false (o + 1) t1 = .ok o' t' from h)).1
        exact ⟨by omega, fun _ => by omega⟩
      | false =>
        cases (show Res.ok o t1 = .ok o' t' from h)
        exact ⟨by omega, fun _ => by omega⟩
theorem tcount_gen {b : List Bool} {f n w : Bool} {v : Int} {t t' : Nat} (h : tcount b f n w t = .ok v t') : countOk v ∧ t < t' := by
  unfold tcount at h
  cases h1 : tones b f n 7 w 0 t with
  | bad c p => rw [h1] at h; cases h
  | ok o t1 =>
    rw [h1] at h
    have h : (tdig b f n o 1 t1).bind _ = Res.ok v t' := h
    cases h2 : tdig b f n o 1 t1 with
    | bad c p => rw [h2] at h; cases h
    | ok s t2 =>
      rw [h2] at h
      have h : (tdig b f n (s - 1).toNat 1 t2).bind _ = Res.ok v t' := h
      cases h3 : tdig b f n (s - 1).toNat 1 t2 with
      | bad c p => rw [h3] at h; cases h
      | ok x t3 =>
        rw [h3] at h
        cases (show Res.ok (x - 1) t3 = Res.ok v t' from h)
        have ho := tones_rng h1
        have n1 := (tones_next h1).2 (by decide)
        have n2 := tdig_next h2
        have n3 := tdig_next h3
        have r2 := tdig_rng h2
        have r3 := tdig_rng h3
        have p1 : (0 : Int) < 2 ^ o := Int.pow_pos (by decide)
        have p2 : (0 : Int) < 2 ^ (s - 1).toNat := Int.pow_pos (by decide)
        have hs255 : s ≤ 255 := by
          have h8 : (2 : Nat) ^ (o + 1) ≤ 2 ^ 8 := Nat.pow_le_pow_right (by decide) (by omega)
          have := r2.2
          have e : ((1 + 1 : Int) * 2 ^ o) = ((2 ^ (o + 1) : Nat) : Int) := by rw [Nat.pow_succ, Nat.mul_comm]; simp
          rw [e] at this
          omega
        have hx255 : x < 2 ^ 255 := by
          have h8 : (2 : Nat) ^ ((s - 1).toNat + 1) ≤ 2 ^ 255 := Nat.pow_le_pow_right (by decide) (by omega)
          have := r3.2
          have e : ((1 + 1 : Int) * 2 ^ (s - 1).toNat) = ((2 ^ ((s - 1).toNat + 1) : Nat) : Int) := by rw [Nat.pow_succ, Nat.mul_comm]; simp
          rw [e] at this
          have h9 : (((2 : Nat) ^ 255 : Nat) : Int) = (2 : Int) ^ 255 := by simp
          omega
        exact ⟨⟨by omega, by omega⟩, by omega⟩
theorem twhole_gen {b : List Bool} {f n : Bool} {v : Int} {t t' : Nat} (h : twhole b f n t = .ok v t') : wholeOk v ∧ t < t' := by
  unfold twhole at h
  cases h1 : takeB b f n true t with
  | bad c p => rw [h1] at h; cases h
  | ok c t1 =>
    rw [h1] at h
    have h2 := takeB_next h1
    cases c with
    | true =>
      obtain ⟨hv, h4⟩ := tcount_gen (show tcount b f n false t1 = .ok v t' from h)
      exact ⟨(wholeOk_pos (by have := hv.1; omega)).mpr hv, by omega⟩
    | false =>
      have h : (tcount b f (!n) false t1).bind (fun x t2 => Res.ok (-1 - x) t2) = Res.ok v t' := h
      cases h6 : tcount b f (!n) false t1 with
      | bad c p => rw [h6] at h; cases h
      | ok x t2 =>
        rw [h6] at h
        cases (show Res.ok (-1 - x) t2 = Res.ok v t' from h)
        obtain ⟨hv, h4⟩ := tcount_gen h6
        have e : -1 - (-1 - x) = x := by omega
        exact ⟨(wholeOk_neg (by have := hv.1; omega)).mpr (by rw [e]; exact hv), by omega⟩
/-- the same, told from where the reading began -/
theorem FinU.stepB {α : Type} {K : PySem.W.Frag} {val : α → V} {a : Addr} {b : List Bool} {f : Bool} {H H1 : Hp} {Q Q2 : VK} {E : XK} {r : Res α} {g : α → Nat → Res (List Int)} (h : FinU K a b f H Q E (r.bind g)) (e : ExU a H H1)
    (k : ∀ v t H', r = .ok v t → ExU a H1 H' → SrcB K H' a b t f → FinU K a b f H Q E (g v t) → Q2 (val v) H') : Fin K val a b f H1 Q2 E r := by
  cases r with
  | ok v t => exact fun H' e s => k v t H' rfl e s h
  | bad c p => exact RaiseU.mono e h
theorem atI_last {α : Type} {xs : List α} (h : xs ≠ []) : atI xs (-1) = xs.getLast? := by
  have hp := List.length_pos_iff.mpr h
  unfold atI ixN
  rw [if_neg (by decide), if_pos (by omega), List.getLast?_eq_getElem?]
  show xs[((-1 : Int) + xs.length).toNat]? = _
  congr 1
  omega
theorem cut_tail (ns : List Int) : cutV (ns.map V.int) (some ((1 : Nat) : Int)) none = ns.tail.map V.int := by
  unfold cutV
  rw [HT.sIx_none, HT.sIx_nat, List.length_map]
  cases ns with
  | nil => rfl
  | cons a r =>
    simp
    rw [List.take_of_length_le (by simp)]
theorem cut_init (ns : List Int) : cutV (ns.map V.int) none (some (-1)) = ns.dropLast.map V.int := by
  unfold cutV
  rw [HT.sIx_none, List.drop_zero, Nat.sub_zero, List.length_map, List.dropLast_eq_take, List.map_take]
  congr 1
  show ((-1 : Int) + (ns.length : Int)).toNat = _
  omega
/-! ### a law's promise, the script's numbers within 2 ^ 20 bits -/
def bitsOk (ns : List Int) : Prop := ∀ k ∈ ns, k.natAbs < 2 ^ 1048576
def lawSpB (K : PySem.W.Frag) : Sp := fun vs H Q _ => ∃ (a : Addr) (ns : List Int), vs = [.ref a] ∧ SqL K H a (ns.map V.int) ∧ ns.length ≤ 63 ∧ bitsOk ns ∧ Only H ∧ ∀ H', Q (.bl true) H'
theorem lawSpB_len {K : PySem.W.Frag} {vs : List V} {H : Hp} {Q : VK} {E : XK} (h : lawSpB K vs H Q E) : vs.length = 1 := by
  obtain ⟨a, ns, rfl, _⟩ := h
  rfl
theorem bits_lt {k : Int} {n : Nat} (h : Builtin.Int.intBits k ≤ n) : k.natAbs < 2 ^ n := by
  unfold Builtin.Int.intBits at h
  by_cases h0 : k = 0
  · subst h0
    exact Nat.two_pow_pos n
  · rw [if_neg (by simpa using h0)] at h
    exact Nat.lt_of_lt_of_le Nat.lt_log2_self (Nat.pow_le_pow_right (by decide) h)
theorem law_inB {K : PySem.W.Frag} {H : Hp} {a : Addr} {ns : List Int} {E : XK} (hl : ns.length ≤ 63) (hb : ∀ k ∈ ns, Builtin.Int.intBits k ≤ 1048576) (hO : Only H) (hS : SqL K H a (ns.map V.int)) : lawSpB K [.ref a] H (fun v _ => v = .bl true) E :=
  ⟨a, ns, rfl, hS, hl, fun k hk => bits_lt (hb k hk), hO, fun _ => rfl⟩
theorem walk_wB {l : PySem.W.OpenLaw} {n k : Nat} {q : Program} {loose : List Str} {XP : (Str → Option Value) → Heap → Prop} {YP : World → Heap → Prop} {d : DefRec} {x : Str}
    (hn : l.most = some n) (hn2 : n ≤ sizeLine) (hdf : d.params.defaults = []) (hr : Room k callerA)
    (F : ∀ (w : World) (mg : Str → Option Value) (fa : Addr) (h : Heap), YP w h → h.Ns mainGlobals mg → mg d.name = some (.ref fa) →
      ∃ (K : PySem.W.Frag) (fd : FuncData), K.In h ∧ (∀ (s : Shared) (u : Value), BindsTo s fd ⟨[u], []⟩ [(x, u)]) ∧
        (∀ (H : Hp) (a : Addr) (ns : List Int), ns.length ≤ n → (∀ k ∈ ns, Builtin.Int.intBits k ≤ 1048576) → Only H → SqL K H a (ns.map V.int) → lawSpB K [.ref a] H (fun v _ => v = .bl true) fun _ _ _ => False) ∧
        ∀ base : Heap, K.In base → base.Ns mainGlobals mg → FnOk l.prog w K mg base (L2.CX l.prog w) k fa fd [x] (lawSpB K)) :
    PySem.W.WalkO q loose XP YP l.row.toRowW d [] (fun f vs => PySem.call f vs) := by
  refine Att.attach_callB hn hdf fun w s₀ s₁ mg mb fa o pm cd doc a vs ns G Y ho hd hcd hmg hobj hints hlen hbits hg => ?_
  have Z := F w mg fa s₁.heap Y G.T.g hmg
  obtain ⟨K, fd, KX, hb, hsp, hF⟩ := Z
  exact law_call KX G.T.g G.T.b G.T.builtins G.T.nolimit hg hobj hints (Nat.le_trans hlen hn2) hr hF hb (fun H hO hS => hsp H a ns hlen hbits hO hS)
    (fun H e s' z => cx_none z)
theorem cell_bits {ns : List Int} (h : bitsOk ns) (k : Int) : (cellAt ns k).natAbs < 2 ^ 1048576 := by
  unfold cellAt
  cases e : ns[k.toNat]? with
  | none => exact Nat.two_pow_pos _
  | some x => exact h x (List.mem_of_getElem? e)
theorem cut_intsN (ns : List Int) (lo hi : Option Int) : ∃ ms : List Int, cutV (ns.map V.int) lo hi = ms.map V.int ∧ ms.length ≤ ns.length ∧ ∀ m ∈ ms, m ∈ ns := by
  unfold cutV
  rw [← List.map_drop, ← List.map_take]
  exact ⟨_, rfl, by rw [List.length_take, List.length_drop]; omega, fun m hm => List.mem_of_mem_drop (List.mem_of_mem_take hm)⟩
/-! ### a fraction's row is read as its steps -/
theorem nz_nz (n m : Bool) (l : List Bool) : nz n (nz m l) = nz (n != m) l := by
  unfold nz
  rw [List.map_map]
  refine List.map_congr_left fun c _ => ?_
  cases c <;> cases n <;> cases m <;> rfl
theorem nz_tail : ∀ (n m : Bool) (l : List Int), nz n (tailRow m l) = tailRow (n != m) l
  | n, m, [] => by rw [tailRow, nz_nz, tailRow]
  | n, m, s :: r => by
    rw [tailRow, nz_app, nz_app, nz_nz, nz_nz, nz_tail n (!m) r, tailRow]
    have : (n != !m) = !(n != m) := by cases n <;> cases m <;> rfl
    rw [this]
theorem tailRow_pos : ∀ (n : Bool) (l : List Int), l.length + 1 ≤ (tailRow n l).length
  | n, [] => by simp [tailRow, nz]
  | n, s :: r => by
    have := tailRow_pos (!n) r
    rw [tailRow, List.length_append, List.length_append, nz_len, List.length_cons (as := r)]
    simp only [List.length_singleton]
    omega
theorem lane_next (n : Bool) {k : Nat} (h : 0 < k) : lane n k = !lane n (k - 1) := by
  unfold lane
  by_cases h1 : k % 2 = 1
  · rw [if_pos h1, if_neg (by omega)]
  · rw [if_neg h1, if_pos (by omega), Bool.not_not]
theorem tfracGo_at {b : List Bool} {f n : Bool} : ∀ {rest : List Int} {fuel : Nat} {dn : List Int} {t : Nat} {post : List Bool}, b.drop t = tailRow (lane n (dn.length - 1)) rest ++ post → rest.length < fuel → dn ≠ [] → goodS (dn ++ rest) → (∀ s ∈ rest, countOk (s - 1)) →
    tfracGo b f n fuel dn t = .ok (dn ++ rest) (t + (tailRow (lane n (dn.length - 1)) rest).length) ∧ b.drop (t + (tailRow (lane n (dn.length - 1)) rest).length) = post
  | [], fuel, dn, t, post, h, hf, hne, hg, hc => by
    obtain ⟨k, rfl⟩ : ∃ k, fuel = k + 1 := ⟨fuel - 1, by simp at hf; omega⟩
    rw [List.append_nil] at hg ⊢
    have he := (goodS_iff.mp hg).2.1
    obtain ⟨h1, h2⟩ := takeB_at (f := f) (w := endsOne dn) (c := false) (show b.drop t = (false != lane n (dn.length - 1)) :: post from h)
    refine ⟨?_, h2⟩
    rw [tfracGo, h1]
    unfold Res.bind
    dsimp only
    rw [if_neg (by decide), he, if_neg (by decide)]
    rfl
  | s :: r, fuel, dn, t, post, h, hf, hne, hg, hc => by
    obtain ⟨k, rfl⟩ : ∃ k, fuel = k + 1 := ⟨fuel - 1, by simp at hf; omega⟩
    have hpos := List.length_pos_iff.mpr hne
    have hcs := hc s (List.mem_cons_self ..)
    obtain ⟨m, hm⟩ := Int.eq_ofNat_of_zero_le hcs.1
    rw [hm] at hcs
    rw [tailRow, hm, Int.toNat_natCast] at h ⊢
    have hl2 : (!lane n (dn.length - 1)) = lane n dn.length := (lane_next n hpos).symm
    rw [hl2] at h ⊢
    obtain ⟨h1, h2⟩ := takeB_at (f := f) (w := endsOne dn) (c := true) (show b.drop t = (true != lane n (dn.length - 1)) :: ((nz (lane n dn.length) (countRow m) ++ tailRow (lane n dn.length) r) ++ post) from h)
    rw [List.append_assoc] at h2
    obtain ⟨h3, h4⟩ := tcount_at (f := f) (w := true) hcs h2
    have e1 : (dn ++ [s]).length - 1 = dn.length := by simp
    obtain ⟨h5, h6⟩ := tfracGo_at (f := f) (n := n) (rest := r) (fuel := k) (dn := dn ++ [s]) (t := t + 1 + (countRow m).length) (post := post) (by rw [e1]; exact h4) (by rw [List.length_cons] at hf; omega) (by simp) (by rw [List.append_assoc]; exact hg) fun x hx => hc x (List.mem_cons_of_mem _ hx)
    rw [e1] at h5 h6
    have el : t + (nz (lane n (dn.length - 1)) [true] ++ (nz (lane n dn.length) (countRow m) ++ tailRow (lane n dn.length) r)).length = t + 1 + (countRow m).length + (tailRow (lane n dn.length) r).length := by
      rw [List.length_append, List.length_append, nz_len, nz_len]
      simp only [List.length_singleton]
      omega
    rw [el]
    refine ⟨?_, h6⟩
    rw [tfracGo, h1]
    unfold Res.bind
    dsimp only
    rw [if_pos rfl, h3]
    dsimp only
    rw [show (m : Int) + 1 = s by omega, h5, List.append_assoc]
    rfl
theorem tfrac_at {b : List Bool} {f n : Bool} {l : List Int} {t : Nat} {post : List Bool} (hg : goodS l) (hr : rowOkS l) (h : b.drop t = nz n (fracRow l) ++ post) : tfrac b f n t = .ok l (t + (fracRow l).length) ∧ b.drop (t + (fracRow l).length) = post := by
  obtain ⟨a, r, rfl⟩ : ∃ a r, l = a :: r := List.exists_cons_of_ne_nil (goodS_iff.mp hg).1
  obtain ⟨hw, hc⟩ := hr
  have h : b.drop t = nz n (wholeRow a ++ tailRow false r) ++ post := h
  rw [nz_app, nz_tail, List.append_assoc, show (n != false) = n by cases n <;> rfl] at h
  obtain ⟨h1, h2⟩ := twhole_at (f := f) hw h
  have hl := congrArg List.length h2
  rw [List.length_append, List.length_drop] at hl
  have hp := tailRow_pos n r
  have hlane : lane n ([a].length - 1) = n := rfl
  obtain ⟨h3, h4⟩ := tfracGo_at (f := f) (n := n) (rest := r) (fuel := 2 * (b.length - (t + (wholeRow a).length)) + 3) (dn := [a]) (t := t + (wholeRow a).length) (post := post) (by rw [hlane]; exact h2) (by omega) (by simp) hg hc
  rw [hlane] at h3 h4
  have el : t + (fracRow (a :: r)).length = t + (wholeRow a).length + (tailRow n r).length := by
    show t + (wholeRow a ++ tailRow false r).length = _
    have := congrArg List.length (nz_tail n false r)
    rw [nz_len, show (n != false) = n by cases n <;> rfl] at this
    rw [List.length_append]
    omega
  rw [el]
  refine ⟨?_, h4⟩
  unfold tfrac
  rw [h1]
  exact h3
/-- f(g(..), ..), g's promise met -/
theorem go_callF {sp sp2 : Sp} {E E2 : XK} {t tr : TA} {vs : List V} {σ : L2.St} {H : Hp} {Q : VK} (h : EvA t σ H vs) (k : ∀ H1, Ex H H1 → ∀ Q2 : VK, (∀ x H2 us, EvA tr σ H2 us → (∀ H3, Ex H2 H3 → sp (x :: us) H3 Q E) → Q2 x H2) → sp2 vs H1 Q2 E2) :
    tCall sp [] E (tCons (tCall sp2 [] E2 t) tr) σ H Q :=
  h H (Ex.refl H) _ fun H1 e1 => by
    rw [List.append_nil]
    exact k H1 e1 _ fun x H2 us hu hs => hu H2 (Ex.refl H2) _ fun H3 e3 => by
      show sp ((x :: us) ++ []) H3 Q E
      rw [List.append_nil]
      exact hs H3 e3
end Kr
/-! lists of numbers compared, filtered -/
namespace Kr
open PySem PySem.Spec PyProof.Rows L2 Evl
abbrev IL (l : List Int) : List V := l.map V.int
theorem IL_plain (l : List Int) : (IL l).all plainV = true := by
  rw [List.all_eq_true]
  intro v hv
  obtain ⟨n, _, rfl⟩ := List.mem_map.mp hv
  rfl
theorem IL_app (l m : List Int) : IL (l ++ m) = IL l ++ IL m := List.map_append
theorem IL_set (l : List Int) (j : Nat) (s : Int) : (IL l).set j (.int s) = IL (l.set j s) := (List.map_set ..).symm
theorem eqvAll_IL : ∀ (a b : List Int), PyData.eqvAll ((IL a).map toD) ((IL b).map toD) = decide (a = b)
  | [], [] => by simp [IL, PyData.eqvAll]
  | [], y :: b => by simp [IL, PyData.eqvAll]
  | x :: a, [] => by simp [IL, PyData.eqvAll]
  | x :: a, y :: b => by
    show (PyData.eqv (.int x) (.int y) && PyData.eqvAll ((IL a).map toD) ((IL b).map toD)) = _
    rw [eqvAll_IL a b, PyData.eqv]
    by_cases h : x = y
    · subst h
      by_cases h2 : a = b
      · subst h2; simp
      · simp [h2]
    · simp [h]
theorem eqv_IL (a b : List Int) : PyData.eqv (.list ((IL a).map toD)) (.list ((IL b).map toD)) = decide (a = b) := by
  rw [PyData.eqv]
  exact eqvAll_IL a b
section
variable {K : PySem.W.Frag} {σ : L2.St} {H : Hp} {ta tb tl te : TE}
theorem ev_eqIL {p q : Addr} {a b : List Int} (ha : Ev ta σ H (.ref p)) (hp : SqL K H p (IL a)) (hb : Ev tb σ H (.ref q)) (hq : SqL K H q (IL b)) : Ev (tOp (rEqD K) ta tb) σ H (.bl (decide (a = b))) := fun H1 e Q k =>
  ha H1 e _ fun H2 e2 => hb H2 (e.trans e2) _ fun H3 e3 => ⟨.list ((IL a).map toD), .list ((IL b).map toD), .lst (ex_l ((e.trans e2).trans e3) hp) (dpAll_plain (IL_plain a)), .lst (ex_l ((e.trans e2).trans e3) hq) (dpAll_plain (IL_plain b)), shaped_list (IL_plain a), shaped_list (IL_plain b), by
    rw [eqv_IL]
    exact k H3 (e2.trans e3)⟩
theorem ev_neIL {p q : Addr} {a b : List Int} (ha : Ev ta σ H (.ref p)) (hp : SqL K H p (IL a)) (hb : Ev tb σ H (.ref q)) (hq : SqL K H q (IL b)) : Ev (tOp (rNeD K) ta tb) σ H (.bl (!decide (a = b))) := fun H1 e Q k =>
  ha H1 e _ fun H2 e2 => hb H2 (e.trans e2) _ fun H3 e3 => ⟨.list ((IL a).map toD), .list ((IL b).map toD), .lst (ex_l ((e.trans e2).trans e3) hp) (dpAll_plain (IL_plain a)), .lst (ex_l ((e.trans e2).trans e3) hq) (dpAll_plain (IL_plain b)), shaped_list (IL_plain a), shaped_list (IL_plain b), by
    rw [eqv_IL]
    exact k H3 (e2.trans e3)⟩
theorem ev_eqI0 {p : Addr} {a : List Int} (ha : Ev ta σ H (.ref p)) (hp : SqL K H p (IL a)) : Ev (tOp (rEqD K) ta (tLst tNil)) σ H (.bl (decide (a = []))) := fun H1 e Q k =>
  ha H1 e _ fun H2 e2 => (el_lst ea_nil (by simp) : EvL (tLst tNil) σ H2 []) H2 (Ex.refl H2) _ fun r H3 _ e3 hr => ⟨.list ((IL a).map toD), .list ((IL []).map toD), .lst (ex_l ((e.trans e2).trans e3) hp) (dpAll_plain (IL_plain a)), .lst (sq_of hr) (dpAll_plain (IL_plain [])), shaped_list (IL_plain a), shaped_list (IL_plain []), by
    rw [eqv_IL]
    exact k H3 (e2.trans e3)⟩
/-- a call of three, the second a new tuple -/
theorem ev_callVU {tc : TE} {sp : Sp} {E : XK} {xs : List V} {x y z : V} (ha : Ev ta σ H x) (hb : EvU tb σ H xs) (hc : ∀ H1, Ex H H1 → Ev tc σ H1 y) (hs : ∀ r H1, Ex H H1 → H1 r = some (.tup xs) → SpV sp [x, .ref r, y] H1 z) : Ev (tCall sp [] E (tCons ta (tCons tb (tCons tc tNil)))) σ H z := fun H1 e Q q =>
  ha H1 e _ fun H2 e2 => hb H2 (e.trans e2) _ fun r H3 _ e3 h3 => hc H3 ((e.trans e2).trans e3) H3 (Ex.refl H3) _ fun H4 e4 => hs r H4 (((e.trans e2).trans e3).trans e4) (e4 _ _ h3) H4 (Ex.refl H4) Q (fun H5 e5 => q H5 (((e2.trans e3).trans e4).trans e5)) E
/-- [x for x in a new list of numbers if ..] -/
theorem el_filtI {l : List Int} {t : TT} {j : Nat} {vs : List Nat} (p : Int → Bool) (h : EvL tl σ H (IL l)) (hz : l.length ≤ 40000) (hw : ∀ x, wipe ((wipe σ vs).set j (some x)) vs = wipe σ vs) (hj : ∀ x : V, ((wipe σ vs).set j (some x))[j]? = some (some x))
    (ht : ∀ r ∈ l, ∀ H1, Ex H H1 → EvT t ((wipe σ vs).set j (some (.int r))) H1 (p r)) : EvL (tLc (iList K tl) (gName j) t (tVar j) vs) σ H (IL (l.filter p)) := by
  have key : given (IL l).length (fun i => p (l.getD i 0)) (fun i => V.int (l.getD i 0)) = IL (l.filter p) := by
    unfold given
    rw [List.length_map]
    exact range_filter l 0 p fun r => V.int r
  rw [← key]
  have at_ : ∀ {i : Nat} {x : V}, (IL l)[i]? = some x → ∃ h : i < l.length, x = .int l[i] ∧ l.getD i 0 = l[i] := fun {i x} hi => by
    have h := (List.getElem?_eq_some_iff.mp hi).1
    rw [List.length_map] at h
    rw [List.getElem?_map, List.getElem?_eq_getElem h] at hi
    exact ⟨h, (Option.some.inj hi).symm, by simp [List.getD, h]⟩
  refine el_lcNL _ _ h (by rw [List.length_map]; exact hz) hw (fun i x H1 e hi => ?_) (fun i x H1 e hi _ => ?_)
  · obtain ⟨hl, rfl, e2⟩ := at_ hi
    rw [e2]
    exact ht _ (List.getElem_mem hl) H1 e
  · obtain ⟨hl, rfl, e2⟩ := at_ hi
    rw [e2]
    exact ev_var (hj _)
end
/-! ### how many steps a fraction has, and how great they are -/
theorem steps_few : ∀ (k : Nat) (t b : Int), b < 2 ^ k → (stepsE t b).length ≤ 2 * k + 1
  | 0, t, b, h => by
    have : ¬ 0 < b := by simp at h; omega
    rw [stepsE, dif_neg this]
    simp
  | k + 1, t, b, h => by
    by_cases hb : 0 < b
    · have m0 := Int.emod_nonneg t (show b ≠ 0 by omega)
      have m1 := Int.emod_lt_of_pos t hb
      rw [stepsE_pos hb]
      generalize t % b = r at m0 m1 ⊢
      by_cases hr : 0 < r
      · rw [stepsE_pos hr]
        have n0 := Int.emod_nonneg b (show r ≠ 0 by omega)
        have n1 := Int.emod_lt_of_pos b hr
        have e := Int.mul_ediv_add_emod b r
        have q1 : 1 ≤ b / r := (Int.le_ediv_iff_mul_le hr).mpr (by omega)
        have q2 : r * 1 ≤ r * (b / r) := Int.mul_le_mul_of_nonneg_left q1 (by omega)
        have hp : (2 : Int) ^ (k + 1) = 2 * 2 ^ k := by rw [Int.pow_succ, Int.mul_comm]
        have := steps_few k r (b % r) (by omega)
        simp only [List.length_cons]
        omega
      · rw [stepsE, dif_neg hr]
        simp
    · rw [stepsE, dif_neg hb]
      simp
theorem steps_small {k : Nat} : ∀ (n : Nat) (t b : Int), b.toNat ≤ n → t.natAbs < 2 ^ k → b < 2 ^ k → ∀ s ∈ stepsE t b, s.natAbs < 2 ^ k
  | n, t, b, hn, ht, hb, s, hs => by
    by_cases h0 : 0 < b
    · rw [stepsE_pos h0] at hs
      rcases List.mem_cons.mp hs with rfl | hs
      · have := Int.natAbs_ediv_le_natAbs t b
        omega
      · have m0 := Int.emod_nonneg t (show b ≠ 0 by omega)
        have m1 := Int.emod_lt_of_pos t h0
        have hk : ((2 : Int) ^ k) = ((2 ^ k : Nat) : Int) := by simp
        cases n with
        | zero => omega
        | succ n => exact steps_small n b (t % b) (by omega) (by rw [hk] at hb; omega) (by omega) s hs
    · rw [stepsE, dif_neg h0] at hs
      cases hs
/-! ### values drawn, in operations, tuples, tests -/
def Sm (x : Int) : Prop := x.natAbs < 2 ^ 1000
section
variable {K : PySem.W.Frag} {σ : L2.St} {H : Hp} {ta tb te : TE} {D : Ends} {tu tw : TS} {x y : V} {P P' : V → Prop} {r : R2}
theorem ew_op (ha : Ev ta σ H x) (hb : EvW tb σ H P) (hr : ∀ y, P y → ∃ z, P' z ∧ ∀ H1, RV r x y H1 z) : EvW (tOp r ta tb) σ H P' := fun H1 e Q q =>
  ha H1 e _ fun H2 e2 => hb H2 (e.trans e2) _ fun y H3 hy e3 => by
    obtain ⟨z, hz, h⟩ := hr y hy
    exact h H3 H3 (Ex.refl H3) Q fun H4 e4 => q z H4 hz ((e2.trans e3).trans e4)
theorem ew_op1 (ha : EvW ta σ H P) (hb : ∀ H1, Ex H H1 → Ev tb σ H1 y) (hr : ∀ x, P x → ∃ z, P' z ∧ ∀ H1, RV r x y H1 z) : EvW (tOp r ta tb) σ H P' := fun H1 e Q q =>
  ha H1 e _ fun x H2 hx e2 => hb H2 (e.trans e2) H2 (Ex.refl H2) _ fun H3 e3 => by
    obtain ⟨z, hz, h⟩ := hr x hx
    exact h H3 H3 (Ex.refl H3) Q fun H4 e4 => q z H4 hz ((e2.trans e3).trans e4)
theorem ew_of (h : Ev te σ H x) (hx : P x) : EvW te σ H P := fun H1 e Q q => h H1 e Q fun H2 e2 => q x H2 hx e2
/-- return (a, b), both drawn -/
theorem s_retTW2 (h1 : EvW ta σ H P) (h2 : ∀ H1, Ex H H1 → EvW tb σ H1 P') (k : ∀ v w H1, P v → P' w → Ex H H1 → RetU [v, w] H1 D.rt) : tRet (tTup (tCons ta (tCons tb tNil))) D σ H :=
  h1 H (Ex.refl H) _ fun v H1 hv e1 => h2 H1 e1 H1 (Ex.refl H1) _ fun w H2 hw e2 => ⟨sz_of (by simp), fun p hp => k v w H2 hv hw (e1.trans e2) p _ hp (Ex.new hp) upd_same⟩
/-- if f(..), f's promise met -/
theorem s_ifF {sp : Sp} {E : XK} {t : TA} {vs : List V} (h : EvA t σ H vs) (k : ∀ H1, Ex H H1 → ∀ Q2 : VK, (∀ (G : Bool) H2, (G = true → tu D σ H2) → (G = false → tw D σ H2) → Q2 (.bl G) H2) → sp vs H1 Q2 E) : tIfS (tB (tCall sp [] E t)) tu tw D σ H :=
  h H (Ex.refl H) _ fun H1 e1 => by
    rw [List.append_nil]
    exact k H1 e1 _ fun G H2 h1 h2 => ⟨G, rfl, by
      cases G with
      | true => exact h1 rfl
      | false => exact h2 rfl⟩
/-- name = f((..)), the one argument a new tuple, in a try -/
theorem s_asgXU {sp : Sp} {E : L2.St → XK} {xs : List V} {i : Nat} (h : EvU te σ H xs) (k : ∀ p H1, H p = none → Ex H H1 → H1 p = some (.tup xs) → sp [.ref p] H1 (fun v H2 => D.nx (σ.set i (some v)) H2) (E σ)) : tAsg (tCallS sp E (tCons te tNil)) (gName i) D σ H :=
  h H (Ex.refl H) _ fun p H1 hp e1 h1 => k p H1 hp e1 h1
end
end Kr
/-! fractions in order: their rows stand as they do; lists of lists of numbers -/
namespace Kr
open PySem PySem.Spec PyProof.Rows L2 Evl
/-! ### the order -/
def crs (l m : List Int) : Int := (fracOf l).1 * (fracOf m).2
theorem crs_head {a b : Int} {r s : List Int} (hr : goodS (a :: r)) (hs : goodS (b :: s)) (h : a < b) : crs (a :: r) (b :: s) < crs (b :: s) (a :: r) := by
  obtain ⟨q0, q1⟩ := goodS_rest hr
  obtain ⟨p0, p1⟩ := goodS_rest hs
  show (a * (fracOf r).1 + (fracOf r).2) * (fracOf s).1 < (b * (fracOf s).1 + (fracOf s).2) * (fracOf r).1
  generalize (fracOf r).1 = P at *
  generalize (fracOf r).2 = Q at *
  generalize (fracOf s).1 = P' at *
  generalize (fracOf s).2 = Q' at *
  have h1 : Q * P' < P * P' := Int.mul_lt_mul_of_pos_right q1 (by omega)
  have h2 : 0 ≤ Q' * P := Int.mul_nonneg p0 (by omega)
  have h3 : 0 < P * P' := Int.mul_pos (by omega) (by omega)
  have h4 : (a + 1) * (P * P') ≤ b * (P * P') := Int.mul_le_mul_of_nonneg_right (by omega) (by omega)
  have e1 : (a * P + Q) * P' = a * (P * P') + Q * P' := by rw [Int.add_mul, Int.mul_assoc]
  have e2 : (b * P' + Q') * P = b * (P * P') + Q' * P := by rw [Int.add_mul, Int.mul_assoc, Int.mul_comm P' P]
  rw [Int.add_mul] at h4
  rw [e1, e2]
  omega
theorem crs_same {a : Int} {r s : List Int} : crs (a :: r) (a :: s) - crs (a :: s) (a :: r) = crs s r - crs r s := by
  show (a * (fracOf r).1 + (fracOf r).2) * (fracOf s).1 - (a * (fracOf s).1 + (fracOf s).2) * (fracOf r).1 = (fracOf s).1 * (fracOf r).2 - (fracOf r).1 * (fracOf s).2
  grind
theorem goodS_down {a : Int} {r : List Int} (h : goodS (a :: r)) : r = [] ∨ goodS r := by
  cases r with
  | nil => exact .inl rfl
  | cons b r => exact .inr (goodT_S (goodS_tail h))
theorem crs_eq : ∀ {l m : List Int}, l = [] ∨ goodS l → m = [] ∨ goodS m → crs l m = crs m l → l = m
  | [], [], _, _, _ => rfl
  | [], b :: s, _, hm, h => by
    have h2 := goodS_rest (hm.resolve_left (by simp))
    have : (1 : Int) * (fracOf s).1 = (b * (fracOf s).1 + (fracOf s).2) * 0 := h
    omega
  | a :: r, [], hl, _, h => by
    have h2 := goodS_rest (hl.resolve_left (by simp))
    have : (a * (fracOf r).1 + (fracOf r).2) * 0 = (1 : Int) * (fracOf r).1 := h
    omega
  | a :: r, b :: s, hl, hm, h => by
    have hl := hl.resolve_left (by simp)
    have hm := hm.resolve_left (by simp)
    rcases Int.lt_trichotomy a b with h1 | rfl | h1
    · have := crs_head hl hm h1; omega
    · have e := crs_same (a := a) (r := r) (s := s)
      rw [crs_eq (goodS_down hl) (goodS_down hm) (by omega)]
    · have := crs_head hm hl h1; omega
def tailOk (l : List Int) : Prop := ∀ s ∈ l, countOk (s - 1)
theorem tail_split : ∀ {r s : List Int}, r = [] ∨ goodS r → s = [] ∨ goodS s → tailOk r → tailOk s → crs s r < crs r s → Split (tailRow false r) (tailRow false s)
  | [], [], _, _, _, _, h => absurd h (Int.lt_irrefl _)
  | [], b :: s, _, hm, _, _, h => ⟨[], [], _, rfl, rfl⟩
  | a :: r, [], hl, _, _, _, h => by
    have h2 := goodS_rest (hl.resolve_left (by simp))
    have : (1 : Int) * (fracOf r).1 < (a * (fracOf r).1 + (fracOf r).2) * 0 := h
    omega
  | a :: r, b :: s, hl, hm, cl, cm, h => by
    have hl := hl.resolve_left (by simp)
    have hm := hm.resolve_left (by simp)
    have ca := cl a (List.mem_cons_self ..)
    have cb := cm b (List.mem_cons_self ..)
    have key : ∀ (x : Int) (u : List Int), tailRow false (x :: u) = [true] ++ (neg (countRow (x - 1).toNat) ++ neg (tailRow false u)) := fun x u => by
      have e : ∀ c : List Bool, nz true c = neg c := fun c => nz_true c
      rw [tailRow, ← e (tailRow false u), nz_tail, ← e (countRow _)]
      rfl
    rw [key, key]
    rcases Int.lt_trichotomy a b with h1 | rfl | h1
    · have := crs_head hl hm h1; omega
    · have e := crs_same (a := a) (r := r) (s := s)
      exact ((tail_split (goodS_down hm) (goodS_down hl) (fun x hx => cm x (List.mem_cons_of_mem _ hx)) (fun x hx => cl x (List.mem_cons_of_mem _ hx)) (by omega)).neg.pre _).pre _
    · refine Split.pre (Split.post (Split.neg (countRow_split ?_ ?_ (by have := ca.1; have := cb.1; omega))) _ _) _
      · rw [Int.toNat_of_nonneg cb.1]; exact cb
      · rw [Int.toNat_of_nonneg ca.1]; exact ca
termination_by r s => r.length + s.length
theorem frac_split {l m : List Int} (hl : goodS l) (hm : goodS m) (rl : rowOkS l) (rm : rowOkS m) (h : crs l m < crs m l) : Split (fracRow l) (fracRow m) := by
  obtain ⟨a, r, rfl⟩ : ∃ a r, l = a :: r := List.exists_cons_of_ne_nil (goodS_iff.mp hl).1
  obtain ⟨b, s, rfl⟩ : ∃ a r, m = a :: r := List.exists_cons_of_ne_nil (goodS_iff.mp hm).1
  show Split (wholeRow a ++ tailRow false r) (wholeRow b ++ tailRow false s)
  rcases Int.lt_trichotomy a b with h1 | rfl | h1
  · exact (wholeRow_split rl.1 rm.1 h1).post _ _
  · have e := crs_same (a := a) (r := r) (s := s)
    exact (tail_split (goodS_down hl) (goodS_down hm) rl.2 rm.2 (by omega)).pre _
  · have := crs_head hm hl h1; omega
/-! ### lists made of what is drawn; lists of new tuples -/
/-- a new list and what is known of it when it is made -/
def EvR (te : TE) (σ : L2.St) (H : Hp) (P : List V → Hp → Prop) : Prop := ∀ H1, Ex H H1 → ∀ Q : VK, (∀ p xs H2, H1 p = none → Ex H1 H2 → H2 p = some (.lst xs) → P xs H2 → Q (.ref p) H2) → te σ H1 Q
section
variable {K : PySem.W.Frag} {σ : L2.St} {H : Hp} {ta tb te tl : TE} {D : Ends} {tz : TS}
theorem q_asgR {i : Nat} {P : List V → Hp → Prop} (h : EvR te σ H P) (k : ∀ xs p H1, P xs H1 → H p = none → Ex H H1 → H1 p = some (.lst xs) → tz D (σ.set i (some (.ref p))) H1) : tSeq (tAsg te (gName i)) tz D σ H := h H (Ex.refl H) _ fun p xs H1 hp e1 h1 hP => k xs p H1 hP hp e1 h1
theorem em_cat1 {P : V → Prop} {xs : List V} (ha : EvL ta σ H xs) (hb : ∀ H1, Ex H H1 → EvW tb σ H1 P) (hz : xs.length + 1 ≤ 100000) : EvM (tOp rCat ta (tLst (tCons tb tNil))) σ H (fun zs => ∃ v, zs = xs ++ [v] ∧ P v) := fun H1 e Q q =>
  ha H1 e _ fun p H2 _ e2 hp => hb H2 (e.trans e2) H2 (Ex.refl H2) _ fun v H3 hv e3 => ⟨sz_of (by simp), fun r hr =>
    ⟨p, r, xs, [v], rfl, rfl, (Ex.new (o := .lst [v]) hr) _ _ (e3 _ _ hp), upd_same, sz_of (by simpa using hz), fun l hl => q _ l _ ⟨v, rfl, hv⟩ (fresh_back ((e2.trans e3).trans (Ex.new hr)) hl) (((e2.trans e3).trans (Ex.new hr)).trans (Ex.new hl)) upd_same⟩⟩
theorem s_appW {P : V → Prop} {l : Addr} {xs : List V} (hl : H l = some (.lst xs)) (ha : Ev ta σ H (.ref l)) (h : EvW te σ H P) (hz : xs.length < 100000) (k : ∀ v H1, P v → Ex H H1 → D.nx σ (upd H1 l (.lst (xs ++ [v])))) : tDrop (tBM K "list" rAppend ta (tCons te tNil)) D σ H :=
  ha H (Ex.refl H) _ fun H1 e1 => ⟨Or.inl ⟨rfl, xs, sq_of (e1 l _ hl)⟩, h H1 e1 _ fun v H2 hv e2 => ⟨l, xs, _, rfl, rfl, e2 _ _ (e1 l _ hl), sz_lt hz, k v H2 hv (e1.trans e2)⟩⟩
theorem el_mapEL {α : Type} {as : List α} {f g : α → V} {a : Addr} {j : Nat} {vs : List Nat} (h : Ev tl σ H (.ref a)) (hs : SqL K H a (as.map f)) (hz : as.length ≤ 40000) (hw : ∀ x, wipe ((wipe σ vs).set j (some x)) vs = wipe σ vs)
    (he : ∀ x ∈ as, ∀ H1, Ex H H1 → Ev te ((wipe σ vs).set j (some (f x))) H1 (g x)) : EvL (tLc (iList K tl) (gName j) tYes te vs) σ H (as.map g) := by
  have key : given (as.map f).length (fun _ => true) (fun i => (as.map g).getD i .non) = as.map g := by
    rw [given_all, List.length_map]
    apply List.ext_getElem?
    intro i
    rw [List.getElem?_map]
    by_cases hi : i < as.length
    · simp [hi, List.getD]
    · simp [hi]
  rw [← key]
  refine el_lcL (fun _ => true) _ h hs (by rw [List.length_map]; exact hz) hw (fun i x H1 _ _ => fun H2 e2 Q q => q H2 (Ex.refl H2)) fun i x H1 e hi _ => ?_
  rw [List.getElem?_map] at hi
  cases hx : as[i]? with
  | none => rw [hx] at hi; cases hi
  | some y =>
    rw [hx] at hi
    obtain rfl := Option.some.inj hi
    have e2 : (as.map g).getD i .non = g y := by simp [List.getD, hx]
    rw [e2]
    exact he y (List.mem_of_getElem? hx) H1 e
/-- [a new tuple for x in what is drawn] -/
theorem er_lcU {P : List V → Hp → Prop} {n j : Nat} {vs : List Nat} (B : List V → Prop) (h : EvR tl σ H P) (hz : ∀ us H1, P us H1 → us.length ≤ n) (hn : n ≤ 40000) (hw : ∀ x, wipe ((wipe σ vs).set j (some x)) vs = wipe σ vs)
    (he : ∀ us x H1 H2, P us H1 → x ∈ us → Ex H H1 → Ex H1 H2 → ∃ ys, B ys ∧ EvU te ((wipe σ vs).set j (some x)) H2 ys) :
    EvR (tLc (iList K tl) (gName j) tYes te vs) σ H (fun ws H1 => ws.length ≤ n ∧ ∃ qs : List (Addr × List V), ws = qs.map (fun q => V.ref q.1) ∧ ∀ q ∈ qs, H1 q.1 = some (.tup q.2) ∧ B q.2) := fun H1 e Q q =>
  h H1 e _ fun p us H2 hp e2 h2 hP => ⟨p, rfl, ⟨us, sq_of h2⟩, fun D hD => lc_list (xs := us)
    (fun i H' => Ex H2 H' ∧ ∃ qs : List (Addr × List V), H' D = some (.lst (qs.map fun q => V.ref q.1)) ∧ qs.length = i ∧ ∀ q ∈ qs, q.1 ≠ D ∧ H' q.1 = some (.tup q.2) ∧ B q.2)
    ⟨Ex.new hD, [], upd_same, rfl, (fun q hq => by cases hq)⟩ (fun i H' _ hI => ex_l hI.1 (sq_of h2)) (fun i x H' hx hI => by
      obtain ⟨eH, qs, hqs, hl, hq⟩ := hI
      obtain ⟨ys, hB, hu⟩ := he us x H2 H' hP (List.mem_of_getElem? hx) (e.trans e2) eH
      refine ⟨hw x, ?_⟩
      unfold tYes
      simp only [if_true]
      have hi := (List.getElem?_eq_some_iff.mp hx).1
      have hzn := hz us H2 hP
      refine hu H' (Ex.refl H') _ fun a H4 ha e4 h4 => ⟨_, e4 _ _ hqs, sz_lt (by rw [List.length_map]; omega), (eH.trans e4).mut hD, qs ++ [(a, ys)], (by rw [upd_same, List.map_append]; rfl), (by rw [List.length_append, hl]; rfl), fun r hr => ?_⟩
      have haD : a ≠ D := fun z => by rw [z, hqs] at ha; cases ha
      rcases List.mem_append.mp hr with hr | hr
      · obtain ⟨n1, n2, n3⟩ := hq r hr
        exact ⟨n1, by rw [upd_ne n1]; exact e4 _ _ n2, n3⟩
      · rw [List.mem_singleton.mp hr]
        exact ⟨haD, by rw [upd_ne haD]; exact h4, hB⟩) fun H' hI => by
      obtain ⟨eH, qs, hqs, hl, hq⟩ := hI
      exact q D _ H' (fresh_back e2 hD) (e2.trans eH) hqs ⟨by rw [List.length_map, hl]; exact hz us H2 hP, qs, rfl, fun r hr => (hq r hr).2⟩⟩
/-- a call of three, the third a new list -/
theorem ev_call2L {sp : Sp} {E : XK} {xs : List V} {x y z : V} (ha : Ev ta σ H x) (hb : Ev tb σ H y) (hc : EvL te σ H xs) (hs : ∀ r H1, Ex H H1 → H1 r = some (.lst xs) → SpV sp [x, y, .ref r] H1 z) : Ev (tCall sp [] E (tCons ta (tCons tb (tCons te tNil)))) σ H z := fun H1 e Q q =>
  ha H1 e _ fun H2 e2 => hb H2 (e.trans e2) _ fun H3 e3 => hc H3 ((e.trans e2).trans e3) _ fun r H4 _ e4 h4 => hs r H4 (((e.trans e2).trans e3).trans e4) h4 H4 (Ex.refl H4) Q (fun H5 e5 => q H5 (((e2.trans e3).trans e4).trans e5)) E
end
/-! ### steps that a law draws -/
/-- steps that a law draws -/
def StepsOk (l : List Int) : Prop := goodS l ∧ l.length ≤ 201 ∧ ∀ s ∈ l, -(10 ^ 60) ≤ s ∧ s ≤ 10 ^ 70
theorem good_fix {l : List Int} (hne : l ≠ []) (h : ∀ s ∈ l.tail, 1 ≤ s) : (endsOne l = false → goodS l) ∧ (endsOne l = true → goodS (l.dropLast ++ [2])) := by
  refine ⟨fun he => goodS_iff.mpr ⟨hne, he, h⟩, fun he => goodS_iff.mpr ⟨by simp, by simp [endsOne], ?_⟩⟩
  cases l with
  | nil => exact absurd rfl hne
  | cons a r =>
    have hl := (of_decide_eq_true he).1
    cases r with
    | nil => simp at hl
    | cons b r =>
      intro s hs
      rw [List.dropLast_cons_cons, List.cons_append, List.tail_cons] at hs
      rcases List.mem_append.mp hs with hs | hs
      · exact h s (List.dropLast_subset _ hs)
      · rw [List.mem_singleton.mp hs]; decide
/-- the last step, if it is a one behind another, is made a two -/
theorem s_fixLast {K : PySem.W.Frag} {σ : L2.St} {H : Hp} {i : Nat} {p : Addr} {l : List Int} {D : Ends} {tz : TS} (hi : σ[i]? = some (some (.ref p))) (hp : H p = some (.lst (l.map V.int))) (hne : l ≠ []) (h1 : ∀ s ∈ l.tail, 1 ≤ s) (hlen : l.length ≤ 201) (hb : ∀ s ∈ l, -(10 ^ 60) ≤ s ∧ s ≤ 10 ^ 70)
    (k : ∀ H1 l', StepsOk l' → (∀ o a, H a = some o → a ≠ p → H1 a = some o) → H1 p = some (.lst (l'.map V.int)) → tz D σ H1) :
    tSeq (tIfS (tAnd (tTest (tOp rGtI (tCB (rLenK K) (tCons (tVar i) tNil)) (tC (.int 1)))) (tTest (tOp rEq (tOp (rIxL K) (tVar i) (tUn (rU fun i => .int (-i)) (tC (.int 1)))) (tC (.int 1))))) (tAsg (tC (.int 2)) (gSub (tVar i) (tUn (rU fun i => .int (-i)) (tC (.int 1))) rSetL)) tNext) tz D σ H := by
  have hg : l.getLast? = some (l.getLast hne) := List.getLast?_eq_some_getLast hne
  obtain ⟨g1, g2⟩ := good_fix hne h1
  refine q_when (b := endsOne l) (et_is (et_and (et_test (ev_gtI (ev_is (ev_lenS (ev_var hi) (.inl (sq_of hp))) (by rw [List.length_map])) ev_c)) fun _ => et_test (ev_eqI (ev_op (ev_var hi) (ev_neg ev_c) (rv_ixL (v := .int (l.getLast hne)) (sq_of hp) (by rw [atI_last (by simpa using hne), List.getLast?_map, hg]; rfl))) ev_c)) ?_) (fun he H1 e1 => ?_) (fun he H1 e1 => ?_)
  · unfold endsOne
    rw [hg, Bool.decide_and]
    congr 1
    · exact decide_eq_decide.mpr ⟨fun h => by omega, fun h => by omega⟩
    · exact decide_eq_decide.mpr ⟨fun h => by rw [h], fun h => Option.some.inj h⟩
  · refine s_setLast (D := { D with nx := tz D }) (e1 _ _ hp) ev_c (ev_var hi) (ev_neg ev_c) (by simpa using hne) fun H2 e2 => ?_
    refine k _ (l.dropLast ++ [2]) ⟨g2 he, by have := List.length_pos_iff.mpr hne; rw [List.length_append, List.length_dropLast]; simp; omega, fun s hs => ?_⟩ (fun o a ha hap => by rw [upd_ne hap]; exact (e1.trans e2) _ _ ha) (by rw [upd_same, List.map_append, List.map_dropLast]; rfl)
    rcases List.mem_append.mp hs with hs | hs
    · exact hb s (List.dropLast_subset _ hs)
    · rw [List.mem_singleton.mp hs]; decide
  · exact k H1 l ⟨g1 he, hlen, hb⟩ (fun o a ha _ => e1 _ _ ha) (e1 _ _ hp)
theorem atI_snoc {xs : List V} {v : V} : atI (xs ++ [v]) (-1) = some v := by
  rw [atI_last (by simp)]
  simp
theorem stepsOk_row {a : Int} {r : List Int} (h : StepsOk (a :: r)) : wholeOk a ∧ (∀ s ∈ r, countOk (s - 1)) ∧ ∀ s ∈ r, 1 ≤ s := by
  have ha := h.2.2 a (List.mem_cons_self ..)
  have h60 : (10 : Int) ^ 60 < 2 ^ 254 := by decide
  have h70 : (10 : Int) ^ 70 < 2 ^ 254 := by decide
  have h1 := (goodS_iff.mp h.1).2.2
  rw [List.tail_cons] at h1
  refine ⟨⟨by omega, by omega⟩, fun s hs => ?_, h1⟩
  have := h.2.2 s (List.mem_cons_of_mem _ hs)
  have := h1 s hs
  exact ⟨by omega, by omega⟩
theorem stepsOk_abs {l : List Int} (h : StepsOk l) : ∀ s ∈ l, s.natAbs < 2 ^ 2000 := fun s hs => by
  have := h.2.2 s hs
  exact Nat.lt_of_le_of_lt (show s.natAbs ≤ 10 ^ 70 by omega) (by decide)
theorem stepsOk_rows {l : List Int} (h : StepsOk l) : rowOkS l ∧ (fracRow l).length ≤ 301 * 202 ∧ (l.length ≤ 30 → (fracRow l).length ≤ 9400) := by
  obtain ⟨a, r, rfl⟩ : ∃ a r, l = a :: r := List.exists_cons_of_ne_nil (goodS_iff.mp h.1).1
  obtain ⟨hw, hc, _⟩ := stepsOk_row h
  have h1 := wholeRow_len hw
  have h2 := tailRow_len (n := false) hc
  have h3 := h.2.1
  rw [List.length_cons] at h3
  refine ⟨⟨hw, hc⟩, ?_, fun h4 => ?_⟩
  · show (wholeRow a ++ tailRow false r).length ≤ _
    rw [List.length_append]
    omega
  · show (wholeRow a ++ tailRow false r).length ≤ _
    rw [List.length_cons] at h4
    rw [List.length_append]
    omega
end Kr
/-! a law's own reader of signs: a list of the signs and the place; xor; texts and lists that are drawn, in calls -/
namespace Kr
open PySem PySem.Spec PyProof.Rows L2 Evl
abbrev rXorI : R2 := rI0 fun i j => .int (Builtin.bitXor i j)
def bi (c : Bool) : Int := if c then 1 else 0
theorem bi_xor (c n : Bool) : Builtin.bitXor (bi c) (bi n) = bi (c != n) := by cases c <;> cases n <;> decide
theorem bi_not (c : Bool) : 1 - bi c = bi (!c) := by cases c <;> rfl
theorem bi_nn (c : Bool) : 0 ≤ bi c := by cases c <;> decide
theorem bi_one (c : Bool) : decide (bi c = 1) = c := by cases c <;> decide
theorem bi_nul (c : Bool) : decide (bi c = 0) = !c := by cases c <;> decide
theorem lane_int (j : Nat) : (j : Int) % 2 = bi (lane false j) := by
  unfold lane bi
  by_cases h : j % 2 = 1
  · rw [if_pos h]; simp; omega
  · rw [if_neg h]; simp; omega
/-- the list of the signs and the place -/
def StP (H : Hp) (s : Addr) (b : List Bool) (t : Nat) : Prop := H s = some (.lst [.str (T (R b)), .int (t : Int)])
theorem StP.mono {H H1 : Hp} {s : Addr} {b : List Bool} {t : Nat} (e : Ex H H1) (h : StP H s b t) : StP H1 s b t := e _ _ h
/-- how a promise of such a reader ends -/
def FinT {α : Type} (val : α → Int) (m : Int) (s : Addr) (b : List Bool) (H : Hp) (Q : VK) : Res α → Prop
  | .ok v t => ∀ H', ExU s H H' → StP H' s b t → Q (.int (val v)) H'
  | .bad _ _ => ∀ (x : Int) (t : Nat) H', m ≤ x → x < 0 → ExU s H H' → StP H' s b t → Q (.int x) H'
theorem FinT.mono {α : Type} {val : α → Int} {m : Int} {s : Addr} {b : List Bool} {H H1 : Hp} {Q : VK} {r : Res α} (h : FinT val m s b H Q r) (e : ExU s H H1) : FinT val m s b H1 Q r := by
  cases r with
  | ok v t => exact fun H' e2 s => h H' (e.trans e2) s
  | bad c p => exact fun x t H' hm hx e2 s => h x t H' hm hx (e.trans e2) s
theorem takeB_w {b : List Bool} {n w w' : Bool} {t : Nat} : takeB b false n w t = takeB b false n w' t := by
  unfold takeB
  cases b[t]? <;> rfl
theorem tones_w {b : List Bool} {n w w' : Bool} : ∀ {k o t : Nat}, tones b false n k w o t = tones b false n k w' o t
  | 0, o, t => rfl
  | k + 1, o, t => by rw [tones, tones, takeB_w (w' := w')]
theorem tcount_w {b : List Bool} {n w w' : Bool} {t : Nat} : tcount b false n w t = tcount b false n w' t := by
  unfold tcount
  rw [tones_w (w' := w')]
theorem takeB_len {b : List Bool} {n w c : Bool} {t t' : Nat} (h : takeB b false n w t = .ok c t') : t' = t + 1 ∧ t < b.length ∧ b[t]? = some (c != n) := by
  obtain ⟨h1, h2, h3⟩ := takeB_back h
  refine ⟨h1, h2, ?_⟩
  have := congrArg (fun l => l[0]?) h3
  simpa using this
/-- what is told of a fraction that is read -/
theorem tfracGo_fine {b : List Bool} {n : Bool} : ∀ {k : Nat} {l l' : List Int} {t t' : Nat}, tfracGo b false n k l t = .ok l' t' → l ≠ [] → l.length ≤ t + 1 → t ≤ b.length → (∀ s ∈ l, s.natAbs < 2 ^ 257) → l' ≠ [] ∧ l'.length ≤ b.length + 1 ∧ ∀ s ∈ l', s.natAbs < 2 ^ 257
  | 0, l, l', t, t', h, h0, h1, h2, h3 => by
    obtain ⟨rfl, rfl⟩ : l = l' ∧ t = t' := by
      have : (Res.ok l t : Res (List Int)) = .ok l' t' := h
      exact ⟨by injection this, by injection this⟩
    exact ⟨h0, by omega, h3⟩
  | k + 1, l, l', t, t', h, h0, h1, h2, h3 => by
    rw [tfracGo] at h
    cases hr : takeB b false (lane n (l.length - 1)) (endsOne l) t with
    | bad c p => rw [hr] at h; cases h
    | ok c t1 =>
      obtain ⟨rfl, ht1, _⟩ := takeB_len hr
      rw [hr] at h
      have h : (if c then (tcount b false (lane n l.length) true (t + 1)).bind fun v t2 => tfracGo b false n k (l ++ [v + 1]) t2 else if endsOne l then .bad "Wrong" (((t + 1 : Nat) : Int) - 1) else .ok l (t + 1)) = Res.ok l' t' := h
      cases c with
      | false =>
        rw [if_neg (by decide)] at h
        split at h
        · cases h
        · have : (Res.ok l (t + 1) : Res (List Int)) = .ok l' t' := h
          obtain rfl : l = l' := by injection this
          exact ⟨h0, by omega, h3⟩
      | true =>
        rw [if_pos rfl] at h
        cases hc : tcount b false (lane n l.length) true (t + 1) with
        | bad c p => rw [hc] at h; cases h
        | ok v t2 =>
          rw [hc] at h
          obtain ⟨hok, hdr, hend⟩ := tcount_back hc
          have hdl := congrArg List.length hdr
          rw [List.length_append, List.length_drop, List.length_drop, nz_len] at hdl
          have hrp := countRow_pos v.toNat
          have g0 := hok.1
          have g2 := hok.2
          refine tfracGo_fine (show tfracGo b false n k (l ++ [v + 1]) t2 = _ from h) (by simp) (by simp; omega) (by omega) fun x hx => ?_
          rcases List.mem_append.mp hx with hx | hx
          · exact h3 x hx
          · rw [List.mem_singleton.mp hx]
            have : (2 : Int) ^ 255 < 2 ^ 256 := by decide
            have : (2 : Nat) ^ 256 < 2 ^ 257 := by decide
            omega
theorem tfracGo_bad {b : List Bool} {n : Bool} : ∀ {k : Nat} {l : List Int} {t : Nat} {c : Str} {p : Int}, tfracGo b false n k l t = .bad c p → (c = "Short" ∧ p = b.length) ∨ c = "Wrong"
  | 0, l, t, c, p, h => by cases h
  | k + 1, l, t, c, p, h => by
    rw [tfracGo] at h
    cases hr : takeB b false (lane n (l.length - 1)) (endsOne l) t with
    | bad c2 p2 =>
      rw [hr] at h
      have h : (Res.bad c2 p2 : Res (List Int)) = .bad c p := h
      obtain ⟨rfl, rfl⟩ : c2 = c ∧ p2 = p := ⟨by injection h, by injection h⟩
      obtain ⟨h1, h2, _⟩ := takeB_short hr
      exact .inl ⟨h1, h2⟩
    | ok c2 t1 =>
      rw [hr] at h
      have h : (if c2 then (tcount b false (lane n l.length) true t1).bind fun v t2 => tfracGo b false n k (l ++ [v + 1]) t2 else if endsOne l then .bad "Wrong" ((t1 : Int) - 1) else .ok l t1) = Res.bad c p := h
      split at h
      · cases hc : tcount b false (lane n l.length) true t1 with
        | bad c3 p3 =>
          rw [hc] at h
          have h : (Res.bad c3 p3 : Res (List Int)) = .bad c p := h
          obtain ⟨rfl, rfl⟩ : c3 = c ∧ p3 = p := ⟨by injection h, by injection h⟩
          exact .inl (tcount_bad hc)
        | ok v t2 =>
          rw [hc] at h
          exact tfracGo_bad (show tfracGo b false n k (l ++ [v + 1]) t2 = _ from h)
      · split at h
        · have h : (Res.bad "Wrong" ((t1 : Int) - 1) : Res (List Int)) = .bad c p := h
          exact .inr (by injection h with h1 h2; exact h1.symm)
        · cases h
theorem tfrac_bad {b : List Bool} {n : Bool} {t : Nat} {c : Str} {p : Int} (h : tfrac b false n t = .bad c p) : (c = "Short" ∧ p = b.length) ∨ c = "Wrong" := by
  unfold tfrac at h
  cases hw : twhole b false n t with
  | bad c2 p2 =>
    rw [hw] at h
    have h : (Res.bad c2 p2 : Res (List Int)) = .bad c p := h
    obtain ⟨rfl, rfl⟩ : c2 = c ∧ p2 = p := ⟨by injection h, by injection h⟩
    exact .inl (twhole_bad hw)
  | ok w t1 =>
    rw [hw] at h
    exact tfracGo_bad (show tfracGo b false n (2 * (b.length - t1) + 3) [w] t1 = _ from h)
theorem tfrac_fine {b : List Bool} {n : Bool} {t t' : Nat} {l : List Int} (ht : t ≤ b.length) (h : tfrac b false n t = .ok l t') : l ≠ [] ∧ l.length ≤ b.length + 1 ∧ ∀ s ∈ l, s.natAbs < 2 ^ 257 := by
  unfold tfrac at h
  cases hw : twhole b false n t with
  | bad c2 p2 => rw [hw] at h; cases h
  | ok w t1 =>
    rw [hw] at h
    obtain ⟨hok, hdr, hend⟩ := twhole_back hw
    have hdl := congrArg List.length hdr
    rw [List.length_append, List.length_drop, List.length_drop, nz_len] at hdl
    refine tfracGo_fine (show tfracGo b false n (2 * (b.length - t1) + 3) [w] t1 = _ from h) (by simp) (by simp) (by omega) fun x hx => ?_
    rw [List.mem_singleton.mp hx]
    have h1 := hok.1
    have h2 := hok.2
    have : (2 : Int) ^ 255 < 2 ^ 256 := by decide
    have : (2 : Nat) ^ 256 < 2 ^ 257 := by decide
    omega
section
variable {K : PySem.W.Frag} {σ : L2.St} {H : Hp} {ta tb te : TE} {D : Ends} {tz : TS}
theorem ev_xorI {i j : Int} (ha : Ev ta σ H (.int i)) (hb : Ev tb σ H (.int j)) : Ev (tOp rXorI ta tb) σ H (.int (Builtin.bitXor i j)) := ev_op ha hb rv_I0
theorem s_asgF {sp : Sp} {E : XK} {t : TA} {vs : List V} {i : Nat} (h : EvA t σ H vs) (k : ∀ H1, Ex H H1 → sp vs H1 (fun v H2 => D.nx (σ.set i (some v)) H2) E) : tAsg (tCall sp [] E t) (gName i) D σ H :=
  h H (Ex.refl H) _ fun H1 e1 => by rw [List.append_nil]; exact k H1 e1
/-- f(a list that is drawn) -/
theorem ew_callM {sp : Sp} {E : XK} {P : List V → Prop} {P' : V → Prop} (h : EvM te σ H P) (k : ∀ xs p H1, P xs → Ex H H1 → H1 p = some (.lst xs) → ∃ z, P' z ∧ SpV sp [.ref p] H1 z) : EvW (tCall sp [] E (tCons te tNil)) σ H P' := fun H1 e Q q =>
  h H1 e _ fun xs p H2 hP _ e2 h2 => by
    obtain ⟨z, hz, hs⟩ := k xs p H2 hP (e.trans e2) h2
    exact hs H2 (Ex.refl H2) Q (fun H3 e3 => q z H3 hz (e2.trans e3)) E
/-- a text that is drawn -/
def RowV (n : Nat) (v : V) : Prop := ∃ r : List Bool, v = .str (T (R r)) ∧ r.length ≤ n
theorem ew_cut {n k : Nat} (h : EvW te σ H (RowV n)) (hn : n ≤ 16000000) : EvW (tSl rSlS te tNoPart (tPart (tC (.int (k : Int))))) σ H (RowV k) := fun H1 e Q q =>
  h H1 e _ fun v H2 hv e2 => by
    obtain ⟨r, rfl, hr⟩ := hv
    exact (ev_slT (te := tC (.str (T (R r)))) (σ := σ) (H := H2) ev_c (by rw [R_len]; omega) eo_none (eo_some (ev_c (v := .int (k : Int))))) H2 (Ex.refl H2) Q fun H3 e3 => q _ H3 ⟨r.take k, by rw [cutL_pre, R_take], by rw [List.length_take]; omega⟩ (e2.trans e3)
end
end Kr
namespace Kr
open PySem PySem.Spec PyProof.Rows L2 Evl
local macro_rules | `(tactic| k_subL) => `(tactic| first
  | with_reducible exact ev_c
  | ((with_reducible apply ev_var); exact rfl)
  | with_reducible apply ev_addI
  | with_reducible apply ev_subI
  | with_reducible apply ev_modI
  | with_reducible apply ev_divI
  | with_reducible apply ev_mulI
  | with_reducible apply ev_shrI
  | with_reducible apply ev_shlI
  | with_reducible apply ev_powI
  | with_reducible apply ev_andI
  | with_reducible apply ev_ltI
  | with_reducible apply ev_leI
  | with_reducible apply ev_gtI
  | with_reducible apply ev_geI
  | with_reducible apply ev_addT
  | with_reducible apply ev_ltT
  | with_reducible apply ev_leT
  | with_reducible apply ev_mulT
  | with_reducible apply ev_ixT
  | with_reducible apply ev_isN
  | with_reducible apply ev_notN
  | with_reducible apply ev_neg
  | with_reducible apply ev_bits
  | with_reducible apply ev_slT
  | with_reducible apply eo_none
  | with_reducible apply eo_some
  | with_reducible apply ev_call
  | with_reducible apply ea_nil
  | with_reducible apply ea_cons
  | with_reducible apply et_test
  | with_reducible apply et_B
  | with_reducible apply et_not
  | with_reducible apply ev_notV)
local macro_rules | `(tactic| k_clsL) => `(tactic| repeat' k_subL)
def exL : List Str := ["NoFit", "NoForm", "NoText", "NotAhead", "BadPage", "Twice", "Lacking", "Short", "Wrong", "Left"]
abbrev Kx (K : PySem.W.Frag) : Prop := KxL exL K
def srcD : Nat := 1
def ownL : List Str := ["Short", "Wrong"]
abbrev Ko (K : PySem.W.Frag) : Prop := KoL ownL K
def N__law_cell_at : List Str := ["_law_script", "_law_k"]
def t__law_cell_at (K : PySem.W.Frag) : TS :=
  (tSeq (tIfS (tTest (tOp rLtI (tVar 1) (tCB (rLenK K) (tCons (tVar 0) tNil)))) (tRet (tOp (rIxL K) (tVar 0) (tVar 1))) tNext)
    (tRet (tC (.int 0))))
def sp__law_cell_at (K : PySem.W.Frag) : Sp := fun vs H Q _ => ∃ (a : Addr) (ns : List Int) (k : Int), vs = [.ref a, .int k] ∧ SqL K H a (ns.map V.int) ∧ 0 ≤ k ∧ RetV (.int (cellAt ns k)) H Q
theorem len__law_cell_at {K : PySem.W.Frag} {vs H Q E} (h : sp__law_cell_at K vs H Q E) : vs.length = 2 := by
  obtain ⟨a, ns, k, rfl, _⟩ := h
  rfl
theorem u__law_cell_at {K : PySem.W.Frag} {H : Hp} {a : Addr} {ns : List Int} {k : Int} (hs : SqL K H a (ns.map V.int)) (h : 0 ≤ k) : SpV (sp__law_cell_at K) [.ref a, .int k] H (.int (cellAt ns k)) := fun H1 e Q q E => ⟨a, ns, k, rfl, ex_l e hs, h, q⟩
theorem rd__law_cell_at {K : PySem.W.Frag} (vs : List V) (H : Hp) (Q : VK) (E : XK) (h : sp__law_cell_at K vs H Q E) : t__law_cell_at K { nx := fun _ H' => Q .non H', rt := Q } (start N__law_cell_at vs) H := by
  obtain ⟨a, ns, k, rfl, hs, hk, q⟩ := h
  refine q_when (b := decide (k < ((ns.map V.int).length : Int))) (et_test (ev_op (ev_var rfl) (ev_lenS (ev_var rfl) (.inl hs)) rv_ltI)) (fun hb H1 e1 => ?_) (fun hb H1 e1 => ?_)
  · have hlt : k < ((ns.map V.int).length : Int) := of_decide_eq_true hb
    rw [List.length_map] at hlt
    obtain ⟨j, rfl⟩ := Int.eq_ofNat_of_zero_le hk
    have hj : j < ns.length := by omega
    refine s_ret (v := .int (cellAt ns j)) (ev_op (ev_var rfl) (ev_var rfl) (rv_ixL (ex_l e1 hs) ?_)) fun H2 e2 => q H2 (e1.trans e2)
    exact at_int hj
  · have hlt : ¬ k < ((ns.map V.int).length : Int) := of_decide_eq_false hb
    rw [List.length_map] at hlt
    have e0 : cellAt ns k = 0 := by
      unfold cellAt
      rw [List.getElem?_eq_none (by omega)]
      rfl
    refine s_ret (v := .int 0) ev_c fun H2 e2 => ?_
    have := q H2 (e1.trans e2)
    rw [e0] at this
    exact this
def N__law_free_steps : List Str := ["_law_script", "_law_rest", "_law_great", "_law_room", "_law_steps_here", "_law_cell"]
def t__law_free_steps (K : PySem.W.Frag) : TS :=
  (tSeq (tAsg (tOp rDivI (tCall (sp__law_cell_at K) [] E0 (tCons (tVar 0) (tCons (tC (.int 0)) tNil))) (tC (.int 2))) (gName 1))
    (tSeq (tAsg (tOp (rIxL K) (tLst (tCons (tOp rPowI (tC (.int 10)) (tC (.int 9))) (tCons (tOp rPowI (tC (.int 10)) (tC (.int 60))) tNil))) (tOp rModI (tVar 1) (tC (.int 2)))) (gName 2))
    (tSeq (tAsg (tOp (rIxL K) (tLst (tCons (tOp rMulI (tOp rPowI (tC (.int 10)) (tC (.int 60))) (tOp rPowI (tC (.int 10)) (tC (.int 10)))) (tCons (tOp rPowI (tC (.int 10)) (tC (.int 15))) tNil))) (tOp rModI (tVar 1) (tC (.int 2)))) (gName 3))
    (tSeq (tAsg (tLst (tCons (tOp rSubI (tOp rModI (tCall (sp__law_cell_at K) [] E0 (tCons (tVar 0) (tCons (tC (.int 1)) tNil))) (tOp rAddI (tOp rMulI (tC (.int 2)) (tVar 2)) (tC (.int 1)))) (tVar 2)) tNil)) (gName 4))
    (tSeq (tFor (iList K (tSl (rSlL K) (tVar 0) (tPart (tC (.int 2))) (tPart (tOp rAddI (tC (.int 2)) (tOp rModI (tOp rDivI (tVar 1) (tC (.int 2))) (tC (.int 62))))))) (gName 5)
    (tSeq (tDrop (tBM K "list" rAppend (tVar 4) (tCons (tOp rAddI (tC (.int 1)) (tOp rModI (tVar 5) (tCB rMax2 (tCons (tC (.int 1)) (tCons (tOp rSubI (tVar 3) (tC (.int 1))) tNil))))) tNil)))
    (tAsg (tCB rMax2 (tCons (tC (.int 1)) (tCons (tOp rDivI (tVar 3) (tOp rAddI (tOp (rIxL K) (tVar 4) (tUn (rU fun i => .int (-i)) (tC (.int 1)))) (tC (.int 1)))) tNil))) (gName 3))))
    (tSeq (tIfS (tAnd (tTest (tOp rGtI (tCB (rLenK K) (tCons (tVar 4) tNil)) (tC (.int 1)))) (tTest (tOp rEq (tOp (rIxL K) (tVar 4) (tUn (rU fun i => .int (-i)) (tC (.int 1)))) (tC (.int 1))))) (tAsg (tC (.int 2)) (gSub (tVar 4) (tUn (rU fun i => .int (-i)) (tC (.int 1))) rSetL)) tNext)
    (tRet (tVar 4))))))))
def SpSteps (K : PySem.W.Frag) : Sp := fun vs H Q _ => ∃ (a : Addr) (ns : List Int), vs = [.ref a] ∧ SqL K H a (ns.map V.int) ∧ ns.length ≤ 63 ∧ bitsOk ns ∧ ∀ l, StepsOk l → RetL (l.map V.int) H Q
def sp__law_free_steps (K : PySem.W.Frag) : Sp := SpSteps K
theorem len__law_free_steps {K : PySem.W.Frag} {vs H Q E} (h : sp__law_free_steps K vs H Q E) : vs.length = 1 := by
  obtain ⟨a, ns, rfl, _⟩ := h
  rfl
theorem em_stepsX {K : PySem.W.Frag} {σ : L2.St} {H : Hp} {t1 : TE} {a : Addr} {ns : List Int} (h1 : Ev t1 σ H (.ref a)) (hs : SqL K H a (ns.map V.int)) (hl : ns.length ≤ 63) (hb : bitsOk ns) :
    EvM (tCall (SpSteps K) [] E0 (tCons t1 tNil)) σ H (fun xs => ∃ l, xs = l.map V.int ∧ StepsOk l) := fun H1 e Q q =>
  (ea_cons h1 ea_nil : EvA _ σ H _) H1 e _ fun H2 e2 => ⟨a, ns, rfl, ex_l (e.trans e2) hs, hl, hb, fun l h p H3 hp e3 h3 => q _ p H3 ⟨l, rfl, h⟩ (fresh_back e2 hp) (e2.trans e3) h3⟩
theorem tab_great (m : Int) : ∃ g : Int, 0 < g ∧ g ≤ 10 ^ 60 ∧ atI ([.int (10 ^ (9 : Int).toNat), .int (10 ^ (60 : Int).toNat)] : List V) (m % 2) = some (.int g) := by
  have : m % 2 = 0 ∨ m % 2 = 1 := by omega
  rcases this with h | h <;> rw [h]
  · exact ⟨10 ^ 9, by decide, by decide, by decide +kernel⟩
  · exact ⟨10 ^ 60, by decide, by decide, by decide +kernel⟩
theorem tab_room (m : Int) : ∃ g : Int, 0 < g ∧ g ≤ 10 ^ 70 ∧ atI ([.int (10 ^ (60 : Int).toNat * 10 ^ (10 : Int).toNat), .int (10 ^ (15 : Int).toNat)] : List V) (m % 2) = some (.int g) := by
  have : m % 2 = 0 ∨ m % 2 = 1 := by omega
  rcases this with h | h <;> rw [h]
  · exact ⟨10 ^ 70, by decide, by decide, by decide +kernel⟩
  · exact ⟨10 ^ 15, by decide, by decide, by decide +kernel⟩
theorem ev_great {K : PySem.W.Frag} {σ : L2.St} {H : Hp} {te : TE} {m g : Int} (h : Ev te σ H (.int m)) (hg : atI ([.int (10 ^ (9 : Int).toNat), .int (10 ^ (60 : Int).toNat)] : List V) (m % 2) = some (.int g)) : Ev (tOp (rIxL K) (tLst (tCons (tOp rPowI (tC (.int 10)) (tC (.int 9))) (tCons (tOp rPowI (tC (.int 10)) (tC (.int 60))) tNil))) (tOp rModI te (tC (.int 2)))) σ H (.int g) :=
  ev_ixNL (el_lst (ea_cons (ev_powI ev_c ev_c (by unfold CPow; decide)) (ea_cons (ev_powI ev_c ev_c (by unfold CPow; decide)) ea_nil)) (by simp)) (fun H9 e9 => ev_modI (h.mono e9) ev_c (by decide)) hg
theorem ev_room {K : PySem.W.Frag} {σ : L2.St} {H : Hp} {te : TE} {m g : Int} (h : Ev te σ H (.int m)) (hg : atI ([.int (10 ^ (60 : Int).toNat * 10 ^ (10 : Int).toNat), .int (10 ^ (15 : Int).toNat)] : List V) (m % 2) = some (.int g)) : Ev (tOp (rIxL K) (tLst (tCons (tOp rMulI (tOp rPowI (tC (.int 10)) (tC (.int 60))) (tOp rPowI (tC (.int 10)) (tC (.int 10)))) (tCons (tOp rPowI (tC (.int 10)) (tC (.int 15))) tNil))) (tOp rModI te (tC (.int 2)))) σ H (.int g) :=
  ev_ixNL (el_lst (ea_cons (ev_mulI (ev_powI ev_c ev_c (by unfold CPow; decide)) (ev_powI ev_c ev_c (by unfold CPow; decide)) (mulx_ok (a := 250) (b := 50) (by decide) (by decide) (by decide))) (ea_cons (ev_powI ev_c ev_c (by unfold CPow; decide)) ea_nil)) (by simp)) (fun H9 e9 => ev_modI (h.mono e9) ev_c (by decide)) hg
/-- how the room shrinks -/
theorem room_next {r s : Int} (h0 : 0 < r) (h1 : r ≤ 10 ^ 70) (hs : 1 ≤ s) : 0 < (if r / (s + 1) > 1 then r / (s + 1) else 1) ∧ (if r / (s + 1) > 1 then r / (s + 1) else 1) ≤ 10 ^ 70 := by
  have : r / (s + 1) ≤ r := Int.ediv_le_self _ (by omega)
  split <;> omega
theorem rd__law_free_steps {K : PySem.W.Frag} (vs : List V) (H : Hp) (Q : VK) (E : XK) (h : sp__law_free_steps K vs H Q E) : t__law_free_steps K { nx := fun _ H' => Q .non H', rt := Q } (start N__law_free_steps vs) H := by
  obtain ⟨a, ns, rfl, hs, hl, hb, q⟩ := h
  refine q_asg (ev_divI (ev_call (ea_cons (ev_var rfl) (ea_cons ev_c ea_nil)) (u__law_cell_at hs (by decide))) ev_c (wide_div (b := 20) (by decide) (by decide) (by decide) (by decide))) fun H1 e1 => ?_
  generalize cellAt ns 0 / 2 = rest
  obtain ⟨g, g0, g1, hg⟩ := tab_great rest
  obtain ⟨r, r0, r1, hr⟩ := tab_room rest
  refine q_asg (ev_great (ev_var rfl) hg) fun H2 e2 => ?_
  refine q_asg (ev_room (ev_var rfl) hr) fun H3 e3 => ?_
  have e03 := (e1.trans e2).trans e3
  have m0 := Int.emod_nonneg (cellAt ns 1) (show (2 * g + 1) ≠ 0 by omega)
  have m1 := Int.emod_lt_of_pos (cellAt ns 1) (show 0 < 2 * g + 1 by omega)
  refine q_asgL (xs := ([cellAt ns 1 % (2 * g + 1) - g]).map V.int) (el_lst (ea_cons (ev_subI (ev_modI (ev_call (ea_cons (ev_var rfl) (ea_cons ev_c ea_nil)) (u__law_cell_at (ex_l e03 hs) (by decide))) (ev_addI (ev_mulI ev_c (ev_var rfl) (mulx_ok (a := 2) (b := 250) (by decide) (Nat.lt_of_le_of_lt (show g.natAbs ≤ 10 ^ 60 by omega) (by decide)) (by decide))) ev_c) (by omega)) (ev_var rfl)) ea_nil) (by simp)) fun p H4 hp e4 h4 => ?_
  have hpH : H p = none := fresh_back e03 hp
  have hfb : -(10 ^ 60) ≤ cellAt ns 1 % (2 * g + 1) - g ∧ cellAt ns 1 % (2 * g + 1) - g ≤ 10 ^ 60 := by omega
  generalize cellAt ns 1 % (2 * g + 1) - g = first at h4 hfb
  have k0 := Int.emod_nonneg (rest / 2) (show (62 : Int) ≠ 0 by decide)
  obtain ⟨ms, hms, hml, _⟩ := cut_intsN ns (some 2) (some (2 + rest / 2 % 62))
  have hsl := el_sl (K := K) (te := tVar 0) (σ := [some (.ref a), some (.int rest), some (.int g), some (.int r), some (.ref p), none]) (ev_var rfl) (eo_some (ev_c (v := .int 2))) (eo_some (ev_addI (ev_c (v := .int 2)) (ev_modI (ev_divI (ev_var (v := .int rest) (i := 1) rfl) (ev_c (v := .int 2)) (wide_div (b := 20) (by decide) (by decide) (by decide) (by decide))) (ev_c (v := .int 62)) (by decide)))) (ex_l (e03.trans e4) hs)
  rw [hms] at hsl
  refine q_forNLn hsl (fun c i σ' H' => H' c = some (.lst (ms.map V.int)) ∧ c ≠ p ∧ (Ex H H' ∧ ∃ (l : List Int) (room : Int) (u : Option V), σ' = [some (.ref a), some (.int rest), some (.int g), some (.int room), some (.ref p), u] ∧ H' p = some (.lst ((first :: l).map V.int)) ∧ 0 < room ∧ room ≤ 10 ^ 70 ∧ l.length = i ∧ ∀ s ∈ l, 1 ≤ s ∧ s ≤ 10 ^ 70)) (fun c H5 hc e5 h5 => ⟨h5, (fun z => by rw [z, h4] at hc; cases hc), (e03.trans e4).trans e5, [], r, none, rfl, e5 _ _ h4, r0, r1, rfl, fun s hs => by cases hs⟩) (fun c i σ' H' hi hP => sq_of hP.1) (fun c i y σ' H' hy hP => ?_) (fun c σ' H' hP => ?_)
  · obtain ⟨hc, hcp, eH, l, room, u, rfl, hpl, q0, q1, hlen, hok⟩ := hP
    rw [List.getElem?_map] at hy
    cases hi : ms[i]? with
    | none => rw [hi] at hy; cases hy
    | some n =>
      rw [hi] at hy
      obtain rfl := Option.some.inj hy
      have hi2 := (List.getElem?_eq_some_iff.mp hi).1
      have hdp : (0 : Int) < (if room - 1 > 1 then room - 1 else 1) := by split <;> omega
      have d0 := Int.emod_nonneg n (show (if room - 1 > 1 then room - 1 else 1) ≠ 0 by omega)
      have d1 := Int.emod_lt_of_pos n hdp
      have hsb : 1 ≤ 1 + n % (if room - 1 > 1 then room - 1 else 1) ∧ 1 + n % (if room - 1 > 1 then room - 1 else 1) ≤ 10 ^ 70 := by
        have : (if room - 1 > 1 then room - 1 else 1) ≤ 10 ^ 70 := by split <;> omega
        omega
      refine q_app hpl (ev_var rfl) (v := .int (1 + n % (if room - 1 > 1 then room - 1 else 1))) (ev_addI ev_c (ev_modI (ev_var rfl) (ev_max2 ev_c (ev_subI (ev_var rfl) ev_c)) hdp)) (by rw [List.length_map, List.length_cons]; omega) fun H5 e5 => ?_
      generalize 1 + n % (if room - 1 > 1 then room - 1 else 1) = s at hsb
      have hup : (upd H5 p (.lst ((first :: l).map V.int ++ [.int s]))) p = some (.lst ((first :: (l ++ [s])).map V.int)) := by
        rw [upd_same, List.map_cons, List.map_cons, List.map_append]
        rfl
      obtain ⟨n0, n1⟩ := room_next q0 q1 hsb.1
      refine s_asg (ev_max2 ev_c (ev_divI (ev_var rfl) (ev_addI (ev_op (ev_var rfl) (ev_neg ev_c) (rv_ixL (v := .int s) (sq_of upd_same) atI_snoc)) ev_c) (wide_div (b := 300) (by omega) (Nat.lt_of_le_of_lt (show (s + 1).natAbs ≤ 10 ^ 70 + 1 by omega) (by decide)) (by decide) (by decide)))) fun H6 e6 => ⟨e6 _ _ (by rw [upd_ne hcp]; exact e5 _ _ hc), hcp, ((eH.trans e5).mut hpH).trans e6, l ++ [s], _, _, rfl, e6 _ _ hup, n0, n1, by rw [List.length_append, hlen]; rfl, fun s' hs' => ?_⟩
      rcases List.mem_append.mp hs' with hs' | hs'
      · exact hok s' hs'
      · rw [List.mem_singleton.mp hs']; exact hsb
  · obtain ⟨hc, hcp, eH, l, room, u, rfl, hpl, q0, q1, hlen, hok⟩ := hP
    rw [List.length_map] at hlen
    refine s_fixLast (i := 4) rfl hpl (by simp) (fun s hs => (hok s hs).1) (by rw [List.length_cons]; omega) (fun s hs => ?_) fun H5 l' hl' e5 h5 => ?_
    · rcases List.mem_cons.mp hs with rfl | hs
      · omega
      · have := hok s hs; omega
    · exact s_ret (ev_var rfl) fun H6 e6 => q l' hl' p H6 hpH (fun b o hbo => e6 _ _ (e5 o b (eH _ _ hbo) (ne_of_none hbo hpH))) (e6 _ _ h5)
def N__law_mixed : List Str := ["_law_cell", "_law_k", "_law_number"]
def t__law_mixed (K : PySem.W.Frag) : TS :=
  (tSeq (tAsg (tOp rModI (tOp rAddI (tOp rAddI (tOp rMulI (tOp rModI (tVar 0) (tC (.int 2147483647))) (tC (.int 48271))) (tOp rMulI (tVar 1) (tC (.int 69621)))) (tC (.int 11))) (tC (.int 2147483647))) (gName 2))
    (tSeq (tAsg (tOp rModI (tOp rMulI (tVar 2) (tVar 2)) (tC (.int 2147483629))) (gName 2))
    (tRet (tOp rModI (tOp rMulI (tVar 2) (tVar 2)) (tC (.int 2147483587))))))
def mixed (c k : Int) : Int :=
  let n := (c % 2147483647 * 48271 + k * 69621 + 11) % 2147483647
  let m := n * n % 2147483629
  m * m % 2147483587
theorem mixed_lo (c k : Int) : 0 ≤ mixed c k := Int.emod_nonneg _ (by decide)
theorem mixed_hi (c k : Int) : mixed c k < 2147483587 := Int.emod_lt_of_pos _ (by decide)
def sp__law_mixed (_ : PySem.W.Frag) : Sp := fun vs H Q _ => ∃ c k : Int, vs = [.int c, .int k] ∧ k.natAbs < 2 ^ 40 ∧ RetV (.int (mixed c k)) H Q
theorem len__law_mixed {K : PySem.W.Frag} {vs H Q E} (h : sp__law_mixed K vs H Q E) : vs.length = 2 := by
  obtain ⟨c, k, rfl, _⟩ := h
  rfl
theorem u__law_mixed {K : PySem.W.Frag} {H : Hp} {c k : Int} (h : k.natAbs < 2 ^ 40) : SpV (sp__law_mixed K) [.int c, .int k] H (.int (mixed c k)) := fun H1 e Q q E => ⟨c, k, rfl, h, q⟩
theorem rd__law_mixed {K : PySem.W.Frag} (vs : List V) (H : Hp) (Q : VK) (E : XK) (h : sp__law_mixed K vs H Q E) : t__law_mixed K { nx := fun _ H' => Q .non H', rt := Q } (start N__law_mixed vs) H := by
  obtain ⟨c, k, rfl, hk, q⟩ := h
  have hm : ∀ x m : Int, 0 < m → m < 2 ^ 40 → (x % m).natAbs < 2 ^ 40 := fun x m h1 h2 => by
    have := Int.emod_nonneg x (show m ≠ 0 by omega)
    have := Int.emod_lt_of_pos x h1
    omega
  refine q_asg (by
    k_clsL
    all_goals first
      | decide
      | exact mulx_ok (a := 40) (b := 40) (hm _ _ (by decide) (by decide)) (by decide) (by decide)
      | exact mulx_ok (a := 40) (b := 40) hk (by decide) (by decide)) fun H1 e1 => ?_
  refine q_asg (by
    k_clsL
    all_goals first
      | decide
      | exact mulx_ok (a := 40) (b := 40) (hm _ _ (by decide) (by decide)) (hm _ _ (by decide) (by decide)) (by decide)) fun H2 e2 => ?_
  refine s_ret (by
    k_clsL
    all_goals first
      | decide
      | exact mulx_ok (a := 40) (b := 40) (hm _ _ (by decide) (by decide)) (hm _ _ (by decide) (by decide)) (by decide)) fun H3 e3 => ?_
  exact q H3 ((e1.trans e2).trans e3)
def N__law_steps : List Str := ["_law_script", "_law_first", "_law_great", "_law_room", "_law_steps_here", "_law_k", "_law_cell", "_law_big", "_law_size"]
def t__law_steps (K : PySem.W.Frag) : TS :=
  (tSeq (tIfS (tTest (tOp rEq (tOp rModI (tCall (sp__law_cell_at K) [] E0 (tCons (tVar 0) (tCons (tC (.int 0)) tNil))) (tC (.int 2))) (tC (.int 1)))) (tRet (tCall (sp__law_free_steps K) [] E0 (tCons (tVar 0) tNil))) tNext)
    (tSeq (tAsg (tOp rDivI (tCall (sp__law_cell_at K) [] E0 (tCons (tVar 0) (tCons (tC (.int 0)) tNil))) (tC (.int 2))) (gName 1))
    (tSeq (tAsg (tOp (rIxL K) (tLst (tCons (tOp rPowI (tC (.int 10)) (tC (.int 9))) (tCons (tOp rPowI (tC (.int 10)) (tC (.int 60))) tNil))) (tOp rModI (tVar 1) (tC (.int 2)))) (gName 2))
    (tSeq (tAsg (tOp (rIxL K) (tLst (tCons (tOp rMulI (tOp rPowI (tC (.int 10)) (tC (.int 60))) (tOp rPowI (tC (.int 10)) (tC (.int 10)))) (tCons (tOp rPowI (tC (.int 10)) (tC (.int 15))) tNil))) (tOp rModI (tVar 1) (tC (.int 2)))) (gName 3))
    (tSeq (tAsg (tLst (tCons (tOp rSubI (tOp rModI (tOp rAddI (tOp rMulI (tOp rDivI (tVar 1) (tC (.int 2))) (tC (.int 48271))) (tCall (sp__law_mixed K) [] E0 (tCons (tVar 1) (tCons (tC (.int 1)) tNil)))) (tOp rAddI (tOp rMulI (tC (.int 2)) (tVar 2)) (tC (.int 1)))) (tVar 2)) tNil)) (gName 4))
    (tSeq (tFor (iRng2 (tCons (tC (.int 1)) (tCons (tCB rMin2 (tCons (tC (.int 63)) (tCons (tCB (rLenK K) (tCons (tVar 0) tNil)) tNil))) tNil))) (gName 5)
    (tSeq (tAsg (tOp (rIxL K) (tVar 0) (tVar 5)) (gName 6))
    (tSeq (tAsg (tOp rAddI (tVar 6) (tOp rMulI (tOp rMulI (tCall (sp__law_mixed K) [] E0 (tCons (tVar 6) (tCons (tVar 5) tNil))) (tCall (sp__law_mixed K) [] E0 (tCons (tVar 6) (tCons (tOp rAddI (tVar 5) (tC (.int 100))) tNil)))) (tCall (sp__law_mixed K) [] E0 (tCons (tVar 6) (tCons (tOp rAddI (tVar 5) (tC (.int 200))) tNil))))) (gName 7))
    (tSeq (tAsg (tOp (rIxL K) (tLst (tCons (tC (.int 1)) (tCons (tC (.int 2)) (tCons (tC (.int 10)) (tCons (tOp rPowI (tC (.int 10)) (tC (.int 25))) tNil))))) (tOp rModI (tCall (sp__law_mixed K) [] E0 (tCons (tVar 6) (tCons (tOp rAddI (tVar 5) (tC (.int 300))) tNil))) (tC (.int 4)))) (gName 8))
    (tSeq (tDrop (tBM K "list" rAppend (tVar 4) (tCons (tOp rAddI (tC (.int 1)) (tOp rModI (tVar 7) (tCB rMax2 (tCons (tC (.int 1)) (tCons (tCB rMin2 (tCons (tOp rSubI (tVar 3) (tC (.int 1))) (tCons (tVar 8) tNil))) tNil))))) tNil)))
    (tAsg (tCB rMax2 (tCons (tC (.int 1)) (tCons (tOp rDivI (tVar 3) (tOp rAddI (tOp (rIxL K) (tVar 4) (tUn (rU fun i => .int (-i)) (tC (.int 1)))) (tC (.int 1)))) tNil))) (gName 3)))))))
    (tSeq (tIfS (tAnd (tTest (tOp rGtI (tCB (rLenK K) (tCons (tVar 4) tNil)) (tC (.int 1)))) (tTest (tOp rEq (tOp (rIxL K) (tVar 4) (tUn (rU fun i => .int (-i)) (tC (.int 1)))) (tC (.int 1))))) (tAsg (tC (.int 2)) (gSub (tVar 4) (tUn (rU fun i => .int (-i)) (tC (.int 1))) rSetL)) tNext)
    (tRet (tVar 4)))))))))
def sp__law_steps (K : PySem.W.Frag) : Sp := SpSteps K
theorem len__law_steps {K : PySem.W.Frag} {vs H Q E} (h : sp__law_steps K vs H Q E) : vs.length = 1 := by
  obtain ⟨a, ns, rfl, _⟩ := h
  rfl
theorem tab_size (m : Int) : ∃ g : Int, 0 < g ∧ g ≤ 10 ^ 25 ∧ atI ([.int 1, .int 2, .int 10, .int (10 ^ (25 : Int).toNat)] : List V) (m % 4) = some (.int g) := by
  have : m % 4 = 0 ∨ m % 4 = 1 ∨ m % 4 = 2 ∨ m % 4 = 3 := by omega
  rcases this with h | h | h | h <;> rw [h]
  · exact ⟨1, by decide, by decide, by decide +kernel⟩
  · exact ⟨2, by decide, by decide, by decide +kernel⟩
  · exact ⟨10, by decide, by decide, by decide +kernel⟩
  · exact ⟨10 ^ 25, by decide, by decide, by decide +kernel⟩
theorem mixed_abs (c k : Int) : (mixed c k).natAbs < 2 ^ 32 := by
  have := mixed_lo c k
  have := mixed_hi c k
  omega
theorem mul32 {x y : Int} (h : x.natAbs < 2 ^ 32) (h2 : y.natAbs < 2 ^ 32) : (x * y).natAbs < 2 ^ 64 := wide_lt h h2
theorem rd__law_steps {K : PySem.W.Frag} (vs : List V) (H : Hp) (Q : VK) (E : XK) (h : sp__law_steps K vs H Q E) : t__law_steps K { nx := fun _ H' => Q .non H', rt := Q } (start N__law_steps vs) H := by
  obtain ⟨a, ns, rfl, hs, hl, hb, q⟩ := h
  have cell0 : ∀ (σ : L2.St) (H0 : Hp), Ex H H0 → σ[0]? = some (some (.ref a)) → Ev (tCall (sp__law_cell_at K) [] E0 (tCons (tVar 0) (tCons (tC (.int 0)) tNil))) σ H0 (.int (cellAt ns 0)) := fun σ H0 e h0 => ev_call (ea_cons (ev_var h0) (ea_cons ev_c ea_nil)) (u__law_cell_at (ex_l e hs) (by decide))
  refine q_when (et_test (ev_eqI (ev_modI (cell0 _ _ (Ex.refl H) rfl) ev_c (by decide)) ev_c)) (fun _ H1 e1 => ?_) (fun _ H1 e1 => ?_)
  · refine (em_stepsX (ev_var rfl) (ex_l e1 hs) hl hb) H1 (Ex.refl H1) _ fun xs p H2 hP hp e2 h2 => (by obtain ⟨l, rfl, hok⟩ := hP; exact q l hok p H2 (fresh_back e1 hp) (e1.trans e2) h2)
  have hc0 := cell_bits hb 0
  have hf0 : (cellAt ns 0 / 2 / 2).natAbs < 2 ^ 1048576 := by omega
  refine q_asg (ev_divI (cell0 _ _ e1 rfl) ev_c (wide_div (b := 20) (by decide) (by decide) (by decide) (by decide))) fun H2 e2 => ?_
  generalize cellAt ns 0 / 2 = rest at hf0 ⊢
  obtain ⟨g, g0, g1, hg⟩ := tab_great rest
  obtain ⟨r, r0, r1, hr⟩ := tab_room rest
  refine q_asg (ev_great (ev_var rfl) hg) fun H3 e3 => ?_
  refine q_asg (ev_room (ev_var rfl) hr) fun H4 e4 => ?_
  have e04 := ((e1.trans e2).trans e3).trans e4
  have m0 := Int.emod_nonneg (rest / 2 * 48271 + mixed rest 1) (show (2 * g + 1) ≠ 0 by omega)
  have m1 := Int.emod_lt_of_pos (rest / 2 * 48271 + mixed rest 1) (show 0 < 2 * g + 1 by omega)
  refine q_asgL (xs := ([(rest / 2 * 48271 + mixed rest 1) % (2 * g + 1) - g]).map V.int) (el_lst (ea_cons (ev_subI (ev_modI (ev_addI (ev_mulI (ev_divI (ev_var rfl) ev_c (wide_div (b := 20) (by decide) (by decide) (by decide) (by decide))) ev_c (mulx_ok (b := 20) hf0 (by decide) (by decide))) (ev_call (ea_cons (ev_var rfl) (ea_cons ev_c ea_nil)) (u__law_mixed (by decide)))) (ev_addI (ev_mulI ev_c (ev_var rfl) (mulx_ok (a := 2) (b := 250) (by decide) (Nat.lt_of_le_of_lt (show g.natAbs ≤ 10 ^ 60 by omega) (by decide)) (by decide))) ev_c) (by omega)) (ev_var rfl)) ea_nil) (by simp)) fun p H5 hp e5 h5 => ?_
  have hpH : H p = none := fresh_back e04 hp
  have hfb : -(10 ^ 60) ≤ (rest / 2 * 48271 + mixed rest 1) % (2 * g + 1) - g ∧ (rest / 2 * 48271 + mixed rest 1) % (2 * g + 1) - g ≤ 10 ^ 60 := by omega
  generalize (rest / 2 * 48271 + mixed rest 1) % (2 * g + 1) - g = first at hfb h5
  have e05 := e04.trans e5
  refine q_forR2 (lo := 1) (n := if (ns.length : Int) < 63 then (ns.length : Int) else 63) (ea_cons ev_c (ea_cons (ev_min2 ev_c (ev_is (ev_lenS (ev_var rfl) (.inl (ex_l e05 hs))) (by rw [List.length_map]))) ea_nil)) (by split <;> omega)
    (fun i σ' H' => Ex H H' ∧ ∃ (l : List Int) (room : Int) (u v w z : Option V), σ' = [some (.ref a), some (.int rest), some (.int g), some (.int room), some (.ref p), u, v, w, z] ∧ H' p = some (.lst ((first :: l).map V.int)) ∧ 0 < room ∧ room ≤ 10 ^ 70 ∧ l.length = i ∧ ∀ s ∈ l, 1 ≤ s ∧ s ≤ 10 ^ 70) (fun H6 e6 => ⟨e05.trans e6, [], r, none, none, none, none, rfl, e6 _ _ h5, r0, r1, rfl, fun s hs => by cases hs⟩) (fun i σ' H' hi hP => ?_) (fun σ' H' hP => ?_)
  · obtain ⟨eH, l, room, u, v, w, z, rfl, hpl, q0, q1, hlen, hok⟩ := hP
    have hi2 : 1 + i < ns.length := by split at hi <;> omega
    refine q_asg (v := .int (cellAt ns ((1 + i : Nat) : Int))) (ev_op (ev_var rfl) (ev_is (ev_var rfl) (by rw [show (1 : Int) + (i : Int) = ((1 + i : Nat) : Int) by omega])) (rv_ixL (ex_l eH hs) (at_int hi2))) fun H6 e6 => ?_
    have hc := cell_bits hb ((1 + i : Nat) : Int)
    generalize cellAt ns ((1 + i : Nat) : Int) = c at hc ⊢
    have x1 := mixed_abs c (1 + (i : Int))
    have x2 := mixed_abs c (1 + (i : Int) + 100)
    have x3 := mixed_abs c (1 + (i : Int) + 200)
    refine q_asg (ev_addI (ev_var rfl) (ev_mulI (ev_mulI (ev_call (ea_cons (ev_var rfl) (ea_cons (ev_var rfl) ea_nil)) (u__law_mixed (by omega))) (ev_call (ea_cons (ev_var rfl) (ea_cons (ev_addI (ev_var rfl) ev_c) ea_nil)) (u__law_mixed (by omega))) (mulx_ok x1 x2 (by decide))) (ev_call (ea_cons (ev_var rfl) (ea_cons (ev_addI (ev_var rfl) ev_c) ea_nil)) (u__law_mixed (by omega))) (mulx_ok (mul32 x1 x2) x3 (by decide)))) fun H7 e7 => ?_
    generalize c + mixed c (1 + (i : Int)) * mixed c (1 + (i : Int) + 100) * mixed c (1 + (i : Int) + 200) = big
    obtain ⟨sz, s0, s1, hsz⟩ := tab_size (mixed c (1 + (i : Int) + 300))
    refine q_asg (ev_ixNL (el_lst (ea_cons ev_c (ea_cons ev_c (ea_cons ev_c (ea_cons (ev_powI ev_c ev_c (by unfold CPow; decide)) ea_nil)))) (by simp)) (fun H9 e9 => ev_modI (ev_call (ea_cons (ev_var rfl) (ea_cons (ev_addI (ev_var rfl) ev_c) ea_nil)) (u__law_mixed (by omega))) ev_c (by decide)) hsz) fun H8 e8 => ?_
    have hd : ∃ dv : Int, 0 < dv ∧ dv ≤ 10 ^ 70 ∧ (if (if sz < room - 1 then sz else room - 1) > 1 then (if sz < room - 1 then sz else room - 1) else 1) = dv := ⟨_, by split <;> omega, by split <;> (try split) <;> omega, rfl⟩
    obtain ⟨dv, dv0, dv1, hdv⟩ := hd
    have d0 := Int.emod_nonneg big (show dv ≠ 0 by omega)
    have d1 := Int.emod_lt_of_pos big dv0
    have hsb : 1 ≤ 1 + big % dv ∧ 1 + big % dv ≤ 10 ^ 70 := by omega
    refine q_app (((e6.trans e7).trans e8) _ _ hpl) (ev_var rfl) (v := .int (1 + big % dv)) (ev_addI ev_c (ev_modI (ev_var rfl) (ev_is (ev_max2 ev_c (ev_min2 (ev_subI (ev_var rfl) ev_c) (ev_var rfl))) (by rw [hdv])) dv0)) (by rw [List.length_map, List.length_cons]; omega) fun H9 e9 => ?_
    generalize 1 + big % dv = s at hsb
    have hup : (upd H9 p (.lst ((first :: l).map V.int ++ [.int s]))) p = some (.lst ((first :: (l ++ [s])).map V.int)) := by
      rw [upd_same, List.map_cons, List.map_cons, List.map_append]
      rfl
    obtain ⟨n0, n1⟩ := room_next q0 q1 hsb.1
    have e69 := ((e6.trans e7).trans e8).trans e9
    refine s_asg (ev_max2 ev_c (ev_divI (ev_var rfl) (ev_addI (ev_op (ev_var rfl) (ev_neg ev_c) (rv_ixL (v := .int s) (sq_of upd_same) atI_snoc)) ev_c) (wide_div (b := 300) (by omega) (Nat.lt_of_le_of_lt (show (s + 1).natAbs ≤ 10 ^ 70 + 1 by omega) (by decide)) (by decide) (by decide)))) fun H10 e10 => ⟨((eH.trans e69).mut hpH).trans e10, l ++ [s], _, _, _, _, _, rfl, e10 _ _ hup, n0, n1, by rw [List.length_append, hlen]; rfl, fun s' hs' => ?_⟩
    rcases List.mem_append.mp hs' with hs' | hs'
    · exact hok s' hs'
    · rw [List.mem_singleton.mp hs']; exact hsb
  · obtain ⟨eH, l, room, u, v, w, z, rfl, hpl, q0, q1, hlen, hok⟩ := hP
    have hlen2 : l.length ≤ 63 := by rw [hlen]; split <;> omega
    refine s_fixLast (i := 4) rfl hpl (by simp) (fun s hs => (hok s hs).1) (by rw [List.length_cons]; omega) (fun s hs => ?_) fun H6 l' hl' e6 h6 => ?_
    · rcases List.mem_cons.mp hs with rfl | hs
      · omega
      · have := hok s hs; omega
    · exact s_ret (ev_var rfl) fun H7 e7 => q l' hl' p H7 hpH (fun b o hbo => e7 _ _ (e6 o b (eH _ _ hbo) (ne_of_none hbo hpH))) (e7 _ _ h6)
def N__law_digits : List Str := ["_law_number", "_law_found"]
def t__law_digits (K : PySem.W.Frag) : TS :=
  (tSeq (tAsg (tC (.str (Kr.T []))) (gName 1))
    (tSeq (tWhile (tTest (tOp rGtI (tVar 0) (tC (.int 0))))
    (tSeq (tAsg (tOp rAddT (tOp (rIxL K) (tLst (tCons (tC (.str (Kr.T [48]))) (tCons (tC (.str (Kr.T [49]))) tNil))) (tOp rModI (tVar 0) (tC (.int 2)))) (tVar 1)) (gName 1))
    (tAsg (tOp rDivI (tVar 0) (tC (.int 2))) (gName 0))))
    (tRet (tVar 1))))
def sp__law_digits (_ : PySem.W.Frag) : Sp := fun vs H Q _ => ∃ m : Nat, vs = [.int (m : Int)] ∧ m < 2 ^ 2000 ∧ RetV (.str (T (R (bin m)))) H Q
theorem len__law_digits {K : PySem.W.Frag} {vs H Q E} (h : sp__law_digits K vs H Q E) : vs.length = 1 := by
  obtain ⟨m, rfl, _⟩ := h
  rfl
theorem u__law_digits {K : PySem.W.Frag} {H : Hp} {m : Nat} (h : m < 2 ^ 2000) : SpV (sp__law_digits K) [.int (m : Int)] H (.str (T (R (bin m)))) := fun H1 e Q q E => ⟨m, rfl, h, q⟩
theorem rd__law_digits {K : PySem.W.Frag} (vs : List V) (H : Hp) (Q : VK) (E : XK) (h : sp__law_digits K vs H Q E) : t__law_digits K { nx := fun _ H' => Q .non H', rt := Q } (start N__law_digits vs) H := by
  obtain ⟨m, rfl, hm, q⟩ := h
  have hlen : (bin m).length ≤ 2000 := by rw [bin_len]; exact flen_le hm
  refine q_asg (v := .str (T (R []))) ev_c fun H1 e1 => ?_
  refine q_while (fun w σ' H' => Ex H H' ∧ ∃ (c : Nat) (acc : List Bool), w = c ∧ σ' = [some (.int (c : Int)), some (.str (T (R acc)))] ∧ bin m = bin c ++ acc) m ⟨e1, m, [], rfl, rfl, (List.append_nil _).symm⟩ ?_
  rintro w σ' H' ⟨eH, c, acc, rfl, rfl, hb⟩
  have test : EvT (tTest (tOp rGtI (tVar 0) (tC (.int 0)))) [some (.int (w : Int)), some (.str (T (R acc)))] H' (decide ((0 : Int) < (w : Int))) := et_test (ev_gtI (ev_var rfl) ev_c)
  refine ⟨_, test, fun hc H2 e2 => ?_, fun hc H2 e2 => ?_⟩
  · have hc2 : 0 < w := by simpa using hc
    have hacc : acc.length ≤ 2000 := by
      have := congrArg List.length hb
      rw [List.length_append] at this
      omega
    refine ⟨_, fun σ2 H2 h => h, ?_⟩
    have h01 : (w : Int) % 2 = 0 ∨ (w : Int) % 2 = 1 := by omega
    refine q_asg (v := .str (T (R ([decide ((w : Int) % 2 = 1)] ++ acc)))) (ev_addR (a := [decide ((w : Int) % 2 = 1)]) (ev_ixNL (el_lst (ea_cons ev_c (ea_cons ev_c ea_nil)) (by simp)) (fun H9 e9 => ev_modI (ev_var rfl) ev_c (by decide)) (by rcases h01 with h | h <;> rw [h] <;> rfl)) (ev_var rfl) (by simp; omega)) fun H3 e3 => ?_
    refine s_asg (v := .int ((w / 2 : Nat) : Int)) (ev_is (ev_divI (ev_var rfl) ev_c (wide_div (b := 20) (by decide) (by decide) (by decide) (by decide))) (by simp)) fun H4 e4 => ?_
    refine ⟨w / 2, by omega, ((eH.trans e2).trans e3).trans e4, w / 2, _, rfl, rfl, ?_⟩
    rw [hb, bin_step hc2, List.append_assoc]
  · have hc2 : w = 0 := by
      have : ¬ (0 : Int) < (w : Int) := by simpa using hc
      omega
    subst hc2
    refine s_ret (ev_var rfl) fun H3 e3 => ?_
    rw [bin_zero, List.nil_append] at hb
    rw [hb] at q
    exact q H3 ((eH.trans e2).trans e3)
def N__law_count : List Str := ["_law_n", "_law_more", "_law_size", "_law_head"]
def t__law_count (K : PySem.W.Frag) : TS :=
  (tSeq (tAsg (tCall (sp__law_digits K) [] E0 (tCons (tOp rAddI (tVar 0) (tC (.int 1))) tNil)) (gName 1))
    (tSeq (tAsg (tCall (sp__law_digits K) [] E0 (tCons (tCB (rLenK K) (tCons (tVar 1) tNil)) tNil)) (gName 2))
    (tSeq (tAsg (tOp rMulT (tC (.str (Kr.T [49]))) (tOp rSubI (tCB (rLenK K) (tCons (tVar 2) tNil)) (tC (.int 1)))) (gName 3))
    (tSeq (tIfS (tTest (tOp rLtI (tCB (rLenK K) (tCons (tVar 2) tNil)) (tC (.int 8)))) (tAsg (tOp rAddT (tVar 3) (tC (.str (Kr.T [48])))) (gName 3)) tNext)
    (tRet (tOp rAddT (tOp rAddT (tVar 3) (tSl rSlS (tVar 2) (tPart (tC (.int 1))) tNoPart)) (tSl rSlS (tVar 1) (tPart (tC (.int 1))) tNoPart)))))))
def sp__law_count (_ : PySem.W.Frag) : Sp := fun vs H Q _ => ∃ n : Nat, vs = [.int (n : Int)] ∧ countOk n ∧ RetV (.str (T (R (countRow n)))) H Q
theorem len__law_count {K : PySem.W.Frag} {vs H Q E} (h : sp__law_count K vs H Q E) : vs.length = 1 := by
  obtain ⟨n, rfl, _⟩ := h
  rfl
theorem u__law_count {K : PySem.W.Frag} {H : Hp} {n : Nat} (h : countOk n) : SpV (sp__law_count K) [.int (n : Int)] H (.str (T (R (countRow n)))) := fun H1 e Q q E => ⟨n, rfl, h, q⟩
theorem bin_pos {m : Nat} (h : 0 < m) : bin m = decide ((m : Int) / 2 ^ (blen m - 1) % 2 = 1) :: digs (m : Int) (blen m - 1) := by
  unfold bin flen
  rw [if_neg (by omega)]
  have := blen_pos m
  obtain ⟨k, hk⟩ : ∃ k, blen m = k + 1 := ⟨blen m - 1, by omega⟩
  rw [hk]
  rfl
theorem rd__law_count {K : PySem.W.Frag} (vs : List V) (H : Hp) (Q : VK) (E : XK) (h : sp__law_count K vs H Q E) : t__law_count K { nx := fun _ H' => Q .non H', rt := Q } (start N__law_count vs) H := by
  obtain ⟨n, rfl, hn, q⟩ := h
  obtain ⟨hs1, hs2⟩ := countRow_size hn
  have hlt : n + 1 < 2 ^ 255 := by have := hn.2; omega
  refine q_asg (ev_call (ea_cons (ev_is (ev_addI (ev_var rfl) ev_c) (by rw [show ((n : Int) + 1) = ((n + 1 : Nat) : Int) by simp])) ea_nil) (u__law_digits (Nat.lt_of_lt_of_le hlt (Nat.pow_le_pow_right (by decide) (by decide))))) fun H1 e1 => ?_
  have hb1 := bin_pos (Nat.succ_pos n)
  have hbl : (bin (n + 1)).length = blen (n + 1) := by rw [bin_len]; unfold flen; rw [if_neg (by omega)]
  refine q_asg (ev_call (ea_cons (ev_is (ev_lenR (ev_var rfl) (by omega)) (by rw [hbl])) ea_nil) (u__law_digits (m := blen (n + 1)) (Nat.lt_of_le_of_lt hs1 (Nat.lt_of_lt_of_le (show 255 < 2 ^ 8 by decide) (Nat.pow_le_pow_right (by decide) (by decide)))))) fun H2 e2 => ?_
  have hp := blen_pos (n + 1)
  have hb2 := bin_pos hp
  have hbl2 : (bin (blen (n + 1))).length = blen (blen (n + 1)) := by rw [bin_len]; unfold flen; rw [if_neg (by omega)]
  have hp2 := blen_pos (blen (n + 1))
  have hone : ((blen (blen (n + 1)) : Int) - 1).toNat = blen (blen (n + 1)) - 1 := by omega
  refine q_asg (v := .str (T (R (List.replicate (blen (blen (n + 1)) - 1) true)))) (ev_is (ev_ones (ev_subI (ev_lenR (ev_var rfl) (by omega)) ev_c) (by omega) (by omega)) (by rw [hbl2, hone])) fun H3 e3 => ?_
  have c1 : cutL (R (bin (blen (n + 1)))) (some 1) none = R (digs (blen (n + 1) : Nat) (blen (blen (n + 1)) - 1)) := by
    rw [show (1 : Int) = ((1 : Nat) : Int) from rfl, cutL_suf, R_drop, hb2]
    rfl
  have c2 : cutL (R (bin (n + 1))) (some 1) none = R (digs ((n + 1 : Nat) : Int) (blen (n + 1) - 1)) := by
    rw [show (1 : Int) = ((1 : Nat) : Int) from rfl, cutL_suf, R_drop, hb1]
    rfl
  have fin : ∀ (hd : List Bool) (H4 : Hp), Ex H H4 → hd.length ≤ 100 → (hd ++ digs (blen (n + 1) : Nat) (blen (blen (n + 1)) - 1) ++ digs ((n + 1 : Nat) : Int) (blen (n + 1) - 1) = countRow n) → tRet (tOp rAddT (tOp rAddT (tVar 3) (tSl rSlS (tVar 2) (tPart (tC (.int 1))) tNoPart)) (tSl rSlS (tVar 1) (tPart (tC (.int 1))) tNoPart)) { nx := fun _ H' => Q .non H', rt := Q } [some (.int (n : Int)), some (.str (T (R (bin (n + 1))))), some (.str (T (R (bin (blen (n + 1)))))), some (.str (T (R hd)))] H4 := fun hd H4 e4 hl he => by
    refine s_ret (v := .str (T (R (countRow n)))) ?_ fun H5 e5 => q H5 (e4.trans e5)
    rw [← he]
    refine ev_addR (ev_addR (ev_var rfl) (ev_is (ev_slT (ev_var rfl) (by rw [R_len]; omega) (eo_some ev_c) eo_none) (by rw [c1])) (by rw [digs_len]; omega)) (ev_is (ev_slT (ev_var rfl) (by rw [R_len]; omega) (eo_some ev_c) eo_none) (by rw [c2])) ?_
    rw [List.length_append, digs_len, digs_len]
    omega
  refine q_when (b := decide ((blen (blen (n + 1)) : Int) < 8)) (et_is (et_test (ev_ltI (ev_lenR (ev_var rfl) (by omega)) ev_c)) (by rw [hbl2])) (fun h8 H4 e4 => ?_) (fun h8 H4 e4 => ?_)
  · have h8 : blen (blen (n + 1)) < 8 := by have := of_decide_eq_true h8; omega
    refine s_asg (v := .str (T (R (List.replicate (blen (blen (n + 1)) - 1) true ++ [false])))) (ev_addR (b := [false]) (ev_var rfl) ev_c (by simp; omega)) fun H5 e5 => ?_
    refine fin _ H5 ((((e1.trans e2).trans e3).trans e4).trans e5) (by simp; omega) ?_
    unfold countRow
    rw [if_pos (by omega)]
  · have h8 : ¬ blen (blen (n + 1)) < 8 := by have := of_decide_eq_false h8; omega
    refine fin _ H4 (((e1.trans e2).trans e3).trans e4) (by simp; omega) ?_
    unfold countRow
    rw [if_neg (by omega), List.append_nil]
def N__law_turned : List Str := ["_law_row", "_law_sign"]
def t__law_turned (K : PySem.W.Frag) : TS :=
  (tRet (tBM K "str" (rJoin K) (tC (.str (Kr.T []))) (tCons (tLc (iStr (tVar 0)) (gName 1) tYes (tOp (rIxL K) (tLst (tCons (tC (.str (Kr.T [49]))) (tCons (tC (.str (Kr.T [48]))) tNil))) (tCB rIntB (tCons (tOp rEq (tVar 1) (tC (.str (Kr.T [49])))) tNil))) [1]) tNil)))
def sp__law_turned (_ : PySem.W.Frag) : Sp := fun vs H Q _ => ∃ b : List Bool, vs = [.str (T (R b))] ∧ b.length ≤ 1000000 ∧ RetV (.str (T (R (neg b)))) H Q
theorem len__law_turned {K : PySem.W.Frag} {vs H Q E} (h : sp__law_turned K vs H Q E) : vs.length = 1 := by
  obtain ⟨b, rfl, _⟩ := h
  rfl
theorem u__law_turned {K : PySem.W.Frag} {H : Hp} {b : List Bool} (hl : b.length ≤ 1000000) : SpV (sp__law_turned K) [.str (T (R b))] H (.str (T (R (neg b)))) := fun H1 e Q q E => ⟨b, rfl, hl, q⟩
theorem rd__law_turned {K : PySem.W.Frag} (vs : List V) (H : Hp) (Q : VK) (E : XK) (h : sp__law_turned K vs H Q E) : t__law_turned K { nx := fun _ H' => Q .non H', rt := Q } (start N__law_turned vs) H := by
  obtain ⟨b, rfl, hl, q⟩ := h
  have hcomp : EvL (tLc (iStr (tVar 0)) (gName 1) tYes (tOp (rIxL K) (tLst (tCons (tC (.str (T [49]))) (tCons (tC (.str (T [48]))) tNil))) (tCB rIntB (tCons (tOp rEq (tVar 1) (tC (.str (T [49])))) tNil))) [1]) (start N__law_turned [.str (T (R b))]) H (((neg b).map fun x => [bc x]).map fun p => V.str (T p)) := by
    have := el_mapS (σ := start N__law_turned [.str (T (R b))]) (H := H) (tl := tVar 0) (te := tOp (rIxL K) (tLst (tCons (tC (.str (T [49]))) (tCons (tC (.str (T [48]))) tNil))) (tCB rIntB (tCons (tOp rEq (tVar 1) (tC (.str (T [49])))) tNil))) (l := R b) (j := 1) (vs := [1]) (fun c => .str (T [97 - c])) (ev_var rfl) (by rw [R_len]; omega) (fun x => rfl) (fun c hc H1 e1 => by
      obtain ⟨y, _, rfl⟩ := List.mem_map.mp hc
      exact ev_ixNL (el_lst (ea_cons ev_c (ea_cons ev_c ea_nil)) (by simp)) (fun H9 e9 => ev_intB (ev_eqT (ev_var rfl) ev_c)) (by cases y <;> rfl))
    have e : (R b).map (fun c => V.str (T [97 - c])) = ((neg b).map fun x => [bc x]).map fun p => V.str (T p) := by
      simp only [R, neg, List.map_map]
      refine List.map_congr_left fun x _ => ?_
      cases x <;> rfl
    rw [← e]
    exact this
  refine s_ret (v := .str (T (R (neg b)))) ?_ fun H1 e1 => q H1 e1
  rw [← R_flat (neg b)]
  exact ev_join hcomp (by rw [R_flat, R_len, neg_len]; omega) (by rw [List.length_map, neg_len]; exact hl)
def N__law_laid : List Str := ["_law_steps_here", "_law_row", "_law_k"]
def t__law_laid (K : PySem.W.Frag) : TS :=
  (tSeq (tAsg (tOp rAddT (tC (.str (Kr.T [49]))) (tCall (sp__law_count K) [] E0 (tCons (tCB rMax2 (tCons (tOp (rIxL K) (tVar 0) (tC (.int 0))) (tCons (tC (.int 0)) tNil))) tNil))) (gName 1))
    (tSeq (tIfS (tTest (tOp rLtI (tOp (rIxL K) (tVar 0) (tC (.int 0))) (tC (.int 0)))) (tAsg (tOp rAddT (tC (.str (Kr.T [48]))) (tCall (sp__law_turned K) [] E0 (tCons (tCall (sp__law_count K) [] E0 (tCons (tOp rSubI (tUn (rU fun i => .int (-i)) (tC (.int 1))) (tOp (rIxL K) (tVar 0) (tC (.int 0)))) tNil)) tNil))) (gName 1)) tNext)
    (tSeq (tFor (iRng2 (tCons (tC (.int 1)) (tCons (tCB (rLenK K) (tCons (tVar 0) tNil)) tNil))) (gName 2)
    (tSeq (tAsg (tOp rAddT (tVar 1) (tOp rIxS (tC (.str (Kr.T [48, 49]))) (tOp rModI (tVar 2) (tC (.int 2))))) (gName 1))
    (tIfS (tTest (tOp rEq (tOp rModI (tVar 2) (tC (.int 2))) (tC (.int 1)))) (tAsg (tOp rAddT (tVar 1) (tCall (sp__law_turned K) [] E0 (tCons (tCall (sp__law_count K) [] E0 (tCons (tOp rSubI (tOp (rIxL K) (tVar 0) (tVar 2)) (tC (.int 1))) tNil)) tNil))) (gName 1)) (tAsg (tOp rAddT (tVar 1) (tCall (sp__law_count K) [] E0 (tCons (tOp rSubI (tOp (rIxL K) (tVar 0) (tVar 2)) (tC (.int 1))) tNil))) (gName 1)))))
    (tRet (tOp rAddT (tVar 1) (tOp rIxS (tC (.str (Kr.T [49, 48]))) (tOp rModI (tCB (rLenK K) (tCons (tVar 0) tNil)) (tC (.int 2)))))))))
def sp__law_laid (K : PySem.W.Frag) : Sp := fun vs H Q _ => ∃ (p : Addr) (l : List Int), vs = [.ref p] ∧ SqL K H p (l.map V.int) ∧ StepsOk l ∧ RetV (.str (T (R (fracRow l)))) H Q
theorem len__law_laid {K : PySem.W.Frag} {vs H Q E} (h : sp__law_laid K vs H Q E) : vs.length = 1 := by
  obtain ⟨p, l, rfl, _⟩ := h
  rfl
theorem u__law_laid {K : PySem.W.Frag} {H : Hp} {p : Addr} {l : List Int} (h : SqL K H p (l.map V.int)) (hok : StepsOk l) : SpV (sp__law_laid K) [.ref p] H (.str (T (R (fracRow l)))) := fun H1 e Q q E => ⟨p, l, rfl, ex_l e h, hok, q⟩
/-- steps that a law draws have rows -/
theorem rd__law_laid {K : PySem.W.Frag} (vs : List V) (H : Hp) (Q : VK) (E : XK) (h : sp__law_laid K vs H Q E) : t__law_laid K { nx := fun _ H' => Q .non H', rt := Q } (start N__law_laid vs) H := by
  obtain ⟨p, l, rfl, hp, hok, q⟩ := h
  obtain ⟨a, r, rfl⟩ : ∃ a r, l = a :: r := List.exists_cons_of_ne_nil (goodS_iff.mp hok.1).1
  obtain ⟨hw, hc, h1⟩ := stepsOk_row hok
  have hlen := hok.2.1
  have item : ∀ (σ : L2.St) (H0 : Hp) (te : TE) (k : Nat) (hk : k < (a :: r).length), Ex H H0 → σ[0]? = some (some (.ref p)) → Ev te σ H0 (.int (k : Int)) → Ev (tOp (rIxL K) (tVar 0) te) σ H0 (.int (a :: r)[k]) := fun σ H0 te k hk e h0 ht => ev_op (ev_var h0) ht (rv_ixL (ex_l e hp) (atI_nat (by rw [List.getElem?_map, List.getElem?_eq_getElem hk]; rfl)))
  have i0 : ∀ (σ : L2.St) (H0 : Hp), Ex H H0 → σ[0]? = some (some (.ref p)) → Ev (tOp (rIxL K) (tVar 0) (tC (.int 0))) σ H0 (.int a) := fun σ H0 e h0 => item σ H0 _ 0 (by simp) e h0 (ev_c (v := .int ((0 : Nat) : Int)))
  -- the first step's row
  obtain ⟨mm, hmm⟩ : ∃ mm : Nat, (if 0 > a then 0 else a) = (mm : Int) := ⟨(if 0 > a then 0 else a).toNat, by split <;> omega⟩
  have hm0 : countOk (mm : Int) := by
    have := hw.2
    rw [← hmm]
    split <;> exact ⟨by omega, by omega⟩
  have cl := countRow_len hm0
  refine q_asg (v := .str (T (R (true :: countRow mm)))) (ev_addR (a := [true]) (b := countRow mm) ev_c (ev_call (ea_cons (ev_is (ev_max2 (i0 _ _ (Ex.refl H) rfl) ev_c) (by rw [hmm])) ea_nil) (u__law_count hm0)) (by simp only [List.length_cons, List.length_nil]; omega)) fun H1 e1 => ?_
  refine q_cond (fun σ' H' => Ex H H' ∧ σ' = [some (.ref p), some (.str (T (R (wholeRow a)))), none]) (fun M hM => ?_) (fun σ' H2 hP => ?_)
  · refine s_when (et_test (ev_ltI (i0 _ _ e1 rfl) ev_c)) (fun hb H2 e2 => ?_) (fun hb H2 e2 => ?_)
    · have h0 : a < 0 := of_decide_eq_true hb
      have hn : countOk (-1 - a) := (wholeOk_neg h0).mp hw
      obtain ⟨m, hm⟩ := Int.eq_ofNat_of_zero_le hn.1
      rw [hm] at hn
      have cm := countRow_len hn
      refine s_asg (v := .str (T (R (false :: neg (countRow m))))) (ev_addR (a := [false]) (b := neg (countRow m)) ev_c (ev_call (ea_cons (ev_call (ea_cons (ev_is (ev_subI (ev_neg ev_c) (i0 _ _ (e1.trans e2) rfl)) (by rw [← hm])) ea_nil) (u__law_count hn)) ea_nil) (u__law_turned (by omega))) (by rw [neg_len]; simp only [List.length_cons, List.length_nil]; omega)) fun H3 e3 => hM _ _ ⟨(e1.trans e2).trans e3, ?_⟩
      have hwr : wholeRow a = false :: neg (countRow m) := by
        unfold wholeRow
        rw [if_pos h0, hm, Int.toNat_natCast]
      rw [hwr]
      rfl
    · have h0 : ¬ a < 0 := of_decide_eq_false hb
      refine hM _ _ ⟨e1.trans e2, ?_⟩
      rw [if_neg (by omega)] at hmm
      unfold wholeRow
      rw [if_neg h0, hmm, Int.toNat_natCast]
      rfl
  obtain ⟨e2, rfl⟩ := hP
  have hwl := wholeRow_len hw
  have hl0 : ((a :: r).length : Int) = (r.length : Int) + 1 := by simp
  refine q_forR2 (lo := 1) (n := (r.length : Int) + 1) (ea_cons ev_c (ea_cons (ev_is (ev_lenS (ev_var rfl) (.inl (ex_l e2 hp))) (by rw [List.length_map, hl0])) ea_nil)) (by rw [List.length_cons] at hlen; omega)
    (fun i σ' H' => Ex H H' ∧ i ≤ r.length ∧ ∃ (row : List Bool) (u : Option V), σ' = [some (.ref p), some (.str (T (R row))), u] ∧ row.length ≤ 301 + 301 * i ∧ row ++ tailRow (decide (i % 2 = 1)) (r.drop i) = fracRow (a :: r)) (fun H3 e3 => ⟨e2.trans e3, Nat.zero_le _, wholeRow a, none, rfl, by omega, rfl⟩) (fun i σ' H' hi hP => ?_) (fun σ' H' hP => ?_)
  · obtain ⟨eH, hir, row, u, rfl, hrl, hrow⟩ := hP
    have hi2 : i < r.length := by omega
    have hk : i + 1 < (a :: r).length := by rw [List.length_cons]; omega
    have hi3 : 301 * i ≤ 301 * 201 := Nat.mul_le_mul_left _ (by rw [List.length_cons] at hlen; omega)
    have hcr := hc r[i] (List.getElem_mem hi2)
    obtain ⟨m, hm⟩ := Int.eq_ofNat_of_zero_le hcr.1
    have hcm : countOk (m : Int) := by rw [← hm]; exact hcr
    have cm := countRow_len hcm
    rw [List.drop_eq_getElem_cons hi2, tailRow, hm, Int.toNat_natCast] at hrow
    have e1i : (1 : Int) + (i : Int) = ((i + 1 : Nat) : Int) := by omega
    have h01 : (i + 1) % 2 = 0 ∨ (i + 1) % 2 = 1 := by omega
    have sgn : nz (decide (i % 2 = 1)) [true] = [decide ((i + 1) % 2 = 1)] := by
      rcases h01 with h | h
      · rw [decide_eq_true (show i % 2 = 1 by omega), decide_eq_false (show ¬ (i + 1) % 2 = 1 by omega)]; rfl
      · rw [decide_eq_false (show ¬ i % 2 = 1 by omega), decide_eq_true (show (i + 1) % 2 = 1 by omega)]; rfl
    have nxt : (!decide (i % 2 = 1)) = decide ((i + 1) % 2 = 1) := by
      rcases h01 with h | h
      · rw [decide_eq_true (show i % 2 = 1 by omega), decide_eq_false (show ¬ (i + 1) % 2 = 1 by omega)]; rfl
      · rw [decide_eq_false (show ¬ i % 2 = 1 by omega), decide_eq_true (show (i + 1) % 2 = 1 by omega)]; rfl
    rw [sgn, nxt] at hrow
    show tSeq _ _ _ [some (.ref p), some (.str (T (R row))), some (.int ((1 : Int) + (i : Int)))] H'
    rw [e1i]
    refine q_asg (v := .str (T (R (row ++ [decide ((i + 1) % 2 = 1)])))) (ev_addR (b := [decide ((i + 1) % 2 = 1)]) (ev_var rfl) (ev_ixT (l := [48, 49]) (c := bc (decide ((i + 1) % 2 = 1))) ev_c (ev_modI (ev_var rfl) ev_c (by decide)) (by simp) (by
      have e5 : (((i + 1 : Nat) : Int) % 2) = (((i + 1) % 2 : Nat) : Int) := by omega
      rw [e5]
      rcases h01 with h | h <;> rw [h] <;> rfl)) (by simp; omega)) fun H3 e3 => ?_
    have step : ∀ (H0 : Hp), Ex H H0 → Ev (tCall (sp__law_count K) [] E0 (tCons (tOp rSubI (tOp (rIxL K) (tVar 0) (tVar 2)) (tC (.int 1))) tNil)) [some (.ref p), some (.str (T (R (row ++ [decide ((i + 1) % 2 = 1)])))), some (.int ((i + 1 : Nat) : Int))] H0 (.str (T (R (countRow m)))) := fun H0 e0 =>
      ev_call (ea_cons (ev_is (ev_subI (item _ _ _ (i + 1) hk e0 rfl (ev_var rfl)) ev_c) (by rw [List.getElem_cons_succ, hm])) ea_nil) (u__law_count hcm)
    refine s_if (et_test (ev_eqI (ev_modI (ev_var rfl) ev_c (by decide)) ev_c)) (fun hb H4 e4 => ?_) (fun hb H4 e4 => ?_)
    · have hodd : (i + 1) % 2 = 1 := by have := of_decide_eq_true hb; omega
      rw [decide_eq_true hodd] at hrow step ⊢
      refine s_asg (v := .str (T (R ((row ++ [true]) ++ neg (countRow m))))) (ev_addR (ev_var rfl) (ev_call (ea_cons (step _ ((eH.trans e3).trans e4)) ea_nil) (u__law_turned (by omega))) (by simp [neg]; omega)) fun H5 e5 => ⟨((eH.trans e3).trans e4).trans e5, by omega, _, _, rfl, by simp [neg]; omega, ?_⟩
      rw [← hrow, nz_true]
      simp
    · have hev : (i + 1) % 2 = 0 := by have := of_decide_eq_false hb; omega
      rw [decide_eq_false (show ¬ (i + 1) % 2 = 1 by omega)] at hrow step ⊢
      refine s_asg (v := .str (T (R ((row ++ [false]) ++ countRow m)))) (ev_addR (ev_var rfl) (step _ ((eH.trans e3).trans e4)) (by simp; omega)) fun H5 e5 => ⟨((eH.trans e3).trans e4).trans e5, by omega, _, _, rfl, by simp; omega, ?_⟩
      rw [← hrow, nz_false]
      simp
  · obtain ⟨eH, hir, row, u, rfl, hrl, hrow⟩ := hP
    have en : ((r.length : Int) + 1 - 1).toNat = r.length := by omega
    rw [en] at hrl hrow hir
    rw [List.drop_length, tailRow] at hrow
    have hi3 : 301 * r.length ≤ 301 * 201 := Nat.mul_le_mul_left _ (by rw [List.length_cons] at hlen; omega)
    have h01 : r.length % 2 = 0 ∨ r.length % 2 = 1 := by omega
    have sgn : nz (decide (r.length % 2 = 1)) [false] = [decide (r.length % 2 = 1)] := by rcases h01 with h | h <;> rw [h] <;> rfl
    rw [sgn] at hrow
    refine s_ret (v := .str (T (R (row ++ [decide (r.length % 2 = 1)])))) (ev_addR (b := [decide (r.length % 2 = 1)]) (ev_var rfl) (ev_ixT (l := [49, 48]) (c := bc (decide (r.length % 2 = 1))) ev_c (ev_modI (ev_is (ev_lenS (ev_var rfl) (.inl (ex_l eH hp))) (by rw [List.length_map, hl0])) ev_c (by decide)) (by simp) (by
      have e5 : (((r.length : Int) + 1) % 2) = (((r.length + 1) % 2 : Nat) : Int) := by omega
      rw [e5]
      rcases h01 with h | h
      · rw [show (r.length + 1) % 2 = 1 by omega, h]; rfl
      · rw [show (r.length + 1) % 2 = 0 by omega, h]; rfl)) (by simp; omega)) fun H3 e3 => ?_
    rw [← hrow] at q
    exact q H3 (eH.trans e3)
def N__law_raw : List Str := ["_law_script", "_law_raw_here", "_law_cell", "_law_j"]
def t__law_raw (K : PySem.W.Frag) : TS :=
  (tSeq (tAsg (tC (.str (Kr.T []))) (gName 1))
    (tSeq (tFor (iList K (tSl (rSlL K) (tVar 0) (tPart (tC (.int 1))) (tPart (tC (.int 63))))) (gName 2)
    (tFor (iRng1 (tCons (tC (.int 6)) tNil)) (gName 3)
    (tAsg (tOp rAddT (tVar 1) (tOp rIxS (tC (.str (Kr.T [48, 49]))) (tOp rAndI (tOp rShrI (tVar 2) (tVar 3)) (tC (.int 1))))) (gName 1))))
    (tRet (tVar 1))))
def sp__law_raw (K : PySem.W.Frag) : Sp := fun vs H Q _ => ∃ (a : Addr) (ns : List Int), vs = [.ref a] ∧ SqL K H a (ns.map V.int) ∧ ns.length ≤ 63 ∧ ∀ r : List Bool, r.length ≤ 400 → RetV (.str (T (R r))) H Q
theorem len__law_raw {K : PySem.W.Frag} {vs H Q E} (h : sp__law_raw K vs H Q E) : vs.length = 1 := by
  obtain ⟨a, ns, rfl, _⟩ := h
  rfl
theorem ew_raw {K : PySem.W.Frag} {σ : L2.St} {H : Hp} {t1 : TE} {a : Addr} {ns : List Int} (h1 : Ev t1 σ H (.ref a)) (hs : SqL K H a (ns.map V.int)) (hl : ns.length ≤ 63) : EvW (tCall (sp__law_raw K) [] E0 (tCons t1 tNil)) σ H (RowV 400) := fun H1 e Q q =>
  (ea_cons h1 ea_nil : EvA _ σ H _) H1 e _ fun H2 e2 => ⟨a, ns, rfl, ex_l (e.trans e2) hs, hl, fun b hb H3 e3 => q _ H3 ⟨b, rfl, hb⟩ (e2.trans e3)⟩
theorem rd__law_raw {K : PySem.W.Frag} (vs : List V) (H : Hp) (Q : VK) (E : XK) (h : sp__law_raw K vs H Q E) : t__law_raw K { nx := fun _ H' => Q .non H', rt := Q } (start N__law_raw vs) H := by
  obtain ⟨a, ns, rfl, hs, hl, q⟩ := h
  refine q_asg (v := .str (T (R []))) ev_c fun H1 e1 => ?_
  obtain ⟨ms, hms, hml, _⟩ := cut_intsN ns (some 1) (some 63)
  have hsl := el_sl (K := K) (te := tVar 0) (σ := (start N__law_raw [.ref a]).set 1 (some (.str (T (R []))))) (ev_var rfl) (eo_some (ev_c (v := .int 1))) (eo_some (ev_c (v := .int 63))) (ex_l e1 hs)
  rw [hms] at hsl
  refine q_forNLn hsl (fun p i σ' H' => H' p = some (.lst (ms.map V.int)) ∧ Ex H H' ∧ ∃ (row : List Bool) (x y : Option V), row.length ≤ 6 * i ∧ σ' = [some (.ref a), some (.str (T (R row))), x, y]) (fun p H2 hp e2 h2 => ⟨h2, e1.trans e2, [], none, none, Nat.zero_le _, rfl⟩) (fun p i σ' H' hi hP => sq_of hP.1) (fun p i x σ' H' hx hP => ?_) (fun p σ' H' hP => ?_)
  · obtain ⟨hp, eH, row, x0, y0, hr, rfl⟩ := hP
    rw [List.getElem?_map] at hx
    cases hn : ms[i]? with
    | none => rw [hn] at hx; cases hx
    | some n =>
      rw [hn] at hx
      obtain rfl := Option.some.inj hx
      have hi63 : i < 63 := by
        have := (List.getElem?_eq_some_iff.mp hn).1
        omega
      refine s_forR1 (n := 6) (ea_cons ev_c ea_nil) (by omega) (fun j σ' H'' => Ex H' H'' ∧ ∃ (row2 : List Bool) (y : Option V), row2.length ≤ 6 * i + j ∧ σ' = [some (.ref a), some (.str (T (R row2))), some (.int n), y]) (fun H3 e3 => ⟨e3, row, y0, by omega, rfl⟩) (fun j σ' H3 hj hP => ?_) (fun σ' H3 hP => ?_)
      · obtain ⟨e3, row2, y, hr2, rfl⟩ := hP
        refine s_asg (v := .str (T (R (row2 ++ [decide (n / 2 ^ j % 2 = 1)])))) (ev_addR (b := [decide (n / 2 ^ j % 2 = 1)]) (ev_var rfl) (ev_ixT (l := [48, 49]) (c := bc (decide (n / 2 ^ j % 2 = 1))) ev_c (ev_andI (ev_shrI (ev_var rfl) (ev_var rfl) (by omega)) ev_c) (by simp) (bit_at n j)) (by simp; omega)) fun H4 e4 => ⟨e3.trans e4, _, _, by simp; omega, rfl⟩
      · obtain ⟨e3, row2, y, hr2, rfl⟩ := hP
        have hr3 : row2.length ≤ 6 * i + 6 := hr2
        exact ⟨e3 _ _ hp, eH.trans e3, row2, _, _, by omega, rfl⟩
  · obtain ⟨hp, eH, row, x0, y0, hr, rfl⟩ := hP
    rw [List.length_map] at hr
    exact s_ret (ev_var rfl) fun H6 e6 => q row (by
      have : ms.length ≤ 63 := by omega
      omega) H6 (eH.trans e6)
def N__law_bent : List Str := ["_law_script", "_law_row", "_law_number", "_law_at", "_law_other", "_law_cell", "_law_raw_here", "_law_next_sign"]
def t__law_bent (K : PySem.W.Frag) : TS :=
  (tSeq (tAsg (tCall (sp__law_mixed K) [] E0 (tCons (tCall (sp__law_cell_at K) [] E0 (tCons (tVar 0) (tCons (tC (.int 1)) tNil))) (tCons (tC (.int 500)) tNil))) (gName 2))
    (tSeq (tAsg (tOp rModI (tOp rDivI (tVar 2) (tC (.int 5))) (tCB (rLenK K) (tCons (tVar 1) tNil))) (gName 3))
    (tSeq (tAsg (tOp (rIxL K) (tLst (tCons (tC (.str (Kr.T [49]))) (tCons (tC (.str (Kr.T [48]))) tNil))) (tCB rIntB (tCons (tOp rEq (tOp rIxS (tVar 1) (tVar 3)) (tC (.str (Kr.T [49])))) tNil))) (gName 4))
    (tSeq (tAsg (tBM K "str" (rJoin K) (tC (.str (Kr.T []))) (tCons (tLc (iList K (tSl (rSlL K) (tVar 0) tNoPart (tPart (tC (.int 63))))) (gName 5) tYes (tSl rSlS (tSl rSlS (tC (.str (Kr.T [48, 48, 48, 49, 49, 48, 49, 49, 48, 49]))) (tPart (tOp rMulI (tOp rModI (tCall (sp__law_mixed K) [] E0 (tCons (tVar 5) (tCons (tC (.int 501)) tNil))) (tC (.int 5))) (tC (.int 2)))) tNoPart) tNoPart (tPart (tC (.int 2)))) [5]) tNil)) (gName 6))
    (tSeq (tIfS (tTest (tOp rEq (tOp rModI (tCall (sp__law_cell_at K) [] E0 (tCons (tVar 0) (tCons (tC (.int 0)) tNil))) (tC (.int 2))) (tC (.int 1)))) (tAsg (tCall (sp__law_raw K) [] E0 (tCons (tVar 0) tNil)) (gName 6)) tNext)
    (tSeq (tIfS (tTest (tOp rEq (tOp rModI (tVar 2) (tC (.int 5))) (tC (.int 1)))) (tRet (tSl rSlS (tVar 1) tNoPart (tPart (tVar 3)))) tNext)
    (tSeq (tIfS (tTest (tOp rEq (tOp rModI (tVar 2) (tC (.int 5))) (tC (.int 2)))) (tRet (tOp rAddT (tOp rAddT (tOp rAddT (tSl rSlS (tVar 1) tNoPart (tPart (tVar 3))) (tVar 4)) (tSl rSlS (tVar 1) (tPart (tOp rAddI (tVar 3) (tC (.int 1)))) tNoPart)) (tVar 6))) tNext)
    (tSeq (tIfS (tTest (tOp rEq (tOp rModI (tVar 2) (tC (.int 5))) (tC (.int 3)))) (tSeq (tAsg (tSl rSlS (tVar 1) (tPart (tOp rAddI (tVar 3) (tC (.int 1)))) (tPart (tOp rAddI (tVar 3) (tC (.int 2))))) (gName 7))
    (tRet (tOp rAddT (tOp rAddT (tOp rAddT (tOp rAddT (tSl rSlS (tVar 1) tNoPart (tPart (tVar 3))) (tVar 7)) (tOp rIxS (tVar 1) (tVar 3))) (tSl rSlS (tVar 1) (tPart (tOp rAddI (tVar 3) (tC (.int 2)))) tNoPart)) (tVar 6)))) tNext)
    (tSeq (tIfS (tTest (tOp rEq (tOp rModI (tVar 2) (tC (.int 5))) (tC (.int 4)))) (tRet (tVar 6)) tNext)
    (tRet (tOp rAddT (tVar 1) (tSl rSlS (tVar 6) tNoPart (tPart (tOp rModI (tOp rDivI (tVar 2) (tC (.int 5))) (tC (.int 9))))))))))))))))
def sp__law_bent (K : PySem.W.Frag) : Sp := fun vs H Q _ => ∃ (a : Addr) (ns : List Int) (b : List Bool), vs = [.ref a, .str (T (R b))] ∧ SqL K H a (ns.map V.int) ∧ ns.length ≤ 63 ∧ b ≠ [] ∧ b.length ≤ 100000 ∧ ∀ r : List Bool, r.length ≤ 200000 → RetV (.str (T (R r))) H Q
theorem len__law_bent {K : PySem.W.Frag} {vs H Q E} (h : sp__law_bent K vs H Q E) : vs.length = 2 := by
  obtain ⟨a, ns, b, rfl, _⟩ := h
  rfl
theorem ew_bentR {K : PySem.W.Frag} {σ : L2.St} {H : Hp} {t1 t2 : TE} {a : Addr} {ns : List Int} (h1 : Ev t1 σ H (.ref a)) (h2 : EvW t2 σ H (fun v => ∃ r : List Bool, v = .str (T (R r)) ∧ r ≠ [] ∧ r.length ≤ 100000)) (hs : SqL K H a (ns.map V.int)) (hl : ns.length ≤ 63) : EvW (tCall (sp__law_bent K) [] E0 (tCons t1 (tCons t2 tNil))) σ H (RowV 200000) := fun H1 e Q q =>
  h1 H1 e _ fun H2 e2 => h2 H2 (e.trans e2) _ fun v H3 hv e3 => by
    obtain ⟨r, rfl, h0, h1⟩ := hv
    exact ⟨a, ns, r, rfl, ex_l ((e.trans e2).trans e3) hs, hl, h0, h1, fun r' hr' H4 e4 => q _ H4 ⟨r', rfl, hr'⟩ ((e2.trans e3).trans e4)⟩
theorem fl_R (l : List (List Bool)) : (l.map R).flatten = R l.flatten := by
  induction l with
  | nil => rfl
  | cons x l ih => rw [List.map_cons, List.flatten_cons, List.flatten_cons, R_app, ih]
theorem fl_le {l : List (List Bool)} {m : Nat} (h : ∀ x ∈ l, x.length ≤ m) : l.flatten.length ≤ l.length * m := by
  induction l with
  | nil => exact Nat.zero_le _
  | cons x l ih =>
    have h1 := h x (List.mem_cons_self ..)
    have h2 := ih fun y hy => h y (List.mem_cons_of_mem _ hy)
    rw [List.flatten_cons, List.length_append, List.length_cons, Nat.succ_mul]
    omega
/-- the pairs of signs that a cell gives -/
def pairB : List Bool := [false, false, false, true, true, false, true, true, false, true]
theorem rd__law_bent {K : PySem.W.Frag} (vs : List V) (H : Hp) (Q : VK) (E : XK) (h : sp__law_bent K vs H Q E) : t__law_bent K { nx := fun _ H' => Q .non H', rt := Q } (start N__law_bent vs) H := by
  obtain ⟨a, ns, b, rfl, hs, hl, hb0, hb, q⟩ := h
  have hpos : 0 < b.length := List.length_pos_iff.mpr hb0
  have cell : ∀ (σ : L2.St) (H0 : Hp) (te : TE) (j : Int), Ex H H0 → σ[0]? = some (some (.ref a)) → Ev te σ H0 (.int j) → 0 ≤ j → Ev (tCall (sp__law_cell_at K) [] E0 (tCons (tVar 0) (tCons te tNil))) σ H0 (.int (cellAt ns j)) := fun σ H0 te j e h0 hj h => ev_call (ea_cons (ev_var h0) (ea_cons hj ea_nil)) (u__law_cell_at (ex_l e hs) h)
  refine q_asg (ev_call (ea_cons (cell _ _ _ 1 (Ex.refl H) rfl ev_c (by decide)) (ea_cons ev_c ea_nil)) (u__law_mixed (by decide))) fun H1 e1 => ?_
  generalize mixed (cellAt ns 1) 500 = num
  have m0 := Int.emod_nonneg (num / 5) (show (b.length : Int) ≠ 0 by omega)
  have m1 := Int.emod_lt_of_pos (num / 5) (show (0 : Int) < (b.length : Int) by omega)
  obtain ⟨t, ht⟩ := Int.eq_ofNat_of_zero_le m0
  refine q_asg (v := .int (t : Int)) (ev_is (ev_modI (ev_divI (ev_var rfl) ev_c (wide_div (b := 20) (by decide) (by decide) (by decide) (by decide))) (ev_lenR (ev_var rfl) (by omega)) (by omega)) (by rw [ht])) fun H2 e2 => ?_
  have ht2 : t < b.length := by omega
  clear ht m0 m1
  have sign0 : ∀ (σ : L2.St) (H0 : Hp), σ[1]? = some (some (.str (T (R b)))) → σ[3]? = some (some (.int (t : Int))) → Ev (tOp rIxS (tVar 1) (tVar 3)) σ H0 (.str (T (R [b[t]]))) := fun σ H0 h1 h3 => ev_ixT (l := R b) (ev_var h1) (ev_var h3) (by rw [R_len]; omega) (R_at ht2)
  refine q_asg (v := .str (T (R [!b[t]]))) (ev_ixNL (el_lst (ea_cons ev_c (ea_cons ev_c ea_nil)) (by simp)) (fun H9 e9 => ev_intB (ev_is (ev_eqT (sign0 _ H9 rfl rfl) ev_c) (by rw [show decide (R [b[t]] = [49]) = b[t] from bc_one _]))) (by cases b[t] <;> rfl)) fun H3 e3 => ?_
  have e03 := (e1.trans e2).trans e3
  have hsl := el_sl (K := K) (te := tVar 0) (σ := [some (.ref a), some (.str (T (R b))), some (.int num), some (.int (t : Int)), some (.str (T (R [!b[t]]))), none, none, none]) (ev_var rfl) eo_none (eo_some (ev_c (v := .int ((63 : Nat) : Int)))) (ex_l e03 hs)
  rw [cut_map, List.take_of_length_le hl] at hsl
  let g : Int → List Bool := fun n => (pairB.drop (mixed n 501 % 5 * 2).toNat).take 2
  have hcomp := el_mapNL (K := K) (te := tSl rSlS (tSl rSlS (tC (.str (T [48, 48, 48, 49, 49, 48, 49, 49, 48, 49]))) (tPart (tOp rMulI (tOp rModI (tCall (sp__law_mixed K) [] E0 (tCons (tVar 5) (tCons (tC (.int 501)) tNil))) (tC (.int 5))) (tC (.int 2)))) tNoPart) tNoPart (tPart (tC (.int ((2 : Nat) : Int))))) (j := 5) (vs := [5]) (fun v => match v with | .int n => .str (T (R (g n))) | _ => .non) hsl (by simp; omega) (fun x => rfl) (fun x hx H9 e9 => by
    obtain ⟨n, _, rfl⟩ := List.mem_map.mp hx
    have n0 := Int.emod_nonneg (mixed n 501) (show (5 : Int) ≠ 0 by decide)
    have n1 := Int.emod_lt_of_pos (mixed n 501) (show (0 : Int) < 5 by decide)
    obtain ⟨d, hd⟩ := Int.eq_ofNat_of_zero_le (show 0 ≤ mixed n 501 % 5 * 2 by omega)
    show Ev _ _ _ (.str (T (R ((pairB.drop (mixed n 501 % 5 * 2).toNat).take 2))))
    rw [hd, Int.toNat_natCast]
    refine ev_is (ev_slT (l := R (pairB.drop d)) (ev_is (ev_slT (l := R pairB) ev_c (by decide) (eo_some (ev_is (ev_mulI (ev_modI (ev_call (ea_cons (ev_var rfl) (ea_cons ev_c ea_nil)) (u__law_mixed (by decide))) ev_c (by decide)) ev_c (mulx_ok (a := 3) (b := 2) (by omega) (by decide) (by decide))) (by rw [hd]))) eo_none) (by rw [cutL_suf, R_drop])) (by rw [R_len, List.length_drop]; have : pairB.length = 10 := rfl; omega) eo_none (eo_some ev_c)) (by rw [cutL_pre, R_take]))
  have hz : (ns.map g).flatten.length ≤ 126 := by
    have h1 := fl_le (l := ns.map g) (m := 2) (fun x hx => by
      obtain ⟨n, _, rfl⟩ := List.mem_map.mp hx
      show ((pairB.drop _).take 2).length ≤ 2
      rw [List.length_take]
      omega)
    rw [List.length_map] at h1
    omega
  rw [List.map_map] at hcomp
  refine q_asg (v := .str (T (R (ns.map g).flatten))) ?_ fun H4 e4 => ?_
  · rw [← fl_R]
    have hcomp2 : EvL (tLc (iList K (tSl (rSlL K) (tVar 0) tNoPart (tPart (tC (.int ((63 : Nat) : Int)))))) (gName 5) tYes (tSl rSlS (tSl rSlS (tC (.str (T [48, 48, 48, 49, 49, 48, 49, 49, 48, 49]))) (tPart (tOp rMulI (tOp rModI (tCall (sp__law_mixed K) [] E0 (tCons (tVar 5) (tCons (tC (.int 501)) tNil))) (tC (.int 5))) (tC (.int 2)))) tNoPart) tNoPart (tPart (tC (.int ((2 : Nat) : Int))))) [5]) [some (.ref a), some (.str (T (R b))), some (.int num), some (.int (t : Int)), some (.str (T (R [!b[t]]))), none, none, none] H3 (((ns.map g).map R).map fun p => V.str (T p)) := by
      rw [List.map_map, List.map_map]
      exact hcomp
    exact ev_join hcomp2 (by rw [fl_R, R_len]; omega) (by simp; omega)
  generalize (ns.map g).flatten = raw0 at hz ⊢
  have e04 := e03.trans e4
  refine q_cond (fun σ' H' => Ex H4 H' ∧ ∃ raw : List Bool, raw.length ≤ 400 ∧ σ' = [some (.ref a), some (.str (T (R b))), some (.int num), some (.int (t : Int)), some (.str (T (R [!b[t]]))), none, some (.str (T (R raw))), none]) (fun M hM => ?_) (fun σ' H5 hP => ?_)
  · refine s_when (et_test (ev_eqI (ev_modI (cell _ _ _ 0 e04 rfl ev_c (by decide)) ev_c (by decide)) ev_c)) (fun _ H5 e5 => ?_) (fun _ H5 e5 => hM _ _ ⟨e5, raw0, by omega, rfl⟩)
    exact (ew_raw (ev_var rfl) (ex_l (e04.trans e5) hs) hl) H5 (Ex.refl H5) _ fun v H6 hv e6 => (by obtain ⟨r, rfl, hr⟩ := hv; exact hM _ _ ⟨e5.trans e6, r, hr, rfl⟩)
  obtain ⟨e5, raw, hraw, rfl⟩ := hP
  have e05 := e04.trans e5
  clear hcomp hsl
  -- the parts of the row
  have pre : ∀ (x : Option V) (H0 : Hp), Ev (tSl rSlS (tVar 1) tNoPart (tPart (tVar 3))) [some (.ref a), some (.str (T (R b))), some (.int num), some (.int (t : Int)), some (.str (T (R [!b[t]]))), none, some (.str (T (R raw))), x] H0 (.str (T (R (b.take t)))) := fun x H0 => ev_is (ev_slT (l := R b) (ev_var rfl) (by rw [R_len]; omega) eo_none (eo_some (ev_var rfl))) (by rw [cutL_pre, R_take])
  have suf : ∀ (k : Nat) (x : Option V) (H0 : Hp), Ev (tSl rSlS (tVar 1) (tPart (tOp rAddI (tVar 3) (tC (.int (k : Int))))) tNoPart) [some (.ref a), some (.str (T (R b))), some (.int num), some (.int (t : Int)), some (.str (T (R [!b[t]]))), none, some (.str (T (R raw))), x] H0 (.str (T (R (b.drop (t + k))))) := fun k x H0 => ev_is (ev_slT (l := R b) (ev_var rfl) (by rw [R_len]; omega) (eo_some (ev_is (ev_addI (ev_var rfl) ev_c) (by rw [← Int.natCast_add]))) eo_none) (by rw [cutL_suf, R_drop])
  have l1 : (b.take t).length ≤ 100000 := by rw [List.length_take]; omega
  have l2 : ∀ k, (b.drop k).length ≤ 100000 - k := fun k => by rw [List.length_drop]; omega
  have l3 : (b.take t).length = t := by rw [List.length_take]; omega
  refine q_when (et_test (ev_eqI (ev_modI (ev_var rfl) ev_c (by decide)) ev_c)) (fun _ H6 e6 => s_ret (pre none _) fun H7 e7 => q _ (by omega) H7 ((e05.trans e6).trans e7)) (fun _ H6 e6 => ?_)
  have e06 := e05.trans e6
  refine q_when (et_test (ev_eqI (ev_modI (ev_var rfl) ev_c (by decide)) ev_c)) (fun _ H7 e7 => ?_) (fun _ H7 e7 => ?_)
  · have := l2 (t + 1)
    exact s_ret (ev_addR (ev_addR (ev_addR (pre none _) (ev_var rfl) (by simp; omega)) (suf 1 none _) (by simp only [List.length_append, List.length_cons, List.length_nil]; omega)) (ev_var rfl) (by simp only [List.length_append, List.length_cons, List.length_nil]; omega)) fun H8 e8 => q _ (by simp only [List.length_append, List.length_cons, List.length_nil]; omega) H8 ((e06.trans e7).trans e8)
  have e07 := e06.trans e7
  refine q_when (et_test (ev_eqI (ev_modI (ev_var rfl) ev_c (by decide)) ev_c)) (fun _ H8 e8 => ?_) (fun _ H8 e8 => ?_)
  · refine q_asg (v := .str (T (R ((b.drop (t + 1)).take 1)))) (ev_is (ev_slT (l := R b) (ev_var rfl) (by rw [R_len]; omega) (eo_some (ev_is (ev_addI (ev_var rfl) ev_c) (by rw [show (t : Int) + 1 = ((t + 1 : Nat) : Int) by omega]))) (eo_some (ev_is (ev_addI (ev_var rfl) ev_c) (by rw [show (t : Int) + 2 = ((t + 1 + 1 : Nat) : Int) by omega])))) (by rw [R_mid, Nat.add_sub_cancel_left])) fun H9 e9 => ?_
    have l4 : ((b.drop (t + 1)).take 1).length ≤ 1 := by rw [List.length_take]; omega
    have := l2 (t + 2)
    exact s_ret (ev_addR (ev_addR (ev_addR (ev_addR (pre _ _) (ev_var rfl) (by omega)) (sign0 _ _ rfl rfl) (by simp only [List.length_append, List.length_cons, List.length_nil]; omega)) (suf 2 _ _) (by simp only [List.length_append, List.length_cons, List.length_nil]; omega)) (ev_var rfl) (by simp only [List.length_append, List.length_cons, List.length_nil]; omega)) fun H10 e10 => q _ (by simp only [List.length_append, List.length_cons, List.length_nil]; omega) H10 (((e07.trans e8).trans e9).trans e10)
  have e08 := e07.trans e8
  refine q_when (et_test (ev_eqI (ev_modI (ev_var rfl) ev_c (by decide)) ev_c)) (fun _ H9 e9 => s_ret (ev_var rfl) fun H10 e10 => q raw (by omega) H10 ((e08.trans e9).trans e10)) (fun _ H9 e9 => ?_)
  have n0 := Int.emod_nonneg (num / 5) (show (9 : Int) ≠ 0 by decide)
  obtain ⟨k, hk⟩ := Int.eq_ofNat_of_zero_le n0
  have l5 : (raw.take k).length ≤ 400 := by rw [List.length_take]; omega
  exact s_ret (ev_addR (ev_var rfl) (ev_is (ev_slT (l := R raw) (ev_var rfl) (by rw [R_len]; omega) eo_none (eo_some (ev_is (ev_modI (ev_divI (ev_var rfl) ev_c (wide_div (b := 20) (by decide) (by decide) (by decide) (by decide))) ev_c (by decide)) (by rw [hk])))) (by rw [cutL_pre, R_take])) (by omega)) fun H10 e10 => q _ (by simp only [List.length_append]; omega) H10 ((e08.trans e9).trans e10)
def N__law_take : List Str := ["_law_state", "_law_flipped"]
def t__law_take (K : PySem.W.Frag) : TS :=
  (tSeq (tIfS (tTest (tOp rGeI (tOp (rIxL K) (tVar 0) (tC (.int 1))) (tCB (rLenK K) (tCons (tOp (rIxL K) (tVar 0) (tC (.int 0))) tNil)))) (tRet (tUn (rU fun i => .int (-i)) (tC (.int 1)))) tNext)
    (tSeq (tAsg (tOp rAddI (tOp (rIxL K) (tVar 0) (tC (.int 1))) (tC (.int 1))) (gSub (tVar 0) (tC (.int 1)) rSetL))
    (tRet (tOp rXorI (tCB rIntB (tCons (tOp rEq (tOp rIxS (tOp (rIxL K) (tVar 0) (tC (.int 0))) (tOp rSubI (tOp (rIxL K) (tVar 0) (tC (.int 1))) (tC (.int 1)))) (tC (.str (Kr.T [49])))) tNil)) (tVar 1)))))
def sp__law_take (K : PySem.W.Frag) : Sp := fun vs H Q _ => ∃ (s : Addr) (b : List Bool) (n w : Bool) (t : Nat), vs = [.ref s, .int (bi n)] ∧ StP H s b t ∧ b.length ≤ 1000000 ∧ FinT bi (-1) s b H Q (takeB b false n w t)
theorem len__law_take {K : PySem.W.Frag} {vs H Q E} (h : sp__law_take K vs H Q E) : vs.length = 2 := by
  obtain ⟨s, b, n, w, t, rfl, _⟩ := h
  rfl
theorem rd__law_take {K : PySem.W.Frag} (vs : List V) (H : Hp) (Q : VK) (E : XK) (h : sp__law_take K vs H Q E) : t__law_take K { nx := fun _ H' => Q .non H', rt := Q } (start N__law_take vs) H := by
  obtain ⟨s, b, n, w, t, rfl, hs, hb, q⟩ := h
  have signs : ∀ (σ : L2.St) (H0 : Hp) (t : Nat), StP H0 s b t → σ[0]? = some (some (.ref s)) → Ev (tOp (rIxL K) (tVar 0) (tC (.int 0))) σ H0 (.str (T (R b))) := fun σ H0 t h h0 => ev_op (ev_var h0) ev_c (rv_ixL (sq_of h) rfl)
  have spot : ∀ (σ : L2.St) (H0 : Hp) (t : Nat), StP H0 s b t → σ[0]? = some (some (.ref s)) → Ev (tOp (rIxL K) (tVar 0) (tC (.int 1))) σ H0 (.int (t : Int)) := fun σ H0 t h h0 => ev_op (ev_var h0) ev_c (rv_ixL (sq_of h) rfl)
  refine q_when (et_test (ev_geI (spot _ _ t hs rfl) (ev_lenR (signs _ _ t hs rfl) (by omega)))) (fun hg H1 e1 => ?_) (fun hg H1 e1 => ?_)
  · have hge : (b.length : Int) ≤ t := of_decide_eq_true hg
    have : takeB b false n w t = .bad "Short" b.length := by
      unfold takeB
      rw [List.getElem?_eq_none (by omega)]
      rfl
    rw [this] at q
    exact s_ret (ev_neg ev_c) fun H2 e2 => q (-1) t H2 (by decide) (by decide) (exu (e1.trans e2)) ((hs.mono e1).mono e2)
  · have hlt : t < b.length := by have := of_decide_eq_false hg; omega
    rw [takeB_full hlt] at q
    have h1 := hs.mono e1
    refine (ev_addI (spot _ _ t h1 rfl) ev_c) H1 (Ex.refl H1) _ fun H2 e2 => ?_
    refine g_setL (j := 1) (e2 _ _ h1) (ev_var rfl) ev_c (by simp) fun H3 e3 => ?_
    have h3 : StP (upd H3 s (.lst ([V.str (T (R b)), .int (t : Int)].set 1 (.int ((t : Int) + 1))))) s b (t + 1) := by
      show upd _ _ _ _ = _
      rw [upd_same]
      rfl
    refine s_ret (v := .int (bi (b[t] != n))) (ev_is (ev_xorI (ev_intB (ev_is (ev_eqT (ev_ixT (l := R b) (signs _ _ (t + 1) h3 rfl) (ev_is (ev_subI (spot _ _ (t + 1) h3 rfl) ev_c) (by rw [show ((t + 1 : Nat) : Int) - 1 = (t : Int) by omega])) (by rw [R_len]; omega) (R_at hlt)) ev_c) (congrArg V.bl (bc_one (b[t]))))) (ev_var rfl)) ?_) fun H4 e4 => q H4 (((exu (e1.trans (e2.trans e3))).upd).trans (exu e4)) (h3.mono e4)
    exact congrArg V.int (bi_xor (b[t]) n)
def N__law_digits_on : List Str := ["_law_state", "_law_flipped", "_law_number", "_law_many", "_law_k", "_law_bit"]
def t__law_digits_on (K : PySem.W.Frag) : TS :=
  (tSeq (tFor (iRng1 (tCons (tVar 3) tNil)) (gName 4)
    (tSeq (tAsg (tCall (sp__law_take K) [] E0 (tCons (tVar 0) (tCons (tVar 1) tNil))) (gName 5))
    (tSeq (tIfS (tOr (tTest (tOp rLtI (tVar 5) (tC (.int 0)))) (tTest (tOp rLtI (tVar 2) (tC (.int 0))))) (tRet (tUn (rU fun i => .int (-i)) (tC (.int 1)))) tNext)
    (tAsg (tOp rAddI (tOp rMulI (tVar 2) (tC (.int 2))) (tVar 5)) (gName 2)))))
    (tRet (tVar 2)))
def sp__law_digits_on (K : PySem.W.Frag) : Sp := fun vs H Q _ => ∃ (s : Addr) (b : List Bool) (n : Bool) (y : Int) (t k : Nat), vs = [.ref s, .int (bi n), .int y, .int (k : Int)] ∧ StP H s b t ∧ b.length ≤ 1000000 ∧ k ≤ 300 ∧ (y = 1 ∨ -3 ≤ y ∧ y < 0) ∧ FinT id (-3) s b H Q (if y < 0 then .bad "Short" 0 else tdig b false n k y t)
theorem len__law_digits_on {K : PySem.W.Frag} {vs H Q E} (h : sp__law_digits_on K vs H Q E) : vs.length = 4 := by
  obtain ⟨s, b, n, y, t, k, rfl, _⟩ := h
  rfl
theorem rd__law_digits_on {K : PySem.W.Frag} (vs : List V) (H : Hp) (Q : VK) (E : XK) (h : sp__law_digits_on K vs H Q E) : t__law_digits_on K { nx := fun _ H' => Q .non H', rt := Q } (start N__law_digits_on vs) H := by
  obtain ⟨s, b, n, y, t, k, rfl, hs, hb, hk, hy, q⟩ := h
  refine q_forR1 (n := (k : Int)) (ea_cons (ev_var rfl) ea_nil) (by omega)
    (fun i σ' H' => ExU s H H' ∧ ∃ (z : Int) (t' : Nat) (u w : Option V), σ' = [some (.ref s), some (.int (bi n)), some (.int z), some (.int (k : Int)), u, w] ∧ StP H' s b t' ∧ ((y < 0 ∧ z = y ∧ -3 ≤ y) ∨ (0 ≤ y ∧ 0 ≤ z ∧ z.natAbs < 2 ^ (i + 1) ∧ tdig b false n k y t = tdig b false n (k - i) z t')))
    (fun H1 e1 => ⟨exu e1, y, t, none, none, rfl, hs.mono e1, ?_⟩) (fun i σ' H' hi hP => ?_) (fun σ' H' hP => ?_)
  · rcases hy with rfl | ⟨y0, y1⟩
    · exact .inr ⟨by decide, by decide, by decide, rfl⟩
    · exact .inl ⟨y1, rfl, y0⟩
  · obtain ⟨eH, z, t', u, w, rfl, hst, hz⟩ := hP
    have hi2 : i < k := by omega
    refine q_asgF (vs := [.ref s, .int (bi n)]) (ea_cons (ev_var rfl) (ea_cons (ev_var rfl) ea_nil)) fun H1 e1 => ⟨s, b, n, false, t', rfl, hst.mono e1, hb, ?_⟩
    have eH1 := eH.trans (exu e1)
    cases hr : takeB b false n false t' with
    | bad c p =>
      intro x t2 H2 hm hx e2 h2
      refine q_when (b := true) (et_is (et_or (et_test (ev_ltI (ev_var rfl) ev_c)) fun _ => et_test (ev_ltI (ev_var rfl) ev_c)) (by rw [decide_eq_true hx]; rfl)) (fun _ H3 e3 => ?_) (fun hf => nomatch hf)
      refine s_ret (ev_neg ev_c) fun H4 e4 => ?_
      have e04 := (eH1.trans e2).trans (exu (e3.trans e4))
      have h4 := (h2.mono e3).mono e4
      rcases hz with ⟨y0, _, _⟩ | ⟨y0, z0, _, hd⟩
      · rw [if_pos y0] at q
        exact q (-1) t2 H4 (by decide) (by decide) e04 h4
      · rw [if_neg (by omega), hd] at q
        obtain ⟨j, hj⟩ : ∃ j, k - i = j + 1 := ⟨k - i - 1, by omega⟩
        rw [hj, tdig, hr] at q
        exact q (-1) t2 H4 (by decide) (by decide) e04 h4
    | ok c t2 =>
      intro H2 e2 h2
      rcases hz with ⟨y0, rfl, _⟩ | ⟨y0, z0, zb, hd⟩
      · refine q_when (b := true) (et_is (et_or (et_test (ev_ltI (ev_var rfl) ev_c)) fun _ => et_test (ev_ltI (ev_var rfl) ev_c)) (by rw [decide_eq_true y0, Bool.or_true])) (fun _ H3 e3 => ?_) (fun hf => nomatch hf)
        refine s_ret (ev_neg ev_c) fun H4 e4 => ?_
        rw [if_pos y0] at q
        exact q (-1) t2 H4 (by decide) (by decide) ((eH1.trans e2).trans (exu (e3.trans e4))) ((h2.mono e3).mono e4)
      · have hc := bi_nn c
        refine q_when (b := false) (et_is (et_or (et_test (ev_ltI (ev_var rfl) ev_c)) fun _ => et_test (ev_ltI (ev_var rfl) ev_c)) (by rw [decide_eq_false (show ¬ bi c < 0 by omega), decide_eq_false (show ¬ z < 0 by omega)]; rfl)) (fun hf => nomatch hf) (fun _ H3 e3 => ?_)
        have hz2 : (z * 2 + bi c).natAbs < 2 ^ (i + 1 + 1) := two_step c zb
        refine s_asg (ev_addI (ev_mulI (ev_var rfl) ev_c (mulx_ok (b := 2) zb (by decide) (by omega))) (ev_var rfl)) fun H4 e4 => ⟨(eH1.trans e2).trans (exu (e3.trans e4)), z * 2 + bi c, t2, _, _, rfl, (h2.mono e3).mono e4, .inr ⟨y0, by omega, hz2, ?_⟩⟩
        obtain ⟨j, hj⟩ : ∃ j, k - i = j + 1 := ⟨k - i - 1, by omega⟩
        rw [hd, hj, tdig, hr, show k - (i + 1) = j by omega]
        rfl
  · obtain ⟨eH, z, t', u, w, rfl, hst, hz⟩ := hP
    refine s_ret (ev_var rfl) fun H1 e1 => ?_
    have e01 := eH.trans (exu e1)
    rcases hz with ⟨y0, rfl, ym⟩ | ⟨y0, z0, zb, hd⟩
    · rw [if_pos y0] at q
      exact q _ t' H1 ym y0 e01 (hst.mono e1)
    · rw [if_neg (by omega), hd, Int.toNat_natCast, Nat.sub_self, tdig] at q
      exact q H1 e01 (hst.mono e1)
def N__law_count_on : List Str := ["_law_state", "_law_flipped", "_law_ones", "_law_bit", "_law_size"]
def t__law_count_on (K : PySem.W.Frag) : TS :=
  (tSeq (tAsg (tC (.int 0)) (gName 2))
    (tSeq (tAsg (tC (.int 1)) (gName 3))
    (tSeq (tWhile (tAnd (tTest (tOp rEq (tVar 3) (tC (.int 1)))) (tTest (tOp rLtI (tVar 2) (tC (.int 7)))))
    (tSeq (tAsg (tCall (sp__law_take K) [] E0 (tCons (tVar 0) (tCons (tVar 1) tNil))) (gName 3))
    (tAsg (tOp rAddI (tVar 2) (tCB rMax2 (tCons (tVar 3) (tCons (tC (.int 0)) tNil)))) (gName 2))))
    (tSeq (tAsg (tCall (sp__law_digits_on K) [] E0 (tCons (tVar 0) (tCons (tVar 1) (tCons (tCB rMin2 (tCons (tOp rAddI (tOp rMulI (tC (.int 2)) (tVar 3)) (tC (.int 1))) (tCons (tC (.int 1)) tNil))) (tCons (tVar 2) tNil))))) (gName 4))
    (tSeq (tIfS (tOr (tTest (tOp rLtI (tVar 3) (tC (.int 0)))) (tTest (tOp rLtI (tVar 4) (tC (.int 0))))) (tRet (tUn (rU fun i => .int (-i)) (tC (.int 1)))) tNext)
    (tRet (tOp rSubI (tCall (sp__law_digits_on K) [] E0 (tCons (tVar 0) (tCons (tVar 1) (tCons (tC (.int 1)) (tCons (tOp rSubI (tVar 4) (tC (.int 1))) tNil))))) (tC (.int 1)))))))))
def sp__law_count_on (K : PySem.W.Frag) : Sp := fun vs H Q _ => ∃ (s : Addr) (b : List Bool) (n w : Bool) (t : Nat), vs = [.ref s, .int (bi n)] ∧ StP H s b t ∧ b.length ≤ 1000000 ∧ FinT id (-4) s b H Q (tcount b false n w t)
theorem len__law_count_on {K : PySem.W.Frag} {vs H Q E} (h : sp__law_count_on K vs H Q E) : vs.length = 2 := by
  obtain ⟨s, b, n, w, t, rfl, _⟩ := h
  rfl
/-- how the ones stand: still read, read, cut off -/
def OnesAt (b : List Bool) (n w : Bool) (t o t' : Nat) (bit : Int) (m : Nat) : Prop :=
  (bit = 1 ∧ o ≤ 7 ∧ m = 8 - o ∧ ∃ w', tones b false n 7 w 0 t = tones b false n (7 - o) w' o t') ∨ (bit = 0 ∧ m = 0 ∧ o ≤ 7 ∧ tones b false n 7 w 0 t = .ok o t') ∨ (bit = -1 ∧ m = 0 ∧ o ≤ 7 ∧ ∃ c p, tones b false n 7 w 0 t = .bad c p)
theorem ones_step {b : List Bool} {n : Bool} {r : Res Nat} {o t' : Nat} {w' : Bool} (h : r = tones b false n (7 - o) w' o t') (ho : o < 7) : r = (takeB b false n w' t').bind fun c t2 => if c then tones b false n (7 - (o + 1)) false (o + 1) t2 else .ok o t2 := by
  obtain ⟨j, hj⟩ : ∃ j, 7 - o = j + 1 := ⟨7 - o - 1, by omega⟩
  rw [hj, tones] at h
  rw [h, show 7 - (o + 1) = j by omega]
theorem rd__law_count_on {K : PySem.W.Frag} (vs : List V) (H : Hp) (Q : VK) (E : XK) (h : sp__law_count_on K vs H Q E) : t__law_count_on K { nx := fun _ H' => Q .non H', rt := Q } (start N__law_count_on vs) H := by
  obtain ⟨s, b, n, w, t, rfl, hs, hb, q⟩ := h
  refine q_asg ev_c fun H1 e1 => ?_
  refine q_asg ev_c fun H2 e2 => ?_
  refine q_while (fun m σ' H' => ExU s H H' ∧ ∃ (o t' : Nat) (bit : Int), σ' = [some (.ref s), some (.int (bi n)), some (.int (o : Int)), some (.int bit), none] ∧ StP H' s b t' ∧ OnesAt b n w t o t' bit m) 8 ⟨exu (e1.trans e2), 0, t, 1, rfl, hs.mono (e1.trans e2), .inl ⟨rfl, by omega, rfl, w, rfl⟩⟩ ?_
  rintro m σ' H' ⟨eH, o, t', bit, rfl, hst, ho⟩
  refine ⟨_, et_and (et_test (ev_eqI (ev_var rfl) ev_c)) fun _ => et_test (ev_ltI (ev_var rfl) ev_c), fun hb3 H3 e3 => ?_, fun hb3 H3 e3 => ?_⟩
  · rw [Bool.and_eq_true] at hb3
    have b1 := of_decide_eq_true hb3.1
    have o7 := of_decide_eq_true hb3.2
    rcases ho with ⟨_, _, hm, w', ht⟩ | ⟨h0, _⟩ | ⟨h0, _⟩
    · refine ⟨_, fun _ _ h => h, q_asgF (vs := [.ref s, .int (bi n)]) (ea_cons (ev_var rfl) (ea_cons (ev_var rfl) ea_nil)) fun H4 e4 => ⟨s, b, n, w', t', rfl, (hst.mono e3).mono e4, hb, ?_⟩⟩
      have e04 := eH.trans (exu (e3.trans e4))
      have ht := ones_step ht (by omega)
      cases hr : takeB b false n w' t' with
      | bad c p =>
        intro x t2 H5 hx hx2 e5 h5
        rw [hr] at ht
        obtain rfl : x = -1 := by omega
        refine s_asg (v := .int (o : Int)) (ev_is (ev_addI (ev_var rfl) (ev_max2 (ev_var (v := .int (-1)) rfl) (ev_c (v := .int 0)))) (congrArg V.int (by rw [if_pos (by decide), Int.add_zero]))) fun H6 e6 => ⟨0, by omega, (e04.trans e5).trans (exu e6), o, t2, -1, rfl, h5.mono e6, .inr (.inr ⟨rfl, rfl, by omega, c, p, ht⟩)⟩
      | ok c t2 =>
        intro H5 e5 h5
        rw [hr] at ht
        have ht : tones b false n 7 w 0 t = if c then tones b false n (7 - (o + 1)) false (o + 1) t2 else .ok o t2 := ht
        have hmx : (if (0 : Int) > bi c then (0 : Int) else bi c) = bi c := if_neg (by have := bi_nn c; omega)
        have emx : ∀ (σ : L2.St) (H0 : Hp), σ[3]? = some (some (.int (bi c))) → Ev (tCB rMax2 (tCons (tVar 3) (tCons (tC (.int 0)) tNil))) σ H0 (.int (bi c)) := fun σ H0 h0 => ev_is (ev_max2 (ev_var h0) (ev_c (v := .int 0))) (congrArg V.int hmx)
        cases c with
        | true => exact s_asg (v := .int ((o + 1 : Nat) : Int)) (ev_is (ev_addI (ev_var rfl) (emx _ _ rfl)) rfl) fun H6 e6 => ⟨8 - (o + 1), by omega, (e04.trans e5).trans (exu e6), o + 1, t2, 1, rfl, h5.mono e6, .inl ⟨rfl, by omega, rfl, false, ht⟩⟩
        | false => exact s_asg (v := .int (o : Int)) (ev_is (ev_addI (ev_var rfl) (emx _ _ rfl)) (congrArg V.int (Int.add_zero _))) fun H6 e6 => ⟨0, by omega, (e04.trans e5).trans (exu e6), o, t2, 0, rfl, h5.mono e6, .inr (.inl ⟨rfl, rfl, by omega, ht⟩)⟩
    · omega
    · omega
  -- the ones are read
  have done : ((bit = 1 ∨ bit = 0) ∧ o ≤ 7 ∧ tones b false n 7 w 0 t = .ok o t') ∨ (bit = -1 ∧ o ≤ 7 ∧ ∃ c p, tones b false n 7 w 0 t = .bad c p) := by
    rcases ho with ⟨h0, h1, hm, w', ht⟩ | ⟨h0, _, h1, ht⟩ | ⟨h0, _, h1, ht⟩
    · refine .inl ⟨.inl h0, h1, ?_⟩
      rw [Bool.and_eq_false_iff] at hb3
      rcases hb3 with hb3 | hb3
      · exact absurd h0 (of_decide_eq_false hb3)
      · obtain rfl : o = 7 := by have := of_decide_eq_false hb3; omega
        exact ht
    · exact .inl ⟨.inr h0, h1, ht⟩
    · exact .inr ⟨h0, h1, ht⟩
  clear ho hb3
  have eH3 := eH.trans (exu e3)
  have h3 := hst.mono e3
  obtain ⟨y, hy, hy2⟩ : ∃ y : Int, (if (1 : Int) < 2 * bit + 1 then (1 : Int) else 2 * bit + 1) = y ∧ ((bit = -1 ∧ y = -1) ∨ (¬ bit < 0 ∧ y = 1)) := by
    rcases done with ⟨rfl | rfl, _⟩ | ⟨rfl, _⟩
    · exact ⟨1, by decide, .inr ⟨by decide, rfl⟩⟩
    · exact ⟨1, by decide, .inr ⟨by decide, rfl⟩⟩
    · exact ⟨-1, by decide, .inl ⟨rfl, rfl⟩⟩
  have bitb : bit.natAbs < 2 ^ 2 := by rcases done with ⟨rfl | rfl, _⟩ | ⟨rfl, _⟩ <;> decide
  have o7 : o ≤ 7 := by rcases done with ⟨_, h, _⟩ | ⟨_, h, _⟩ <;> exact h
  refine q_asgF (vs := [.ref s, .int (bi n), .int y, .int (o : Int)]) (ea_cons (ev_var rfl) (ea_cons (ev_var rfl) (ea_cons (ev_is (ev_min2 (ev_addI (ev_mulI ev_c (ev_var rfl) (mulx_ok (a := 2) (by decide) bitb (by decide))) ev_c) ev_c) (by rw [hy])) (ea_cons (ev_var rfl) ea_nil)))) fun H4 e4 => ⟨s, b, n, y, t', o, rfl, h3.mono e4, hb, by omega, by omega, ?_⟩
  have eH4 := eH3.trans (exu e4)
  rcases hy2 with ⟨b0, rfl⟩ | ⟨b0, rfl⟩
  · rw [if_pos (by decide)]
    obtain ⟨c, p, ht⟩ : ∃ c p, tones b false n 7 w 0 t = .bad c p := by
      rcases done with ⟨h | h, _⟩ | ⟨_, _, h⟩
      · omega
      · omega
      · exact h
    intro x t2 H5 hx hx2 e5 h5
    refine q_when (b := true) (et_is (et_or (et_test (ev_ltI (ev_var rfl) ev_c)) fun _ => et_test (ev_ltI (ev_var rfl) ev_c)) (by rw [decide_eq_true (show bit < 0 by omega)]; rfl)) (fun _ H6 e6 => ?_) (fun hf => nomatch hf)
    unfold tcount at q
    rw [ht] at q
    exact s_ret (ev_neg ev_c) fun H7 e7 => q (-1) t2 H7 (by decide) (by decide) ((eH4.trans e5).trans (exu (e6.trans e7))) ((h5.mono e6).mono e7)
  · rw [if_neg (by decide)]
    have ht : tones b false n 7 w 0 t = .ok o t' := by
      rcases done with ⟨_, _, h⟩ | ⟨h, _⟩
      · exact h
      · omega
    unfold tcount at q
    rw [ht] at q
    have q : FinT id (-4) s b H Q ((tdig b false n o 1 t').bind fun s t2 => (tdig b false n (s - 1).toNat 1 t2).bind fun x t3 => .ok (x - 1) t3) := q
    cases hr : tdig b false n o 1 t' with
    | bad c p =>
      rw [hr] at q
      intro x t2 H5 hx hx2 e5 h5
      refine q_when (b := true) (et_is (et_or (et_test (ev_ltI (ev_var rfl) ev_c)) fun _ => et_test (ev_ltI (ev_var rfl) ev_c)) (by rw [decide_eq_true hx2, Bool.or_true])) (fun _ H6 e6 => ?_) (fun hf => nomatch hf)
      exact s_ret (ev_neg ev_c) fun H7 e7 => q (-1) t2 H7 (by decide) (by decide) ((eH4.trans e5).trans (exu (e6.trans e7))) ((h5.mono e6).mono e7)
    | ok z t2 =>
      rw [hr] at q
      obtain ⟨z0, z1⟩ := tdig_rng hr
      have p0 : (0 : Int) < 2 ^ o := Int.pow_pos (by decide)
      have p1 : (2 : Int) ^ o ≤ 128 := by
        have : (2 : Int) ^ o ≤ 2 ^ 7 := by
          have h := Nat.pow_le_pow_right (n := 2) (by decide) o7
          exact_mod_cast h
        omega
      intro H5 e5 h5
      have hz0 : ¬ z < 0 := by omega
      refine q_when (b := false) (et_is (et_or (et_test (ev_ltI (ev_var rfl) ev_c)) fun _ => et_test (ev_ltI (ev_var rfl) ev_c)) (by rw [decide_eq_false b0, decide_eq_false (show ¬ id z < 0 from hz0)]; rfl)) (fun hf => nomatch hf) (fun _ H6 e6 => ?_)
      have ez : z - 1 = (((z - 1).toNat : Nat) : Int) := by omega
      refine s_retSubF (vs := [.ref s, .int (bi n), .int 1, .int (((z - 1).toNat : Nat) : Int)]) (ea_cons (ev_var rfl) (ea_cons (ev_var rfl) (ea_cons ev_c (ea_cons (ev_is (ev_subI (ev_var rfl) ev_c) (congrArg V.int ez)) ea_nil)))) fun H7 e7 => ⟨s, b, n, 1, t2, (z - 1).toNat, rfl, (h5.mono e6).mono e7, hb, by omega, .inl rfl, ?_⟩
      rw [if_neg (by decide)]
      have e07 := (eH4.trans e5).trans (exu (e6.trans e7))
      have q : FinT id (-4) s b H Q ((tdig b false n (z - 1).toNat 1 t2).bind fun x t3 => .ok (x - 1) t3) := q
      cases hr2 : tdig b false n (z - 1).toNat 1 t2 with
      | bad c p =>
        rw [hr2] at q
        exact fun x t3 H8 hx hx2 e8 h8 => ⟨x, 1, rfl, rfl, q (x - 1) t3 H8 (by omega) (by omega) (e07.trans e8) h8⟩
      | ok x t3 =>
        rw [hr2] at q
        exact fun H8 e8 h8 => ⟨x, 1, rfl, rfl, q H8 (e07.trans e8) h8⟩
def N__law_reader : List Str := ["_law_signs", "_law_at", "_law_state", "_law_sign", "_law_many", "_law_steps_here", "_law_bit"]
def t__law_reader (K : PySem.W.Frag) : TS :=
  (tSeq (tAsg (tLst (tCons (tVar 0) (tCons (tVar 1) tNil))) (gName 2))
    (tSeq (tAsg (tCall (sp__law_take K) [] E0 (tCons (tVar 2) (tCons (tC (.int 0)) tNil))) (gName 3))
    (tSeq (tIfS (tTest (tOp rLtI (tVar 3) (tC (.int 0)))) (tRet (tLst (tCons (tC (.str (Kr.T [115, 104, 111, 114, 116]))) (tCons (tLst tNil) (tCons (tCB (rLenK K) (tCons (tVar 0) tNil)) tNil))))) tNext)
    (tSeq (tAsg (tCall (sp__law_count_on K) [] E0 (tCons (tVar 2) (tCons (tOp rSubI (tC (.int 1)) (tVar 3)) tNil))) (gName 4))
    (tSeq (tAsg (tLst (tCons (tOp (rIxL K) (tLst (tCons (tOp rSubI (tUn (rU fun i => .int (-i)) (tC (.int 1))) (tVar 4)) (tCons (tVar 4) tNil))) (tVar 3)) tNil)) (gName 5))
    (tSeq (tWhile (tTest (tOp rGeI (tVar 4) (tC (.int 0))))
    (tSeq (tAsg (tCall (sp__law_take K) [] E0 (tCons (tVar 2) (tCons (tOp rModI (tOp rSubI (tCB (rLenK K) (tCons (tVar 5) tNil)) (tC (.int 1))) (tC (.int 2))) tNil))) (gName 6))
    (tSeq (tIfS (tAnd (tTest (tOp rEq (tVar 6) (tC (.int 0)))) (tAnd (tTest (tOp rGtI (tCB (rLenK K) (tCons (tVar 5) tNil)) (tC (.int 1)))) (tTest (tOp rEq (tOp (rIxL K) (tVar 5) (tUn (rU fun i => .int (-i)) (tC (.int 1)))) (tC (.int 1)))))) (tRet (tLst (tCons (tC (.str (Kr.T [119, 114, 111, 110, 103]))) (tCons (tLst tNil) (tCons (tOp rSubI (tOp (rIxL K) (tVar 2) (tC (.int 1))) (tC (.int 1))) tNil))))) tNext)
    (tSeq (tIfS (tTest (tOp rEq (tVar 6) (tC (.int 0)))) (tRet (tLst (tCons (tC (.str (Kr.T [114, 101, 97, 100]))) (tCons (tVar 5) (tCons (tOp (rIxL K) (tVar 2) (tC (.int 1))) tNil))))) tNext)
    (tSeq (tAsg (tUn (rU fun i => .int (-i)) (tC (.int 1))) (gName 4))
    (tSeq (tIfS (tTest (tOp rEq (tVar 6) (tC (.int 1)))) (tAsg (tCall (sp__law_count_on K) [] E0 (tCons (tVar 2) (tCons (tOp rModI (tCB (rLenK K) (tCons (tVar 5) tNil)) (tC (.int 2))) tNil))) (gName 4)) tNext)
    (tDrop (tBM K "list" rAppend (tVar 5) (tCons (tOp rAddI (tVar 4) (tC (.int 1))) tNil)))))))))
    (tRet (tLst (tCons (tC (.str (Kr.T [115, 104, 111, 114, 116]))) (tCons (tLst tNil) (tCons (tCB (rLenK K) (tCons (tVar 0) tNil)) tNil)))))))))))
/-- what the law's own reader tells -/
def dueOf (n : Nat) : Res (List Int) → List Nat × List Int × Int
  | .ok l t => ([114, 101, 97, 100], l, (t : Int))
  | .bad c p => if c = "Short" then ([115, 104, 111, 114, 116], [], (n : Int)) else ([119, 114, 111, 110, 103], [], p)
def RetDue (d : List Nat × List Int × Int) (H : Hp) (Q : VK) : Prop := ∀ p l H2, Ex H H2 → H2 l = some (.lst (d.2.1.map V.int)) → H2 p = some (.lst [.str (T d.1), .ref l, .int d.2.2]) → Q (.ref p) H2
/-- what a law's steps hold -/
def StepsB (n : Nat) (l : List Int) : Prop := l ≠ [] ∧ l.length ≤ n + 1 ∧ ∀ s ∈ l, s.natAbs < 2 ^ 257
def sp__law_reader (_ : PySem.W.Frag) : Sp := fun vs H Q _ => ∃ (b : List Bool) (t : Nat), vs = [.str (T (R b)), .int (t : Int)] ∧ b.length ≤ 10000 ∧ t ≤ b.length ∧ RetDue (dueOf b.length (tfrac b false false t)) H Q
theorem len__law_reader {K : PySem.W.Frag} {vs H Q E} (h : sp__law_reader K vs H Q E) : vs.length = 2 := by
  obtain ⟨b, t, rfl, _⟩ := h
  rfl
theorem RetDue.back {d : List Nat × List Int × Int} {s : Addr} {H H1 : Hp} {Q : VK} (h : RetDue d H Q) (e : Ex H H1) : RetDue d H1 Q := fun p l H2 e2 => h p l H2 (e.trans e2)
/-- the list that is told -/
theorem s_due {σ : L2.St} {H : Hp} {D : Ends} {d : List Nat × List Int × Int} {tw tl tn : TE} {H0 : Hp} {s : Addr} (hs : H0 s = none) (q : RetDue d H0 D.rt) (e : ExU s H0 H) (hw : Ev tw σ H (.str (T d.1))) (hn : ∀ H1, Ex H H1 → Ev tn σ H1 (.int d.2.2)) (hl : EvL tl σ H (d.2.1.map V.int) ∨ ∃ p, Ev tl σ H (.ref p) ∧ H p = some (.lst (d.2.1.map V.int))) : tRet (tLst (tCons tw (tCons tl (tCons tn tNil)))) D σ H := by
  have key : ∀ (p : Addr) (H2 : Hp), Ex H H2 → H2 p = some (.lst (d.2.1.map V.int)) → tn σ H2 (fun v3 H3 => ([V.str (T d.1), .ref p, v3].length ≤ sizeLine ∧ ∀ q, H3 q = none → D.rt (.ref q) (upd H3 q (.lst [V.str (T d.1), .ref p, v3])))) := fun p H2 e2 hp =>
    hn H2 e2 H2 (Ex.refl H2) _ fun H3 e3 => ⟨sz_of (by simp), fun r hr => q r p _ ((e.trans (exu ((e2.trans e3).trans (Ex.new hr)))).ex hs) ((Ex.new hr) _ _ (e3 _ _ hp)) upd_same⟩
  refine hw H (Ex.refl H) _ fun H1 e1 => ?_
  rcases hl with hl | ⟨p, hl, hp⟩
  · exact hl H1 e1 _ fun p H2 _ e2 hp => key p H2 (e1.trans e2) hp
  · exact hl H1 e1 _ fun H2 e2 => key p H2 (e1.trans e2) ((e1.trans e2) _ _ hp)
theorem tgo_short {b : List Bool} {n : Bool} {l : List Int} {t k : Nat} {c : Str} {p : Int} (hk : 0 < k) (h : takeB b false (lane n (l.length - 1)) (endsOne l) t = .bad c p) : tfracGo b false n k l t = .bad "Short" b.length := by
  obtain ⟨j, rfl⟩ : ∃ j, k = j + 1 := ⟨k - 1, by omega⟩
  rw [tfracGo, h]
  obtain ⟨rfl, rfl, _⟩ := takeB_short h
  rfl
theorem rd__law_reader {K : PySem.W.Frag} (vs : List V) (H : Hp) (Q : VK) (E : XK) (h : sp__law_reader K vs H Q E) : t__law_reader K { nx := fun _ H' => Q .non H', rt := Q } (start N__law_reader vs) H := by
  obtain ⟨b, t, rfl, hb, ht, q⟩ := h
  have dshort : tfrac b false false t = .bad "Short" b.length → RetDue ([115, 104, 111, 114, 116], [], (b.length : Int)) H Q := fun h => by
    rw [h] at q
    exact q
  refine q_asgL (xs := [.str (T (R b)), .int (t : Int)]) (el_lst (ea_cons (ev_var rfl) (ea_cons (ev_var rfl) ea_nil)) (by simp)) fun s H1 hs e1 h1 => ?_
  have st1 : StP H1 s b t := h1
  -- how it ends where the signs end
  have short : tfrac b false false t = .bad "Short" b.length → ∀ (σ : L2.St) (H0 : Hp), σ[0]? = some (some (.str (T (R b)))) → ExU s H H0 → tRet (tLst (tCons (tC (.str (Kr.T [115, 104, 111, 114, 116]))) (tCons (tLst tNil) (tCons (tCB (rLenK K) (tCons (tVar 0) tNil)) tNil)))) { nx := fun _ H' => Q .non H', rt := Q } σ H0 := fun hr σ H0 h0 e => s_due (d := ([115, 104, 111, 114, 116], [], (b.length : Int))) hs (dshort hr) e ev_c (fun H9 e9 => ev_lenR (ev_var h0) (by omega)) (.inl (el_lst ea_nil (by simp)))
  refine q_asgF (vs := [.ref s, .int (bi false)]) (ea_cons (ev_var rfl) (ea_cons ev_c ea_nil)) fun H2 e2 => ⟨s, b, false, true, t, rfl, st1.mono e2, by omega, ?_⟩
  have e02 := e1.trans e2
  cases hr : takeB b false false true t with
  | bad c p =>
    obtain ⟨rfl, rfl, _⟩ := takeB_short hr
    intro x t2 H3 hx hx2 e3 h3
    refine q_when (b := true) (et_test (ev_is (ev_ltI (ev_var rfl) ev_c) (by rw [decide_eq_true hx2]))) (fun _ H4 e4 => ?_) (fun hf => nomatch hf)
    exact short (by unfold tfrac twhole; rw [hr]; rfl) _ _ rfl ((exu e02).trans (e3.trans (exu e4)))
  | ok c t1 =>
    obtain ⟨rfl, ht1, _⟩ := takeB_len hr
    intro H3 e3 h3
    have hc := bi_nn c
    refine q_when (b := false) (et_test (ev_is (ev_ltI (ev_var rfl) ev_c) (by rw [decide_eq_false (show ¬ bi c < 0 by omega)]))) (fun hf => nomatch hf) (fun _ H4 e4 => ?_)
    refine q_asgF (vs := [.ref s, .int (bi (!c))]) (ea_cons (ev_var rfl) (ea_cons (ev_is (ev_subI ev_c (ev_var rfl)) (congrArg V.int (bi_not c))) ea_nil)) fun H5 e5 => ⟨s, b, !c, false, t + 1, rfl, (h3.mono e4).mono e5, by omega, ?_⟩
    have e05 := (exu e02).trans (e3.trans (exu (e4.trans e5)))
    -- the first step
    have first : ∀ (many : Int) (σ : L2.St) (H0 : Hp), σ[4]? = some (some (.int many)) → σ[3]? = some (some (.int (bi c))) → Ev (tOp (rIxL K) (tLst (tCons (tOp rSubI (tUn (rU fun i => .int (-i)) (tC (.int 1))) (tVar 4)) (tCons (tVar 4) tNil))) (tVar 3)) σ H0 (.int (if c then many else -1 - many)) := fun many σ H0 h4 h3 =>
      ev_ixNL (el_lst (ea_cons (ev_subI (ev_neg ev_c) (ev_var h4)) (ea_cons (ev_var h4) ea_nil)) (by simp)) (fun H9 e9 => ev_var h3) (by cases c <;> rfl)
    have htw : tfrac b false false t = (if c then tcount b false false false (t + 1) else (tcount b false true false (t + 1)).bind fun x t2 => .ok (-1 - x) t2).bind fun w t1 => tfracGo b false false (2 * (b.length - t1) + 3) [w] t1 := by
      unfold tfrac twhole
      rw [hr]
      rfl
    -- the loop
    have loop : ∀ (many : Int) (t0 m : Nat) (H6 : Hp) (p : Addr) (l : List Int), ExU s H H6 → StP H6 s b t0 → H p = none → p ≠ s → H6 p = some (.lst (l.map V.int)) →
        ((0 ≤ many ∧ m = b.length - t0 + 1 ∧ t0 ≤ b.length ∧ StepsB t0 l ∧ ∃ k, tfrac b false false t = tfracGo b false false k l t0 ∧ b.length - t0 < k) ∨ (many < 0 ∧ m = 0 ∧ l.length ≤ 20000 ∧ tfrac b false false t = .bad "Short" b.length)) →
        tSeq (tWhile (tTest (tOp rGeI (tVar 4) (tC (.int 0))))
          (tSeq (tAsg (tCall (sp__law_take K) [] E0 (tCons (tVar 2) (tCons (tOp rModI (tOp rSubI (tCB (rLenK K) (tCons (tVar 5) tNil)) (tC (.int 1))) (tC (.int 2))) tNil))) (gName 6))
          (tSeq (tIfS (tAnd (tTest (tOp rEq (tVar 6) (tC (.int 0)))) (tAnd (tTest (tOp rGtI (tCB (rLenK K) (tCons (tVar 5) tNil)) (tC (.int 1)))) (tTest (tOp rEq (tOp (rIxL K) (tVar 5) (tUn (rU fun i => .int (-i)) (tC (.int 1)))) (tC (.int 1)))))) (tRet (tLst (tCons (tC (.str (Kr.T [119, 114, 111, 110, 103]))) (tCons (tLst tNil) (tCons (tOp rSubI (tOp (rIxL K) (tVar 2) (tC (.int 1))) (tC (.int 1))) tNil))))) tNext)
          (tSeq (tIfS (tTest (tOp rEq (tVar 6) (tC (.int 0)))) (tRet (tLst (tCons (tC (.str (Kr.T [114, 101, 97, 100]))) (tCons (tVar 5) (tCons (tOp (rIxL K) (tVar 2) (tC (.int 1))) tNil))))) tNext)
          (tSeq (tAsg (tUn (rU fun i => .int (-i)) (tC (.int 1))) (gName 4))
          (tSeq (tIfS (tTest (tOp rEq (tVar 6) (tC (.int 1)))) (tAsg (tCall (sp__law_count_on K) [] E0 (tCons (tVar 2) (tCons (tOp rModI (tCB (rLenK K) (tCons (tVar 5) tNil)) (tC (.int 2))) tNil))) (gName 4)) tNext)
          (tDrop (tBM K "list" rAppend (tVar 5) (tCons (tOp rAddI (tVar 4) (tC (.int 1))) tNil)))))))))
          (tRet (tLst (tCons (tC (.str (Kr.T [115, 104, 111, 114, 116]))) (tCons (tLst tNil) (tCons (tCB (rLenK K) (tCons (tVar 0) tNil)) tNil))))) { nx := fun _ H' => Q .non H', rt := Q } [some (.str (T (R b))), some (.int (t : Int)), some (.ref s), some (.int (bi c)), some (.int many), some (.ref p), none] H6 := by
      intro many t0 m H6 p l eH6 st6 hpH hps hp6 hI
      refine q_while (fun m σ' H' => ExU s H H' ∧ ∃ (many : Int) (t0 : Nat) (l : List Int) (u : Option V), σ' = [some (.str (T (R b))), some (.int (t : Int)), some (.ref s), some (.int (bi c)), some (.int many), some (.ref p), u] ∧ StP H' s b t0 ∧ H' p = some (.lst (l.map V.int)) ∧
        ((0 ≤ many ∧ m = b.length - t0 + 1 ∧ t0 ≤ b.length ∧ StepsB t0 l ∧ ∃ k, tfrac b false false t = tfracGo b false false k l t0 ∧ b.length - t0 < k) ∨ (many < 0 ∧ m = 0 ∧ l.length ≤ 20000 ∧ tfrac b false false t = .bad "Short" b.length))) m ⟨eH6, many, t0, l, none, rfl, st6, hp6, hI⟩ ?_
      rintro m σ' H' ⟨eH, many, t0, l, u, rfl, hst, hpl, hI⟩
      refine ⟨_, et_test (ev_geI (ev_var rfl) ev_c), fun hm H7 e7 => ?_, fun hm H7 e7 => ?_⟩
      · have hm0 : 0 ≤ many := of_decide_eq_true hm
        rcases hI with ⟨_, rfl, ht0, hsb, k, hgo, hk⟩ | ⟨hneg, _⟩
        · obtain ⟨hne, hlen, hbd⟩ := hsb
          have hll : 0 < l.length := List.length_pos_iff.mpr hne
          have e1l : (l.length : Int) - 1 = ((l.length - 1 : Nat) : Int) := by omega
          have p7 := e7 _ _ hpl
          refine ⟨_, fun _ _ h => h, q_asgF (vs := [.ref s, .int (bi (lane false (l.length - 1)))]) (ea_cons (ev_var rfl) (ea_cons (ev_is (ev_modI (ev_subI (ev_is (ev_lenS (ev_var rfl) (.inl (sq_of p7))) (by rw [List.length_map])) ev_c) ev_c (by decide)) (by rw [e1l, lane_int])) ea_nil)) fun H8 e8 => ⟨s, b, lane false (l.length - 1), endsOne l, t0, rfl, (hst.mono e7).mono e8, by omega, ?_⟩⟩
          have e08 := eH.trans (exu (e7.trans e8))
          have p8 := e8 _ _ p7
          obtain ⟨k', rfl⟩ : ∃ k', k = k' + 1 := ⟨k - 1, by omega⟩
          have hgl : l.getLast? = some (l.getLast hne) := List.getLast?_eq_some_getLast hne
          -- the last step is a one behind another
          have ends : ∀ (bit : Int) (H0 : Hp), H0 p = some (.lst (l.map V.int)) → EvT (tAnd (tTest (tOp rEq (tVar 6) (tC (.int 0)))) (tAnd (tTest (tOp rGtI (tCB (rLenK K) (tCons (tVar 5) tNil)) (tC (.int 1)))) (tTest (tOp rEq (tOp (rIxL K) (tVar 5) (tUn (rU fun i => .int (-i)) (tC (.int 1)))) (tC (.int 1)))))) [some (.str (T (R b))), some (.int (t : Int)), some (.ref s), some (.int (bi c)), some (.int many), some (.ref p), some (.int bit)] H0 (decide (bit = 0) && endsOne l) := fun bit H0 hp0 => by
            refine et_is (et_and (et_test (ev_eqI (ev_var rfl) ev_c)) fun _ => et_and (et_test (ev_gtI (ev_is (ev_lenS (ev_var rfl) (.inl (sq_of hp0))) (by rw [List.length_map])) ev_c)) fun _ => et_test (ev_eqI (ev_op (ev_var rfl) (ev_neg ev_c) (rv_ixL (v := .int (l.getLast hne)) (sq_of hp0) (by rw [atI_last (by simpa using hne), List.getLast?_map, hgl]; rfl))) ev_c)) ?_
            unfold endsOne
            rw [hgl, Bool.decide_and]
            congr 2
            · exact decide_eq_decide.mpr ⟨fun h => by omega, fun h => by omega⟩
            · exact decide_eq_decide.mpr ⟨fun h => by rw [h], fun h => Option.some.inj h⟩
          cases hr2 : takeB b false (lane false (l.length - 1)) (endsOne l) t0 with
          | bad c2 p2 =>
            intro x t2 H9 hx hx2 e9 h9
            obtain rfl : x = -1 := by omega
            have p9 := e9 _ _ (by exact hps) p8
            refine q_when (b := false) (et_is (ends (-1) H9 p9) (by rw [decide_eq_false (by decide)]; rfl)) (fun hf => nomatch hf) (fun _ H10 e10 => ?_)
            refine q_when (b := false) (et_test (ev_is (ev_eqI (ev_var rfl) ev_c) (by decide))) (fun hf => nomatch hf) (fun _ H11 e11 => ?_)
            refine q_asg (ev_neg ev_c) fun H12 e12 => ?_
            refine q_when (b := false) (et_test (ev_is (ev_eqI (ev_var rfl) ev_c) (by decide))) (fun hf => nomatch hf) (fun _ H13 e13 => ?_)
            have e913 := ((e10.trans e11).trans e12).trans e13
            refine s_app (v := .int 0) (e913 _ _ p9) (ev_var rfl) (ev_is (ev_addI (ev_var rfl) ev_c) (by decide)) (by rw [List.length_map]; omega) fun H14 e14 => ?_
            refine ⟨0, by omega, (exu_mut ((e08.trans e9).trans (exu (e913.trans e14))) hpH), -1, t2, l ++ [0], _, rfl, ?_, by rw [upd_same, List.map_append]; rfl, .inr ⟨by decide, rfl, by simp; omega, by rw [hgo]; exact tgo_short (by omega) hr2⟩⟩
            show upd _ _ _ _ = _
            rw [upd_ne (Ne.symm hps)]
            exact (e913.trans e14) _ _ h9
          | ok c2 t2 =>
            obtain ⟨rfl, ht2, _⟩ := takeB_len hr2
            rw [tfracGo, hr2] at hgo
            intro H9 e9 h9
            have p9 := e9 _ _ (by exact hps) p8
            have e09 := e08.trans e9
            cases c2 with
            | false =>
              have hgo : tfrac b false false t = if endsOne l then .bad "Wrong" (((t0 + 1 : Nat) : Int) - 1) else .ok l (t0 + 1) := hgo
              refine q_when (b := endsOne l) (et_is (ends _ H9 p9) (by simp [bi])) (fun hw H10 e10 => ?_) (fun hw H10 e10 => ?_)
              · rw [if_pos hw] at hgo
                rw [hgo] at q
                have q : RetDue ([119, 114, 111, 110, 103], [], ((t0 + 1 : Nat) : Int) - 1) H Q := by
                  have q : RetDue (if ("Wrong" : Str) = "Short" then ([115, 104, 111, 114, 116], [], (b.length : Int)) else ([119, 114, 111, 110, 103], [], ((t0 + 1 : Nat) : Int) - 1)) H Q := q
                  rwa [if_neg (by decide +kernel)] at q
                exact s_due (d := ([119, 114, 111, 110, 103], [], ((t0 + 1 : Nat) : Int) - 1)) hs q (e09.trans (exu e10)) ev_c (fun H11 e11 => ev_subI (ev_op (ev_var rfl) ev_c (rv_ixL (v := .int ((t0 + 1 : Nat) : Int)) (sq_of ((h9.mono e10).mono e11)) rfl)) ev_c) (.inl (el_lst ea_nil (by simp)))
              · rw [if_neg (by rw [hw]; decide)] at hgo
                rw [hgo] at q
                refine q_if (b := true) (et_test (ev_is (ev_eqI (ev_var rfl) ev_c) (by decide))) (fun _ H11 e11 => ?_) (fun hf => nomatch hf)
                exact s_due (d := ([114, 101, 97, 100], l, ((t0 + 1 : Nat) : Int))) hs q (e09.trans (exu (e10.trans e11))) ev_c (fun H12 e12 => ev_op (ev_var rfl) ev_c (rv_ixL (v := .int ((t0 + 1 : Nat) : Int)) (sq_of (((h9.mono e10).mono e11).mono e12)) rfl)) (.inr ⟨p, ev_var rfl, (e10.trans e11) _ _ p9⟩)
            | true =>
              have hgo : tfrac b false false t = (tcount b false (lane false l.length) true (t0 + 1)).bind fun v t2 => tfracGo b false false k' (l ++ [v + 1]) t2 := hgo
              refine q_when (b := false) (et_is (ends _ H9 p9) (by simp [bi])) (fun hf => nomatch hf) (fun _ H10 e10 => ?_)
              refine q_when (b := false) (et_test (ev_is (ev_eqI (ev_var rfl) ev_c) (by decide))) (fun hf => nomatch hf) (fun _ H11 e11 => ?_)
              refine q_asg (ev_neg ev_c) fun H12 e12 => ?_
              have e912 := (e10.trans e11).trans e12
              -- what the count leaves behind
              refine q_cond (fun σ' H' => ExU s H H' ∧ ∃ (many : Int) (t3 : Nat), σ' = [some (.str (T (R b))), some (.int (t : Int)), some (.ref s), some (.int (bi c)), some (.int many), some (.ref p), some (.int (bi true))] ∧ StP H' s b t3 ∧ H' p = some (.lst (l.map V.int)) ∧ ((tcount b false (lane false l.length) true (t0 + 1) = .ok many t3) ∨ (many < 0 ∧ ∃ c p, tcount b false (lane false l.length) true (t0 + 1) = .bad c p))) (fun M hM => ?_) (fun σ' H13 hP => ?_)
              · refine s_if (b := true) (et_test (ev_is (ev_eqI (ev_var rfl) ev_c) (by decide))) (fun _ H13 e13 => ?_) (fun hf => nomatch hf)
                have e913 := e912.trans e13
                refine s_asgF (vs := [.ref s, .int (bi (lane false l.length))]) (ea_cons (ev_var rfl) (ea_cons (ev_is (ev_modI (ev_is (ev_lenS (ev_var rfl) (.inl (sq_of (e913 _ _ p9)))) (by rw [List.length_map])) ev_c (by decide)) (congrArg V.int (lane_int l.length))) ea_nil)) fun H14 e14 => ⟨s, b, lane false l.length, true, t0 + 1, rfl, (h9.mono e913).mono e14, by omega, ?_⟩
                have e914 := e09.trans (exu (e913.trans e14))
                cases hr3 : tcount b false (lane false l.length) true (t0 + 1) with
                | bad c3 p3 => exact fun x t3 H15 hx hx2 e15 h15 => hM _ _ ⟨e914.trans e15, x, t3, rfl, h15, e15 _ _ hps (e14 _ _ (e913 _ _ p9)), .inr ⟨hx2, c3, p3, hr3⟩⟩
                | ok v t3 => exact fun H15 e15 h15 => hM _ _ ⟨e914.trans e15, v, t3, rfl, h15, e15 _ _ hps (e14 _ _ (e913 _ _ p9)), .inl hr3⟩
              obtain ⟨e13, many2, t3, rfl, h13, p13, hcnt⟩ := hP
              refine s_app (v := .int (many2 + 1)) p13 (ev_var rfl) (ev_addI (ev_var rfl) ev_c) (by rw [List.length_map]; omega) fun H14 e14 => ?_
              have hst14 : StP (upd H14 p (.lst (l.map V.int ++ [.int (many2 + 1)]))) s b t3 := by
                show upd _ _ _ _ = _
                rw [upd_ne (Ne.symm hps)]
                exact e14 _ _ h13
              have hp14 : upd H14 p (.lst (l.map V.int ++ [.int (many2 + 1)])) p = some (.lst ((l ++ [many2 + 1]).map V.int)) := by
                rw [upd_same, List.map_append]
                rfl
              rcases hcnt with hcnt | ⟨hneg, c3, p3, hcnt⟩
              · rw [hcnt] at hgo
                obtain ⟨hok, hdr, hend⟩ := tcount_back hcnt
                have hdl := congrArg List.length hdr
                rw [List.length_append, List.length_drop, List.length_drop, nz_len] at hdl
                have hrp := countRow_pos many2.toNat
                have h0 := hok.1
                have h2 := hok.2
                refine ⟨b.length - t3 + 1, by omega, exu_mut (e13.trans (exu e14)) hpH, many2, t3, l ++ [many2 + 1], _, rfl, hst14, hp14, .inl ⟨h0, rfl, by omega, ⟨by simp, by simp; omega, fun x hx => ?_⟩, k', hgo, by omega⟩⟩
                rcases List.mem_append.mp hx with hx | hx
                · exact hbd x hx
                · rw [List.mem_singleton.mp hx]
                  have : (2 : Int) ^ 255 < 2 ^ 256 := by decide
                  have : (2 : Nat) ^ 256 < 2 ^ 257 := by decide
                  omega
              · rw [hcnt] at hgo
                obtain ⟨rfl, rfl⟩ := tcount_bad hcnt
                exact ⟨0, by omega, exu_mut (e13.trans (exu e14)) hpH, many2, t3, l ++ [many2 + 1], _, rfl, hst14, hp14, .inr ⟨hneg, rfl, by simp; omega, hgo⟩⟩
        · omega
      · have hm0 := of_decide_eq_false hm
        rcases hI with ⟨h0, _⟩ | ⟨_, _, _, hgo⟩
        · omega
        · exact short hgo _ _ rfl (eH.trans (exu e7))
    cases hr2 : tcount b false (!c) false (t + 1) with
    | bad c2 p2 =>
      intro x t2 H6 hx hx2 e6 h6
      refine q_asgL (xs := ([if c then x else -1 - x]).map V.int) (el_lst (ea_cons (first x _ _ rfl rfl) ea_nil) (by simp)) fun p H7 hp e7 h7 => ?_
      have hps : p ≠ s := fun z => by rw [z, h6] at hp; cases hp
      refine loop x t2 0 H7 p [if c then x else -1 - x] ((e05.trans e6).trans (exu e7)) (h6.mono e7) (fresh_backU (e05.trans e6) hps hp) hps h7 (.inr ⟨hx2, rfl, by simp, ?_⟩)
      obtain ⟨rfl, rfl⟩ := tcount_bad hr2
      rw [htw]
      cases c with
      | true => rw [if_pos rfl, show tcount b false false false (t + 1) = _ from hr2]; rfl
      | false => rw [if_neg (by decide), show tcount b false true false (t + 1) = _ from hr2]; rfl
    | ok v t2 =>
      intro H6 e6 h6
      refine q_asgL (xs := ([if c then v else -1 - v]).map V.int) (el_lst (ea_cons (first v _ _ rfl rfl) ea_nil) (by simp)) fun p H7 hp e7 h7 => ?_
      have hps : p ≠ s := fun z => by rw [z, h6] at hp; cases hp
      obtain ⟨hok, hdr, hend⟩ := tcount_back hr2
      have hdl := congrArg List.length hdr
      rw [List.length_append, List.length_drop, List.length_drop, nz_len] at hdl
      have g0 := hok.1
      have g2 := hok.2
      refine loop v t2 (b.length - t2 + 1) H7 p [if c then v else -1 - v] ((e05.trans e6).trans (exu e7)) (h6.mono e7) (fresh_backU (e05.trans e6) hps hp) hps h7 (.inl ⟨g0, rfl, by omega, ⟨by simp, by simp, fun x hx => ?_⟩, 2 * (b.length - t2) + 3, ?_, by omega⟩)
      · rw [List.mem_singleton.mp hx]
        have : (2 : Int) ^ 255 < 2 ^ 256 := by decide
        have : (2 : Nat) ^ 256 < 2 ^ 257 := by decide
        split <;> omega
      · rw [htw]
        cases c with
        | true => rw [if_pos rfl, show tcount b false false false (t + 1) = _ from hr2]; rfl
        | false => rw [if_neg (by decide), show tcount b false true false (t + 1) = _ from hr2]; rfl
def N_Source___init__ : List Str := ["self", "signs", "at", "fills"]
def t_Source___init__ (K : PySem.W.Frag) : TS :=
  (tSeq (sFldC (He.ga K "Source") (tVar 0) (tVar 1) "signs")
    (tSeq (sFldC (He.ga K "Source") (tVar 0) (tVar 2) "at")
    (sFldC (He.ga K "Source") (tVar 0) (tVar 3) "fills")))
def sp_Source___init__ (K : PySem.W.Frag) : Sp := fun vs H Q _ => ∃ (a dx : Addr) (b : List Bool) (t : Nat) (f : Bool), vs = [.ref a, .str (T (R b)), .int (t : Int), .bl f] ∧ H a = some (.ins (He.ga K "Source") dx []) ∧ ∀ H', ExU a H H' → SrcB K H' a b t f → Q .non H'
theorem len_Source___init__ {K : PySem.W.Frag} {vs H Q E} (h : sp_Source___init__ K vs H Q E) : vs.length = 4 := by
  obtain ⟨a, dx, b, t, f, rfl, _⟩ := h
  rfl
theorem rd_Source___init__ {K : PySem.W.Frag} (vs : List V) (H : Hp) (Q : VK) (E : XK) (h : sp_Source___init__ K vs H Q E) : t_Source___init__ K { nx := fun _ H' => Q .non H', rt := Q } (start N_Source___init__ vs) H := by
  obtain ⟨a, dx, b, t, f, rfl, ha, q⟩ := h
  refine q_fldC (ev_var rfl) (ev_var rfl) ha (by simp) fun H1 e1 h1 => ?_
  refine q_fldC (ev_var rfl) (ev_var rfl) h1 (Nat.lt_of_le_of_lt (putF_len _ _ _) (by simp)) fun H2 e2 h2 => ?_
  refine s_fldC (ev_var rfl) (ev_var rfl) h2 (Nat.lt_of_le_of_lt (putF_len _ _ _) (Nat.lt_of_le_of_lt (Nat.succ_le_succ (putF_len _ _ _)) (by simp))) fun H3 e3 h3 => q H3 ((e1.trans e2).trans e3) ⟨dx, h3⟩
theorem go_source {K : PySem.W.Frag} {σ : L2.St} {H : Hp} {ta : TA} {Q : VK} {b : List Bool} {t : Nat} {f : Bool} (h : EvA ta σ H [.str (T (R b)), .int (t : Int), .bl f]) (k : ∀ x H', Ex H H' → H x = none → SrcB K H' x b t f → Q (.ref x) H') : tMake (He.ga K "Source") (sp_Source___init__ K) [] E0 ta σ H Q :=
  go_make h fun x dx H1 e1 hx hd hne => ⟨x, dx, b, t, f, rfl, upd_same, fun H' e' s' => ⟨rfl, k x H' (fun c o hc => by
    have h1 := e1 _ _ hc
    have n1 : c ≠ x := fun z => by rw [z, hx] at h1; cases h1
    have n2 : c ≠ dx := fun z => by rw [z, hd] at h1; cases h1
    exact e' c o n1 (by rw [upd_ne n1, upd_ne n2]; exact h1)) (fresh_back e1 hx) s'⟩⟩
theorem q_source {K : PySem.W.Frag} {σ : L2.St} {H : Hp} {ta : TA} {D : Ends} {tz : TS} {i : Nat} {b : List Bool} {t : Nat} {f : Bool} (h : EvA ta σ H [.str (T (R b)), .int (t : Int), .bl f]) (k : ∀ x H', Ex H H' → H x = none → SrcB K H' x b t f → tz D (σ.set i (some (.ref x))) H') :
    tSeq (tAsg (tMake (He.ga K "Source") (sp_Source___init__ K) [] E0 ta) (gName i)) tz D σ H :=
  show tMake (He.ga K "Source") (sp_Source___init__ K) [] E0 ta σ H (fun v H' => tz D (σ.set i (some v)) H') from go_source (Q := fun v H' => tz D (σ.set i (some v)) H') h k
/-- what is read of an object made here, told with the place behind it -/
theorem fin_new {K : PySem.W.Frag} {H H1 : Hp} {Q Q2 : VK} {E : XK} {x : Addr} {b : List Bool} {f : Bool} {r : Res Int} (q : FinR K H Q E r) (e : Ex H H1) (hx : H x = none) (h1 : H1 x ≠ none)
    (k : ∀ (v : Int) (t : Nat) H', r = .ok v t → Ex H H' → SrcB K H' x b t f → RetU [.int v, .int (t : Int)] H' Q → Q2 (.int v) H') : Fin K V.int x b f H1 Q2 E r := by
  cases r with
  | ok v t =>
    intro H' e' s'
    have e2 : Ex H H' := ((exu e).trans e').ex hx
    exact k v t H' rfl e2 s' (RetU.mono q e2)
  | bad c p => exact fun d H' hn hd e' h' => q d H' (fresh_back e hd) (((exu e).trans e').ex hx) h'
def N_Short___init__ : List Str := ["self", "place"]
def t_Short___init__ (K : PySem.W.Frag) : TS :=
  (tSeq (tDrop (tRinit (He.ga K "Short") (tCons (tVar 0) (tCons (tC (.str (Kr.T [116, 111, 111, 32, 115, 104, 111, 114, 116]))) tNil))))
    (tOstC (He.ga K "Short") "place" (tVar 0) (tVar 1)))
abbrev sp_Short___init__ (K : PySem.W.Frag) : Sp := placeSp (He.ga K "Short")
theorem len_Short___init__ {K : PySem.W.Frag} {vs H Q E} (h : sp_Short___init__ K vs H Q E) : vs.length = 2 := placeSp_len h
theorem rd_Short___init__ {K : PySem.W.Frag} (vs : List V) (H : Hp) (Q : VK) (E : XK) (h : sp_Short___init__ K vs H Q E) : t_Short___init__ K { nx := fun _ H' => Q .non H', rt := Q } (start N_Short___init__ vs) H := rd_place vs H Q E h
def N_Source_take : List Str := ["self", "wish", "sign"]
def t_Source_take (K : PySem.W.Frag) (E : XK) : TS :=
  (tSeq (tIfS (tTest (tOp rLtI (tFldC (He.ga K "Source") (tVar 0) "at") (tCB (rLenK K) (tCons (tFldC (He.ga K "Source") (tVar 0) "signs") tNil)))) (tAsg (tOp rIxS (tFldC (He.ga K "Source") (tVar 0) "signs") (tFldC (He.ga K "Source") (tVar 0) "at")) (gName 2)) (tIfS (tB (tFldC (He.ga K "Source") (tVar 0) "fills")) (tAsg (tVar 1) (gName 2)) (tRaiseO (He.ga K "Short") (sp_Short___init__ K) (tCons (tCB (rLenK K) (tCons (tFldC (He.ga K "Source") (tVar 0) "signs") tNil)) tNil) E)))
    (tSeq (sFldAugC (He.ga K "Source") (tVar 0) (tC (.int 1)) rAdd "at")
    (tRet (tVar 2))))
def sp_Source_take (K : PySem.W.Frag) : Sp := fun vs H Q E => ∃ (a : Addr) (b : List Bool) (t : Nat) (f w : Bool), vs = [.ref a, .str (T [bc w])] ∧ SrcB K H a b t f ∧ b.length ≤ 1000000 ∧ Fin K vB a b f H Q E (takeB b f false w t)
theorem len_Source_take {K : PySem.W.Frag} {vs H Q E} (h : sp_Source_take K vs H Q E) : vs.length = 2 := by
  obtain ⟨a, b, t, f, w, rfl, _⟩ := h
  rfl
theorem go_take0 {K : PySem.W.Frag} {σ : L2.St} {H : Hp} {o tw : TE} {E : XK} {Q : VK} {a : Addr} {b : List Bool} {t : Nat} {f w : Bool} (h : Ev o σ H (.ref a)) (hw : Ev tw σ H (.str (T [bc w]))) (s : SrcB K H a b t f) (hb : b.length ≤ 1000000) (k : Fin K vB a b f H Q E (takeB b f false w t)) :
    tMeth (He.ga K "Source") "take" (sp_Source_take K) [] E o (tCons tw tNil) σ H Q := by
  obtain ⟨dx, ha⟩ := s
  exact go_meth h ha rfl (fun H1 e => ea_cons (hw.mono e) ea_nil) fun H1 e => ⟨a, b, t, f, w, rfl, ⟨dx, e _ _ ha⟩, hb, k.mono (exu e)⟩
theorem rd_Source_take {K : PySem.W.Frag} (vs : List V) (H : Hp) (Q : VK) (E : XK) (h : sp_Source_take K vs H Q E) : t_Source_take K E { nx := fun _ H' => Q .non H', rt := Q } (start N_Source_take vs) H := by
  obtain ⟨a, b, t, f, w, rfl, ⟨dx, ha⟩, hb, k⟩ := h
  have sg : ∀ (σ : L2.St) (H1 : Hp), Ex H H1 → σ[0]? = some (some (.ref a)) → Ev (tFldC (He.ga K "Source") (tVar 0) "signs") σ H1 (.str (T (R b))) := fun σ H1 e h0 => ev_fldC (ev_var h0) (e _ _ ha) rfl
  have ln : ∀ (σ : L2.St) (H1 : Hp), Ex H H1 → σ[0]? = some (some (.ref a)) → Ev (tCB (rLenK K) (tCons (tFldC (He.ga K "Source") (tVar 0) "signs") tNil)) σ H1 (.int (b.length : Int)) := fun σ H1 e h0 => by
    have := ev_lenT (K := K) (sg σ H1 e h0) (by rw [R_len]; omega)
    rwa [R_len] at this
  have tst : EvT (tTest (tOp rLtI (tFldC (He.ga K "Source") (tVar 0) "at") (tCB (rLenK K) (tCons (tFldC (He.ga K "Source") (tVar 0) "signs") tNil)))) (start N_Source_take [.ref a, .str (T [bc w])]) H (decide ((t : Int) < (b.length : Int))) :=
    et_test (ev_ltI (ev_fldC (ev_var rfl) ha rfl) (ln _ H (Ex.refl H) rfl))
  -- a sign taken, the place goes on
  have fin : ∀ (c : Bool) (H1 : Hp), Ex H H1 → (∀ H', ExU a H H' → SrcB K H' a b (t + 1) f → Q (vB c) H') → tSeq (sFldAugC (He.ga K "Source") (tVar 0) (tC (.int 1)) rAdd "at") (tRet (tVar 2)) { nx := fun _ H' => Q .non H', rt := Q } [some (.ref a), some (.str (T [bc w])), some (vB c)] H1 := fun c H1 e1 q =>
    q_augC (i := (t : Int)) (j := 1) (ev_var rfl) (e1 _ _ ha) rfl ev_c (by simp) fun H2 e2 h2 => s_ret (ev_var rfl) fun H3 e3 => q H3 ((exu e1).trans (e2.trans (exu e3))) ⟨dx, e3 _ _ h2⟩
  unfold takeB at k
  by_cases ht : t < b.length
  · rw [List.getElem?_eq_getElem ht] at k
    refine q_if (b := true) (et_is tst (by simpa using ht)) (fun _ H1 e1 => ?_) (fun hf => nomatch hf)
    refine s_asg (v := vB b[t]) (ev_ixT (sg _ H1 e1 rfl) (ev_fldC (ev_var rfl) (e1 _ _ ha) rfl) (by rw [R_len]; omega) (R_at ht)) fun H2 e2 => ?_
    refine fin b[t] H2 (e1.trans e2) fun H' e' s' => ?_
    have := k H' e' s'
    rwa [show (b[t] != false) = b[t] by cases b[t] <;> rfl] at this
  · rw [List.getElem?_eq_none (by omega)] at k
    refine q_if (b := false) (et_is tst (by simpa using ht)) (fun hf => nomatch hf) (fun _ H1 e1 => ?_)
    cases f with
    | true =>
      refine s_if (b := true) (et_B (ev_fldC (ev_var rfl) (e1 _ _ ha) rfl)) (fun _ H2 e2 => ?_) (fun hf => nomatch hf)
      exact s_asg (v := vB w) (ev_var rfl) fun H3 e3 => fin w H3 ((e1.trans e2).trans e3) k
    | false =>
      refine s_if (b := false) (et_B (ev_fldC (ev_var rfl) (e1 _ _ ha) rfl)) (fun hf => nomatch hf) (fun _ H2 e2 => ?_)
      refine s_raiseO (ea_cons (ln _ H2 (e1.trans e2) rfl) ea_nil) (RaiseU.d (RaiseU.mono (exu (e1.trans e2)) k) ?_)
      rw [(e1.trans e2) _ _ ha]
      exact fun z => nomatch z
def N_other_sign : List Str := ["sign"]
def t_other_sign (K : PySem.W.Frag) : TS :=
  (tSeq (tIfS (tTest (tOp rEq (tVar 0) (tC (.str (Kr.T [48]))))) (tRet (tC (.str (Kr.T [49])))) tNext)
    (tRet (tC (.str (Kr.T [48])))))
def sp_other_sign (_ : PySem.W.Frag) : Sp := fun vs H Q _ => ∃ b : Bool, vs = [.str (T [bc b])] ∧ RetV (.str (T [bc (!b)])) H Q
theorem len_other_sign {K : PySem.W.Frag} {vs H Q E} (h : sp_other_sign K vs H Q E) : vs.length = 1 := by
  obtain ⟨b, rfl, _⟩ := h
  rfl
theorem u_other_sign {K : PySem.W.Frag} {H : Hp} {b : Bool} : SpV (sp_other_sign K) [.str (T [bc b])] H (.str (T [bc (!b)])) := fun H1 e Q q E => ⟨b, rfl, q⟩
theorem rd_other_sign {K : PySem.W.Frag} (vs : List V) (H : Hp) (Q : VK) (E : XK) (h : sp_other_sign K vs H Q E) : t_other_sign K { nx := fun _ H' => Q .non H', rt := Q } (start N_other_sign vs) H := by
  obtain ⟨b, rfl, q⟩ := h
  cases b with
  | false =>
    refine q_when (b := true) (et_test (ev_is (ev_eqT (ev_var rfl) ev_c) (by simp [bc]))) (fun _ H1 e1 => ?_) (fun hf => nomatch hf)
    exact s_ret ev_c fun H2 e2 => q H2 (e1.trans e2)
  | true =>
    refine q_when (b := false) (et_test (ev_is (ev_eqT (ev_var rfl) ev_c) (by simp [bc]))) (fun hf => nomatch hf) (fun _ H1 e1 => ?_)
    exact s_ret ev_c fun H2 e2 => q H2 (e1.trans e2)
def N_TurnedSource_take : List Str := ["self", "wish"]
def t_TurnedSource_take (K : PySem.W.Frag) (R : Sp) (E : XK) : TS :=
  (tRet (tCall (sp_other_sign K) [] E0 (tCons (tOr2 (tMeth (He.ga K "Source") "take" (sp_Source_take K) [] E (tFldC (He.ga K "TurnedSource") (tVar 0) "inner") (tCons (tCall (sp_other_sign K) [] E0 (tCons (tVar 1) tNil)) tNil)) (tMeth (He.ga K "TurnedSource") "take" R [] E (tFldC (He.ga K "TurnedSource") (tVar 0) "inner") (tCons (tCall (sp_other_sign K) [] E0 (tCons (tVar 1) tNil)) tNil))) tNil)))
def spR_TurnedSource_take (K : PySem.W.Frag) (k : Nat) : Sp := fun vs H Q E => ∃ (x : V) (a : Addr) (b : List Bool) (t j : Nat) (f n w : Bool), vs = [x, .str (T [bc w])] ∧ j < k ∧ Src K H a x n (j + 1) ∧ SrcB K H a b t f ∧ b.length ≤ 1000000 ∧ Fin K vB a b f H Q E (takeB b f n w t)
theorem z_TurnedSource_take {K : PySem.W.Frag} {vs H Q E} (h : spR_TurnedSource_take K 0 vs H Q E) : False := by
  obtain ⟨x, a, b, t, j, f, n, w, _, hj, _⟩ := h
  omega
theorem len_TurnedSource_take {K : PySem.W.Frag} {k : Nat} {vs H Q E} (h : spR_TurnedSource_take K k vs H Q E) : vs.length = 2 := by
  obtain ⟨x, a, b, t, j, f, n, w, rfl, _⟩ := h
  rfl
theorem go_takeX {K : PySem.W.Frag} {σ : L2.St} {H : Hp} {o tw : TE} {E : XK} {Q : VK} {x : V} {a : Addr} {b : List Bool} {t j k : Nat} {f n w : Bool} (h : Ev o σ H x) (hw : Ev tw σ H (.str (T [bc w]))) (hx : Src K H a x n j) (hj : j ≤ k) (s : SrcB K H a b t f)
    (hb : b.length ≤ 1000000) (q : Fin K vB a b f H Q E (takeB b f n w t)) :
    tOr2 (tMeth (He.ga K "Source") "take" (sp_Source_take K) [] E o (tCons tw tNil)) (tMeth (He.ga K "TurnedSource") "take" (spR_TurnedSource_take K k) [] E o (tCons tw tNil)) σ H Q := by
  cases hx with
  | base => exact .inl (go_take0 h hw s hb q)
  | @turn c dx y n2 i hc ne r =>
    exact .inr (go_meth h hc rfl (fun H1 e => ea_cons (hw.mono e) ea_nil) fun H1 e => ⟨.ref c, a, b, t, i, f, _, w, rfl, hj, (Src.turn hc ne r).mono (exu e), s.mono e, hb, q.mono (exu e)⟩)
theorem rd_TurnedSource_take {K : PySem.W.Frag} (k : Nat) (vs : List V) (H : Hp) (Q : VK) (E : XK) (h : spR_TurnedSource_take K (k + 1) vs H Q E) : t_TurnedSource_take K (spR_TurnedSource_take K k) E { nx := fun _ H' => Q .non H', rt := Q } (start N_TurnedSource_take vs) H := by
  obtain ⟨x, a, b, t, j, f, n, w, rfl, hj, hx, s, hb, q⟩ := h
  cases hx with
  | @turn c dx y n2 i hc ne r =>
    rw [takeB_turn] at q
    refine go_takeX (w := !w) (ev_fldC (ev_var rfl) hc rfl) (ev_call (ea_cons (ev_var rfl) ea_nil) u_other_sign) r (by omega) s hb ?_
    exact Fin.step q fun v t' H' _ e' s' q' => u_other_sign (K := K) H' (Ex.refl H') _ (fun H2 e2 => q' H2 (exu e2) (s'.mono e2)) E0
abbrev sp_TurnedSource_take (K : PySem.W.Frag) : Sp := spR_TurnedSource_take K 1
abbrev tm_take (K : PySem.W.Frag) (E : XK) (o : TE) (t : TA) : TE := (tOr2 (tMeth (He.ga K "Source") "take" (sp_Source_take K) [] E o t) (tMeth (He.ga K "TurnedSource") "take" (sp_TurnedSource_take K) [] E o t))
theorem go_take {K : PySem.W.Frag} {σ : L2.St} {H : Hp} {o tw : TE} {E : XK} {Q : VK} {x : V} {a : Addr} {b : List Bool} {t j : Nat} {f n w : Bool} (h : Ev o σ H x) (hw : Ev tw σ H (.str (T [bc w]))) (hx : Src K H a x n j) (hj : j ≤ srcD) (s : SrcB K H a b t f)
    (hb : b.length ≤ 1000000) (q : Fin K vB a b f H Q E (takeB b f n w t)) : tm_take K E o (tCons tw tNil) σ H Q := go_takeX h hw hx hj s hb q
theorem go_takeS {K : PySem.W.Frag} {σ : L2.St} {H : Hp} {o tw : TE} {E : XK} {Q : VK} {x : V} {a : Addr} {b : List Bool} {t : Nat} {f n w : Bool} {α : Type} {wal : α → V} {g : Bool → Nat → Res α} (h : Ev o σ H x) (hw : Ev tw σ H (.str (T [bc w]))) (r : Rdr srcD K H x a b f n t)
    (q : Fin K wal a b f H Q E ((takeB b f n w t).bind g)) : GoS (tm_take K E o (tCons tw tNil)) σ H fun c H' => ∃ t', takeB b f n w t = .ok c t' ∧ ExU a H H' ∧ Rdr srcD K H' x a b f n t' ∧ Fin K wal a b f H' Q E (g c t') := fun H1 e1 Q' k => by
  obtain ⟨⟨j, hj, hx⟩, s, l⟩ := r
  exact go_take (h.mono e1) (hw.mono e1) (hx.mono (exu e1)) hj (s.mono e1) l (Fin.step (q.mono (exu e1)) fun c t' H' et e' s' q' => k c H' ⟨t', et, (exu e1).trans e', ⟨⟨j, hj, hx.mono ((exu e1).trans e')⟩, s', l⟩, q'⟩)
def N_take_digits : List Str := ["source", "number", "many", "k"]
def t_take_digits (K : PySem.W.Frag) (E : XK) : TS :=
  (tSeq (tFor (iRng1 (tCons (tVar 2) tNil)) (gName 3)
    (tAsg (tOp rAddI (tOp rMulI (tVar 1) (tC (.int 2))) (tCB rIntB (tCons (tOp rEq (tm_take K E (tVar 0) (tCons (tC (.str (Kr.T [48]))) tNil)) (tC (.str (Kr.T [49])))) tNil))) (gName 1)))
    (tRet (tVar 1)))
def sp_take_digits (K : PySem.W.Frag) : Sp := fun vs H Q E => ∃ (x : V) (a : Addr) (b : List Bool) (f n : Bool) (t : Nat) (num : Int) (many : Nat), vs = [x, .int num, .int (many : Int)] ∧ Rdr srcD K H x a b f n t ∧ many ≤ 600 ∧ num.natAbs < 2 ^ 600 ∧ Fin K V.int a b f H Q E (tdig b f n many num t)
theorem len_take_digits {K : PySem.W.Frag} {vs H Q E} (h : sp_take_digits K vs H Q E) : vs.length = 3 := by
  obtain ⟨x, a, b, f, n, t, num, many, rfl, _⟩ := h
  rfl
theorem rd_take_digits {K : PySem.W.Frag} (vs : List V) (H : Hp) (Q : VK) (E : XK) (h : sp_take_digits K vs H Q E) : t_take_digits K E { nx := fun _ H' => Q .non H', rt := Q } (start N_take_digits vs) H := by
  obtain ⟨x, a, b, f, n, t, num, many, rfl, r, hm, hn, q⟩ := h
  refine q_forR1 (n := (many : Int)) (ea_cons (ev_var rfl) ea_nil) (by omega)
    (fun i σ' H' => ∃ (y : Int) (t' : Nat) (z : Option V), σ' = [some x, some (.int y), some (.int (many : Int)), z] ∧ ExU a H H' ∧ Rdr srcD K H' x a b f n t' ∧ y.natAbs < 2 ^ (600 + i) ∧ Fin K V.int a b f H' Q E (tdig b f n (many - i) y t'))
    (fun H1 e1 => ⟨num, t, none, rfl, exu e1, r.mono e1, hn, q.mono (exu e1)⟩) (fun i σ' H' hi hP => ?_) (fun σ' H' hP => ?_)
  · obtain ⟨y, t', z, rfl, e', r', hy, q'⟩ := hP
    have ek : many - i = (many - (i + 1)) + 1 := by omega
    rw [ek] at q'
    refine s_num rfl (mulx_ok (a := 600 + i) (b := 2) hy (by decide) (by omega)) (go_takeS (w := false) (ev_var rfl) ev_c r' q') fun c H2 H3 hp e3 => ?_
    obtain ⟨t2, _, e2, r2, q2⟩ := hp
    exact ⟨_, t2, _, rfl, e'.trans (e2.trans (exu e3)), r2.mono e3, two_step c hy, q2.mono (exu e3)⟩
  · obtain ⟨y, t', z, rfl, e', r', hy, q'⟩ := hP
    rw [Int.toNat_natCast, Nat.sub_self] at q'
    exact s_ret (ev_var rfl) fun H2 e2 => q' H2 (exu e2) (r'.s.mono e2)
def N_take_count : List Str := ["source", "wish", "ones", "size"]
def t_take_count (K : PySem.W.Frag) (E : XK) : TS :=
  (tSeq (tAsg (tC (.int 0)) (gName 2))
    (tSeq (tWhile (tAnd (tTest (tOp rLtI (tVar 2) (tC (.int 7)))) (tTest (tOp rEq (tm_take K E (tVar 0) (tCons (tVar 1) tNil)) (tC (.str (Kr.T [49]))))))
    (tSeq (tAug 2 (tC (.int 1)) (ipI fun i j => i + j))
    (tAsg (tC (.str (Kr.T [48]))) (gName 1))))
    (tSeq (tAsg (tCall (sp_take_digits K) [] E (tCons (tVar 0) (tCons (tC (.int 1)) (tCons (tVar 2) tNil)))) (gName 3))
    (tRet (tOp rSubI (tCall (sp_take_digits K) [] E (tCons (tVar 0) (tCons (tC (.int 1)) (tCons (tOp rSubI (tVar 3) (tC (.int 1))) tNil)))) (tC (.int 1)))))))
def sp_take_count (K : PySem.W.Frag) : Sp := fun vs H Q E => ∃ (x : V) (a : Addr) (b : List Bool) (f n w : Bool) (t : Nat), vs = [x, .str (T [bc w])] ∧ Rdr srcD K H x a b f n t ∧ Fin K V.int a b f H Q E (tcount b f n w t)
theorem len_take_count {K : PySem.W.Frag} {vs H Q E} (h : sp_take_count K vs H Q E) : vs.length = 2 := by
  obtain ⟨x, a, b, f, n, w, t, rfl, _⟩ := h
  rfl
theorem rd_take_count {K : PySem.W.Frag} (vs : List V) (H : Hp) (Q : VK) (E : XK) (h : sp_take_count K vs H Q E) : t_take_count K E { nx := fun _ H' => Q .non H', rt := Q } (start N_take_count vs) H := by
  obtain ⟨x, a, b, f, n, w, t, rfl, r, q⟩ := h
  refine q_asg ev_c fun H1 e1 => ?_
  refine (⟨fun m σ' H' => ∃ (o : Nat) (w' : Bool) (t' : Nat), m = 7 - o ∧ o ≤ 7 ∧ σ' = [some x, some (.str (T [bc w'])), some (.int (o : Int)), none] ∧ ExU a H H' ∧ Rdr srcD K H' x a b f n t' ∧
      Fin K V.int a b f H' Q E ((tones b f n (7 - o) w' o t').bind fun o t1 => (tdig b f n o 1 t1).bind fun s t2 => (tdig b f n (s - 1).toNat 1 t2).bind fun x t3 => .ok (x - 1) t3),
    ⟨7, 0, w, t, rfl, by omega, rfl, exu e1, r.mono e1, q.mono (exu e1)⟩, ?_⟩ : tSeq (tWhile _ _) _ _ _ _)
  rintro m σ' H' ⟨o, w', t', rfl, ho, rfl, e', r', q'⟩
  -- what follows the loop
  have rest : ∀ (w2 : Bool) (t2 : Nat) (H2 : Hp), ExU a H H2 → Rdr srcD K H2 x a b f n t2 → Fin K V.int a b f H2 Q E ((tdig b f n o 1 t2).bind fun s t2 => (tdig b f n (s - 1).toNat 1 t2).bind fun x t3 => .ok (x - 1) t3) →
      tSeq (tAsg (tCall (sp_take_digits K) [] E (tCons (tVar 0) (tCons (tC (.int 1)) (tCons (tVar 2) tNil)))) (gName 3))
        (tRet (tOp rSubI (tCall (sp_take_digits K) [] E (tCons (tVar 0) (tCons (tC (.int 1)) (tCons (tOp rSubI (tVar 3) (tC (.int 1))) tNil)))) (tC (.int 1)))) { nx := fun _ H' => Q .non H', rt := Q } [some x, some (.str (T [bc w2])), some (.int (o : Int)), none] H2 := fun w2 t2 H2 e2 r2 q2 => by
    refine q_asgF (vs := [x, .int 1, .int (o : Int)]) (ea_cons (ev_var rfl) (ea_cons ev_c (ea_cons (ev_var rfl) ea_nil))) fun H3 e3 => ⟨x, a, b, f, n, t2, 1, o, rfl, r2.mono e3, by omega, by decide, Fin.step (q2.mono (exu e3)) fun s t3 H4 es e4 s4 q4 => ?_⟩
    have hs := tdig_rng es
    have hp : (2 : Int) ^ o ≤ 2 ^ 7 := by
      have : o = 0 ∨ o = 1 ∨ o = 2 ∨ o = 3 ∨ o = 4 ∨ o = 5 ∨ o = 6 ∨ o = 7 := by omega
      rcases this with rfl | rfl | rfl | rfl | rfl | rfl | rfl | rfl <;> decide
    have hp0 : (0 : Int) < 2 ^ o := Int.pow_pos (by decide)
    have hs1 : 1 ≤ s ∧ s < 256 := by omega
    obtain ⟨k, hk⟩ := Int.eq_ofNat_of_zero_le (show 0 ≤ s - 1 by omega)
    refine s_retSubF (vs := [x, .int 1, .int (k : Int)]) (ea_cons (ev_var rfl) (ea_cons ev_c (ea_cons (ev_is (ev_subI (ev_var rfl) ev_c) (by rw [hk])) ea_nil))) fun H5 e5 => ?_
    rw [hk, Int.toNat_natCast] at q4
    refine ⟨x, a, b, f, n, t3, 1, k, rfl, (r2.mono e3).after (e4.trans (exu e5)) (s4.mono e5), by omega, by decide, Fin.step (q4.mono (exu e5)) fun y t4 H6 _ e6 s6 q6 => ?_⟩
    exact rv_subI (i := y) (j := 1) H6 (Ex.refl H6) _ fun H7 e7 => q6 H7 (exu e7) (s6.mono e7)
  by_cases h7 : o < 7
  · have ek : 7 - o = (7 - (o + 1)) + 1 := by omega
    rw [ek] at q'
    have q2 : Fin K V.int a b f H' Q E ((takeB b f n w' t').bind fun c t' => (if c then tones b f n (7 - (o + 1)) false (o + 1) t' else .ok o t').bind fun o t1 => (tdig b f n o 1 t1).bind fun s t2 => (tdig b f n (s - 1).toNat 1 t2).bind fun x t3 => .ok (x - 1) t3) := by
      rw [← Res.bind_assoc]; exact q'
    refine (et_test (ev_is (ev_ltI (ev_var rfl) ev_c) (by rw [decide_eq_true (show (o : Int) < 7 by omega)])) : EvT (tTest (tOp rLtI (tVar 2) (tC (.int 7)))) [some x, some (.str (T [bc w'])), some (.int (o : Int)), none] H' true) H' (Ex.refl H') _ fun H2 e2 => ?_
    refine t_one (go_takeS (ev_var rfl) (ev_var rfl) (r'.mono e2) (q2.mono (exu e2))) fun c H3 H4 hp e4 => ?_
    obtain ⟨t3, _, e3, r3, q3⟩ := hp
    have e04 := e'.trans ((exu e2).trans (e3.trans (exu e4)))
    cases c with
    | true =>
      refine ⟨_, fun _ _ h => h, q_aug rfl ev_c fun H5 e5 => s_asg (v := .str (T [bc false])) ev_c fun H6 e6 => ⟨7 - (o + 1), by omega, o + 1, false, t3, rfl, by omega, rfl, e04.trans (exu (e5.trans e6)), (r3.mono e4).mono (e5.trans e6), ?_⟩⟩
      exact q3.mono (exu (e4.trans (e5.trans e6)))
    | false => exact rest w' t3 H4 e04 (r3.mono e4) (q3.mono (exu e4))
  · have ho7 : o = 7 := by omega
    rw [show 7 - o = 0 by omega] at q'
    refine (et_test (ev_is (ev_ltI (ev_var rfl) ev_c) (by rw [decide_eq_false (show ¬ (o : Int) < 7 by omega)])) : EvT (tTest (tOp rLtI (tVar 2) (tC (.int 7)))) [some x, some (.str (T [bc w'])), some (.int (o : Int)), none] H' false) H' (Ex.refl H') _ fun H2 e2 => ?_
    exact rest w' t' H2 (e'.trans (exu e2)) (r'.mono e2) (q'.mono (exu e2))
def N_TurnedSource___init__ : List Str := ["self", "inner"]
def t_TurnedSource___init__ (K : PySem.W.Frag) : TS :=
  (sFldC (He.ga K "TurnedSource") (tVar 0) (tVar 1) "inner")
def sp_TurnedSource___init__ (K : PySem.W.Frag) : Sp := fun vs H Q _ => ∃ (t dx : Addr) (y : V), vs = [.ref t, y] ∧ H t = some (.ins (He.ga K "TurnedSource") dx []) ∧ ∀ H', ExU t H H' → H' t = some (.ins (He.ga K "TurnedSource") dx [("inner", y)]) → Q .non H'
theorem len_TurnedSource___init__ {K : PySem.W.Frag} {vs H Q E} (h : sp_TurnedSource___init__ K vs H Q E) : vs.length = 2 := by
  obtain ⟨t, dx, y, rfl, _⟩ := h
  rfl
theorem rd_TurnedSource___init__ {K : PySem.W.Frag} (vs : List V) (H : Hp) (Q : VK) (E : XK) (h : sp_TurnedSource___init__ K vs H Q E) : t_TurnedSource___init__ K { nx := fun _ H' => Q .non H', rt := Q } (start N_TurnedSource___init__ vs) H := by
  obtain ⟨t, dx, y, rfl, ht, q⟩ := h
  exact s_fldC (ev_var rfl) (ev_var rfl) ht (by simp) fun H1 e1 h1 => q H1 e1 h1
/-- TurnedSource(x): one source more -/
theorem go_turned {K : PySem.W.Frag} {σ : L2.St} {H : Hp} {te : TE} {Q : VK} {x : V} (h : Ev te σ H x) (k : ∀ t dx H', Ex H H' → H t = none → H' t = some (.ins (He.ga K "TurnedSource") dx [("inner", x)]) → Q (.ref t) H') :
    tMake (He.ga K "TurnedSource") (sp_TurnedSource___init__ K) [] E0 (tCons te tNil) σ H Q :=
  go_make (ea_cons h ea_nil) fun t dx H1 e1 ht hd hne => ⟨t, dx, x, rfl, upd_same, fun H' e' h' => ⟨rfl, k t dx H' (fun b o hb => by
    have h1 := e1 _ _ hb
    have n1 : b ≠ t := fun z => by rw [z, ht] at h1; cases h1
    have n2 : b ≠ dx := fun z => by rw [z, hd] at h1; cases h1
    exact e' b o n1 (by rw [upd_ne n1, upd_ne n2]; exact h1)) (fresh_back e1 ht) h'⟩⟩
def N_take_whole : List Str := ["source"]
def t_take_whole (K : PySem.W.Frag) (E : XK) : TS :=
  (tSeq (tIfS (tTest (tOp rEq (tm_take K E (tVar 0) (tCons (tC (.str (Kr.T [49]))) tNil)) (tC (.str (Kr.T [49]))))) (tRet (tCall (sp_take_count K) [] E (tCons (tVar 0) (tCons (tC (.str (Kr.T [48]))) tNil)))) tNext)
    (tRet (tOp rSubI (tUn (rU fun i => .int (-i)) (tC (.int 1))) (tCall (sp_take_count K) [] E (tCons (tMake (He.ga K "TurnedSource") (sp_TurnedSource___init__ K) [] E0 (tCons (tVar 0) tNil)) (tCons (tC (.str (Kr.T [48]))) tNil))))))
def sp_take_whole (K : PySem.W.Frag) : Sp := fun vs H Q E => ∃ (x : V) (a : Addr) (b : List Bool) (f n : Bool) (t j : Nat), vs = [x] ∧ j < srcD ∧ Src K H a x n j ∧ SrcB K H a b t f ∧ b.length ≤ 1000000 ∧ Fin K V.int a b f H Q E (twhole b f n t)
theorem len_take_whole {K : PySem.W.Frag} {vs H Q E} (h : sp_take_whole K vs H Q E) : vs.length = 1 := by
  obtain ⟨x, a, b, f, n, t, j, rfl, _⟩ := h
  rfl
theorem rd_take_whole {K : PySem.W.Frag} (vs : List V) (H : Hp) (Q : VK) (E : XK) (h : sp_take_whole K vs H Q E) : t_take_whole K E { nx := fun _ H' => Q .non H', rt := Q } (start N_take_whole vs) H := by
  obtain ⟨x, a, b, f, n, t, j, rfl, hj, hx, s, hb, q⟩ := h
  refine t_one (go_takeS (w := true) (ev_var rfl) ev_c ⟨⟨j, by omega, hx⟩, s, hb⟩ q) fun c H1 H2 hp e2 => ?_
  obtain ⟨t1, _, e1, r1, q1⟩ := hp
  have e02 := e1.trans (exu e2)
  cases c with
  | true =>
    exact s_retF (vs := [x, .str (T [bc false])]) (ea_cons (ev_var rfl) (ea_cons ev_c ea_nil)) fun H3 e3 => ⟨x, a, b, f, n, false, t1, rfl, (r1.mono e2).mono e3, q1.mono (exu (e2.trans e3))⟩
  | false =>
    refine s_retOpF (x := .int (-1)) (ev_neg ev_c) fun H3 e3 => ?_
    refine go_call2 (w := .str (T [bc false])) (P := fun y H4 => ∃ c dx, y = .ref c ∧ Ex H3 H4 ∧ H3 c = none ∧ H4 c = some (.ins (He.ga K "TurnedSource") dx [("inner", x)])) (fun Q2 k => go_turned (ev_var rfl) fun c dx H4 e4 hc4 h4 => k _ _ ⟨c, dx, rfl, e4, hc4, h4⟩) (fun H9 => ev_c) fun y H4 H5 hy e5 => ?_
    obtain ⟨c, dx, rfl, e4, hc4, h4⟩ := hy
    have e25 := (e3.trans e4).trans e5
    have nca : c ≠ a := fun z => by
      have := ((r1.mono e2).mono e3).s.some
      rw [← z] at this
      exact this hc4
    refine ⟨.ref c, a, b, f, !n, false, t1, rfl, ⟨⟨j + 1, hj, .turn (e5 _ _ h4) nca (hx.mono (e02.trans (exu e25)))⟩, (r1.mono e2).s.mono e25, hb⟩, Fin.step (q1.mono (exu (e2.trans e25))) fun y t2 H6 _ e6 s6 q6 => ?_⟩
    exact rv_subI (i := -1) (j := y) H6 (Ex.refl H6) _ fun H7 e7 => q6 H7 (exu e7) (s6.mono e7)
def N_ends_in_one : List Str := ["steps"]
def t_ends_in_one (K : PySem.W.Frag) : TS :=
  (tRet (tAndV (tOp rGtI (tCB (rLenK K) (tCons (tVar 0) tNil)) (tC (.int 1))) (tOp rEq (tOp (rIxL K) (tVar 0) (tUn (rU fun i => .int (-i)) (tC (.int 1)))) (tC (.int 1)))))
def sp_ends_in_one (K : PySem.W.Frag) : Sp := fun vs H Q _ => ∃ (p : Addr) (ns : List Int), vs = [.ref p] ∧ SqL K H p (ns.map V.int) ∧ RetV (.bl (endsOne ns)) H Q
theorem len_ends_in_one {K : PySem.W.Frag} {vs H Q E} (h : sp_ends_in_one K vs H Q E) : vs.length = 1 := by
  obtain ⟨p, ns, rfl, _⟩ := h
  rfl
theorem u_ends_in_one {K : PySem.W.Frag} {H : Hp} {p : Addr} {ns : List Int} (h : SqL K H p (ns.map V.int)) : SpV (sp_ends_in_one K) [.ref p] H (.bl (endsOne ns)) := fun H1 e Q q E => ⟨p, ns, rfl, ex_l e h, q⟩
theorem rd_ends_in_one {K : PySem.W.Frag} (vs : List V) (H : Hp) (Q : VK) (E : XK) (h : sp_ends_in_one K vs H Q E) : t_ends_in_one K { nx := fun _ H' => Q .non H', rt := Q } (start N_ends_in_one vs) H := by
  obtain ⟨p, ns, rfl, hp, q⟩ := h
  by_cases hl : 1 < ns.length
  · have hne : ns ≠ [] := fun z => by rw [z] at hl; simp at hl
    have hg : ns.getLast? = some (ns.getLast hne) := List.getLast?_eq_some_getLast hne
    refine s_ret (ev_is (ev_andV (a := true) (ev_is (ev_gtI (ev_is (ev_lenS (ev_var rfl) (.inl hp)) (by rw [List.length_map])) ev_c) (by rw [decide_eq_true (show (1 : Int) < (ns.length : Int) by omega)])) fun _ => ev_eqI (ev_op (ev_var rfl) (ev_neg ev_c) (rv_ixL (v := .int (ns.getLast hne)) hp (by rw [show (-1 : Int) = -1 from rfl, atI_last (by simpa using hne), List.getLast?_map, hg]; rfl))) ev_c) ?_) q
    unfold endsOne
    rw [hg, Bool.true_and]
    congr 1
    exact decide_eq_decide.mpr ⟨fun h => ⟨hl, by rw [h]⟩, fun h => Option.some.inj h.2⟩
  · refine s_ret (ev_is (ev_andV (a := false) (b := false) (ev_is (ev_gtI (ev_is (ev_lenS (ev_var rfl) (.inl hp)) (by rw [List.length_map])) ev_c) (by rw [decide_eq_false (show ¬ (1 : Int) < (ns.length : Int) by omega)])) fun hf => nomatch hf) ?_) q
    unfold endsOne
    rw [decide_eq_false (fun h => hl h.1)]
    rfl
def N_Source_spot : List Str := ["self"]
def t_Source_spot (K : PySem.W.Frag) : TS :=
  (tRet (tFldC (He.ga K "Source") (tVar 0) "at"))
def sp_Source_spot (K : PySem.W.Frag) : Sp := fun vs H Q _ => ∃ (a : Addr) (b : List Bool) (t : Nat) (f : Bool), vs = [.ref a] ∧ SrcB K H a b t f ∧ RetV (.int (t : Int)) H Q
theorem len_Source_spot {K : PySem.W.Frag} {vs H Q E} (h : sp_Source_spot K vs H Q E) : vs.length = 1 := by
  obtain ⟨a, b, t, f, rfl, _⟩ := h
  rfl
theorem ev_spot {K : PySem.W.Frag} {σ : L2.St} {H : Hp} {o : TE} {a : Addr} {b : List Bool} {t : Nat} {f : Bool} (h : Ev o σ H (.ref a)) (s : SrcB K H a b t f) : Ev (tMeth (He.ga K "Source") "spot" (sp_Source_spot K) [] E0 o tNil) σ H (.int (t : Int)) := by
  obtain ⟨dx, ha⟩ := s
  exact ev_meth h ha rfl ea_nil fun H1 e Q q E => ⟨a, b, t, f, rfl, ⟨dx, e _ _ ha⟩, q⟩
theorem rd_Source_spot {K : PySem.W.Frag} (vs : List V) (H : Hp) (Q : VK) (E : XK) (h : sp_Source_spot K vs H Q E) : t_Source_spot K { nx := fun _ H' => Q .non H', rt := Q } (start N_Source_spot vs) H := by
  obtain ⟨a, b, t, f, rfl, ⟨dx, ha⟩, q⟩ := h
  exact s_ret (ev_fldC (ev_var rfl) ha rfl) q
def N_Wrong___init__ : List Str := ["self", "place"]
def t_Wrong___init__ (K : PySem.W.Frag) : TS :=
  (tSeq (tDrop (tRinit (He.ga K "Wrong") (tCons (tVar 0) (tCons (tC (.str (Kr.T [97, 32, 119, 114, 111, 110, 103, 32, 115, 105, 103, 110]))) tNil))))
    (tOstC (He.ga K "Wrong") "place" (tVar 0) (tVar 1)))
abbrev sp_Wrong___init__ (K : PySem.W.Frag) : Sp := placeSp (He.ga K "Wrong")
theorem len_Wrong___init__ {K : PySem.W.Frag} {vs H Q E} (h : sp_Wrong___init__ K vs H Q E) : vs.length = 2 := placeSp_len h
theorem rd_Wrong___init__ {K : PySem.W.Frag} (vs : List V) (H : Hp) (Q : VK) (E : XK) (h : sp_Wrong___init__ K vs H Q E) : t_Wrong___init__ K { nx := fun _ H' => Q .non H', rt := Q } (start N_Wrong___init__ vs) H := rd_place vs H Q E h
def N_Source_wrong : List Str := ["self"]
def t_Source_wrong (K : PySem.W.Frag) (E : XK) : TS :=
  (tRaiseO (He.ga K "Wrong") (sp_Wrong___init__ K) (tCons (tOp rSubI (tMeth (He.ga K "Source") "spot" (sp_Source_spot K) [] E0 (tVar 0) tNil) (tC (.int 1))) tNil) E)
def sp_Source_wrong (K : PySem.W.Frag) : Sp := fun vs H Q E => ∃ (a : Addr) (b : List Bool) (t : Nat) (f : Bool), vs = [.ref a] ∧ SrcB K H a b t f ∧ RaiseD (.ref (He.ga K "Wrong")) ((t : Int) - 1) H E
theorem len_Source_wrong {K : PySem.W.Frag} {vs H Q E} (h : sp_Source_wrong K vs H Q E) : vs.length = 1 := by
  obtain ⟨a, b, t, f, rfl, _⟩ := h
  rfl
theorem go_wrong0 {K : PySem.W.Frag} {σ : L2.St} {H : Hp} {o : TE} {E : XK} {Q : VK} {a : Addr} {b : List Bool} {t : Nat} {f : Bool} (h : Ev o σ H (.ref a)) (s : SrcB K H a b t f) (k : RaiseU a (.ref (He.ga K "Wrong")) ((t : Int) - 1) H E) :
    tMeth (He.ga K "Source") "wrong" (sp_Source_wrong K) [] E o tNil σ H Q := by
  have k2 := k.d s.some
  obtain ⟨dx, ha⟩ := s
  exact go_meth h ha rfl (fun H1 e => ea_nil) fun H1 e => ⟨a, b, t, f, rfl, ⟨dx, e _ _ ha⟩, k2.mono e⟩
theorem rd_Source_wrong {K : PySem.W.Frag} (vs : List V) (H : Hp) (Q : VK) (E : XK) (h : sp_Source_wrong K vs H Q E) : t_Source_wrong K E { nx := fun _ H' => Q .non H', rt := Q } (start N_Source_wrong vs) H := by
  obtain ⟨a, b, t, f, rfl, s, k⟩ := h
  exact s_raiseO (ea_cons (ev_subI (ev_spot (ev_var rfl) s) ev_c) ea_nil) k
def N_TurnedSource_spot : List Str := ["self"]
def t_TurnedSource_spot (K : PySem.W.Frag) (R : Sp) : TS :=
  (tRet (tOr2 (tMeth (He.ga K "Source") "spot" (sp_Source_spot K) [] E0 (tFldC (He.ga K "TurnedSource") (tVar 0) "inner") tNil) (tMeth (He.ga K "TurnedSource") "spot" R [] E0 (tFldC (He.ga K "TurnedSource") (tVar 0) "inner") tNil)))
def spR_TurnedSource_spot (K : PySem.W.Frag) (k : Nat) : Sp := fun vs H Q _ => ∃ (x : V) (a : Addr) (b : List Bool) (t j : Nat) (f n : Bool), vs = [x] ∧ j < k ∧ Src K H a x n (j + 1) ∧ SrcB K H a b t f ∧ RetV (.int (t : Int)) H Q
theorem z_TurnedSource_spot {K : PySem.W.Frag} {vs H Q E} (h : spR_TurnedSource_spot K 0 vs H Q E) : False := by
  obtain ⟨x, a, b, t, j, f, n, _, hj, _⟩ := h
  omega
theorem len_TurnedSource_spot {K : PySem.W.Frag} {k : Nat} {vs H Q E} (h : spR_TurnedSource_spot K k vs H Q E) : vs.length = 1 := by
  obtain ⟨x, a, b, t, j, f, n, rfl, _⟩ := h
  rfl
theorem ev_spotX {K : PySem.W.Frag} {σ : L2.St} {H : Hp} {o : TE} {x : V} {a : Addr} {b : List Bool} {t j k : Nat} {f n : Bool} (h : Ev o σ H x) (hx : Src K H a x n j) (hj : j ≤ k) (s : SrcB K H a b t f) :
    Ev (tOr2 (tMeth (He.ga K "Source") "spot" (sp_Source_spot K) [] E0 o tNil) (tMeth (He.ga K "TurnedSource") "spot" (spR_TurnedSource_spot K k) [] E0 o tNil)) σ H (.int (t : Int)) := fun H1 e1 Q q => by
  cases hx with
  | base => exact .inl (ev_spot h s H1 e1 Q q)
  | @turn c dx y n2 i hc ne r =>
    exact .inr (ev_meth h hc rfl ea_nil (fun H2 e2 Q q E => ⟨.ref c, a, b, t, i, f, _, rfl, hj, (Src.turn hc ne r).mono (exu e2), s.mono e2, q⟩) H1 e1 Q q)
theorem rd_TurnedSource_spot {K : PySem.W.Frag} (k : Nat) (vs : List V) (H : Hp) (Q : VK) (E : XK) (h : spR_TurnedSource_spot K (k + 1) vs H Q E) : t_TurnedSource_spot K (spR_TurnedSource_spot K k) { nx := fun _ H' => Q .non H', rt := Q } (start N_TurnedSource_spot vs) H := by
  obtain ⟨x, a, b, t, j, f, n, rfl, hj, hx, s, q⟩ := h
  cases hx with
  | @turn c dx y n2 i hc ne r => exact s_ret (ev_spotX (ev_fldC (ev_var rfl) hc rfl) r (by omega) s) q
abbrev sp_TurnedSource_spot (K : PySem.W.Frag) : Sp := spR_TurnedSource_spot K 1
def N_TurnedSource_wrong : List Str := ["self"]
def t_TurnedSource_wrong (K : PySem.W.Frag) (E : XK) : TS :=
  (tRaiseO (He.ga K "Wrong") (sp_Wrong___init__ K) (tCons (tOp rSubI (tMeth (He.ga K "TurnedSource") "spot" (sp_TurnedSource_spot K) [] E0 (tVar 0) tNil) (tC (.int 1))) tNil) E)
def sp_TurnedSource_wrong (K : PySem.W.Frag) : Sp := fun vs H Q E => ∃ (x : V) (a : Addr) (b : List Bool) (t j : Nat) (f n : Bool), vs = [x] ∧ j < srcD ∧ Src K H a x n (j + 1) ∧ SrcB K H a b t f ∧ RaiseD (.ref (He.ga K "Wrong")) ((t : Int) - 1) H E
theorem len_TurnedSource_wrong {K : PySem.W.Frag} {vs H Q E} (h : sp_TurnedSource_wrong K vs H Q E) : vs.length = 1 := by
  obtain ⟨x, a, b, t, j, f, n, rfl, _⟩ := h
  rfl
theorem rd_TurnedSource_wrong {K : PySem.W.Frag} (vs : List V) (H : Hp) (Q : VK) (E : XK) (h : sp_TurnedSource_wrong K vs H Q E) : t_TurnedSource_wrong K E { nx := fun _ H' => Q .non H', rt := Q } (start N_TurnedSource_wrong vs) H := by
  obtain ⟨x, a, b, t, j, f, n, rfl, hj, hx, s, k⟩ := h
  cases hx with
  | @turn c dx y n2 i hc ne r =>
    exact s_raiseO (ea_cons (ev_subI (ev_meth (ev_var rfl) hc rfl ea_nil fun H2 e2 Q q E => ⟨.ref c, a, b, t, _, f, _, rfl, hj, (Src.turn hc ne r).mono (exu e2), s.mono e2, q⟩) ev_c) ea_nil) k
def N_fraction_of : List Str := ["steps", "step", "top", "bottom"]
def t_fraction_of (K : PySem.W.Frag) (E : XK) : TS :=
  (tSeq (tIfS (tOr (tTest (tOp rEq (tCB (rLenK K) (tCons (tVar 0) tNil)) (tC (.int 0)))) (tB (tCall (sp_ends_in_one K) [] E0 (tCons (tVar 0) tNil)))) (tRaiseX (.ref (He.ga K "NoFit")) E) tNext)
    (tSeq (tFor (iList K (tSl (rSlL K) (tVar 0) (tPart (tC (.int 1))) tNoPart)) (gName 1)
    (tIfS (tTest (tOp rLtI (tVar 1) (tC (.int 1)))) (tRaiseX (.ref (He.ga K "NoFit")) E) tNext))
    (tSeq (tPar 2 3 (tCons (tOp (rIxL K) (tVar 0) (tUn (rU fun i => .int (-i)) (tC (.int 1)))) (tCons (tC (.int 1)) tNil)))
    (tSeq (tFor (iRev K (tCons (tSl (rSlL K) (tVar 0) tNoPart (tPart (tUn (rU fun i => .int (-i)) (tC (.int 1))))) tNil)) (gName 1)
    (tPar 2 3 (tCons (tOp rAddI (tOp rMulI (tVar 1) (tVar 2)) (tVar 3)) (tCons (tVar 2) tNil))))
    (tRet (tTup (tCons (tVar 2) (tCons (tVar 3) tNil))))))))
/-- the fraction from its end: the steps from j on -/
theorem frac_at {ns : List Int} {j : Nat} (h : j < ns.length) : fracOf (ns.drop j) = (ns[j] * (fracOf (ns.drop (j + 1))).1 + (fracOf (ns.drop (j + 1))).2, (fracOf (ns.drop (j + 1))).1) := by
  rw [List.drop_eq_getElem_cons h]
  rfl
def sp_fraction_of (K : PySem.W.Frag) : Sp := fun vs H Q E => ∃ (p : Addr) (ns : List Int) (kb : Nat), vs = [.ref p] ∧ SqL K H p (ns.map V.int) ∧ ns.length ≤ 95000 ∧ (∀ s ∈ ns, s.natAbs < 2 ^ kb) ∧ (kb + 1) * ns.length + kb + 10 ≤ 134217728 ∧ (goodS ns → RetU [.int (fracOf ns).1, .int (fracOf ns).2] H Q) ∧ (¬ goodS ns → RaiseX (.ref (He.ga K "NoFit")) H E)
theorem len_fraction_of {K : PySem.W.Frag} {vs H Q E} (h : sp_fraction_of K vs H Q E) : vs.length = 1 := by
  obtain ⟨p, ns, kb, rfl, _⟩ := h
  rfl
theorem u_fraction_of {K : PySem.W.Frag} {H : Hp} {p : Addr} {ns : List Int} (h : SqL K H p (ns.map V.int)) (h1 : ns.length ≤ 20000) (h2 : ∀ s ∈ ns, s.natAbs < 2 ^ 2000) (h3 : goodS ns) : SpU (sp_fraction_of K) [.ref p] H [.int (fracOf ns).1, .int (fracOf ns).2] := fun H1 e Q q E => ⟨p, ns, 2000, rfl, ex_l e h, by omega, h2, by have : (2000 + 1) * ns.length ≤ 2001 * 20000 := Nat.mul_le_mul_left _ h1; omega, fun _ => q, fun z => absurd h3 z⟩
theorem rd_fraction_of {K : PySem.W.Frag} (vs : List V) (H : Hp) (Q : VK) (E : XK) (h : sp_fraction_of K vs H Q E) : t_fraction_of K E { nx := fun _ H' => Q .non H', rt := Q } (start N_fraction_of vs) H := by
  obtain ⟨p, ns, kb, rfl, hp, hn, hsm, hkb, q, x⟩ := h
  have t1 : EvT (tOr (tTest (tOp rEq (tCB (rLenK K) (tCons (tVar 0) tNil)) (tC (.int 0)))) (tB (tCall (sp_ends_in_one K) [] E0 (tCons (tVar 0) tNil)))) (start N_fraction_of [.ref p]) H (decide ((ns.length : Int) = 0) || endsOne ns) :=
    et_or (et_test (ev_eqI (ev_is (ev_lenS (ev_var rfl) (.inl hp)) (by rw [List.length_map])) ev_c)) fun _ => et_B (ev_call (ea_cons (ev_var rfl) ea_nil) (u_ends_in_one hp))
  refine q_when t1 (fun hb H1 e1 => x (fun hg => ?_) H1 e1) (fun hb H1 e1 => ?_)
  · obtain ⟨g1, g2, _⟩ := goodS_iff.mp hg
    have : (ns.length : Int) ≠ 0 := by have := List.length_pos_iff.mpr g1; omega
    rw [g2, decide_eq_false this] at hb
    cases hb
  rw [Bool.or_eq_false_iff, decide_eq_false_iff_not] at hb
  obtain ⟨h0, he⟩ := hb
  have hne : ns ≠ [] := fun z => h0 (by rw [z]; rfl)
  have hpos := List.length_pos_iff.mpr hne
  have hsl := el_sl (K := K) (te := tVar 0) (σ := start N_fraction_of [.ref p]) (ev_var rfl) (eo_some (ev_c (v := .int ((1 : Nat) : Int)))) eo_none (ex_l e1 hp)
  rw [cut_tail] at hsl
  refine q_forNLn hsl (fun r i σ' H' => H' r = some (.lst (ns.tail.map V.int)) ∧ Ex H H' ∧ (∃ u, σ' = [some (.ref p), u, none, none]) ∧ ∀ s ∈ ns.tail.take i, 1 ≤ s) (fun r H2 hr e2 h2 => ⟨h2, e1.trans e2, ⟨none, rfl⟩, fun s hs => by simp at hs⟩) (fun r i σ' H' hi hP => sq_of hP.1) (fun r i y σ' H' hy hP => ?_) (fun r σ' H' hP => ?_)
  · obtain ⟨hr, e2, ⟨u, rfl⟩, hok⟩ := hP
    rw [List.getElem?_map] at hy
    cases hi : ns.tail[i]? with
    | none => rw [hi] at hy; cases hy
    | some s =>
      rw [hi] at hy
      obtain rfl := Option.some.inj hy
      refine s_when (et_test (ev_ltI (ev_var rfl) ev_c)) (fun hb H3 e3 => x (fun hg => ?_) H3 (e2.trans e3)) (fun hb H3 e3 => ⟨e3 _ _ hr, e2.trans e3, ⟨_, rfl⟩, fun s' hs' => ?_⟩)
      · have := (goodS_iff.mp hg).2.2 s (List.mem_of_getElem? hi)
        have := of_decide_eq_true hb
        omega
      · rw [List.take_add_one, hi] at hs'
        rcases List.mem_append.mp hs' with hs' | hs'
        · exact hok s' hs'
        · have : s' = s := by simpa using hs'
          subst this
          have := of_decide_eq_false hb
          omega
  · obtain ⟨hr, e2, ⟨u, rfl⟩, hok⟩ := hP
    rw [List.length_map, List.take_length] at hok
    have hg : goodS ns := goodS_iff.mpr ⟨hne, he, hok⟩
    have q := q hg
    have hgl : ns.getLast? = some (ns.getLast hne) := List.getLast?_eq_some_getLast hne
    refine q_par (x := .int (ns.getLast hne)) (y := .int 1) (ea_cons (ev_op (ev_var rfl) (ev_neg ev_c) (rv_ixL (ex_l e2 hp) (by rw [atI_last (by simpa using hne), List.getLast?_map, hgl]; rfl))) (ea_cons ev_c ea_nil)) fun H3 e3 => ?_
    have hsl2 := el_sl (K := K) (te := tVar 0) (σ := [some (.ref p), u, some (.int (ns.getLast hne)), some (.int 1)]) (ev_var rfl) eo_none (eo_some (ev_neg (ev_c (v := .int 1)))) (ex_l (e2.trans e3) hp)
    rw [cut_init] at hsl2
    have hdl : ns.dropLast.length = ns.length - 1 := List.length_dropLast
    have h00 : fracOf (ns.drop (ns.length - 1)) = (ns.getLast hne, 1) := by
      rw [frac_at (by omega), show ns.length - 1 + 1 = ns.length by omega, List.drop_length]
      show (ns[ns.length - 1] * 1 + 0, (1 : Int)) = _
      rw [List.getLast_eq_getElem]
      simp
    refine q_forRevN hsl2 (fun r i σ' H' => H' r = some (.lst (ns.dropLast.map V.int)) ∧ Ex H H' ∧ i ≤ ns.length - 1 ∧ ∃ u, σ' = [some (.ref p), u, some (.int (fracOf (ns.drop (ns.length - 1 - i))).1), some (.int (fracOf (ns.drop (ns.length - 1 - i))).2)]) (fun r H4 hr e4 h4 => ⟨h4, (e2.trans e3).trans e4, Nat.zero_le _, u, by rw [Nat.sub_zero, h00]; rfl⟩) (fun r i σ' H' hP => sq_of hP.1) (fun r i y σ' H' hi hy hP => ?_) (fun r σ' H' hP => ?_)
    · obtain ⟨hr2, e4, hi1, u2, rfl⟩ := hP
      rw [List.length_map, hdl] at hi hy
      have hj : ns.length - 1 - 1 - i < ns.length := by omega
      have hyv : y = .int ns[ns.length - 1 - 1 - i] := by
        rw [List.getElem?_map, List.getElem?_dropLast, if_pos (by omega), List.getElem?_eq_getElem hj] at hy
        exact (Option.some.inj hy).symm
      subst hyv
      have hfa := frac_at hj
      rw [show ns.length - 1 - 1 - i + 1 = ns.length - 1 - i by omega] at hfa
      obtain ⟨b1, b2⟩ := frac_lt (k := kb) (l := ns.drop (ns.length - 1 - i)) fun s hs => hsm s (List.mem_of_mem_drop hs)
      have b3 := hsm _ (List.getElem_mem hj)
      have hlen : (kb + 1) * (ns.drop (ns.length - 1 - i)).length ≤ (kb + 1) * ns.length := Nat.mul_le_mul_left _ (by rw [List.length_drop]; omega)
      refine s_par (ea_cons (ev_addI (ev_mulI (ev_var rfl) (ev_var rfl) (mulx_ok b3 b1 (by omega))) (ev_var rfl)) (ea_cons (ev_var rfl) ea_nil)) fun H5 e5 => ⟨e5 _ _ hr2, e4.trans e5, by omega, some (.int ns[ns.length - 1 - 1 - i]), ?_⟩
      rw [show ns.length - 1 - (i + 1) = ns.length - 1 - 1 - i by omega, hfa]
      rfl
    · obtain ⟨hr2, e4, hi1, u2, rfl⟩ := hP
      rw [List.length_map, hdl, Nat.sub_self, List.drop_zero]
      exact s_retU (eu_tup (ea_cons (ev_var rfl) (ea_cons (ev_var rfl) ea_nil)) (by simp)) (RetU.mono q e4)
abbrev tm_wrong (K : PySem.W.Frag) (E : XK) (o : TE) (t : TA) : TE := (tOr2 (tMeth (He.ga K "Source") "wrong" (sp_Source_wrong K) [] E o t) (tMeth (He.ga K "TurnedSource") "wrong" (sp_TurnedSource_wrong K) [] E o t))
theorem go_wrong {K : PySem.W.Frag} {σ : L2.St} {H : Hp} {o : TE} {E : XK} {Q : VK} {x : V} {a : Addr} {b : List Bool} {t : Nat} {f n : Bool} (h : Ev o σ H x) (r : Rdr srcD K H x a b f n t) (k : RaiseU a (.ref (He.ga K "Wrong")) ((t : Int) - 1) H E) : tm_wrong K E o tNil σ H Q := by
  obtain ⟨⟨j, hj, hx⟩, s, l⟩ := r
  cases hx with
  | base => exact .inl (go_wrong0 h s k)
  | @turn c dx y n2 i hc ne r =>
    exact .inr (go_meth h hc rfl (fun H1 e => ea_nil) fun H1 e => ⟨.ref c, a, b, t, i, f, _, rfl, hj, (Src.turn hc ne r).mono (exu e), s.mono e, (k.d s.some).mono e⟩)
def N_take_fraction : List Str := ["source", "steps", "lanes"]
def t_take_fraction (K : PySem.W.Frag) (E : XK) : TS :=
  (tSeq (tAsg (tLst (tCons (tCall (sp_take_whole K) [] E (tCons (tVar 0) tNil)) tNil)) (gName 1))
    (tSeq (tAsg (tLst (tCons (tVar 0) (tCons (tMake (He.ga K "TurnedSource") (sp_TurnedSource___init__ K) [] E0 (tCons (tVar 0) tNil)) tNil))) (gName 2))
    (tSeq (tWhile (tTest (tOp rEq (tm_take K E (tOp (rIxL K) (tVar 2) (tOp rModI (tOp rSubI (tCB (rLenK K) (tCons (tVar 1) tNil)) (tC (.int 1))) (tC (.int 2)))) (tCons (tOp (rIxL K) (tLst (tCons (tC (.str (Kr.T [48]))) (tCons (tC (.str (Kr.T [49]))) tNil))) (tCB rIntB (tCons (tCall (sp_ends_in_one K) [] E0 (tCons (tVar 1) tNil)) tNil))) tNil)) (tC (.str (Kr.T [49])))))
    (tDrop (tBM K "list" rAppend (tVar 1) (tCons (tOp rAddI (tCall (sp_take_count K) [] E (tCons (tOp (rIxL K) (tVar 2) (tOp rModI (tCB (rLenK K) (tCons (tVar 1) tNil)) (tC (.int 2)))) (tCons (tC (.str (Kr.T [49]))) tNil))) (tC (.int 1))) tNil))))
    (tSeq (tIfS (tB (tCall (sp_ends_in_one K) [] E0 (tCons (tVar 1) tNil))) (tDrop (tm_wrong K E (tOp (rIxL K) (tVar 2) (tOp rModI (tOp rSubI (tCB (rLenK K) (tCons (tVar 1) tNil)) (tC (.int 1))) (tC (.int 2)))) tNil)) tNext)
    (tRet (tCall (sp_fraction_of K) [] E (tCons (tVar 1) tNil)))))))
def sp_take_fraction (K : PySem.W.Frag) : Sp := fun vs H Q E => ∃ (x : V) (a : Addr) (b : List Bool) (f n : Bool) (t j : Nat), vs = [x] ∧ j < srcD ∧ Src K H a x n j ∧ SrcB K H a b t f ∧ b.length ≤ 90000 ∧ FinU K a b f H Q E (tfrac b f n t)
theorem len_take_fraction {K : PySem.W.Frag} {vs H Q E} (h : sp_take_fraction K vs H Q E) : vs.length = 1 := by
  obtain ⟨x, a, b, f, n, t, j, rfl, _⟩ := h
  rfl
theorem lane_cases (n : Bool) (k : Nat) : (k % 2 = 0 ∧ lane n k = n) ∨ (k % 2 = 1 ∧ lane n k = !n) := by
  unfold lane
  rcases Nat.mod_two_eq_zero_or_one k with h | h
  · exact .inl ⟨h, by rw [if_neg (by omega)]⟩
  · exact .inr ⟨h, by rw [if_pos h]⟩
theorem bc_pick (c : Bool) : atI ([.str (T [48]), .str (T [49])] : List V) (if c then 1 else 0) = some (.str (T [bc c])) := by cases c <;> rfl
theorem endsOne_snoc (l : List Int) (v : Int) : endsOne (l ++ [v]) = true → v = 1 := by
  unfold endsOne
  intro h
  have := (of_decide_eq_true h).2
  simpa using this
theorem rd_take_fraction {K : PySem.W.Frag} (vs : List V) (H : Hp) (Q : VK) (E : XK) (h : sp_take_fraction K vs H Q E) : t_take_fraction K E { nx := fun _ H' => Q .non H', rt := Q } (start N_take_fraction vs) H := by
  obtain ⟨x, a, b, f, n, t, j, rfl, hj, hx, hs, hb, q⟩ := h
  refine q_asgLF (vs := [x]) (ea_cons (ev_var rfl) ea_nil) fun H1 e1 Q2 hk => ⟨x, a, b, f, n, t, j, rfl, hj, hx.mono (exu e1), hs.mono e1, by omega, FinU.stepB q (exu e1) fun w t1 H2 hw e2 s2 q2 => hk (.int w) H2 fun l hl => ?_⟩
  obtain ⟨hwo, htt⟩ := twhole_gen hw
  have e02 := (exu (a := a) e1).trans e2
  have hla : l ≠ a := fun z => s2.some (by rw [← z]; exact hl)
  have hlH : H l = none := fresh_backU e02 hla hl
  have x3 : Src K (upd H2 l (.lst [.int w])) a x n j := hx.mono (e02.trans (exu (Ex.new hl)))
  -- the two lanes
  refine ⟨x, rfl, go_turned (ev_var rfl) fun c dx H4 e4 hc h4 => ⟨sz_of (by simp), fun pl hpl => ?_⟩⟩
  have hcl : c ≠ l := fun z => by rw [z, upd_same] at hc; cases hc
  have hca : c ≠ a := fun z => by
    rw [z, upd_ne (Ne.symm hla)] at hc
    exact s2.some hc
  have h4l : H4 l = some (.lst [.int w]) := e4 _ _ upd_same
  have h4a := (s2.mono (Ex.new hl)).mono e4
  have hpll : pl ≠ l := fun z => by rw [z, h4l] at hpl; cases hpl
  have hplc : pl ≠ c := fun z => by rw [z, h4] at hpl; cases hpl
  have hpla : pl ≠ a := fun z => h4a.some (by rw [← z]; exact hpl)
  have e5 : Ex H4 (upd H4 pl (.lst [x, .ref c])) := Ex.new hpl
  have eH5 : ExU a H (upd H4 pl (.lst [x, .ref c])) := e02.trans (exu (((Ex.new hl).trans e4).trans e5))
  have x5 : Src K (upd H4 pl (.lst [x, .ref c])) a x n j := hx.mono eH5
  show tSeq (tWhile _ _) _ _ [some x, some (.ref l), some (.ref pl)] (upd H4 pl (.lst [x, .ref c]))
  -- what stands at every turn
  let St := fun (H' : Hp) (ns : List Int) (t' : Nat) => ExU a H H' ∧ H' l = some (.lst (ns.map V.int)) ∧ H' pl = some (.lst [x, .ref c]) ∧ Src K H' a x n j ∧ H' c = some (.ins (He.ga K "TurnedSource") dx [("inner", x)]) ∧ SrcB K H' a b t' f
  have stmono : ∀ (H' H'' : Hp) (ns : List Int) (t' : Nat), Ex H' H'' → St H' ns t' → St H'' ns t' := fun H' H'' ns t' e ⟨a1, a2, a3, a4, a5, a6⟩ => ⟨a1.trans (exu e), e _ _ a2, e _ _ a3, a4.mono (exu e), e _ _ a5, a6.mono e⟩
  have stafter : ∀ (H' H'' : Hp) (ns : List Int) (t' t'' : Nat), ExU a H' H'' → SrcB K H'' a b t'' f → St H' ns t' → St H'' ns t'' := fun H' H'' ns t' t'' e s ⟨a1, a2, a3, a4, a5, a6⟩ => ⟨a1.trans e, e _ _ hla a2, e _ _ hpla a3, a4.mono e, e _ _ hca a5, s⟩
  -- the lane of a step
  have ln : ∀ (H' : Hp) (ns : List Int) (t' k : Nat) (te : TE), St H' ns t' → Ev te [some x, some (.ref l), some (.ref pl)] H' (.int ((k % 2 : Nat) : Int)) → ∃ y, Ev (tOp (rIxL K) (tVar 2) te) [some x, some (.ref l), some (.ref pl)] H' y ∧ Rdr srcD K H' y a b f (lane n k) t' := fun H' ns t' k te ⟨a1, a2, a3, a4, a5, a6⟩ hte => by
    rcases lane_cases n k with ⟨hk, hl⟩ | ⟨hk, hl⟩
    · rw [hk] at hte
      exact ⟨x, ev_op (ev_var rfl) hte (rv_ixL (i := ((0 : Nat) : Int)) (sq_of a3) rfl), ⟨⟨j, by omega, by rw [hl]; exact a4⟩, a6, by omega⟩⟩
    · rw [hk] at hte
      exact ⟨.ref c, ev_op (ev_var rfl) hte (rv_ixL (i := ((1 : Nat) : Int)) (sq_of a3) rfl), ⟨⟨j + 1, hj, by rw [hl]; exact .turn a5 hca a4⟩, a6, by omega⟩⟩
  have k1 : ∀ (H' : Hp) (ns : List Int) (t' : Nat), St H' ns t' → ns ≠ [] → Ev (tOp rModI (tOp rSubI (tCB (rLenK K) (tCons (tVar 1) tNil)) (tC (.int 1))) (tC (.int 2))) [some x, some (.ref l), some (.ref pl)] H' (.int (((ns.length - 1) % 2 : Nat) : Int)) := fun H' ns t' hSt hne => by
    have hpos := List.length_pos_iff.mpr hne
    refine ev_is (ev_modI (ev_subI (ev_is (ev_lenS (ev_var rfl) (.inl (sq_of hSt.2.1))) (by rw [List.length_map])) ev_c) ev_c (by decide)) ?_
    congr 1
    omega
  have k2 : ∀ (H' : Hp) (ns : List Int) (t' : Nat), St H' ns t' → Ev (tOp rModI (tCB (rLenK K) (tCons (tVar 1) tNil)) (tC (.int 2))) [some x, some (.ref l), some (.ref pl)] H' (.int ((ns.length % 2 : Nat) : Int)) := fun H' ns t' hSt => by
    refine ev_is (ev_modI (ev_is (ev_lenS (ev_var rfl) (.inl (sq_of hSt.2.1))) (by rw [List.length_map])) ev_c (by decide)) ?_
    congr 1
  refine (⟨fun m σ' H' => ∃ (ns : List Int) (t' k : Nat), m = k ∧ ns ≠ [] ∧ σ' = [some x, some (.ref l), some (.ref pl)] ∧ St H' ns t' ∧ 2 * (b.length - t') + (if endsOne ns then 1 else 0) < k ∧ (∀ s ∈ ns, s.natAbs < 2 ^ 256) ∧ (∀ s ∈ ns.tail, 1 ≤ s) ∧ ns.length + (b.length - t') + (if endsOne ns then 1 else 0) ≤ b.length + (if t' < b.length then 0 else 1) ∧ FinU K a b f H Q E (tfracGo b f n k ns t'),
    ⟨2 * (b.length - t1) + 3, [w], t1, 2 * (b.length - t1) + 3, rfl, by simp, rfl, ⟨eH5, by rw [upd_ne (Ne.symm hpll)]; exact h4l, upd_same, x5, e5 _ _ h4, h4a.mono e5⟩, by split <;> omega, fun s hs => by
      rw [List.mem_singleton.mp hs]
      have := hwo.1; have := hwo.2
      omega, fun s hs => by simp at hs, by rw [show endsOne [w] = false from rfl]; by_cases hq : t1 < b.length <;> simp [hq] <;> omega, q2⟩, ?_⟩ : tSeq (tWhile _ _) _ _ _ _)
  rintro m σ' H' ⟨ns, t', k, rfl, hne, rfl, hSt, hk, hsm, hpos1, hlen, q'⟩
  obtain ⟨k', rfl⟩ : ∃ k', m = k' + 1 := ⟨m - 1, by omega⟩
  have hnl : ns.length ≤ 90001 := by split at hlen <;> split at hlen <;> omega
  rw [tfracGo] at q'
  obtain ⟨y, hy, hr⟩ := ln H' ns t' (ns.length - 1) _ hSt (k1 H' ns t' hSt hne)
  have hwish : Ev (tOp (rIxL K) (tLst (tCons (tC (.str (T [48]))) (tCons (tC (.str (T [49]))) tNil))) (tCB rIntB (tCons (tCall (sp_ends_in_one K) [] E0 (tCons (tVar 1) tNil)) tNil))) [some x, some (.ref l), some (.ref pl)] H' (.str (T [bc (endsOne ns)])) :=
    ev_ixNL (el_lst (ea_cons ev_c (ea_cons ev_c ea_nil)) (by simp)) (fun H9 e9 => ev_intB (ev_call (ea_cons (ev_var rfl) ea_nil) (u_ends_in_one (sq_of (e9 _ _ hSt.2.1))))) (bc_pick _)
  have go : GoS (tm_take K E (tOp (rIxL K) (tVar 2) (tOp rModI (tOp rSubI (tCB (rLenK K) (tCons (tVar 1) tNil)) (tC (.int 1))) (tC (.int 2)))) (tCons (tOp (rIxL K) (tLst (tCons (tC (.str (T [48]))) (tCons (tC (.str (T [49]))) tNil))) (tCB rIntB (tCons (tCall (sp_ends_in_one K) [] E0 (tCons (tVar 1) tNil)) tNil))) tNil)) [some x, some (.ref l), some (.ref pl)] H' fun c2 H2 => ∃ t2, takeB b f (lane n (ns.length - 1)) (endsOne ns) t' = .ok c2 t2 ∧ ExU a H' H2 ∧ SrcB K H2 a b t2 f ∧ FinU K a b f H Q E (if c2 then (tcount b f (lane n ns.length) true t2).bind fun v t3 => tfracGo b f n k' (ns ++ [v + 1]) t3 else if endsOne ns then .bad "Wrong" ((t2 : Int) - 1) else .ok ns t2) := fun H9 e9 Q9 h9 => by
    obtain ⟨⟨j2, hj2, hx2⟩, s2', l2⟩ := hr
    exact go_take (hy.mono e9) (hwish.mono e9) (hx2.mono (exu e9)) hj2 (s2'.mono e9) l2 (FinU.stepB q' (hSt.1.trans (exu e9)) fun c2 t2 H2 et e2 s2 q2 => h9 c2 H2 ⟨t2, et, (exu e9).trans e2, s2, q2⟩)
  refine t_one go fun c2 H6 H7 hp e7 => ?_
  obtain ⟨t2, ht2, e6, s6, q6⟩ := hp
  have ht3 := takeB_next ht2
  have hSt7 : St H7 ns t2 := stmono H6 H7 ns t2 e7 (stafter H' H6 ns t' t2 e6 s6 hSt)
  cases c2 with
  | true =>
    obtain ⟨y2, hy2, hr2⟩ := ln H7 ns t2 ns.length _ hSt7 (k2 H7 ns t2 hSt7)
    refine ⟨_, fun _ _ h => h, s_appF (c := 1) (vs := [y2, .str (T [bc true])]) hSt7.2.1 (ev_var rfl) (ea_cons hy2 (ea_cons ev_c ea_nil)) fun H8 e8 Q3 hk3 => ?_⟩
    refine ⟨y2, a, b, f, _, true, t2, rfl, hr2.mono e8, FinU.stepB q6 (hSt7.1.trans (exu e8)) fun v t3 H9 hv e9 s9 q9 => ?_⟩
    obtain ⟨hvo, ht4⟩ := tcount_gen hv
    have hSt9 : St H9 ns t3 := stafter H8 H9 ns t2 t3 e9 s9 (stmono H7 H8 ns t2 e8 hSt7)
    have hend : endsOne (ns ++ [v + 1]) = true → b.length ≤ t' → False := fun he hbt => by
      have hv0 := endsOne_snoc ns (v + 1) he
      -- beyond the end only the wished signs are read
      have hf : f = true := by
        cases f with
        | true => rfl
        | false =>
          unfold takeB at ht2
          rw [List.getElem?_eq_none hbt] at ht2
          cases ht2
      subst hf
      obtain ⟨t9, h9⟩ := tcount_wish (n := lane n ns.length) (show b.length ≤ t2 by omega)
      rw [h9] at hv
      cases hv
      omega
    have hmeas : 2 * (b.length - t3) + (if endsOne (ns ++ [v + 1]) then 1 else 0) < 2 * (b.length - t') + (if endsOne ns then 1 else 0) := by
      by_cases hbt : b.length ≤ t'
      · have h1 : endsOne (ns ++ [v + 1]) = false := by
          cases h : endsOne (ns ++ [v + 1]) with
          | false => rfl
          | true => exact (hend h hbt).elim
        have h2 : endsOne ns = true := by
          unfold takeB at ht2
          rw [List.getElem?_eq_none hbt] at ht2
          cases f with
          | true => exact (Res.ok.inj ht2).1
          | false => cases ht2
        rw [h1, h2]
        simp
        omega
      · split <;> split <;> omega
    refine hk3 v H9 hSt9.2.1 (by rw [List.length_map]; omega) ev_c fun H10 e10 => ?_
    refine ⟨k', Nat.lt_succ_self _, ns ++ [v + 1], t3, k', rfl, by simp, rfl, ?_, by omega, ?_, ?_, ?_, q9⟩
    · obtain ⟨a1, a2, a3, a4, a5, a6⟩ := stmono H9 H10 ns t3 e10 hSt9
      refine ⟨exu_mut a1 hlH, by rw [upd_same, List.map_append]; rfl, by rw [upd_ne hpll]; exact a3, hx.mono (exu_mut a1 hlH), ?_, ?_⟩
      · rw [upd_ne hcl]; exact a5
      · obtain ⟨d6, h6⟩ := a6
        exact ⟨d6, by rw [upd_ne (Ne.symm hla)]; exact h6⟩
    · intro s hs
      rcases List.mem_append.mp hs with hs | hs
      · exact hsm s hs
      · rw [List.mem_singleton.mp hs]
        have := hvo.1; have := hvo.2
        omega
    · intro s hs
      cases ns with
      | nil => exact absurd rfl hne
      | cons a0 r0 =>
        rw [List.cons_append, List.tail_cons] at hs
        rcases List.mem_append.mp hs with hs | hs
        · exact hpos1 s hs
        · rw [List.mem_singleton.mp hs]
          have := hvo.1
          omega
    · rw [List.length_append, List.length_singleton]
      by_cases hbt : b.length ≤ t'
      · have h1 : endsOne (ns ++ [v + 1]) = false := by
          cases h : endsOne (ns ++ [v + 1]) with
          | false => rfl
          | true => exact (hend h hbt).elim
        have h2 : endsOne ns = true := by
          unfold takeB at ht2
          rw [List.getElem?_eq_none hbt] at ht2
          cases f with
          | true => exact (Res.ok.inj ht2).1
          | false => cases ht2
        rw [h2, if_neg (show ¬ t' < b.length by omega)] at hlen
        rw [h1, if_neg (show ¬ t3 < b.length by omega)]
        simp at hlen ⊢
        omega
      · rw [if_pos (show t' < b.length by omega)] at hlen
        split at hlen <;> split <;> split <;> omega
  | false =>
    refine q_when (et_B (ev_call (ea_cons (ev_var rfl) ea_nil) (u_ends_in_one (sq_of hSt7.2.1)))) (fun he H8 e8 => ?_) (fun he H8 e8 => ?_)
    · rw [he] at q6
      obtain ⟨y2, hy2, hr2⟩ := ln H8 ns t2 (ns.length - 1) _ (stmono H7 H8 ns t2 e8 hSt7) (k1 H8 ns t2 (stmono H7 H8 ns t2 e8 hSt7) hne)
      exact go_wrong hy2 hr2 (RaiseU.mono (hSt7.1.trans (exu e8)) q6)
    · rw [he] at q6
      have hSt8 := stmono H7 H8 ns t2 e8 hSt7
      refine s_retF (vs := [.ref l]) (ea_cons (ev_var rfl) ea_nil) fun H9 e9 => ⟨l, ns, 256, rfl, sq_of (e9 _ _ hSt8.2.1), by omega, hsm, by omega, fun _ p H10 hp e10 h10 => ?_, fun z => absurd (goodS_iff.mpr ⟨hne, he, hpos1⟩) z⟩
      have hSt10 := stmono H8 H10 ns t2 (e9.trans e10) hSt8
      have hpa : p ≠ a := fun z => ((stmono H8 H9 ns t2 e9 hSt8).2.2.2.2.2).some (by rw [← z]; exact hp)
      exact q6 p H10 (fresh_backU (hSt8.1.trans (exu e9)) hpa hp) hSt10.1 h10 hSt10.2.2.2.2.2
def N_read_fraction : List Str := ["signs", "at", "source", "fraction"]
def t_read_fraction (K : PySem.W.Frag) (E : XK) : TS :=
  (tSeq (tAsg (tMake (He.ga K "Source") (sp_Source___init__ K) [] E0 (tCons (tVar 0) (tCons (tVar 1) (tCons (tC (.bl false)) tNil)))) (gName 2))
    (tSeq (tAsg (tCall (sp_take_fraction K) [] E (tCons (tVar 2) tNil)) (gName 3))
    (tRet (tTup (tCons (tVar 3) (tCons (tMeth (He.ga K "Source") "spot" (sp_Source_spot K) [] E0 (tVar 2) tNil) tNil))))))
def FinR2 (K : PySem.W.Frag) (H : Hp) (Q : VK) (E : XK) : Res (List Int) → Prop
  | .ok l t => ∀ p r H2, H p = none → H r = none → Ex H H2 → H2 r = some (.tup [.int (fracOf l).1, .int (fracOf l).2]) → H2 p = some (.tup [.ref r, .int (t : Int)]) → Q (.ref p) H2
  | .bad c p => RaiseD (.ref (He.ga K c)) p H E
def sp_read_fraction (K : PySem.W.Frag) : Sp := fun vs H Q E => ∃ (b : List Bool) (t : Nat), vs = [.str (T (R b)), .int (t : Int)] ∧ b.length ≤ 90000 ∧ FinR2 K H Q E (tfrac b false false t)
theorem len_read_fraction {K : PySem.W.Frag} {vs H Q E} (h : sp_read_fraction K vs H Q E) : vs.length = 2 := by
  obtain ⟨b, t, rfl, _⟩ := h
  rfl
theorem rd_read_fraction {K : PySem.W.Frag} (vs : List V) (H : Hp) (Q : VK) (E : XK) (h : sp_read_fraction K vs H Q E) : t_read_fraction K E { nx := fun _ H' => Q .non H', rt := Q } (start N_read_fraction vs) H := by
  obtain ⟨b, t, rfl, hb, q⟩ := h
  refine q_source (b := b) (t := t) (f := false) (ea_cons (ev_var rfl) (ea_cons (ev_var rfl) (ea_cons ev_c ea_nil))) fun x H1 e1 hx s1 => ?_
  refine q_asgF (vs := [.ref x]) (ea_cons (ev_var rfl) ea_nil) fun H2 e2 => ⟨.ref x, x, b, false, false, t, 0, rfl, by decide, .base, s1.mono e2, hb, ?_⟩
  have e02 := e1.trans e2
  cases hr : tfrac b false false t with
  | ok l t' =>
    rw [hr] at q
    intro r H3 hrn e3 h3 s3
    have e03 : Ex H H3 := ((exu e02).trans e3).ex hx
    refine s_retU (eu_tup (ea_cons (ev_var rfl) (ea_cons (ev_spot (ev_var rfl) s3) ea_nil)) (by simp)) fun p H4 hp e4 h4 => ?_
    exact q p r H4 (fresh_back e03 hp) (fresh_back e02 hrn) (e03.trans e4) (e4 _ _ h3) h4
  | bad c p =>
    rw [hr] at q
    exact fun d H' hn hd e' h' => q d H' (fresh_back e02 hd) (((exu e02).trans e').ex hx) h'
def N__law_fraction : List Str := ["_law_steps_here", "_law_top", "_law_bottom", "_law_step"]
def t__law_fraction (K : PySem.W.Frag) : TS :=
  (tSeq (tAsg (tOp (rIxL K) (tVar 0) (tUn (rU fun i => .int (-i)) (tC (.int 1)))) (gName 1))
    (tSeq (tAsg (tC (.int 1)) (gName 2))
    (tSeq (tFor (iRev K (tCons (tSl (rSlL K) (tVar 0) tNoPart (tPart (tUn (rU fun i => .int (-i)) (tC (.int 1))))) tNil)) (gName 3)
    (tPar 1 2 (tCons (tOp rAddI (tOp rMulI (tVar 3) (tVar 1)) (tVar 2)) (tCons (tVar 1) tNil))))
    (tRet (tTup (tCons (tVar 1) (tCons (tVar 2) tNil)))))))
def sp__law_fraction (K : PySem.W.Frag) : Sp := fun vs H Q _ => ∃ (p : Addr) (ns : List Int), vs = [.ref p] ∧ SqL K H p (ns.map V.int) ∧ ns ≠ [] ∧ ns.length ≤ 20000 ∧ (∀ s ∈ ns, s.natAbs < 2 ^ 2000) ∧ RetU [.int (fracOf ns).1, .int (fracOf ns).2] H Q
theorem len__law_fraction {K : PySem.W.Frag} {vs H Q E} (h : sp__law_fraction K vs H Q E) : vs.length = 1 := by
  obtain ⟨p, ns, rfl, _⟩ := h
  rfl
theorem u__law_fraction {K : PySem.W.Frag} {H : Hp} {p : Addr} {ns : List Int} (h : SqL K H p (ns.map V.int)) (h0 : ns ≠ []) (h1 : ns.length ≤ 20000) (h2 : ∀ s ∈ ns, s.natAbs < 2 ^ 2000) : SpU (sp__law_fraction K) [.ref p] H [.int (fracOf ns).1, .int (fracOf ns).2] := fun H1 e Q q E => ⟨p, ns, rfl, ex_l e h, h0, h1, h2, q⟩
theorem frac_atL {ns : List Int} {j : Nat} (h : j < ns.length) : fracOf (ns.drop j) = (ns[j] * (fracOf (ns.drop (j + 1))).1 + (fracOf (ns.drop (j + 1))).2, (fracOf (ns.drop (j + 1))).1) := by
  rw [List.drop_eq_getElem_cons h]
  rfl
theorem rd__law_fraction {K : PySem.W.Frag} (vs : List V) (H : Hp) (Q : VK) (E : XK) (h : sp__law_fraction K vs H Q E) : t__law_fraction K { nx := fun _ H' => Q .non H', rt := Q } (start N__law_fraction vs) H := by
  obtain ⟨p, ns, rfl, hp, hne, hn, hsm, q⟩ := h
  have hpos := List.length_pos_iff.mpr hne
  have hgl : ns.getLast? = some (ns.getLast hne) := List.getLast?_eq_some_getLast hne
  refine q_asg (v := .int (ns.getLast hne)) (ev_op (ev_var rfl) (ev_neg ev_c) (rv_ixL hp (by rw [atI_last (by simpa using hne), List.getLast?_map, hgl]; rfl))) fun H1 e1 => ?_
  refine q_asg ev_c fun H2 e2 => ?_
  have e02 := e1.trans e2
  have hsl2 := el_sl (K := K) (te := tVar 0) (σ := [some (.ref p), some (.int (ns.getLast hne)), some (.int 1), none]) (ev_var rfl) eo_none (eo_some (ev_neg (ev_c (v := .int 1)))) (ex_l e02 hp)
  rw [cut_init] at hsl2
  have hdl : ns.dropLast.length = ns.length - 1 := List.length_dropLast
  have h00 : fracOf (ns.drop (ns.length - 1)) = (ns.getLast hne, 1) := by
    rw [frac_atL (by omega), show ns.length - 1 + 1 = ns.length by omega, List.drop_length]
    show (ns[ns.length - 1] * 1 + 0, (1 : Int)) = _
    rw [List.getLast_eq_getElem]
    simp
  refine q_forRevN hsl2 (fun r i σ' H' => H' r = some (.lst (ns.dropLast.map V.int)) ∧ Ex H H' ∧ i ≤ ns.length - 1 ∧ ∃ u, σ' = [some (.ref p), some (.int (fracOf (ns.drop (ns.length - 1 - i))).1), some (.int (fracOf (ns.drop (ns.length - 1 - i))).2), u]) (fun r H4 hr e4 h4 => ⟨h4, e02.trans e4, Nat.zero_le _, none, by rw [Nat.sub_zero, h00]; rfl⟩) (fun r i σ' H' hP => sq_of hP.1) (fun r i y σ' H' hi hy hP => ?_) (fun r σ' H' hP => ?_)
  · obtain ⟨hr2, e4, hi1, u2, rfl⟩ := hP
    rw [List.length_map, hdl] at hi hy
    have hj : ns.length - 1 - 1 - i < ns.length := by omega
    have hyv : y = .int ns[ns.length - 1 - 1 - i] := by
      rw [List.getElem?_map, List.getElem?_dropLast, if_pos (by omega), List.getElem?_eq_getElem hj] at hy
      exact (Option.some.inj hy).symm
    subst hyv
    have hfa := frac_atL hj
    rw [show ns.length - 1 - 1 - i + 1 = ns.length - 1 - i by omega] at hfa
    obtain ⟨b1, b2⟩ := frac_lt (k := 2000) (l := ns.drop (ns.length - 1 - i)) fun s hs => hsm s (List.mem_of_mem_drop hs)
    have b3 := hsm _ (List.getElem_mem hj)
    have hlen : (2000 + 1) * (ns.drop (ns.length - 1 - i)).length ≤ 2001 * 20000 := Nat.mul_le_mul_left _ (by rw [List.length_drop]; omega)
    refine s_par (ea_cons (ev_addI (ev_mulI (ev_var rfl) (ev_var rfl) (mulx_ok b3 b1 (by omega))) (ev_var rfl)) (ea_cons (ev_var rfl) ea_nil)) fun H5 e5 => ⟨e5 _ _ hr2, e4.trans e5, by omega, some (.int ns[ns.length - 1 - 1 - i]), ?_⟩
    rw [show ns.length - 1 - (i + 1) = ns.length - 1 - 1 - i by omega, hfa]
    rfl
  · obtain ⟨hr2, e4, hi1, u2, rfl⟩ := hP
    rw [List.length_map, hdl, Nat.sub_self, List.drop_zero]
    exact s_retU (eu_tup (ea_cons (ev_var rfl) (ea_cons (ev_var rfl) ea_nil)) (by simp)) (RetU.mono q e4)
def N__law_whole : List Str := ["_law_found"]
def t__law_whole (K : PySem.W.Frag) : TS :=
  (tRet (tAndV (tCB (rIsi K) (tCons (tVar 0) (tCons (tC (.ty "int")) tNil))) (tNotV (tCB (rIsi K) (tCons (tVar 0) (tCons (tC (.ty "bool")) tNil))))))
def sp__law_whole (_ : PySem.W.Frag) : Sp := fun vs H Q _ => ∃ i : Int, vs = [.int i] ∧ RetV (.bl true) H Q
theorem len__law_whole {K : PySem.W.Frag} {vs H Q E} (h : sp__law_whole K vs H Q E) : vs.length = 1 := by
  obtain ⟨i, rfl, _⟩ := h
  rfl
theorem u__law_whole {K : PySem.W.Frag} {H : Hp} {i : Int} : SpV (sp__law_whole K) [.int i] H (.bl true) := fun H1 e Q q E => ⟨i, rfl, q⟩
theorem rd__law_whole {K : PySem.W.Frag} (vs : List V) (H : Hp) (Q : VK) (E : XK) (h : sp__law_whole K vs H Q E) : t__law_whole K { nx := fun _ H' => Q .non H', rt := Q } (start N__law_whole vs) H := by
  obtain ⟨i, rfl, q⟩ := h
  exact s_ret (v := .bl true) (ev_is (ev_andV (a := true) (b := true) (ev_isi (ev_var rfl) rfl (by decide +kernel)) fun _ => ev_notV (a := false) (ev_isi (ev_var rfl) rfl (by decide +kernel))) rfl) fun H1 e1 => q H1 e1
def N__law_numbers : List Str := ["_law_found", "_law_due", "_law_kind", "_law_k"]
def t__law_numbers (K : PySem.W.Frag) : TS :=
  (tSeq (tIfS (tOr (tAnd (tTest (tOp rEq (tVar 2) (tC (.str (Kr.T [108, 105, 115, 116]))))) (tNot (tB (tCB (rIsi K) (tCons (tVar 0) (tCons (tC (.ty "list")) tNil)))))) (tAnd (tTest (tOp rEq (tVar 2) (tC (.str (Kr.T [116, 117, 112, 108, 101]))))) (tNot (tB (tCB (rIsi K) (tCons (tVar 0) (tCons (tC (.ty "tuple")) tNil))))))) (tRet (tC (.bl false))) tNext)
    (tSeq (tIfS (tTest (tOp rNe (tCB (rLenK K) (tCons (tVar 0) tNil)) (tCB (rLenK K) (tCons (tVar 1) tNil)))) (tRet (tC (.bl false))) tNext)
    (tSeq (tFor (iRng1 (tCons (tCB (rLenK K) (tCons (tVar 1) tNil)) tNil)) (gName 3)
    (tIfS (tOr (tNot (tB (tCall (sp__law_whole K) [] E0 (tCons (tOp (rIxA K) (tVar 0) (tVar 3)) tNil)))) (tTest (tOp rNe (tOp (rIxA K) (tVar 0) (tVar 3)) (tOp (rIxA K) (tVar 1) (tVar 3))))) (tRet (tC (.bl false))) tNext))
    (tRet (tC (.bl true))))))
/-- a list (kind "list") or a tuple (kind "tuple") of the numbers due -/
def sp__law_numbers (K : PySem.W.Frag) : Sp := fun vs H Q _ => ∃ (p r : Addr) (ns : List Int) (lst : Bool), vs = [.ref p, .ref r, .str (T (if lst then [108, 105, 115, 116] else [116, 117, 112, 108, 101]))] ∧
  (if lst then H p = some (.lst (ns.map V.int)) else H p = some (.tup (ns.map V.int))) ∧ (SqL K H r (ns.map V.int) ∨ SqT K H r (ns.map V.int)) ∧ ns.length ≤ 40000 ∧ RetV (.bl true) H Q
theorem len__law_numbers {K : PySem.W.Frag} {vs H Q E} (h : sp__law_numbers K vs H Q E) : vs.length = 3 := by
  obtain ⟨p, r, ns, lst, rfl, _⟩ := h
  rfl
theorem u__law_numbersL {K : PySem.W.Frag} {H : Hp} {p r : Addr} {ns : List Int} (h : H p = some (.lst (ns.map V.int))) (hr : SqL K H r (ns.map V.int) ∨ SqT K H r (ns.map V.int)) (hn : ns.length ≤ 40000) : SpV (sp__law_numbers K) [.ref p, .ref r, .str (T [108, 105, 115, 116])] H (.bl true) := fun H1 e Q q E => ⟨p, r, ns, true, rfl, e _ _ h, hr.imp (ex_l e) (ex_t e), hn, q⟩
theorem u__law_numbersT {K : PySem.W.Frag} {H : Hp} {p r : Addr} {ns : List Int} (h : H p = some (.tup (ns.map V.int))) (hr : SqL K H r (ns.map V.int) ∨ SqT K H r (ns.map V.int)) (hn : ns.length ≤ 40000) : SpV (sp__law_numbers K) [.ref p, .ref r, .str (T [116, 117, 112, 108, 101])] H (.bl true) := fun H1 e Q q E => ⟨p, r, ns, false, rfl, e _ _ h, hr.imp (ex_l e) (ex_t e), hn, q⟩
theorem rd__law_numbers {K : PySem.W.Frag} (vs : List V) (H : Hp) (Q : VK) (E : XK) (h : sp__law_numbers K vs H Q E) : t__law_numbers K { nx := fun _ H' => Q .non H', rt := Q } (start N__law_numbers vs) H := by
  obtain ⟨p, r, ns, lst, rfl, hp, hr, hn, q⟩ := h
  have hps : SqL K H p (ns.map V.int) ∨ SqT K H p (ns.map V.int) := by
    cases lst with
    | true => exact .inl (sq_of hp)
    | false => exact .inr (st_of hp)
  have kind : EvT (tOr (tAnd (tTest (tOp rEq (tVar 2) (tC (.str (T [108, 105, 115, 116]))))) (tNot (tB (tCB (rIsi K) (tCons (tVar 0) (tCons (tC (.ty "list")) tNil)))))) (tAnd (tTest (tOp rEq (tVar 2) (tC (.str (T [116, 117, 112, 108, 101]))))) (tNot (tB (tCB (rIsi K) (tCons (tVar 0) (tCons (tC (.ty "tuple")) tNil))))))) (start N__law_numbers [.ref p, .ref r, .str (T (if lst then [108, 105, 115, 116] else [116, 117, 112, 108, 101]))]) H false := by
    cases lst with
    | true =>
      exact et_is (et_or (a := false) (b := false) (et_is (et_and (a := true) (b := false) (et_test (ev_is (ev_eqT (ev_var rfl) ev_c) (by decide))) fun _ => et_not (a := true) (et_B (ev_isiL (ev_var rfl) hp (by decide +kernel)))) rfl) fun _ => et_is (et_and (a := false) (b := false) (et_test (ev_is (ev_eqT (ev_var rfl) ev_c) (by decide))) fun hf => nomatch hf) rfl) rfl
    | false =>
      exact et_is (et_or (a := false) (b := false) (et_is (et_and (a := false) (b := false) (et_test (ev_is (ev_eqT (ev_var rfl) ev_c) (by decide))) fun hf => nomatch hf) rfl) fun _ => et_is (et_and (a := true) (b := false) (et_test (ev_is (ev_eqT (ev_var rfl) ev_c) (by decide))) fun _ => et_not (a := true) (et_B (ev_isiT (ev_var rfl) hp (by decide +kernel)))) rfl) rfl
  refine q_when kind (fun hf => nomatch hf) (fun _ H1 e1 => ?_)
  have hps1 := hps.imp (ex_l e1) (ex_t e1)
  have hr1 := hr.imp (ex_l e1) (ex_t e1)
  refine q_when (b := false) (et_test (ev_is (ev_neI (ev_lenS (ev_var rfl) hps1) (ev_lenS (ev_var rfl) hr1)) (by simp))) (fun hf => nomatch hf) (fun _ H2 e2 => ?_)
  have e02 := e1.trans e2
  refine q_forR1 (n := (ns.length : Int)) (ea_cons (ev_is (ev_lenS (ev_var rfl) (hr.imp (ex_l e02) (ex_t e02))) (by rw [List.length_map])) ea_nil) (by omega)
    (fun i σ' H' => Ex H H' ∧ ∃ z, σ' = [some (.ref p), some (.ref r), some (.str (T (if lst then [108, 105, 115, 116] else [116, 117, 112, 108, 101]))), z]) (fun H3 e3 => ⟨e02.trans e3, none, rfl⟩) (fun i σ' H' hi hP => ?_) (fun σ' H' hP => ?_)
  · obtain ⟨eH, z, rfl⟩ := hP
    have hi2 : i < ns.length := by omega
    have hat : atI (ns.map V.int) (i : Int) = some (.int ns[i]) := atI_nat (by rw [List.getElem?_map, List.getElem?_eq_getElem hi2]; rfl)
    have i1 : Ev (tOp (rIxA K) (tVar 0) (tVar 3)) [some (.ref p), some (.ref r), some (.str (T (if lst then [108, 105, 115, 116] else [116, 117, 112, 108, 101]))), some (.int (i : Int))] H' (.int ns[i]) := ev_ixA (ev_var rfl) (hps.imp (ex_l eH) (ex_t eH)) (ev_var rfl) hat
    have i2 : Ev (tOp (rIxA K) (tVar 1) (tVar 3)) [some (.ref p), some (.ref r), some (.str (T (if lst then [108, 105, 115, 116] else [116, 117, 112, 108, 101]))), some (.int (i : Int))] H' (.int ns[i]) := ev_ixA (ev_var rfl) (hr.imp (ex_l eH) (ex_t eH)) (ev_var rfl) hat
    exact s_when (b := false) (et_or (a := false) (b := false) (et_not (a := true) (et_B (ev_call (ea_cons i1 ea_nil) u__law_whole))) fun _ => et_test (ev_is (ev_neI i1 i2) (by simp))) (fun hf => nomatch hf) (fun _ H3 e3 => ⟨eH.trans e3, _, rfl⟩)
  · obtain ⟨eH, z, rfl⟩ := hP
    exact s_ret ev_c fun H3 e3 => q H3 (eH.trans e3)
def N__law_read : List Str := ["_law_found", "_law_fraction_here", "_law_spot"]
def t__law_read (K : PySem.W.Frag) : TS :=
  (tSeq (tIfS (tOr (tNot (tB (tCB (rIsi K) (tCons (tVar 0) (tCons (tC (.ty "tuple")) tNil))))) (tOr (tTest (tOp rNe (tCB (rLenK K) (tCons (tVar 0) tNil)) (tC (.int 2)))) (tNot (tB (tCall (sp__law_numbers K) [] E0 (tCons (tOp (rIxT K) (tVar 0) (tC (.int 0))) (tCons (tVar 1) (tCons (tC (.str (Kr.T [116, 117, 112, 108, 101]))) tNil)))))))) (tRet (tC (.bl false))) tNext)
    (tRet (tAndV (tCall (sp__law_whole K) [] E0 (tCons (tOp (rIxT K) (tVar 0) (tC (.int 1))) tNil)) (tOp rEq (tOp (rIxT K) (tVar 0) (tC (.int 1))) (tVar 2)))))
def sp__law_read (K : PySem.W.Frag) : Sp := fun vs H Q _ => ∃ (p r c : Addr) (ns : List Int) (s : Int), vs = [.ref p, .ref c, .int s] ∧ H p = some (.tup [.ref r, .int s]) ∧ H r = some (.tup (ns.map V.int)) ∧ SqT K H c (ns.map V.int) ∧ ns.length ≤ 40000 ∧ RetV (.bl true) H Q
theorem len__law_read {K : PySem.W.Frag} {vs H Q E} (h : sp__law_read K vs H Q E) : vs.length = 3 := by
  obtain ⟨p, r, c, ns, s, rfl, _⟩ := h
  rfl
theorem rd__law_read {K : PySem.W.Frag} (vs : List V) (H : Hp) (Q : VK) (E : XK) (h : sp__law_read K vs H Q E) : t__law_read K { nx := fun _ H' => Q .non H', rt := Q } (start N__law_read vs) H := by
  obtain ⟨p, r, c, ns, s, rfl, hp, hr, hc, hn, q⟩ := h
  refine q_when (b := false) (et_or (a := false) (b := false) (et_not (a := true) (et_B (ev_isiT (ev_var rfl) hp (by decide +kernel)))) fun _ => et_or (a := false) (b := false) (et_test (ev_is (ev_neI (ev_lenU (ev_var rfl) hp) ev_c) (by simp))) fun _ => et_not (a := true) (et_B (ev_call (ea_cons (ev_ixU (v := .ref r) (ev_var rfl) hp ev_c rfl) (ea_cons (ev_var rfl) (ea_cons ev_c ea_nil))) (u__law_numbersT hr (.inr hc) hn)))) (fun hf => nomatch hf) (fun _ H1 e1 => ?_)
  have hp1 := e1 _ _ hp
  exact s_ret (ev_is (ev_andV (a := true) (ev_call (ea_cons (ev_ixU (v := .int s) (ev_var rfl) hp1 ev_c rfl) ea_nil) u__law_whole) fun _ => ev_eqI (ev_ixU (v := .int s) (ev_var rfl) hp1 ev_c rfl) (ev_var rfl)) (by simp)) fun H2 e2 => q H2 (e1.trans e2)
def N__law_alone : List Str := ["_law_error", "_law_told", "_law_one"]
def t__law_alone (K : PySem.W.Frag) : TS :=
  (tSeq (tIfS (tOr (tNot (tB (tCB (rIsA K) (tCons (tVar 0) (tCons (tC (.ref (He.ga K "RiseError"))) tNil))))) (tNot (tB (tCB (rIsA K) (tCons (tVar 0) (tCons (tC (.ty "ValueError")) tNil)))))) (tRet (tC (.bl false))) tNext)
    (tSeq (tAsg (tLst (tCons (tCB (rIsA K) (tCons (tVar 0) (tCons (tC (.ref (He.ga K "NoFit"))) tNil))) (tCons (tCB (rIsA K) (tCons (tVar 0) (tCons (tC (.ref (He.ga K "NoForm"))) tNil))) (tCons (tCB (rIsA K) (tCons (tVar 0) (tCons (tC (.ref (He.ga K "NoText"))) tNil))) tNil)))) (gName 1))
    (tSeq (tAsg (tOp rCat (tVar 1) (tLst (tCons (tCB (rIsA K) (tCons (tVar 0) (tCons (tC (.ref (He.ga K "NotAhead"))) tNil))) (tCons (tCB (rIsA K) (tCons (tVar 0) (tCons (tC (.ref (He.ga K "BadPage"))) tNil))) (tCons (tCB (rIsA K) (tCons (tVar 0) (tCons (tC (.ref (He.ga K "Twice"))) tNil))) tNil))))) (gName 1))
    (tSeq (tAsg (tOp rCat (tVar 1) (tLst (tCons (tCB (rIsA K) (tCons (tVar 0) (tCons (tC (.ref (He.ga K "Lacking"))) tNil))) (tCons (tCB (rIsA K) (tCons (tVar 0) (tCons (tC (.ref (He.ga K "Short"))) tNil))) (tCons (tCB (rIsA K) (tCons (tVar 0) (tCons (tC (.ref (He.ga K "Wrong"))) tNil))) tNil))))) (gName 1))
    (tSeq (tAsg (tOp rCat (tVar 1) (tLst (tCons (tCB (rIsA K) (tCons (tVar 0) (tCons (tC (.ref (He.ga K "Left"))) tNil))) tNil))) (gName 1))
    (tRet (tOp rEq (tCB (rLenK K) (tCons (tLc (iList K (tVar 1)) (gName 2) (tB (tVar 2)) (tVar 2) [2]) tNil)) (tC (.int 1)))))))))
def aloneB (n : Str) : List Bool := [decide (n = "NoFit"), decide (n = "NoForm"), decide (n = "NoText"), decide (n = "NotAhead"), decide (n = "BadPage"), decide (n = "Twice"), decide (n = "Lacking"), decide (n = "Short"), decide (n = "Wrong"), decide (n = "Left")]
theorem alone_one : ∀ n ∈ exL, ((List.range 10).filter fun i => (aloneB n).getD i false).length = 1 := by decide +kernel
def sp__law_alone (K : PySem.W.Frag) : Sp := fun vs H Q _ => ∃ v n, vs = [v] ∧ n ∈ exL ∧ IsErr K H v n ∧ RetV (.bl true) H Q
theorem len__law_alone {K : PySem.W.Frag} {vs H Q E} (h : sp__law_alone K vs H Q E) : vs.length = 1 := by
  obtain ⟨v, n, rfl, _⟩ := h
  rfl
theorem u__law_alone {K : PySem.W.Frag} {H : Hp} {v : V} {n : Str} (hn : n ∈ exL) (h : IsErr K H v n) : SpV (sp__law_alone K) [v] H (.bl true) := fun H1 e Q q E => ⟨v, n, rfl, hn, h.mono e, q⟩
theorem rd__law_alone {K : PySem.W.Frag} (kx : Kx K) (vs : List V) (H : Hp) (Q : VK) (E : XK) (h : sp__law_alone K vs H Q E) : t__law_alone K { nx := fun _ H' => Q .non H', rt := Q } (start N__law_alone vs) H := by
  obtain ⟨v, n, rfl, hn, hx, q⟩ := h
  have is : ∀ (σ : L2.St) (H1 : Hp) (y : Str), Ex H H1 → σ[0]? = some (some v) → y ∈ exL → Ev (tCB (rIsA K) (tCons (tVar 0) (tCons (tC (.ref (He.ga K y))) tNil))) σ H1 (.bl (decide (n = y))) := fun σ H1 y e hs hy =>
    ev_isE (ev_var hs) (hx.mono e) (kx.exc hn) (.own _) (kx.kit hn hy)
  refine q_when (b := false) (et_or (a := false) (b := false) (et_not (a := true) (et_B (ev_isE (ev_var rfl) hx (kx.exc hn) (.own _) (kx.root hn)))) fun _ => et_not (a := true) (et_B (ev_isE (ev_var rfl) hx (kx.exc hn) (.ty _) (kx.val hn)))) (fun hf => nomatch hf) (fun _ H1 e1 => ?_)
  refine q_asgL (el_lst (ea_cons (is _ _ _ e1 rfl (by decide +kernel)) (ea_cons (is _ _ _ e1 rfl (by decide +kernel)) (ea_cons (is _ _ _ e1 rfl (by decide +kernel)) ea_nil))) (by simp)) fun p2 H2 n2 e2 h2 => ?_
  refine q_asgL (el_cat (ev_var rfl) h2 (el_lst (ea_cons (is _ _ _ (e1.trans e2) rfl (by decide +kernel)) (ea_cons (is _ _ _ (e1.trans e2) rfl (by decide +kernel)) (ea_cons (is _ _ _ (e1.trans e2) rfl (by decide +kernel)) ea_nil))) (by simp)) (by simp)) fun p3 H3 n3 e3 h3 => ?_
  refine q_asgL (el_cat (ev_var rfl) h3 (el_lst (ea_cons (is _ _ _ ((e1.trans e2).trans e3) rfl (by decide +kernel)) (ea_cons (is _ _ _ ((e1.trans e2).trans e3) rfl (by decide +kernel)) (ea_cons (is _ _ _ ((e1.trans e2).trans e3) rfl (by decide +kernel)) ea_nil))) (by simp)) (by simp)) fun p4 H4 n4 e4 h4 => ?_
  refine q_asgL (el_cat (ev_var rfl) h4 (el_lst (ea_cons (is _ _ _ (((e1.trans e2).trans e3).trans e4) rfl (by decide +kernel)) ea_nil) (by simp)) (by simp)) fun p5 H5 n5 e5 h5 => ?_
  have hz : (([V.bl (decide (n = "NoFit")), V.bl (decide (n = "NoForm")), V.bl (decide (n = "NoText"))] ++ [V.bl (decide (n = "NotAhead")), V.bl (decide (n = "BadPage")), V.bl (decide (n = "Twice"))] ++
    [V.bl (decide (n = "Lacking")), V.bl (decide (n = "Short")), V.bl (decide (n = "Wrong"))] ++ [V.bl (decide (n = "Left"))])) = (aloneB n).map V.bl := rfl
  rw [hz] at h5
  refine s_ret (v := .bl true) (ev_is (ev_eqI (ev_lenNL (el_lcL (fun i => (aloneB n).getD i false) (fun i => .bl ((aloneB n).getD i false)) (ev_var rfl) (sq_of h5) (by simp [aloneB]) (fun x => rfl) ?_ ?_)) ev_c) ?_) fun H6 e6 => q H6 (((((e1.trans e2).trans e3).trans e4).trans e5).trans e6)
  · intro i x H6 e6 hi
    obtain ⟨b, hb, rfl⟩ : ∃ b, (aloneB n)[i]? = some b ∧ V.bl b = x := by
      rw [List.getElem?_map] at hi
      cases hb : (aloneB n)[i]? with
      | none => rw [hb] at hi; cases hi
      | some b => rw [hb] at hi; exact ⟨b, rfl, Option.some.inj hi⟩
    rw [show (aloneB n).getD i false = b by simp [List.getD, hb]]
    exact et_B (ev_var rfl)
  · intro i x H6 e6 hi _
    obtain ⟨b, hb, rfl⟩ : ∃ b, (aloneB n)[i]? = some b ∧ V.bl b = x := by
      rw [List.getElem?_map] at hi
      cases hb : (aloneB n)[i]? with
      | none => rw [hb] at hi; cases hi
      | some b => rw [hb] at hi; exact ⟨b, rfl, Option.some.inj hi⟩
    rw [show (aloneB n).getD i false = b by simp [List.getD, hb]]
    exact ev_var rfl
  · have := alone_one n hn
    have e : ((given ((aloneB n).map V.bl).length (fun i => (aloneB n).getD i false) (fun i => V.bl ((aloneB n).getD i false))).length) = 1 := by
      unfold given
      rw [List.length_map, List.length_map, show (aloneB n).length = 10 from rfl]
      exact this
    rw [e]
    rfl
def N_law : List Str := ["_law_script", "_law_signs", "_law_head", "_law_due", "_law_found", "_law_error", "_law_word", "e"]
def t_law (K : PySem.W.Frag) : TS :=
  (tSeq (tAsg (tSl rSlS (tCall (sp__law_bent K) [] E0 (tCons (tVar 0) (tCons (tCall (sp__law_laid K) [] E0 (tCons (tCall (sp__law_steps K) [] E0 (tCons (tVar 0) tNil)) tNil)) tNil))) tNoPart (tPart (tC (.int 400)))) (gName 1))
    (tSeq (tAsg (tSl rSlS (tC (.str (Kr.T [48, 49, 49, 48, 49]))) tNoPart (tPart (tOp rModI (tCall (sp__law_mixed K) [] E0 (tCons (tCall (sp__law_cell_at K) [] E0 (tCons (tVar 0) (tCons (tC (.int 2)) tNil))) (tCons (tC (.int 502)) tNil))) (tC (.int 6))))) (gName 2))
    (tSeq (tAsg (tCall (sp__law_reader K) [] E0 (tCons (tOp rAddT (tVar 2) (tVar 1)) (tCons (tCB (rLenK K) (tCons (tVar 2) tNil)) tNil))) (gName 3))
    (tSeq (tAsg (tC .non) (gName 4))
    (tSeq (tAsg (tC .non) (gName 5))
    (tSeq (tAsg (tC (.str (Kr.T [114, 101, 97, 100]))) (gName 6))
    (tSeq (tTryManyK K [(.ref (He.ga K "Short"), 7, fun a cls d => (tSeq (tAsg (tC (.str (Kr.T [115, 104, 111, 114, 116]))) (gName 6))
    (tAsg (tVar 7) (gName 5)))), (.ref (He.ga K "Wrong"), 7, fun a cls d => (tSeq (tAsg (tC (.str (Kr.T [119, 114, 111, 110, 103]))) (gName 6))
    (tAsg (tVar 7) (gName 5))))] (fun W => (tAsg (tCallS (sp_read_fraction K) (WE W) (tCons (tOp rAddT (tVar 2) (tVar 1)) (tCons (tCB (rLenK K) (tCons (tVar 2) tNil)) tNil))) (gName 4))) (fun _ _ _ _ => False))
    (tSeq (tIfS (tTest (tOp rNe (tVar 6) (tOp (rIxL K) (tVar 3) (tC (.int 0))))) (tRet (tC (.bl false))) tNext)
    (tSeq (tIfS (tTest (tOp rEq (tVar 6) (tC (.str (Kr.T [114, 101, 97, 100]))))) (tRet (tCall (sp__law_read K) [] E0 (tCons (tVar 4) (tCons (tCall (sp__law_fraction K) [] E0 (tCons (tOp (rIxL K) (tVar 3) (tC (.int 1))) tNil)) (tCons (tOp (rIxL K) (tVar 3) (tC (.int 2))) tNil))))) tNext)
    (tRet (tAndV (tCall (sp__law_alone K) [] E0 (tCons (tVar 5) tNil)) (tAndV (tCall (sp__law_whole K) [] E0 (tCons (tXfK K "place" (tVar 5)) tNil)) (tOp rEq (tXfK K "place" (tVar 5)) (tOp (rIxL K) (tVar 3) (tC (.int 2))))))))))))))))
/-- x is a kept error of the class named n that tells a place -/
def IsErrP (K : PySem.W.Frag) (H : Hp) (x : V) (n : Str) (p : Int) : Prop := ∃ a d, x = .ref a ∧ H a = some (ExK (.ref (He.ga K n)) (some d) a) ∧ H d = some (.xd [("place", .int p)])
theorem IsErrP.err {K : PySem.W.Frag} {H : Hp} {x : V} {n : Str} {p : Int} (h : IsErrP K H x n p) : IsErr K H x n := by
  obtain ⟨a, d, r, h1, h2⟩ := h
  exact ⟨a, some d, r, h1, .inr ⟨d, _, rfl, h2⟩⟩
theorem IsErrP.mono {K : PySem.W.Frag} {H H1 : Hp} {x : V} {n : Str} {p : Int} (e : Ex H H1) (h : IsErrP K H x n p) : IsErrP K H1 x n p := by
  obtain ⟨a, d, r, h1, h2⟩ := h
  exact ⟨a, d, r, e _ _ h1, e _ _ h2⟩
theorem xfOf {K : PySem.W.Frag} {D : Addr} (c : ExcC K D) : XfC K D := by
  obtain ⟨h1, h2, h3, h4, _⟩ := c
  exact ⟨h1, h2, h3, h4⟩
theorem ev_place {K : PySem.W.Frag} {σ : L2.St} {H : Hp} {te : TE} {x : V} {n : Str} {p : Int} (kx : Kx K) (ko : Ko K) (hn : n ∈ exL) (ho : n ∈ ownL) (h : Ev te σ H x) (hx : IsErrP K H x n p) : Ev (tXfK K "place" te) σ H (.int p) := fun H1 e Q q =>
  h H1 e _ fun H2 e2 => by
    obtain ⟨a, d, rfl, h1, h2⟩ := hx
    have c := kx.exc hn
    exact ⟨a, _, d, _, .int p, rfl, (e.trans e2) _ _ h1, (e.trans e2) _ _ h2, xfOf c, (ko n ho).p, rfl, q H2 e2⟩
theorem whole_ne (a : Int) : wholeRow a ≠ [] := by
  unfold wholeRow
  split <;> simp
def sp_law (K : PySem.W.Frag) : Sp := lawSpB K
theorem len_law {K : PySem.W.Frag} {vs H Q E} (h : sp_law K vs H Q E) : vs.length = 1 := lawSpB_len h
theorem rd_law {K : PySem.W.Frag} (kx : Kx K) (ko : Ko K) (vs : List V) (H : Hp) (Q : VK) (E : XK) (h : sp_law K vs H Q E) : t_law K { nx := fun _ H' => Q .non H', rt := Q } (start N_law vs) H := by
  obtain ⟨a, ns, rfl, hs, hl, hb, _, q⟩ := h
  have sh : ("Short" : Str) ∈ exL := by decide +kernel
  have wr : ("Wrong" : Str) ∈ exL := by decide +kernel
  have sh2 : ("Short" : Str) ∈ ownL := by decide +kernel
  have wr2 : ("Wrong" : Str) ∈ ownL := by decide +kernel
  refine q_asgW (ew_cut (n := 200000) (k := 400) (ew_bentR (ev_var rfl) (ew_callM (em_stepsX (ev_var rfl) hs hl hb) fun xs p H1 hP e1 h1 => ?_) hs hl) (by decide)) fun v H1 hv e1 => ?_
  · obtain ⟨l, rfl, hok⟩ := hP
    refine ⟨_, ⟨fracRow l, rfl, ?_, ?_⟩, u__law_laid (sq_of h1) hok⟩
    · obtain ⟨x, r, rfl⟩ : ∃ x r, l = x :: r := List.exists_cons_of_ne_nil (goodS_iff.mp hok.1).1
      show wholeRow x ++ tailRow false r ≠ []
      simp [whole_ne]
    · have := (stepsOk_rows hok).2.1
      omega
  obtain ⟨signs, rfl, hsl⟩ := hv
  let headB : List Bool := [false, true, true, false, true]
  have m0 := Int.emod_nonneg (mixed (cellAt ns 2) 502) (show (6 : Int) ≠ 0 by decide)
  obtain ⟨k, hk⟩ := Int.eq_ofNat_of_zero_le m0
  refine q_asg (v := .str (T (R (headB.take k)))) (ev_is (ev_slT (l := R headB) ev_c (by decide) eo_none (eo_some (ev_is (ev_modI (ev_call (ea_cons (ev_call (ea_cons (ev_var rfl) (ea_cons ev_c ea_nil)) (u__law_cell_at (ex_l e1 hs) (by decide))) (ea_cons ev_c ea_nil)) (u__law_mixed (by decide))) ev_c (by decide)) (by rw [hk])))) (by rw [cutL_pre, R_take])) fun H2 e2 => ?_
  have hh : (headB.take k).length ≤ 5 := by
    have : headB.length = 5 := rfl
    rw [List.length_take]
    omega
  generalize headB.take k = hd at hh ⊢
  refine q_asgF (vs := [.str (T (R (hd ++ signs))), .int (hd.length : Int)]) (ea_cons (ev_addR (ev_var rfl) (ev_var rfl) (by omega)) (ea_cons (ev_lenR (ev_var rfl) (by omega)) ea_nil)) fun H3 e3 => ⟨hd ++ signs, hd.length, rfl, by rw [List.length_append]; omega, by rw [List.length_append]; omega, fun pd l H4 e4 h4l h4 => ?_⟩
  have hbl : (hd ++ signs).length ≤ 405 := by rw [List.length_append]; omega
  have htl : hd.length ≤ (hd ++ signs).length := by rw [List.length_append]; omega
  refine q_asg ev_c fun H5 e5 => ?_
  refine q_asg ev_c fun H6 e6 => ?_
  refine q_asg ev_c fun H7 e7 => ?_
  have e47 := (e5.trans e6).trans e7
  have l7 := e47 _ _ h4l
  have p7 := e47 _ _ h4
  refine q_tryMK ?_
  dsimp only
  -- an error is kept
  have bad : ∀ (c : Str) (w : List Nat) (x d : Addr) (H8 : Hp) (pl : Int), c ∈ exL → c ∈ ownL → H8 x = none → H8 d = some (.xd [("place", .int pl)]) → H8 pd = some (.lst [.str (T w), .ref l, .int pl]) → decide (w = [114, 101, 97, 100]) = false →
      tSeq (tIfS (tTest (tOp rNe (tVar 6) (tOp (rIxL K) (tVar 3) (tC (.int 0))))) (tRet (tC (.bl false))) tNext)
        (tSeq (tIfS (tTest (tOp rEq (tVar 6) (tC (.str (Kr.T [114, 101, 97, 100]))))) (tRet (tCall (sp__law_read K) [] E0 (tCons (tVar 4) (tCons (tCall (sp__law_fraction K) [] E0 (tCons (tOp (rIxL K) (tVar 3) (tC (.int 1))) tNil)) (tCons (tOp (rIxL K) (tVar 3) (tC (.int 2))) tNil))))) tNext)
        (tRet (tAndV (tCall (sp__law_alone K) [] E0 (tCons (tVar 5) tNil)) (tAndV (tCall (sp__law_whole K) [] E0 (tCons (tXfK K "place" (tVar 5)) tNil)) (tOp rEq (tXfK K "place" (tVar 5)) (tOp (rIxL K) (tVar 3) (tC (.int 2)))))))) { nx := fun _ H' => Q .non H', rt := Q }
        [some (.ref a), some (.str (T (R signs))), some (.str (T (R hd))), some (.ref pd), some .non, some (.ref x), some (.str (T w)), none] (upd H8 x (ExK (.ref (He.ga K c)) (some d) x)) := fun c w x d H8 pl hc hc2 hx hd8 hp8 hw => by
    have ex := Ex.new (o := ExK (.ref (He.ga K c)) (some d) x) hx
    have hp9 := ex _ _ hp8
    have herr : IsErrP K (upd H8 x (ExK (.ref (He.ga K c)) (some d) x)) (.ref x) c pl := ⟨x, d, rfl, upd_same, ex _ _ hd8⟩
    refine q_when (b := false) (et_test (ev_is (ev_neT (ev_var rfl) (ev_op (ev_var rfl) ev_c (rv_ixL (v := .str (T w)) (sq_of hp9) rfl))) (by simp))) (fun hf => nomatch hf) (fun _ H9 e9 => ?_)
    refine q_when (b := false) (et_test (ev_is (ev_eqT (ev_var rfl) ev_c) (congrArg V.bl hw))) (fun hf => nomatch hf) (fun _ H10 e10 => ?_)
    have herr10 := herr.mono (e9.trans e10)
    exact s_ret (ev_is (ev_andV (a := true) (b := true) (ev_call (ea_cons (ev_var rfl) ea_nil) (u__law_alone hc herr10.err)) fun _ => ev_andV (a := true) (b := true) (ev_call (ea_cons (ev_place kx ko hc hc2 (ev_var rfl) herr10) ea_nil) u__law_whole) fun _ => ev_is (ev_eqI (ev_place kx ko hc hc2 (ev_var rfl) herr10) (ev_op (ev_var rfl) ev_c (rv_ixL (v := .int pl) (sq_of ((e9.trans e10) _ _ hp9)) rfl))) (by simp)) rfl) fun H11 e11 => q H11
  refine s_asgX (vs := [.str (T (R (hd ++ signs))), .int (hd.length : Int)]) (ea_cons (ev_addR (ev_var rfl) (ev_var rfl) (by omega)) (ea_cons (ev_lenR (ev_var rfl) (by omega)) ea_nil)) fun H8 e8 => ⟨hd ++ signs, hd.length, rfl, by omega, ?_⟩
  have l8 := e8 _ _ l7
  have p8 := e8 _ _ p7
  cases hr : tfrac (hd ++ signs) false false hd.length with
  | ok st t' =>
    rw [hr] at l8 p8
    have l8 : H8 l = some (.lst (st.map V.int)) := l8
    have p8 : H8 pd = some (.lst [.str (T [114, 101, 97, 100]), .ref l, .int (t' : Int)]) := p8
    obtain ⟨hne, hlen, hbd⟩ := tfrac_fine htl hr
    intro p r H9 hp hrn e9 h9 h9p
    refine q_when (b := false) (et_test (ev_is (ev_neT (ev_var rfl) (ev_op (ev_var rfl) ev_c (rv_ixL (v := .str (T [114, 101, 97, 100])) (sq_of (e9 _ _ p8)) rfl))) (by simp))) (fun hf => nomatch hf) (fun _ H10 e10 => ?_)
    refine q_if (b := true) (et_test (ev_is (ev_eqT (ev_var rfl) ev_c) (by simp))) (fun _ H11 e11 => ?_) (fun hf => nomatch hf)
    have e91 := e10.trans e11
    have p11 := e91 _ _ (e9 _ _ p8)
    have b2000 : (2 : Nat) ^ 257 ≤ 2 ^ 2000 := Nat.pow_le_pow_right (by decide) (by decide)
    exact s_ret (ev_callVU (ev_var rfl) (eu_call (ea_cons (ev_op (ev_var rfl) ev_c (rv_ixL (v := .ref l) (sq_of p11) rfl)) ea_nil) (u__law_fraction (sq_of (e91 _ _ (e9 _ _ l8))) hne (by omega) fun s hs => Nat.lt_of_lt_of_le (hbd s hs) b2000)) (fun H12 e12 => ev_op (ev_var rfl) ev_c (rv_ixL (v := .int (t' : Int)) (sq_of (e12 _ _ p11)) rfl)) fun c H12 e12 hc => fun H13 e13 Q13 q13 E13 => ⟨p, r, c, [(fracOf st).1, (fracOf st).2], (t' : Int), rfl, (e13 _ _ (e12 _ _ (e91 _ _ h9p))), (e13 _ _ (e12 _ _ (e91 _ _ h9))), st_of (e13 _ _ hc), by simp, q13⟩) fun H12 e12 => q H12
  | bad c pl =>
    rw [hr] at l8 p8
    intro d H9 hd9 e9 h9
    rcases tfrac_bad hr with ⟨rfl, rfl⟩ | rfl
    · have p8 : H8 pd = some (.lst [.str (T [115, 104, 111, 114, 116]), .ref l, .int ((hd ++ signs).length : Int)]) := p8
      exact ⟨true, by rw [kx.exm sh sh]; rfl, fun _ x hx => ⟨.ref x, rfl, bad "Short" [115, 104, 111, 114, 116] x d H9 _ sh sh2 hx h9 (e9 _ _ p8) (by decide)⟩, fun z => nomatch z⟩
    · have hne : ¬ ("Wrong" : Str) = "Short" := by decide +kernel
      have p8 : H8 pd = some (.lst [.str (T (if ("Wrong" : Str) = "Short" then (([115, 104, 111, 114, 116], [], ((hd ++ signs).length : Int)) : List Nat × List Int × Int) else ([119, 114, 111, 110, 103], [], pl)).1), .ref l, .int (if ("Wrong" : Str) = "Short" then (([115, 104, 111, 114, 116], [], ((hd ++ signs).length : Int)) : List Nat × List Int × Int) else ([119, 114, 111, 110, 103], [], pl)).2.2]) := p8
      rw [if_neg hne] at p8
      exact ⟨false, by rw [kx.exm wr sh, decide_eq_false hne], (fun z => nomatch z), fun _ => ⟨true, by rw [kx.exm wr wr]; rfl, fun _ x hx => ⟨.ref x, rfl, bad "Wrong" [119, 114, 111, 110, 103] x d H9 pl wr wr2 hx h9 (e9 _ _ p8) (by decide)⟩, fun z => nomatch z⟩⟩
/-! ### the text, def by def -/
def topS (i : Nat) : Stmt := PySem.Challenge.pw_keyrise_k15_fractions_of_any_signs.main.body.getD i (.Pass ⟨0, 0, 0, 0⟩)
abbrev s__law_cell_at : Stmt := topS 27
theorem sc__law_cell_at : FnScope N__law_cell_at ["_law_script", "_law_k"] (defScope s__law_cell_at) := ⟨rfl, rfl, rfl, by decide +kernel, rfl, by decide +kernel, by decide +kernel⟩
def d__law_cell_at : He.DefD := ⟨("_law_cell_at", none), "_law_cell_at", "_law_cell_at", defArgs s__law_cell_at, defBody s__law_cell_at, defScope s__law_cell_at, [], []⟩
abbrev s__law_free_steps : Stmt := topS 34
theorem sc__law_free_steps : FnScope N__law_free_steps ["_law_script"] (defScope s__law_free_steps) := ⟨rfl, rfl, rfl, by decide +kernel, rfl, by decide +kernel, by decide +kernel⟩
def d__law_free_steps : He.DefD := ⟨("_law_free_steps", none), "_law_free_steps", "_law_free_steps", defArgs s__law_free_steps, defBody s__law_free_steps, defScope s__law_free_steps, [], []⟩
abbrev s__law_mixed : Stmt := topS 29
theorem sc__law_mixed : FnScope N__law_mixed ["_law_cell", "_law_k"] (defScope s__law_mixed) := ⟨rfl, rfl, rfl, by decide +kernel, rfl, by decide +kernel, by decide +kernel⟩
def d__law_mixed : He.DefD := ⟨("_law_mixed", none), "_law_mixed", "_law_mixed", defArgs s__law_mixed, defBody s__law_mixed, defScope s__law_mixed, [], []⟩
abbrev s__law_steps : Stmt := topS 35
theorem sc__law_steps : FnScope N__law_steps ["_law_script"] (defScope s__law_steps) := ⟨rfl, rfl, rfl, by decide +kernel, rfl, by decide +kernel, by decide +kernel⟩
def d__law_steps : He.DefD := ⟨("_law_steps", none), "_law_steps", "_law_steps", defArgs s__law_steps, defBody s__law_steps, defScope s__law_steps, [], []⟩
abbrev s__law_digits : Stmt := topS 30
theorem sc__law_digits : FnScope N__law_digits ["_law_number"] (defScope s__law_digits) := ⟨rfl, rfl, rfl, by decide +kernel, rfl, by decide +kernel, by decide +kernel⟩
def d__law_digits : He.DefD := ⟨("_law_digits", none), "_law_digits", "_law_digits", defArgs s__law_digits, defBody s__law_digits, defScope s__law_digits, [], []⟩
abbrev s__law_count : Stmt := topS 31
theorem sc__law_count : FnScope N__law_count ["_law_n"] (defScope s__law_count) := ⟨rfl, rfl, rfl, by decide +kernel, rfl, by decide +kernel, by decide +kernel⟩
def d__law_count : He.DefD := ⟨("_law_count", none), "_law_count", "_law_count", defArgs s__law_count, defBody s__law_count, defScope s__law_count, [], []⟩
abbrev s__law_turned : Stmt := topS 32
theorem sc__law_turned : FnScope N__law_turned ["_law_row"] (defScope s__law_turned) := ⟨rfl, rfl, rfl, by decide +kernel, rfl, by decide +kernel, by decide +kernel⟩
def d__law_turned : He.DefD := ⟨("_law_turned", none), "_law_turned", "_law_turned", defArgs s__law_turned, defBody s__law_turned, defScope s__law_turned, [], []⟩
abbrev s__law_laid : Stmt := topS 33
theorem sc__law_laid : FnScope N__law_laid ["_law_steps_here"] (defScope s__law_laid) := ⟨rfl, rfl, rfl, by decide +kernel, rfl, by decide +kernel, by decide +kernel⟩
def d__law_laid : He.DefD := ⟨("_law_laid", none), "_law_laid", "_law_laid", defArgs s__law_laid, defBody s__law_laid, defScope s__law_laid, [], []⟩
abbrev s__law_raw : Stmt := topS 40
theorem sc__law_raw : FnScope N__law_raw ["_law_script"] (defScope s__law_raw) := ⟨rfl, rfl, rfl, by decide +kernel, rfl, by decide +kernel, by decide +kernel⟩
def d__law_raw : He.DefD := ⟨("_law_raw", none), "_law_raw", "_law_raw", defArgs s__law_raw, defBody s__law_raw, defScope s__law_raw, [], []⟩
abbrev s__law_bent : Stmt := topS 41
theorem sc__law_bent : FnScope N__law_bent ["_law_script", "_law_row"] (defScope s__law_bent) := ⟨rfl, rfl, rfl, by decide +kernel, rfl, by decide +kernel, by decide +kernel⟩
def d__law_bent : He.DefD := ⟨("_law_bent", none), "_law_bent", "_law_bent", defArgs s__law_bent, defBody s__law_bent, defScope s__law_bent, [], []⟩
abbrev s__law_take : Stmt := topS 42
theorem sc__law_take : FnScope N__law_take ["_law_state", "_law_flipped"] (defScope s__law_take) := ⟨rfl, rfl, rfl, by decide +kernel, rfl, by decide +kernel, by decide +kernel⟩
def d__law_take : He.DefD := ⟨("_law_take", none), "_law_take", "_law_take", defArgs s__law_take, defBody s__law_take, defScope s__law_take, [], []⟩
abbrev s__law_digits_on : Stmt := topS 43
theorem sc__law_digits_on : FnScope N__law_digits_on ["_law_state", "_law_flipped", "_law_number", "_law_many"] (defScope s__law_digits_on) := ⟨rfl, rfl, rfl, by decide +kernel, rfl, by decide +kernel, by decide +kernel⟩
def d__law_digits_on : He.DefD := ⟨("_law_digits_on", none), "_law_digits_on", "_law_digits_on", defArgs s__law_digits_on, defBody s__law_digits_on, defScope s__law_digits_on, [], []⟩
abbrev s__law_count_on : Stmt := topS 44
theorem sc__law_count_on : FnScope N__law_count_on ["_law_state", "_law_flipped"] (defScope s__law_count_on) := ⟨rfl, rfl, rfl, by decide +kernel, rfl, by decide +kernel, by decide +kernel⟩
def d__law_count_on : He.DefD := ⟨("_law_count_on", none), "_law_count_on", "_law_count_on", defArgs s__law_count_on, defBody s__law_count_on, defScope s__law_count_on, [], []⟩
abbrev s__law_reader : Stmt := topS 45
theorem sc__law_reader : FnScope N__law_reader ["_law_signs", "_law_at"] (defScope s__law_reader) := ⟨rfl, rfl, rfl, by decide +kernel, rfl, by decide +kernel, by decide +kernel⟩
def d__law_reader : He.DefD := ⟨("_law_reader", none), "_law_reader", "_law_reader", defArgs s__law_reader, defBody s__law_reader, defScope s__law_reader, [], []⟩
abbrev s_Source___init__ : Stmt := inClass (topS 14) 0
theorem sc_Source___init__ : FnScope N_Source___init__ ["self", "signs", "at", "fills"] (defScope s_Source___init__) := ⟨rfl, rfl, rfl, by decide +kernel, rfl, by decide +kernel, by decide +kernel⟩
def d_Source___init__ : He.DefD := ⟨("Source", some "__init__"), "__init__", "Source.__init__", defArgs s_Source___init__, defBody s_Source___init__, defScope s_Source___init__, [], []⟩
abbrev s_Short___init__ : Stmt := inClass (topS 9) 0
theorem sc_Short___init__ : FnScope N_Short___init__ ["self", "place"] (defScope s_Short___init__) := ⟨rfl, rfl, rfl, by decide +kernel, rfl, by decide +kernel, by decide +kernel⟩
def d_Short___init__ : He.DefD := ⟨("Short", some "__init__"), "__init__", "Short.__init__", defArgs s_Short___init__, defBody s_Short___init__, defScope s_Short___init__, [], []⟩
abbrev s_Source_take : Stmt := inClass (topS 14) 2
theorem sc_Source_take : FnScope N_Source_take ["self", "wish"] (defScope s_Source_take) := ⟨rfl, rfl, rfl, by decide +kernel, rfl, by decide +kernel, by decide +kernel⟩
def d_Source_take : He.DefD := ⟨("Source", some "take"), "take", "Source.take", defArgs s_Source_take, defBody s_Source_take, defScope s_Source_take, [], []⟩
abbrev s_other_sign : Stmt := topS 13
theorem sc_other_sign : FnScope N_other_sign ["sign"] (defScope s_other_sign) := ⟨rfl, rfl, rfl, by decide +kernel, rfl, by decide +kernel, by decide +kernel⟩
def d_other_sign : He.DefD := ⟨("other_sign", none), "other_sign", "other_sign", defArgs s_other_sign, defBody s_other_sign, defScope s_other_sign, [], []⟩
abbrev s_TurnedSource_take : Stmt := inClass (topS 15) 2
theorem sc_TurnedSource_take : FnScope N_TurnedSource_take ["self", "wish"] (defScope s_TurnedSource_take) := ⟨rfl, rfl, rfl, by decide +kernel, rfl, by decide +kernel, by decide +kernel⟩
def d_TurnedSource_take : He.DefD := ⟨("TurnedSource", some "take"), "take", "TurnedSource.take", defArgs s_TurnedSource_take, defBody s_TurnedSource_take, defScope s_TurnedSource_take, [], []⟩
abbrev s_take_digits : Stmt := topS 18
theorem sc_take_digits : FnScope N_take_digits ["source", "number", "many"] (defScope s_take_digits) := ⟨rfl, rfl, rfl, by decide +kernel, rfl, by decide +kernel, by decide +kernel⟩
def d_take_digits : He.DefD := ⟨("take_digits", none), "take_digits", "take_digits", defArgs s_take_digits, defBody s_take_digits, defScope s_take_digits, [], []⟩
abbrev s_take_count : Stmt := topS 19
theorem sc_take_count : FnScope N_take_count ["source", "wish"] (defScope s_take_count) := ⟨rfl, rfl, rfl, by decide +kernel, rfl, by decide +kernel, by decide +kernel⟩
def d_take_count : He.DefD := ⟨("take_count", none), "take_count", "take_count", defArgs s_take_count, defBody s_take_count, defScope s_take_count, [], []⟩
abbrev s_TurnedSource___init__ : Stmt := inClass (topS 15) 0
theorem sc_TurnedSource___init__ : FnScope N_TurnedSource___init__ ["self", "inner"] (defScope s_TurnedSource___init__) := ⟨rfl, rfl, rfl, by decide +kernel, rfl, by decide +kernel, by decide +kernel⟩
def d_TurnedSource___init__ : He.DefD := ⟨("TurnedSource", some "__init__"), "__init__", "TurnedSource.__init__", defArgs s_TurnedSource___init__, defBody s_TurnedSource___init__, defScope s_TurnedSource___init__, [], []⟩
abbrev s_take_whole : Stmt := topS 20
theorem sc_take_whole : FnScope N_take_whole ["source"] (defScope s_take_whole) := ⟨rfl, rfl, rfl, by decide +kernel, rfl, by decide +kernel, by decide +kernel⟩
def d_take_whole : He.DefD := ⟨("take_whole", none), "take_whole", "take_whole", defArgs s_take_whole, defBody s_take_whole, defScope s_take_whole, [], []⟩
abbrev s_ends_in_one : Stmt := topS 22
theorem sc_ends_in_one : FnScope N_ends_in_one ["steps"] (defScope s_ends_in_one) := ⟨rfl, rfl, rfl, by decide +kernel, rfl, by decide +kernel, by decide +kernel⟩
def d_ends_in_one : He.DefD := ⟨("ends_in_one", none), "ends_in_one", "ends_in_one", defArgs s_ends_in_one, defBody s_ends_in_one, defScope s_ends_in_one, [], []⟩
abbrev s_Source_spot : Stmt := inClass (topS 14) 1
theorem sc_Source_spot : FnScope N_Source_spot ["self"] (defScope s_Source_spot) := ⟨rfl, rfl, rfl, by decide +kernel, rfl, by decide +kernel, by decide +kernel⟩
def d_Source_spot : He.DefD := ⟨("Source", some "spot"), "spot", "Source.spot", defArgs s_Source_spot, defBody s_Source_spot, defScope s_Source_spot, [], []⟩
abbrev s_Wrong___init__ : Stmt := inClass (topS 10) 0
theorem sc_Wrong___init__ : FnScope N_Wrong___init__ ["self", "place"] (defScope s_Wrong___init__) := ⟨rfl, rfl, rfl, by decide +kernel, rfl, by decide +kernel, by decide +kernel⟩
def d_Wrong___init__ : He.DefD := ⟨("Wrong", some "__init__"), "__init__", "Wrong.__init__", defArgs s_Wrong___init__, defBody s_Wrong___init__, defScope s_Wrong___init__, [], []⟩
abbrev s_Source_wrong : Stmt := inClass (topS 14) 3
theorem sc_Source_wrong : FnScope N_Source_wrong ["self"] (defScope s_Source_wrong) := ⟨rfl, rfl, rfl, by decide +kernel, rfl, by decide +kernel, by decide +kernel⟩
def d_Source_wrong : He.DefD := ⟨("Source", some "wrong"), "wrong", "Source.wrong", defArgs s_Source_wrong, defBody s_Source_wrong, defScope s_Source_wrong, [], []⟩
abbrev s_TurnedSource_spot : Stmt := inClass (topS 15) 1
theorem sc_TurnedSource_spot : FnScope N_TurnedSource_spot ["self"] (defScope s_TurnedSource_spot) := ⟨rfl, rfl, rfl, by decide +kernel, rfl, by decide +kernel, by decide +kernel⟩
def d_TurnedSource_spot : He.DefD := ⟨("TurnedSource", some "spot"), "spot", "TurnedSource.spot", defArgs s_TurnedSource_spot, defBody s_TurnedSource_spot, defScope s_TurnedSource_spot, [], []⟩
abbrev s_TurnedSource_wrong : Stmt := inClass (topS 14) 3
theorem sc_TurnedSource_wrong : FnScope N_TurnedSource_wrong ["self"] (defScope s_TurnedSource_wrong) := ⟨rfl, rfl, rfl, by decide +kernel, rfl, by decide +kernel, by decide +kernel⟩
def d_TurnedSource_wrong : He.DefD := ⟨("TurnedSource", some "wrong"), "wrong", "Source.wrong", defArgs s_TurnedSource_wrong, defBody s_TurnedSource_wrong, defScope s_TurnedSource_wrong, [], []⟩
abbrev s_fraction_of : Stmt := topS 23
theorem sc_fraction_of : FnScope N_fraction_of ["steps"] (defScope s_fraction_of) := ⟨rfl, rfl, rfl, by decide +kernel, rfl, by decide +kernel, by decide +kernel⟩
def d_fraction_of : He.DefD := ⟨("fraction_of", none), "fraction_of", "fraction_of", defArgs s_fraction_of, defBody s_fraction_of, defScope s_fraction_of, [], []⟩
abbrev s_take_fraction : Stmt := topS 24
theorem sc_take_fraction : FnScope N_take_fraction ["source"] (defScope s_take_fraction) := ⟨rfl, rfl, rfl, by decide +kernel, rfl, by decide +kernel, by decide +kernel⟩
def d_take_fraction : He.DefD := ⟨("take_fraction", none), "take_fraction", "take_fraction", defArgs s_take_fraction, defBody s_take_fraction, defScope s_take_fraction, [], []⟩
abbrev s_read_fraction : Stmt := topS 25
theorem sc_read_fraction : FnScope N_read_fraction ["signs", "at"] (defScope s_read_fraction) := ⟨rfl, rfl, rfl, by decide +kernel, rfl, by decide +kernel, by decide +kernel⟩
def d_read_fraction : He.DefD := ⟨("read_fraction", none), "read_fraction", "read_fraction", defArgs s_read_fraction, defBody s_read_fraction, defScope s_read_fraction, [], []⟩
abbrev s__law_fraction : Stmt := topS 36
theorem sc__law_fraction : FnScope N__law_fraction ["_law_steps_here"] (defScope s__law_fraction) := ⟨rfl, rfl, rfl, by decide +kernel, rfl, by decide +kernel, by decide +kernel⟩
def d__law_fraction : He.DefD := ⟨("_law_fraction", none), "_law_fraction", "_law_fraction", defArgs s__law_fraction, defBody s__law_fraction, defScope s__law_fraction, [], []⟩
abbrev s__law_whole : Stmt := topS 28
theorem sc__law_whole : FnScope N__law_whole ["_law_found"] (defScope s__law_whole) := ⟨rfl, rfl, rfl, by decide +kernel, rfl, by decide +kernel, by decide +kernel⟩
def d__law_whole : He.DefD := ⟨("_law_whole", none), "_law_whole", "_law_whole", defArgs s__law_whole, defBody s__law_whole, defScope s__law_whole, [], []⟩
abbrev s__law_numbers : Stmt := topS 37
theorem sc__law_numbers : FnScope N__law_numbers ["_law_found", "_law_due", "_law_kind"] (defScope s__law_numbers) := ⟨rfl, rfl, rfl, by decide +kernel, rfl, by decide +kernel, by decide +kernel⟩
def d__law_numbers : He.DefD := ⟨("_law_numbers", none), "_law_numbers", "_law_numbers", defArgs s__law_numbers, defBody s__law_numbers, defScope s__law_numbers, [], []⟩
abbrev s__law_read : Stmt := topS 38
theorem sc__law_read : FnScope N__law_read ["_law_found", "_law_fraction_here", "_law_spot"] (defScope s__law_read) := ⟨rfl, rfl, rfl, by decide +kernel, rfl, by decide +kernel, by decide +kernel⟩
def d__law_read : He.DefD := ⟨("_law_read", none), "_law_read", "_law_read", defArgs s__law_read, defBody s__law_read, defScope s__law_read, [], []⟩
abbrev s__law_alone : Stmt := topS 39
theorem sc__law_alone : FnScope N__law_alone ["_law_error"] (defScope s__law_alone) := ⟨rfl, rfl, rfl, by decide +kernel, rfl, by decide +kernel, by decide +kernel⟩
def d__law_alone : He.DefD := ⟨("_law_alone", none), "_law_alone", "_law_alone", defArgs s__law_alone, defBody s__law_alone, defScope s__law_alone, [], []⟩
abbrev s_law : Stmt := topS 46
theorem sc_law : FnScope N_law ["_law_script"] (defScope s_law) := ⟨rfl, rfl, rfl, by decide +kernel, rfl, by decide +kernel, by decide +kernel⟩
def d_law : He.DefD := ⟨("law", none), "law", "law", defArgs s_law, defBody s_law, defScope s_law, [], []⟩
def exAll (K : PySem.W.Frag) : Bool := exsB K exL && rootB K && ownB K "Short" && ownB K "Wrong"
def fa : List He.Fa := [.free "len", .glo "_law_cell_at", .free "max", .glo "_law_free_steps", .glo "_law_mixed", .free "min", .free "range", .glo "_law_steps", .glo "_law_digits", .glo "_law_count", .free "int", .glo "_law_turned", .glo "_law_laid", .glo "_law_raw", .glo "_law_bent", .glo "_law_take", .glo "_law_digits_on", .glo "_law_count_on", .glo "_law_reader", .cls "Source", .noat "Source" "signs", .noat "Source" "at", .noat "Source" "fills", .mkr "Source", .glo "Source", .meth "Source" "take", .glo "RiseError", .glo "Short", .cls "TurnedSource", .meth "TurnedSource" "take", .noat "TurnedSource" "inner", .glo "other_sign", .int "MOST_ONES" 7, .glo "take_digits", .glo "take_count", .mkr "TurnedSource", .glo "TurnedSource", .glo "take_whole", .glo "ends_in_one", .meth "Source" "wrong", .meth "Source" "spot", .glo "Wrong", .meth "TurnedSource" "wrong", .meth "TurnedSource" "spot", .exc "NoFit", .glo "NoFit", .free "reversed", .glo "fraction_of", .glo "take_fraction", .glo "read_fraction", .glo "_law_fraction", .free "tuple", .free "isinstance", .free "list", .free "bool", .glo "_law_whole", .glo "_law_numbers", .glo "_law_read", .free "ValueError", .glo "NoText", .glo "NoForm", .glo "Twice", .glo "BadPage", .glo "NotAhead", .glo "Lacking", .glo "Left", .glo "_law_alone", .glo "law"]
def fn : List He.DefD := [d__law_cell_at, d__law_free_steps, d__law_mixed, d__law_steps, d__law_digits, d__law_count, d__law_turned, d__law_laid, d__law_raw, d__law_bent, d__law_take, d__law_digits_on, d__law_count_on, d__law_reader, d_Source___init__, d_Short___init__, d_Source_take, d_other_sign, d_TurnedSource_take, d_take_digits, d_take_count, d_TurnedSource___init__, d_take_whole, d_ends_in_one, d_Source_spot, d_Wrong___init__, d_Source_wrong, d_TurnedSource_spot, d_TurnedSource_wrong, d_fraction_of, d_take_fraction, d_read_fraction, d__law_fraction, d__law_whole, d__law_numbers, d__law_read, d__law_alone, d_law]
/-- what the top has written -/
structure Tx (K : PySem.W.Frag) (mg : Str → Option Value) : Prop where
  c : He.SaysD fa fn K
  x : exAll K = true
  h : ∃ h : Heap, K.In h ∧ h.Ns mainGlobals mg
section
variable {K : PySem.W.Frag} {mg : Str → Option Value}
theorem Tx.free_len (T : Tx K mg) : mg "len" = none := by
  obtain ⟨h, X, G⟩ := T.h
  exact He.free_ok X G (T.c.fact 0 (f := .free "len") rfl)
theorem Tx.glo__law_cell_at (T : Tx K mg) : mg "_law_cell_at" = some (.ref (He.ga K "_law_cell_at")) := by
  obtain ⟨h, X, G⟩ := T.h
  exact He.glo_ok X G (T.c.fact 1 (f := .glo "_law_cell_at") rfl)
theorem Tx.free_max (T : Tx K mg) : mg "max" = none := by
  obtain ⟨h, X, G⟩ := T.h
  exact He.free_ok X G (T.c.fact 2 (f := .free "max") rfl)
theorem Tx.glo__law_free_steps (T : Tx K mg) : mg "_law_free_steps" = some (.ref (He.ga K "_law_free_steps")) := by
  obtain ⟨h, X, G⟩ := T.h
  exact He.glo_ok X G (T.c.fact 3 (f := .glo "_law_free_steps") rfl)
theorem Tx.glo__law_mixed (T : Tx K mg) : mg "_law_mixed" = some (.ref (He.ga K "_law_mixed")) := by
  obtain ⟨h, X, G⟩ := T.h
  exact He.glo_ok X G (T.c.fact 4 (f := .glo "_law_mixed") rfl)
theorem Tx.free_min (T : Tx K mg) : mg "min" = none := by
  obtain ⟨h, X, G⟩ := T.h
  exact He.free_ok X G (T.c.fact 5 (f := .free "min") rfl)
theorem Tx.free_range (T : Tx K mg) : mg "range" = none := by
  obtain ⟨h, X, G⟩ := T.h
  exact He.free_ok X G (T.c.fact 6 (f := .free "range") rfl)
theorem Tx.glo__law_steps (T : Tx K mg) : mg "_law_steps" = some (.ref (He.ga K "_law_steps")) := by
  obtain ⟨h, X, G⟩ := T.h
  exact He.glo_ok X G (T.c.fact 7 (f := .glo "_law_steps") rfl)
theorem Tx.glo__law_digits (T : Tx K mg) : mg "_law_digits" = some (.ref (He.ga K "_law_digits")) := by
  obtain ⟨h, X, G⟩ := T.h
  exact He.glo_ok X G (T.c.fact 8 (f := .glo "_law_digits") rfl)
theorem Tx.glo__law_count (T : Tx K mg) : mg "_law_count" = some (.ref (He.ga K "_law_count")) := by
  obtain ⟨h, X, G⟩ := T.h
  exact He.glo_ok X G (T.c.fact 9 (f := .glo "_law_count") rfl)
theorem Tx.free_int (T : Tx K mg) : mg "int" = none := by
  obtain ⟨h, X, G⟩ := T.h
  exact He.free_ok X G (T.c.fact 10 (f := .free "int") rfl)
theorem Tx.glo__law_turned (T : Tx K mg) : mg "_law_turned" = some (.ref (He.ga K "_law_turned")) := by
  obtain ⟨h, X, G⟩ := T.h
  exact He.glo_ok X G (T.c.fact 11 (f := .glo "_law_turned") rfl)
theorem Tx.glo__law_laid (T : Tx K mg) : mg "_law_laid" = some (.ref (He.ga K "_law_laid")) := by
  obtain ⟨h, X, G⟩ := T.h
  exact He.glo_ok X G (T.c.fact 12 (f := .glo "_law_laid") rfl)
theorem Tx.glo__law_raw (T : Tx K mg) : mg "_law_raw" = some (.ref (He.ga K "_law_raw")) := by
  obtain ⟨h, X, G⟩ := T.h
  exact He.glo_ok X G (T.c.fact 13 (f := .glo "_law_raw") rfl)
theorem Tx.glo__law_bent (T : Tx K mg) : mg "_law_bent" = some (.ref (He.ga K "_law_bent")) := by
  obtain ⟨h, X, G⟩ := T.h
  exact He.glo_ok X G (T.c.fact 14 (f := .glo "_law_bent") rfl)
theorem Tx.glo__law_take (T : Tx K mg) : mg "_law_take" = some (.ref (He.ga K "_law_take")) := by
  obtain ⟨h, X, G⟩ := T.h
  exact He.glo_ok X G (T.c.fact 15 (f := .glo "_law_take") rfl)
theorem Tx.glo__law_digits_on (T : Tx K mg) : mg "_law_digits_on" = some (.ref (He.ga K "_law_digits_on")) := by
  obtain ⟨h, X, G⟩ := T.h
  exact He.glo_ok X G (T.c.fact 16 (f := .glo "_law_digits_on") rfl)
theorem Tx.glo__law_count_on (T : Tx K mg) : mg "_law_count_on" = some (.ref (He.ga K "_law_count_on")) := by
  obtain ⟨h, X, G⟩ := T.h
  exact He.glo_ok X G (T.c.fact 17 (f := .glo "_law_count_on") rfl)
theorem Tx.glo__law_reader (T : Tx K mg) : mg "_law_reader" = some (.ref (He.ga K "_law_reader")) := by
  obtain ⟨h, X, G⟩ := T.h
  exact He.glo_ok X G (T.c.fact 18 (f := .glo "_law_reader") rfl)
theorem Tx.cls_Source (T : Tx K mg) : Cls K (He.ga K "Source") := He.cls_ok (T.c.fact 19 (f := .cls "Source") rfl)
theorem Tx.noat_Source_signs (T : Tx K mg) : NoAttr K (He.ga K "Source") "signs" := He.noat_ok (T.c.fact 20 (f := .noat "Source" "signs") rfl)
theorem Tx.noat_Source_at (T : Tx K mg) : NoAttr K (He.ga K "Source") "at" := He.noat_ok (T.c.fact 21 (f := .noat "Source" "at") rfl)
theorem Tx.noat_Source_fills (T : Tx K mg) : NoAttr K (He.ga K "Source") "fills" := He.noat_ok (T.c.fact 22 (f := .noat "Source" "fills") rfl)
theorem Tx.mkr_Source (T : Tx K mg) : Mk K (He.ga K "Source") (He.ma K (He.ga K "Source") "__init__") := He.mkr_ok (T.c.fact 23 (f := .mkr "Source") rfl)
theorem Tx.glo_Source (T : Tx K mg) : mg "Source" = some (.ref (He.ga K "Source")) := by
  obtain ⟨h, X, G⟩ := T.h
  exact He.glo_ok X G (T.c.fact 24 (f := .glo "Source") rfl)
theorem Tx.meth_Source_take (T : Tx K mg) : Meth K (He.ga K "Source") "take" (He.ma K (He.ga K "Source") "take") := He.meth_ok (T.c.fact 25 (f := .meth "Source" "take") rfl)
theorem Tx.glo_RiseError (T : Tx K mg) : mg "RiseError" = some (.ref (He.ga K "RiseError")) := by
  obtain ⟨h, X, G⟩ := T.h
  exact He.glo_ok X G (T.c.fact 26 (f := .glo "RiseError") rfl)
theorem Tx.glo_Short (T : Tx K mg) : mg "Short" = some (.ref (He.ga K "Short")) := by
  obtain ⟨h, X, G⟩ := T.h
  exact He.glo_ok X G (T.c.fact 27 (f := .glo "Short") rfl)
theorem Tx.cls_TurnedSource (T : Tx K mg) : Cls K (He.ga K "TurnedSource") := He.cls_ok (T.c.fact 28 (f := .cls "TurnedSource") rfl)
theorem Tx.meth_TurnedSource_take (T : Tx K mg) : Meth K (He.ga K "TurnedSource") "take" (He.ma K (He.ga K "TurnedSource") "take") := He.meth_ok (T.c.fact 29 (f := .meth "TurnedSource" "take") rfl)
theorem Tx.noat_TurnedSource_inner (T : Tx K mg) : NoAttr K (He.ga K "TurnedSource") "inner" := He.noat_ok (T.c.fact 30 (f := .noat "TurnedSource" "inner") rfl)
theorem Tx.glo_other_sign (T : Tx K mg) : mg "other_sign" = some (.ref (He.ga K "other_sign")) := by
  obtain ⟨h, X, G⟩ := T.h
  exact He.glo_ok X G (T.c.fact 31 (f := .glo "other_sign") rfl)
theorem Tx.int_MOST_ONES_7 (T : Tx K mg) : ∃ t, mg "MOST_ONES" = some (.int 7 t) := by
  obtain ⟨h, X, G⟩ := T.h
  exact He.int_ok X G (T.c.fact 32 (f := .int "MOST_ONES" 7) rfl)
theorem Tx.glo_take_digits (T : Tx K mg) : mg "take_digits" = some (.ref (He.ga K "take_digits")) := by
  obtain ⟨h, X, G⟩ := T.h
  exact He.glo_ok X G (T.c.fact 33 (f := .glo "take_digits") rfl)
theorem Tx.glo_take_count (T : Tx K mg) : mg "take_count" = some (.ref (He.ga K "take_count")) := by
  obtain ⟨h, X, G⟩ := T.h
  exact He.glo_ok X G (T.c.fact 34 (f := .glo "take_count") rfl)
theorem Tx.mkr_TurnedSource (T : Tx K mg) : Mk K (He.ga K "TurnedSource") (He.ma K (He.ga K "TurnedSource") "__init__") := He.mkr_ok (T.c.fact 35 (f := .mkr "TurnedSource") rfl)
theorem Tx.glo_TurnedSource (T : Tx K mg) : mg "TurnedSource" = some (.ref (He.ga K "TurnedSource")) := by
  obtain ⟨h, X, G⟩ := T.h
  exact He.glo_ok X G (T.c.fact 36 (f := .glo "TurnedSource") rfl)
theorem Tx.glo_take_whole (T : Tx K mg) : mg "take_whole" = some (.ref (He.ga K "take_whole")) := by
  obtain ⟨h, X, G⟩ := T.h
  exact He.glo_ok X G (T.c.fact 37 (f := .glo "take_whole") rfl)
theorem Tx.glo_ends_in_one (T : Tx K mg) : mg "ends_in_one" = some (.ref (He.ga K "ends_in_one")) := by
  obtain ⟨h, X, G⟩ := T.h
  exact He.glo_ok X G (T.c.fact 38 (f := .glo "ends_in_one") rfl)
theorem Tx.meth_Source_wrong (T : Tx K mg) : Meth K (He.ga K "Source") "wrong" (He.ma K (He.ga K "Source") "wrong") := He.meth_ok (T.c.fact 39 (f := .meth "Source" "wrong") rfl)
theorem Tx.meth_Source_spot (T : Tx K mg) : Meth K (He.ga K "Source") "spot" (He.ma K (He.ga K "Source") "spot") := He.meth_ok (T.c.fact 40 (f := .meth "Source" "spot") rfl)
theorem Tx.glo_Wrong (T : Tx K mg) : mg "Wrong" = some (.ref (He.ga K "Wrong")) := by
  obtain ⟨h, X, G⟩ := T.h
  exact He.glo_ok X G (T.c.fact 41 (f := .glo "Wrong") rfl)
theorem Tx.meth_TurnedSource_wrong (T : Tx K mg) : Meth K (He.ga K "TurnedSource") "wrong" (He.ma K (He.ga K "TurnedSource") "wrong") := He.meth_ok (T.c.fact 42 (f := .meth "TurnedSource" "wrong") rfl)
theorem Tx.meth_TurnedSource_spot (T : Tx K mg) : Meth K (He.ga K "TurnedSource") "spot" (He.ma K (He.ga K "TurnedSource") "spot") := He.meth_ok (T.c.fact 43 (f := .meth "TurnedSource" "spot") rfl)
theorem Tx.exc_NoFit (T : Tx K mg) : PySem.W.excIn K (He.ga K "NoFit") He.veBase "ValueError.__new__" = true ∧ PySem.W.keepIn K (.ref (He.ga K "NoFit")) = true ∧ PySem.W.subIn K (.ref (He.ga K "NoFit")) (.type "BaseException") = some true ∧ PySem.W.typeIn K (.ref (He.ga K "NoFit")) = some (.type "type") := He.exc_ok (T.c.fact 44 (f := .exc "NoFit") rfl)
theorem Tx.glo_NoFit (T : Tx K mg) : mg "NoFit" = some (.ref (He.ga K "NoFit")) := by
  obtain ⟨h, X, G⟩ := T.h
  exact He.glo_ok X G (T.c.fact 45 (f := .glo "NoFit") rfl)
theorem Tx.free_reversed (T : Tx K mg) : mg "reversed" = none := by
  obtain ⟨h, X, G⟩ := T.h
  exact He.free_ok X G (T.c.fact 46 (f := .free "reversed") rfl)
theorem Tx.glo_fraction_of (T : Tx K mg) : mg "fraction_of" = some (.ref (He.ga K "fraction_of")) := by
  obtain ⟨h, X, G⟩ := T.h
  exact He.glo_ok X G (T.c.fact 47 (f := .glo "fraction_of") rfl)
theorem Tx.glo_take_fraction (T : Tx K mg) : mg "take_fraction" = some (.ref (He.ga K "take_fraction")) := by
  obtain ⟨h, X, G⟩ := T.h
  exact He.glo_ok X G (T.c.fact 48 (f := .glo "take_fraction") rfl)
theorem Tx.glo_read_fraction (T : Tx K mg) : mg "read_fraction" = some (.ref (He.ga K "read_fraction")) := by
  obtain ⟨h, X, G⟩ := T.h
  exact He.glo_ok X G (T.c.fact 49 (f := .glo "read_fraction") rfl)
theorem Tx.glo__law_fraction (T : Tx K mg) : mg "_law_fraction" = some (.ref (He.ga K "_law_fraction")) := by
  obtain ⟨h, X, G⟩ := T.h
  exact He.glo_ok X G (T.c.fact 50 (f := .glo "_law_fraction") rfl)
theorem Tx.free_tuple (T : Tx K mg) : mg "tuple" = none := by
  obtain ⟨h, X, G⟩ := T.h
  exact He.free_ok X G (T.c.fact 51 (f := .free "tuple") rfl)
theorem Tx.free_isinstance (T : Tx K mg) : mg "isinstance" = none := by
  obtain ⟨h, X, G⟩ := T.h
  exact He.free_ok X G (T.c.fact 52 (f := .free "isinstance") rfl)
theorem Tx.free_list (T : Tx K mg) : mg "list" = none := by
  obtain ⟨h, X, G⟩ := T.h
  exact He.free_ok X G (T.c.fact 53 (f := .free "list") rfl)
theorem Tx.free_bool (T : Tx K mg) : mg "bool" = none := by
  obtain ⟨h, X, G⟩ := T.h
  exact He.free_ok X G (T.c.fact 54 (f := .free "bool") rfl)
theorem Tx.glo__law_whole (T : Tx K mg) : mg "_law_whole" = some (.ref (He.ga K "_law_whole")) := by
  obtain ⟨h, X, G⟩ := T.h
  exact He.glo_ok X G (T.c.fact 55 (f := .glo "_law_whole") rfl)
theorem Tx.glo__law_numbers (T : Tx K mg) : mg "_law_numbers" = some (.ref (He.ga K "_law_numbers")) := by
  obtain ⟨h, X, G⟩ := T.h
  exact He.glo_ok X G (T.c.fact 56 (f := .glo "_law_numbers") rfl)
theorem Tx.glo__law_read (T : Tx K mg) : mg "_law_read" = some (.ref (He.ga K "_law_read")) := by
  obtain ⟨h, X, G⟩ := T.h
  exact He.glo_ok X G (T.c.fact 57 (f := .glo "_law_read") rfl)
theorem Tx.free_ValueError (T : Tx K mg) : mg "ValueError" = none := by
  obtain ⟨h, X, G⟩ := T.h
  exact He.free_ok X G (T.c.fact 58 (f := .free "ValueError") rfl)
theorem Tx.glo_NoText (T : Tx K mg) : mg "NoText" = some (.ref (He.ga K "NoText")) := by
  obtain ⟨h, X, G⟩ := T.h
  exact He.glo_ok X G (T.c.fact 59 (f := .glo "NoText") rfl)
theorem Tx.glo_NoForm (T : Tx K mg) : mg "NoForm" = some (.ref (He.ga K "NoForm")) := by
  obtain ⟨h, X, G⟩ := T.h
  exact He.glo_ok X G (T.c.fact 60 (f := .glo "NoForm") rfl)
theorem Tx.glo_Twice (T : Tx K mg) : mg "Twice" = some (.ref (He.ga K "Twice")) := by
  obtain ⟨h, X, G⟩ := T.h
  exact He.glo_ok X G (T.c.fact 61 (f := .glo "Twice") rfl)
theorem Tx.glo_BadPage (T : Tx K mg) : mg "BadPage" = some (.ref (He.ga K "BadPage")) := by
  obtain ⟨h, X, G⟩ := T.h
  exact He.glo_ok X G (T.c.fact 62 (f := .glo "BadPage") rfl)
theorem Tx.glo_NotAhead (T : Tx K mg) : mg "NotAhead" = some (.ref (He.ga K "NotAhead")) := by
  obtain ⟨h, X, G⟩ := T.h
  exact He.glo_ok X G (T.c.fact 63 (f := .glo "NotAhead") rfl)
theorem Tx.glo_Lacking (T : Tx K mg) : mg "Lacking" = some (.ref (He.ga K "Lacking")) := by
  obtain ⟨h, X, G⟩ := T.h
  exact He.glo_ok X G (T.c.fact 64 (f := .glo "Lacking") rfl)
theorem Tx.glo_Left (T : Tx K mg) : mg "Left" = some (.ref (He.ga K "Left")) := by
  obtain ⟨h, X, G⟩ := T.h
  exact He.glo_ok X G (T.c.fact 65 (f := .glo "Left") rfl)
theorem Tx.glo__law_alone (T : Tx K mg) : mg "_law_alone" = some (.ref (He.ga K "_law_alone")) := by
  obtain ⟨h, X, G⟩ := T.h
  exact He.glo_ok X G (T.c.fact 66 (f := .glo "_law_alone") rfl)
theorem Tx.glo_law (T : Tx K mg) : mg "law" = some (.ref (He.ga K "law")) := by
  obtain ⟨h, X, G⟩ := T.h
  exact He.glo_ok X G (T.c.fact 67 (f := .glo "law") rfl)
theorem Tx.own_Wrong (T : Tx K mg) : OwnX K (He.ga K "Wrong") (He.ma K (He.ga K "Wrong") "__init__") := ownB_ok (He.ba T.x).2
theorem Tx.own_Short (T : Tx K mg) : OwnX K (He.ga K "Short") (He.ma K (He.ga K "Short") "__init__") := ownB_ok (He.ba (He.ba T.x).1).2
theorem Tx.root (T : Tx K mg) : RootX K := rootB_ok (He.ba (He.ba (He.ba T.x).1).1).2
theorem Tx.kx (T : Tx K mg) : Kx K := ⟨(He.ba (He.ba (He.ba T.x).1).1).1⟩
theorem Tx.ko (T : Tx K mg) : Ko K := fun x hx => by
  simp only [ownL, List.mem_cons, List.not_mem_nil, or_false] at hx
  rcases hx with rfl | rfl
  · exact T.own_Short
  · exact T.own_Wrong
theorem F__law_cell_at (T : Tx K mg) : FunD K "_law_cell_at" "_law_cell_at" (defArgs s__law_cell_at) (defBody s__law_cell_at) (defScope s__law_cell_at) [] [] (He.fAd K d__law_cell_at.at_) (fdOf K d__law_cell_at.at_) := fun_fdOf (T.c.def_ 0 (d := d__law_cell_at) rfl)
theorem b__law_cell_at (T : Tx K mg) : Binds K (fdOf K d__law_cell_at.at_) ["_law_script", "_law_k"] [] := (F__law_cell_at T).bindsN fun _ _ _ _ _ _ us hl => match us, hl with | [_, _], _ => rfl
theorem F__law_free_steps (T : Tx K mg) : FunD K "_law_free_steps" "_law_free_steps" (defArgs s__law_free_steps) (defBody s__law_free_steps) (defScope s__law_free_steps) [] [] (He.fAd K d__law_free_steps.at_) (fdOf K d__law_free_steps.at_) := fun_fdOf (T.c.def_ 1 (d := d__law_free_steps) rfl)
theorem b__law_free_steps (T : Tx K mg) : Binds K (fdOf K d__law_free_steps.at_) ["_law_script"] [] := (F__law_free_steps T).bindsN fun _ _ _ _ _ _ us hl => match us, hl with | [_], _ => rfl
theorem F__law_mixed (T : Tx K mg) : FunD K "_law_mixed" "_law_mixed" (defArgs s__law_mixed) (defBody s__law_mixed) (defScope s__law_mixed) [] [] (He.fAd K d__law_mixed.at_) (fdOf K d__law_mixed.at_) := fun_fdOf (T.c.def_ 2 (d := d__law_mixed) rfl)
theorem b__law_mixed (T : Tx K mg) : Binds K (fdOf K d__law_mixed.at_) ["_law_cell", "_law_k"] [] := (F__law_mixed T).bindsN fun _ _ _ _ _ _ us hl => match us, hl with | [_, _], _ => rfl
theorem F__law_steps (T : Tx K mg) : FunD K "_law_steps" "_law_steps" (defArgs s__law_steps) (defBody s__law_steps) (defScope s__law_steps) [] [] (He.fAd K d__law_steps.at_) (fdOf K d__law_steps.at_) := fun_fdOf (T.c.def_ 3 (d := d__law_steps) rfl)
theorem b__law_steps (T : Tx K mg) : Binds K (fdOf K d__law_steps.at_) ["_law_script"] [] := (F__law_steps T).bindsN fun _ _ _ _ _ _ us hl => match us, hl with | [_], _ => rfl
theorem F__law_digits (T : Tx K mg) : FunD K "_law_digits" "_law_digits" (defArgs s__law_digits) (defBody s__law_digits) (defScope s__law_digits) [] [] (He.fAd K d__law_digits.at_) (fdOf K d__law_digits.at_) := fun_fdOf (T.c.def_ 4 (d := d__law_digits) rfl)
theorem b__law_digits (T : Tx K mg) : Binds K (fdOf K d__law_digits.at_) ["_law_number"] [] := (F__law_digits T).bindsN fun _ _ _ _ _ _ us hl => match us, hl with | [_], _ => rfl
theorem F__law_count (T : Tx K mg) : FunD K "_law_count" "_law_count" (defArgs s__law_count) (defBody s__law_count) (defScope s__law_count) [] [] (He.fAd K d__law_count.at_) (fdOf K d__law_count.at_) := fun_fdOf (T.c.def_ 5 (d := d__law_count) rfl)
theorem b__law_count (T : Tx K mg) : Binds K (fdOf K d__law_count.at_) ["_law_n"] [] := (F__law_count T).bindsN fun _ _ _ _ _ _ us hl => match us, hl with | [_], _ => rfl
theorem F__law_turned (T : Tx K mg) : FunD K "_law_turned" "_law_turned" (defArgs s__law_turned) (defBody s__law_turned) (defScope s__law_turned) [] [] (He.fAd K d__law_turned.at_) (fdOf K d__law_turned.at_) := fun_fdOf (T.c.def_ 6 (d := d__law_turned) rfl)
theorem b__law_turned (T : Tx K mg) : Binds K (fdOf K d__law_turned.at_) ["_law_row"] [] := (F__law_turned T).bindsN fun _ _ _ _ _ _ us hl => match us, hl with | [_], _ => rfl
theorem F__law_laid (T : Tx K mg) : FunD K "_law_laid" "_law_laid" (defArgs s__law_laid) (defBody s__law_laid) (defScope s__law_laid) [] [] (He.fAd K d__law_laid.at_) (fdOf K d__law_laid.at_) := fun_fdOf (T.c.def_ 7 (d := d__law_laid) rfl)
theorem b__law_laid (T : Tx K mg) : Binds K (fdOf K d__law_laid.at_) ["_law_steps_here"] [] := (F__law_laid T).bindsN fun _ _ _ _ _ _ us hl => match us, hl with | [_], _ => rfl
theorem F__law_raw (T : Tx K mg) : FunD K "_law_raw" "_law_raw" (defArgs s__law_raw) (defBody s__law_raw) (defScope s__law_raw) [] [] (He.fAd K d__law_raw.at_) (fdOf K d__law_raw.at_) := fun_fdOf (T.c.def_ 8 (d := d__law_raw) rfl)
theorem b__law_raw (T : Tx K mg) : Binds K (fdOf K d__law_raw.at_) ["_law_script"] [] := (F__law_raw T).bindsN fun _ _ _ _ _ _ us hl => match us, hl with | [_], _ => rfl
theorem F__law_bent (T : Tx K mg) : FunD K "_law_bent" "_law_bent" (defArgs s__law_bent) (defBody s__law_bent) (defScope s__law_bent) [] [] (He.fAd K d__law_bent.at_) (fdOf K d__law_bent.at_) := fun_fdOf (T.c.def_ 9 (d := d__law_bent) rfl)
theorem b__law_bent (T : Tx K mg) : Binds K (fdOf K d__law_bent.at_) ["_law_script", "_law_row"] [] := (F__law_bent T).bindsN fun _ _ _ _ _ _ us hl => match us, hl with | [_, _], _ => rfl
theorem F__law_take (T : Tx K mg) : FunD K "_law_take" "_law_take" (defArgs s__law_take) (defBody s__law_take) (defScope s__law_take) [] [] (He.fAd K d__law_take.at_) (fdOf K d__law_take.at_) := fun_fdOf (T.c.def_ 10 (d := d__law_take) rfl)
theorem b__law_take (T : Tx K mg) : Binds K (fdOf K d__law_take.at_) ["_law_state", "_law_flipped"] [] := (F__law_take T).bindsN fun _ _ _ _ _ _ us hl => match us, hl with | [_, _], _ => rfl
theorem F__law_digits_on (T : Tx K mg) : FunD K "_law_digits_on" "_law_digits_on" (defArgs s__law_digits_on) (defBody s__law_digits_on) (defScope s__law_digits_on) [] [] (He.fAd K d__law_digits_on.at_) (fdOf K d__law_digits_on.at_) := fun_fdOf (T.c.def_ 11 (d := d__law_digits_on) rfl)
theorem b__law_digits_on (T : Tx K mg) : Binds K (fdOf K d__law_digits_on.at_) ["_law_state", "_law_flipped", "_law_number", "_law_many"] [] := (F__law_digits_on T).bindsN fun _ _ _ _ _ _ us hl => match us, hl with | [_, _, _, _], _ => rfl
theorem F__law_count_on (T : Tx K mg) : FunD K "_law_count_on" "_law_count_on" (defArgs s__law_count_on) (defBody s__law_count_on) (defScope s__law_count_on) [] [] (He.fAd K d__law_count_on.at_) (fdOf K d__law_count_on.at_) := fun_fdOf (T.c.def_ 12 (d := d__law_count_on) rfl)
theorem b__law_count_on (T : Tx K mg) : Binds K (fdOf K d__law_count_on.at_) ["_law_state", "_law_flipped"] [] := (F__law_count_on T).bindsN fun _ _ _ _ _ _ us hl => match us, hl with | [_, _], _ => rfl
theorem F__law_reader (T : Tx K mg) : FunD K "_law_reader" "_law_reader" (defArgs s__law_reader) (defBody s__law_reader) (defScope s__law_reader) [] [] (He.fAd K d__law_reader.at_) (fdOf K d__law_reader.at_) := fun_fdOf (T.c.def_ 13 (d := d__law_reader) rfl)
theorem b__law_reader (T : Tx K mg) : Binds K (fdOf K d__law_reader.at_) ["_law_signs", "_law_at"] [] := (F__law_reader T).bindsN fun _ _ _ _ _ _ us hl => match us, hl with | [_, _], _ => rfl
theorem F_Source___init__ (T : Tx K mg) : FunD K "__init__" "Source.__init__" (defArgs s_Source___init__) (defBody s_Source___init__) (defScope s_Source___init__) [] [] (He.fAd K d_Source___init__.at_) (fdOf K d_Source___init__.at_) := fun_fdOf (T.c.def_ 14 (d := d_Source___init__) rfl)
theorem b_Source___init__ (T : Tx K mg) : Binds K (fdOf K d_Source___init__.at_) ["self", "signs", "at", "fills"] [] := (F_Source___init__ T).bindsN fun _ _ _ _ _ _ us hl => match us, hl with | [_, _, _, _], _ => rfl
theorem F_Short___init__ (T : Tx K mg) : FunD K "__init__" "Short.__init__" (defArgs s_Short___init__) (defBody s_Short___init__) (defScope s_Short___init__) [] [] (He.fAd K d_Short___init__.at_) (fdOf K d_Short___init__.at_) := fun_fdOf (T.c.def_ 15 (d := d_Short___init__) rfl)
theorem b_Short___init__ (T : Tx K mg) : Binds K (fdOf K d_Short___init__.at_) ["self", "place"] [] := (F_Short___init__ T).bindsN fun _ _ _ _ _ _ us hl => match us, hl with | [_, _], _ => rfl
theorem F_Source_take (T : Tx K mg) : FunD K "take" "Source.take" (defArgs s_Source_take) (defBody s_Source_take) (defScope s_Source_take) [] [] (He.fAd K d_Source_take.at_) (fdOf K d_Source_take.at_) := fun_fdOf (T.c.def_ 16 (d := d_Source_take) rfl)
theorem b_Source_take (T : Tx K mg) : Binds K (fdOf K d_Source_take.at_) ["self", "wish"] [] := (F_Source_take T).bindsN fun _ _ _ _ _ _ us hl => match us, hl with | [_, _], _ => rfl
theorem F_other_sign (T : Tx K mg) : FunD K "other_sign" "other_sign" (defArgs s_other_sign) (defBody s_other_sign) (defScope s_other_sign) [] [] (He.fAd K d_other_sign.at_) (fdOf K d_other_sign.at_) := fun_fdOf (T.c.def_ 17 (d := d_other_sign) rfl)
theorem b_other_sign (T : Tx K mg) : Binds K (fdOf K d_other_sign.at_) ["sign"] [] := (F_other_sign T).bindsN fun _ _ _ _ _ _ us hl => match us, hl with | [_], _ => rfl
theorem F_TurnedSource_take (T : Tx K mg) : FunD K "take" "TurnedSource.take" (defArgs s_TurnedSource_take) (defBody s_TurnedSource_take) (defScope s_TurnedSource_take) [] [] (He.fAd K d_TurnedSource_take.at_) (fdOf K d_TurnedSource_take.at_) := fun_fdOf (T.c.def_ 18 (d := d_TurnedSource_take) rfl)
theorem b_TurnedSource_take (T : Tx K mg) : Binds K (fdOf K d_TurnedSource_take.at_) ["self", "wish"] [] := (F_TurnedSource_take T).bindsN fun _ _ _ _ _ _ us hl => match us, hl with | [_, _], _ => rfl
theorem F_take_digits (T : Tx K mg) : FunD K "take_digits" "take_digits" (defArgs s_take_digits) (defBody s_take_digits) (defScope s_take_digits) [] [] (He.fAd K d_take_digits.at_) (fdOf K d_take_digits.at_) := fun_fdOf (T.c.def_ 19 (d := d_take_digits) rfl)
theorem b_take_digits (T : Tx K mg) : Binds K (fdOf K d_take_digits.at_) ["source", "number", "many"] [] := (F_take_digits T).bindsN fun _ _ _ _ _ _ us hl => match us, hl with | [_, _, _], _ => rfl
theorem F_take_count (T : Tx K mg) : FunD K "take_count" "take_count" (defArgs s_take_count) (defBody s_take_count) (defScope s_take_count) [] [] (He.fAd K d_take_count.at_) (fdOf K d_take_count.at_) := fun_fdOf (T.c.def_ 20 (d := d_take_count) rfl)
theorem b_take_count (T : Tx K mg) : Binds K (fdOf K d_take_count.at_) ["source", "wish"] [] := (F_take_count T).bindsN fun _ _ _ _ _ _ us hl => match us, hl with | [_, _], _ => rfl
theorem F_TurnedSource___init__ (T : Tx K mg) : FunD K "__init__" "TurnedSource.__init__" (defArgs s_TurnedSource___init__) (defBody s_TurnedSource___init__) (defScope s_TurnedSource___init__) [] [] (He.fAd K d_TurnedSource___init__.at_) (fdOf K d_TurnedSource___init__.at_) := fun_fdOf (T.c.def_ 21 (d := d_TurnedSource___init__) rfl)
theorem b_TurnedSource___init__ (T : Tx K mg) : Binds K (fdOf K d_TurnedSource___init__.at_) ["self", "inner"] [] := (F_TurnedSource___init__ T).bindsN fun _ _ _ _ _ _ us hl => match us, hl with | [_, _], _ => rfl
theorem F_take_whole (T : Tx K mg) : FunD K "take_whole" "take_whole" (defArgs s_take_whole) (defBody s_take_whole) (defScope s_take_whole) [] [] (He.fAd K d_take_whole.at_) (fdOf K d_take_whole.at_) := fun_fdOf (T.c.def_ 22 (d := d_take_whole) rfl)
theorem b_take_whole (T : Tx K mg) : Binds K (fdOf K d_take_whole.at_) ["source"] [] := (F_take_whole T).bindsN fun _ _ _ _ _ _ us hl => match us, hl with | [_], _ => rfl
theorem F_ends_in_one (T : Tx K mg) : FunD K "ends_in_one" "ends_in_one" (defArgs s_ends_in_one) (defBody s_ends_in_one) (defScope s_ends_in_one) [] [] (He.fAd K d_ends_in_one.at_) (fdOf K d_ends_in_one.at_) := fun_fdOf (T.c.def_ 23 (d := d_ends_in_one) rfl)
theorem b_ends_in_one (T : Tx K mg) : Binds K (fdOf K d_ends_in_one.at_) ["steps"] [] := (F_ends_in_one T).bindsN fun _ _ _ _ _ _ us hl => match us, hl with | [_], _ => rfl
theorem F_Source_spot (T : Tx K mg) : FunD K "spot" "Source.spot" (defArgs s_Source_spot) (defBody s_Source_spot) (defScope s_Source_spot) [] [] (He.fAd K d_Source_spot.at_) (fdOf K d_Source_spot.at_) := fun_fdOf (T.c.def_ 24 (d := d_Source_spot) rfl)
theorem b_Source_spot (T : Tx K mg) : Binds K (fdOf K d_Source_spot.at_) ["self"] [] := (F_Source_spot T).bindsN fun _ _ _ _ _ _ us hl => match us, hl with | [_], _ => rfl
theorem F_Wrong___init__ (T : Tx K mg) : FunD K "__init__" "Wrong.__init__" (defArgs s_Wrong___init__) (defBody s_Wrong___init__) (defScope s_Wrong___init__) [] [] (He.fAd K d_Wrong___init__.at_) (fdOf K d_Wrong___init__.at_) := fun_fdOf (T.c.def_ 25 (d := d_Wrong___init__) rfl)
theorem b_Wrong___init__ (T : Tx K mg) : Binds K (fdOf K d_Wrong___init__.at_) ["self", "place"] [] := (F_Wrong___init__ T).bindsN fun _ _ _ _ _ _ us hl => match us, hl with | [_, _], _ => rfl
theorem F_Source_wrong (T : Tx K mg) : FunD K "wrong" "Source.wrong" (defArgs s_Source_wrong) (defBody s_Source_wrong) (defScope s_Source_wrong) [] [] (He.fAd K d_Source_wrong.at_) (fdOf K d_Source_wrong.at_) := fun_fdOf (T.c.def_ 26 (d := d_Source_wrong) rfl)
theorem b_Source_wrong (T : Tx K mg) : Binds K (fdOf K d_Source_wrong.at_) ["self"] [] := (F_Source_wrong T).bindsN fun _ _ _ _ _ _ us hl => match us, hl with | [_], _ => rfl
theorem F_TurnedSource_spot (T : Tx K mg) : FunD K "spot" "TurnedSource.spot" (defArgs s_TurnedSource_spot) (defBody s_TurnedSource_spot) (defScope s_TurnedSource_spot) [] [] (He.fAd K d_TurnedSource_spot.at_) (fdOf K d_TurnedSource_spot.at_) := fun_fdOf (T.c.def_ 27 (d := d_TurnedSource_spot) rfl)
theorem b_TurnedSource_spot (T : Tx K mg) : Binds K (fdOf K d_TurnedSource_spot.at_) ["self"] [] := (F_TurnedSource_spot T).bindsN fun _ _ _ _ _ _ us hl => match us, hl with | [_], _ => rfl
theorem F_TurnedSource_wrong (T : Tx K mg) : FunD K "wrong" "Source.wrong" (defArgs s_TurnedSource_wrong) (defBody s_TurnedSource_wrong) (defScope s_TurnedSource_wrong) [] [] (He.fAd K d_TurnedSource_wrong.at_) (fdOf K d_TurnedSource_wrong.at_) := fun_fdOf (T.c.def_ 28 (d := d_TurnedSource_wrong) rfl)
theorem b_TurnedSource_wrong (T : Tx K mg) : Binds K (fdOf K d_TurnedSource_wrong.at_) ["self"] [] := (F_TurnedSource_wrong T).bindsN fun _ _ _ _ _ _ us hl => match us, hl with | [_], _ => rfl
theorem F_fraction_of (T : Tx K mg) : FunD K "fraction_of" "fraction_of" (defArgs s_fraction_of) (defBody s_fraction_of) (defScope s_fraction_of) [] [] (He.fAd K d_fraction_of.at_) (fdOf K d_fraction_of.at_) := fun_fdOf (T.c.def_ 29 (d := d_fraction_of) rfl)
theorem b_fraction_of (T : Tx K mg) : Binds K (fdOf K d_fraction_of.at_) ["steps"] [] := (F_fraction_of T).bindsN fun _ _ _ _ _ _ us hl => match us, hl with | [_], _ => rfl
theorem F_take_fraction (T : Tx K mg) : FunD K "take_fraction" "take_fraction" (defArgs s_take_fraction) (defBody s_take_fraction) (defScope s_take_fraction) [] [] (He.fAd K d_take_fraction.at_) (fdOf K d_take_fraction.at_) := fun_fdOf (T.c.def_ 30 (d := d_take_fraction) rfl)
theorem b_take_fraction (T : Tx K mg) : Binds K (fdOf K d_take_fraction.at_) ["source"] [] := (F_take_fraction T).bindsN fun _ _ _ _ _ _ us hl => match us, hl with | [_], _ => rfl
theorem F_read_fraction (T : Tx K mg) : FunD K "read_fraction" "read_fraction" (defArgs s_read_fraction) (defBody s_read_fraction) (defScope s_read_fraction) [] [] (He.fAd K d_read_fraction.at_) (fdOf K d_read_fraction.at_) := fun_fdOf (T.c.def_ 31 (d := d_read_fraction) rfl)
theorem b_read_fraction (T : Tx K mg) : Binds K (fdOf K d_read_fraction.at_) ["signs", "at"] [] := (F_read_fraction T).bindsN fun _ _ _ _ _ _ us hl => match us, hl with | [_, _], _ => rfl
theorem F__law_fraction (T : Tx K mg) : FunD K "_law_fraction" "_law_fraction" (defArgs s__law_fraction) (defBody s__law_fraction) (defScope s__law_fraction) [] [] (He.fAd K d__law_fraction.at_) (fdOf K d__law_fraction.at_) := fun_fdOf (T.c.def_ 32 (d := d__law_fraction) rfl)
theorem b__law_fraction (T : Tx K mg) : Binds K (fdOf K d__law_fraction.at_) ["_law_steps_here"] [] := (F__law_fraction T).bindsN fun _ _ _ _ _ _ us hl => match us, hl with | [_], _ => rfl
theorem F__law_whole (T : Tx K mg) : FunD K "_law_whole" "_law_whole" (defArgs s__law_whole) (defBody s__law_whole) (defScope s__law_whole) [] [] (He.fAd K d__law_whole.at_) (fdOf K d__law_whole.at_) := fun_fdOf (T.c.def_ 33 (d := d__law_whole) rfl)
theorem b__law_whole (T : Tx K mg) : Binds K (fdOf K d__law_whole.at_) ["_law_found"] [] := (F__law_whole T).bindsN fun _ _ _ _ _ _ us hl => match us, hl with | [_], _ => rfl
theorem F__law_numbers (T : Tx K mg) : FunD K "_law_numbers" "_law_numbers" (defArgs s__law_numbers) (defBody s__law_numbers) (defScope s__law_numbers) [] [] (He.fAd K d__law_numbers.at_) (fdOf K d__law_numbers.at_) := fun_fdOf (T.c.def_ 34 (d := d__law_numbers) rfl)
theorem b__law_numbers (T : Tx K mg) : Binds K (fdOf K d__law_numbers.at_) ["_law_found", "_law_due", "_law_kind"] [] := (F__law_numbers T).bindsN fun _ _ _ _ _ _ us hl => match us, hl with | [_, _, _], _ => rfl
theorem F__law_read (T : Tx K mg) : FunD K "_law_read" "_law_read" (defArgs s__law_read) (defBody s__law_read) (defScope s__law_read) [] [] (He.fAd K d__law_read.at_) (fdOf K d__law_read.at_) := fun_fdOf (T.c.def_ 35 (d := d__law_read) rfl)
theorem b__law_read (T : Tx K mg) : Binds K (fdOf K d__law_read.at_) ["_law_found", "_law_fraction_here", "_law_spot"] [] := (F__law_read T).bindsN fun _ _ _ _ _ _ us hl => match us, hl with | [_, _, _], _ => rfl
theorem F__law_alone (T : Tx K mg) : FunD K "_law_alone" "_law_alone" (defArgs s__law_alone) (defBody s__law_alone) (defScope s__law_alone) [] [] (He.fAd K d__law_alone.at_) (fdOf K d__law_alone.at_) := fun_fdOf (T.c.def_ 36 (d := d__law_alone) rfl)
theorem b__law_alone (T : Tx K mg) : Binds K (fdOf K d__law_alone.at_) ["_law_error"] [] := (F__law_alone T).bindsN fun _ _ _ _ _ _ us hl => match us, hl with | [_], _ => rfl
theorem F_law (T : Tx K mg) : FunD K "law" "law" (defArgs s_law) (defBody s_law) (defScope s_law) [] [] (He.fAd K d_law.at_) (fdOf K d_law.at_) := fun_fdOf (T.c.def_ 37 (d := d_law) rfl)
theorem b_law (T : Tx K mg) : Binds K (fdOf K d_law.at_) ["_law_script"] [] := (F_law T).bindsN fun _ _ _ _ _ _ us hl => match us, hl with | [_], _ => rfl
end
section
variable {P : Program} {w : World} {K : PySem.W.Frag} {mg : Str → Option Value} {base : Heap}
theorem ok__law_cell_at (T : Tx K mg) : FnOk P w K mg base (L2.CX P w) 1 (He.fAd K d__law_cell_at.at_) (fdOf K d__law_cell_at.at_) ["_law_script", "_law_k"] (sp__law_cell_at K) := by
  refine (F__law_cell_at T).ok (k := 0) sc__law_cell_at (fun vs H Q E h => len__law_cell_at h) (fun cdv A outer s H vs Q E hr h => ⟨t__law_cell_at K, ?_, rd__law_cell_at vs H Q E h⟩)
  exact PSs.nox (pss_cons (ps_if (pt_cmpR op_lt (pv 1) (pe_callB call_lenK (by rfl) T.free_len (by decide +kernel) (pa_cons (pv 0) pa_nil)) (nomark _)) (pss_one (ps_ret (pe_ix ix_list (pv 0) (pv 1) (fun _ _ => rfl)))) pss_nil)
    (pss_one (ps_ret pe_int)))
theorem ok__law_free_steps (T : Tx K mg) : FnOk P w K mg base (L2.CX P w) 2 (He.fAd K d__law_free_steps.at_) (fdOf K d__law_free_steps.at_) ["_law_script"] (sp__law_free_steps K) := by
  refine (F__law_free_steps T).ok (k := 1) sc__law_free_steps (fun vs H Q E h => len__law_free_steps h) (fun cdv A outer s H vs Q E hr h => ⟨t__law_free_steps K, ?_, rd__law_free_steps vs H Q E h⟩)
  exact PSs.nox (pss_cons (ps_set (i := 1) sc__law_free_steps.nd rfl (.inl rfl) (pe_op op_fdivW (pe_call (ok__law_cell_at T) (hr.mono (by omega)) (by rfl) T.glo__law_cell_at (F__law_cell_at T).kp (b__law_cell_at T) .nil passL (pa_cons (pv 0) (pa_cons pe_int pa_nil))) pe_int))
    (pss_cons (ps_set (i := 2) sc__law_free_steps.nd rfl (.inl rfl) (pe_ix ix_list (pe_lst (pa_cons (pe_op op_pow pe_int pe_int) (pa_cons (pe_op op_pow pe_int pe_int) pa_nil))) (pe_op op_mod (pv 1) pe_int) (fun _ _ => rfl)))
    (pss_cons (ps_set (i := 3) sc__law_free_steps.nd rfl (.inl rfl) (pe_ix ix_list (pe_lst (pa_cons (pe_op op_mulX (pe_op op_pow pe_int pe_int) (pe_op op_pow pe_int pe_int)) (pa_cons (pe_op op_pow pe_int pe_int) pa_nil))) (pe_op op_mod (pv 1) pe_int) (fun _ _ => rfl)))
    (pss_cons (ps_set (i := 4) sc__law_free_steps.nd rfl (.inl rfl) (pe_lst (pa_cons (pe_op op_sub (pe_op op_mod (pe_call (ok__law_cell_at T) (hr.mono (by omega)) (by rfl) T.glo__law_cell_at (F__law_cell_at T).kp (b__law_cell_at T) .nil passL (pa_cons (pv 0) (pa_cons pe_int pa_nil))) (pe_op op_add (pe_op op_mulX pe_int (pv 2)) pe_int)) (pv 2)) pa_nil)))
    (pss_cons (ps_for PassesOwn.never rfl (pi_list (pe_slice sl_list (pv 0) (po_some pe_int) (po_some (pe_op op_add pe_int (pe_op op_mod (pe_op op_fdivW (pv 1) pe_int) pe_int))))) (pg_name (i := 5) sc__law_free_steps.nd rfl (.inl rfl)) (pss_cons (ps_expr (pe_bm PySem.F.plainAttrs_list PySem.F.slot_list_append PySem.F.type_list_append mt_append (pv 4) (pa_cons (pe_op op_add pe_int (pe_op op_mod (pv 5) (pe_callB (call_max2 rfl) (by rfl) T.free_max (by decide +kernel) (pa_cons pe_int (pa_cons (pe_op op_sub (pv 3) pe_int) pa_nil))))) pa_nil)))
    (pss_one (ps_set (i := 3) sc__law_free_steps.nd rfl (.inl rfl) (pe_callB (call_max2 rfl) (by rfl) T.free_max (by decide +kernel) (pa_cons pe_int (pa_cons (pe_op op_fdivW (pv 3) (pe_op op_add (pe_ix ix_list (pv 4) (pe_un un_neg pe_int) (fun _ _ => rfl)) pe_int)) pa_nil)))))))
    (pss_cons (ps_if (PW.pt (pw_and (pt_cmpR op_gt (pe_callB call_lenK (by rfl) T.free_len (by decide +kernel) (pa_cons (pv 4) pa_nil)) pe_int (nomark _)) (pw_and1 (pt_cmpR op_eq (pe_ix ix_list (pv 4) (pe_un un_neg pe_int) (fun _ _ => rfl)) pe_int (nomark _))))) (pss_one (ps_asg pe_int (pg_sub (pv 4) (pe_un un_neg pe_int) set_list))) pss_nil)
    (pss_one (ps_ret (pv 4)))))))))
theorem ok__law_mixed (T : Tx K mg) : FnOk P w K mg base (L2.CX P w) 1 (He.fAd K d__law_mixed.at_) (fdOf K d__law_mixed.at_) ["_law_cell", "_law_k"] (sp__law_mixed K) := by
  refine (F__law_mixed T).ok (k := 0) sc__law_mixed (fun vs H Q E h => len__law_mixed h) (fun cdv A outer s H vs Q E hr h => ⟨t__law_mixed K, ?_, rd__law_mixed vs H Q E h⟩)
  exact PSs.nox (pss_cons (ps_set (i := 2) sc__law_mixed.nd rfl (.inl rfl) (pe_op op_mod (pe_op op_add (pe_op op_add (pe_op op_mulX (pe_op op_mod (pv 0) pe_int) pe_int) (pe_op op_mulX (pv 1) pe_int)) pe_int) pe_int))
    (pss_cons (ps_set (i := 2) sc__law_mixed.nd rfl (.inl rfl) (pe_op op_mod (pe_op op_mulX (pv 2) (pv 2)) pe_int))
    (pss_one (ps_ret (pe_op op_mod (pe_op op_mulX (pv 2) (pv 2)) pe_int)))))
theorem ok__law_steps (T : Tx K mg) : FnOk P w K mg base (L2.CX P w) 3 (He.fAd K d__law_steps.at_) (fdOf K d__law_steps.at_) ["_law_script"] (sp__law_steps K) := by
  refine (F__law_steps T).ok (k := 2) sc__law_steps (fun vs H Q E h => len__law_steps h) (fun cdv A outer s H vs Q E hr h => ⟨t__law_steps K, ?_, rd__law_steps vs H Q E h⟩)
  exact PSs.nox (pss_cons (ps_if (pt_cmpR op_eq (pe_op op_mod (pe_call (ok__law_cell_at T) (hr.mono (by omega)) (by rfl) T.glo__law_cell_at (F__law_cell_at T).kp (b__law_cell_at T) .nil passL (pa_cons (pv 0) (pa_cons pe_int pa_nil))) pe_int) pe_int (nomark _)) (pss_one (ps_ret (pe_call (ok__law_free_steps T) (hr.mono (by omega)) (by rfl) T.glo__law_free_steps (F__law_free_steps T).kp (b__law_free_steps T) .nil passL (pa_cons (pv 0) pa_nil)))) pss_nil)
    (pss_cons (ps_set (i := 1) sc__law_steps.nd rfl (.inl rfl) (pe_op op_fdivW (pe_call (ok__law_cell_at T) (hr.mono (by omega)) (by rfl) T.glo__law_cell_at (F__law_cell_at T).kp (b__law_cell_at T) .nil passL (pa_cons (pv 0) (pa_cons pe_int pa_nil))) pe_int))
    (pss_cons (ps_set (i := 2) sc__law_steps.nd rfl (.inl rfl) (pe_ix ix_list (pe_lst (pa_cons (pe_op op_pow pe_int pe_int) (pa_cons (pe_op op_pow pe_int pe_int) pa_nil))) (pe_op op_mod (pv 1) pe_int) (fun _ _ => rfl)))
    (pss_cons (ps_set (i := 3) sc__law_steps.nd rfl (.inl rfl) (pe_ix ix_list (pe_lst (pa_cons (pe_op op_mulX (pe_op op_pow pe_int pe_int) (pe_op op_pow pe_int pe_int)) (pa_cons (pe_op op_pow pe_int pe_int) pa_nil))) (pe_op op_mod (pv 1) pe_int) (fun _ _ => rfl)))
    (pss_cons (ps_set (i := 4) sc__law_steps.nd rfl (.inl rfl) (pe_lst (pa_cons (pe_op op_sub (pe_op op_mod (pe_op op_add (pe_op op_mulX (pe_op op_fdivW (pv 1) pe_int) pe_int) (pe_call (ok__law_mixed T) (hr.mono (by omega)) (by rfl) T.glo__law_mixed (F__law_mixed T).kp (b__law_mixed T) .nil passL (pa_cons (pv 1) (pa_cons pe_int pa_nil)))) (pe_op op_add (pe_op op_mulX pe_int (pv 2)) pe_int)) (pv 2)) pa_nil)))
    (pss_cons (ps_for PassesOwn.never rfl (pi_range2 (by rfl) T.free_range (pa_cons pe_int (pa_cons (pe_callB (call_min2 rfl) (by rfl) T.free_min (by decide +kernel) (pa_cons pe_int (pa_cons (pe_callB call_lenK (by rfl) T.free_len (by decide +kernel) (pa_cons (pv 0) pa_nil)) pa_nil))) pa_nil))) (pg_name (i := 5) sc__law_steps.nd rfl (.inl rfl)) (pss_cons (ps_set (i := 6) sc__law_steps.nd rfl (.inl rfl) (pe_ix ix_list (pv 0) (pv 5) (fun _ _ => rfl)))
    (pss_cons (ps_set (i := 7) sc__law_steps.nd rfl (.inl rfl) (pe_op op_add (pv 6) (pe_op op_mulX (pe_op op_mulX (pe_call (ok__law_mixed T) (hr.mono (by omega)) (by rfl) T.glo__law_mixed (F__law_mixed T).kp (b__law_mixed T) .nil passL (pa_cons (pv 6) (pa_cons (pv 5) pa_nil))) (pe_call (ok__law_mixed T) (hr.mono (by omega)) (by rfl) T.glo__law_mixed (F__law_mixed T).kp (b__law_mixed T) .nil passL (pa_cons (pv 6) (pa_cons (pe_op op_add (pv 5) pe_int) pa_nil)))) (pe_call (ok__law_mixed T) (hr.mono (by omega)) (by rfl) T.glo__law_mixed (F__law_mixed T).kp (b__law_mixed T) .nil passL (pa_cons (pv 6) (pa_cons (pe_op op_add (pv 5) pe_int) pa_nil))))))
    (pss_cons (ps_set (i := 8) sc__law_steps.nd rfl (.inl rfl) (pe_ix ix_list (pe_lst (pa_cons pe_int (pa_cons pe_int (pa_cons pe_int (pa_cons (pe_op op_pow pe_int pe_int) pa_nil))))) (pe_op op_mod (pe_call (ok__law_mixed T) (hr.mono (by omega)) (by rfl) T.glo__law_mixed (F__law_mixed T).kp (b__law_mixed T) .nil passL (pa_cons (pv 6) (pa_cons (pe_op op_add (pv 5) pe_int) pa_nil))) pe_int) (fun _ _ => rfl)))
    (pss_cons (ps_expr (pe_bm PySem.F.plainAttrs_list PySem.F.slot_list_append PySem.F.type_list_append mt_append (pv 4) (pa_cons (pe_op op_add pe_int (pe_op op_mod (pv 7) (pe_callB (call_max2 rfl) (by rfl) T.free_max (by decide +kernel) (pa_cons pe_int (pa_cons (pe_callB (call_min2 rfl) (by rfl) T.free_min (by decide +kernel) (pa_cons (pe_op op_sub (pv 3) pe_int) (pa_cons (pv 8) pa_nil))) pa_nil))))) pa_nil)))
    (pss_one (ps_set (i := 3) sc__law_steps.nd rfl (.inl rfl) (pe_callB (call_max2 rfl) (by rfl) T.free_max (by decide +kernel) (pa_cons pe_int (pa_cons (pe_op op_fdivW (pv 3) (pe_op op_add (pe_ix ix_list (pv 4) (pe_un un_neg pe_int) (fun _ _ => rfl)) pe_int)) pa_nil))))))))))
    (pss_cons (ps_if (PW.pt (pw_and (pt_cmpR op_gt (pe_callB call_lenK (by rfl) T.free_len (by decide +kernel) (pa_cons (pv 4) pa_nil)) pe_int (nomark _)) (pw_and1 (pt_cmpR op_eq (pe_ix ix_list (pv 4) (pe_un un_neg pe_int) (fun _ _ => rfl)) pe_int (nomark _))))) (pss_one (ps_asg pe_int (pg_sub (pv 4) (pe_un un_neg pe_int) set_list))) pss_nil)
    (pss_one (ps_ret (pv 4))))))))))
theorem ok__law_digits (T : Tx K mg) : FnOk P w K mg base (L2.CX P w) 1 (He.fAd K d__law_digits.at_) (fdOf K d__law_digits.at_) ["_law_number"] (sp__law_digits K) := by
  refine (F__law_digits T).ok (k := 0) sc__law_digits (fun vs H Q E h => len__law_digits h) (fun cdv A outer s H vs Q E hr h => ⟨t__law_digits K, ?_, rd__law_digits vs H Q E h⟩)
  exact PSs.nox (pss_cons (ps_set (i := 1) sc__law_digits.nd rfl (.inl rfl) (pe_T (l := []) (by decide +kernel)))
    (pss_cons (ps_while PassesOwn.never (pt_cmpR op_gt (pv 0) pe_int (nomark _)) (pss_cons (ps_set (i := 1) sc__law_digits.nd rfl (.inl rfl) (pe_op op_addT (pe_ix ix_list (pe_lst (pa_cons (pe_T (l := [48]) (by decide +kernel)) (pa_cons (pe_T (l := [49]) (by decide +kernel)) pa_nil))) (pe_op op_mod (pv 0) pe_int) (fun _ _ => rfl)) (pv 1)))
    (pss_one (ps_set (i := 0) sc__law_digits.nd rfl (.inl rfl) (pe_op op_fdivW (pv 0) pe_int)))))
    (pss_one (ps_ret (pv 1)))))
theorem ok__law_count (T : Tx K mg) : FnOk P w K mg base (L2.CX P w) 2 (He.fAd K d__law_count.at_) (fdOf K d__law_count.at_) ["_law_n"] (sp__law_count K) := by
  refine (F__law_count T).ok (k := 1) sc__law_count (fun vs H Q E h => len__law_count h) (fun cdv A outer s H vs Q E hr h => ⟨t__law_count K, ?_, rd__law_count vs H Q E h⟩)
  exact PSs.nox (pss_cons (ps_set (i := 1) sc__law_count.nd rfl (.inl rfl) (pe_call (ok__law_digits T) (hr.mono (by omega)) (by rfl) T.glo__law_digits (F__law_digits T).kp (b__law_digits T) .nil passL (pa_cons (pe_op op_add (pv 0) pe_int) pa_nil)))
    (pss_cons (ps_set (i := 2) sc__law_count.nd rfl (.inl rfl) (pe_call (ok__law_digits T) (hr.mono (by omega)) (by rfl) T.glo__law_digits (F__law_digits T).kp (b__law_digits T) .nil passL (pa_cons (pe_callB call_lenK (by rfl) T.free_len (by decide +kernel) (pa_cons (pv 1) pa_nil)) pa_nil)))
    (pss_cons (ps_set (i := 3) sc__law_count.nd rfl (.inl rfl) (pe_op op_mulT (pe_T (l := [49]) (by decide +kernel)) (pe_op op_sub (pe_callB call_lenK (by rfl) T.free_len (by decide +kernel) (pa_cons (pv 2) pa_nil)) pe_int)))
    (pss_cons (ps_if (pt_cmpR op_lt (pe_callB call_lenK (by rfl) T.free_len (by decide +kernel) (pa_cons (pv 2) pa_nil)) pe_int (nomark _)) (pss_one (ps_set (i := 3) sc__law_count.nd rfl (.inl rfl) (pe_op op_addT (pv 3) (pe_T (l := [48]) (by decide +kernel))))) pss_nil)
    (pss_one (ps_ret (pe_op op_addT (pe_op op_addT (pv 3) (pe_slice sl_str (pv 2) (po_some pe_int) po_none)) (pe_slice sl_str (pv 1) (po_some pe_int) po_none))))))))
theorem ok__law_turned (T : Tx K mg) : FnOk P w K mg base (L2.CX P w) 1 (He.fAd K d__law_turned.at_) (fdOf K d__law_turned.at_) ["_law_row"] (sp__law_turned K) := by
  refine (F__law_turned T).ok (k := 0) sc__law_turned (fun vs H Q E h => len__law_turned h) (fun cdv A outer s H vs Q E hr h => ⟨t__law_turned K, ?_, rd__law_turned vs H Q E h⟩)
  exact PSs.nox (pss_one (ps_ret (pe_bm PySem.F.plainAttrs_str PySem.F.slot_str_join PySem.F.type_str_join mt_joinK (pe_T (l := []) (by decide +kernel)) (pa_cons (pe_lc (own := [("_law_sign", 1)]) (g := (gName 1)) (tt := tYes) rfl sc__law_turned.nd (pi_str (pv 0)) (blkOk_by (N := N__law_turned) (sc := defScope s__law_turned) (by decide +kernel)) (fun _ _ _ _ _ => (pg_name (i := 1) sc__law_turned.nd rfl (.inl rfl))) (fun _ _ _ _ _ => by exact pts_nil) (fun _ _ _ _ _ => by exact (pe_ix ix_list (pe_lst (pa_cons (pe_T (l := [49]) (by decide +kernel)) (pa_cons (pe_T (l := [48]) (by decide +kernel)) pa_nil))) (pe_callTy call_intB (by rfl) T.free_int (by decide +kernel) (pa_cons (pe_cmpR op_eq (pv 1) (pe_T (l := [49]) (by decide +kernel)) (nomark _)) pa_nil)) (fun _ _ => rfl)))) pa_nil))))
theorem ok__law_laid (T : Tx K mg) : FnOk P w K mg base (L2.CX P w) 3 (He.fAd K d__law_laid.at_) (fdOf K d__law_laid.at_) ["_law_steps_here"] (sp__law_laid K) := by
  refine (F__law_laid T).ok (k := 2) sc__law_laid (fun vs H Q E h => len__law_laid h) (fun cdv A outer s H vs Q E hr h => ⟨t__law_laid K, ?_, rd__law_laid vs H Q E h⟩)
  exact PSs.nox (pss_cons (ps_set (i := 1) sc__law_laid.nd rfl (.inl rfl) (pe_op op_addT (pe_T (l := [49]) (by decide +kernel)) (pe_call (ok__law_count T) (hr.mono (by omega)) (by rfl) T.glo__law_count (F__law_count T).kp (b__law_count T) .nil passL (pa_cons (pe_callB (call_max2 rfl) (by rfl) T.free_max (by decide +kernel) (pa_cons (pe_ix ix_list (pv 0) pe_int (fun _ _ => rfl)) (pa_cons pe_int pa_nil))) pa_nil))))
    (pss_cons (ps_if (pt_cmpR op_lt (pe_ix ix_list (pv 0) pe_int (fun _ _ => rfl)) pe_int (nomark _)) (pss_one (ps_set (i := 1) sc__law_laid.nd rfl (.inl rfl) (pe_op op_addT (pe_T (l := [48]) (by decide +kernel)) (pe_call (ok__law_turned T) (hr.mono (by omega)) (by rfl) T.glo__law_turned (F__law_turned T).kp (b__law_turned T) .nil passL (pa_cons (pe_call (ok__law_count T) (hr.mono (by omega)) (by rfl) T.glo__law_count (F__law_count T).kp (b__law_count T) .nil passL (pa_cons (pe_op op_sub (pe_un un_neg pe_int) (pe_ix ix_list (pv 0) pe_int (fun _ _ => rfl))) pa_nil)) pa_nil))))) pss_nil)
    (pss_cons (ps_for PassesOwn.never rfl (pi_range2 (by rfl) T.free_range (pa_cons pe_int (pa_cons (pe_callB call_lenK (by rfl) T.free_len (by decide +kernel) (pa_cons (pv 0) pa_nil)) pa_nil))) (pg_name (i := 2) sc__law_laid.nd rfl (.inl rfl)) (pss_cons (ps_set (i := 1) sc__law_laid.nd rfl (.inl rfl) (pe_op op_addT (pv 1) (pe_ix ix_str (pe_T (l := [48, 49]) (by decide +kernel)) (pe_op op_mod (pv 2) pe_int) (fun _ _ => rfl))))
    (pss_one (ps_if (pt_cmpR op_eq (pe_op op_mod (pv 2) pe_int) pe_int (nomark _)) (pss_one (ps_set (i := 1) sc__law_laid.nd rfl (.inl rfl) (pe_op op_addT (pv 1) (pe_call (ok__law_turned T) (hr.mono (by omega)) (by rfl) T.glo__law_turned (F__law_turned T).kp (b__law_turned T) .nil passL (pa_cons (pe_call (ok__law_count T) (hr.mono (by omega)) (by rfl) T.glo__law_count (F__law_count T).kp (b__law_count T) .nil passL (pa_cons (pe_op op_sub (pe_ix ix_list (pv 0) (pv 2) (fun _ _ => rfl)) pe_int) pa_nil)) pa_nil))))) (pss_one (ps_set (i := 1) sc__law_laid.nd rfl (.inl rfl) (pe_op op_addT (pv 1) (pe_call (ok__law_count T) (hr.mono (by omega)) (by rfl) T.glo__law_count (F__law_count T).kp (b__law_count T) .nil passL (pa_cons (pe_op op_sub (pe_ix ix_list (pv 0) (pv 2) (fun _ _ => rfl)) pe_int) pa_nil)))))))))
    (pss_one (ps_ret (pe_op op_addT (pv 1) (pe_ix ix_str (pe_T (l := [49, 48]) (by decide +kernel)) (pe_op op_mod (pe_callB call_lenK (by rfl) T.free_len (by decide +kernel) (pa_cons (pv 0) pa_nil)) pe_int) (fun _ _ => rfl))))))))
theorem ok__law_raw (T : Tx K mg) : FnOk P w K mg base (L2.CX P w) 1 (He.fAd K d__law_raw.at_) (fdOf K d__law_raw.at_) ["_law_script"] (sp__law_raw K) := by
  refine (F__law_raw T).ok (k := 0) sc__law_raw (fun vs H Q E h => len__law_raw h) (fun cdv A outer s H vs Q E hr h => ⟨t__law_raw K, ?_, rd__law_raw vs H Q E h⟩)
  exact PSs.nox (pss_cons (ps_set (i := 1) sc__law_raw.nd rfl (.inl rfl) (pe_T (l := []) (by decide +kernel)))
    (pss_cons (ps_for PassesOwn.never rfl (pi_list (pe_slice sl_list (pv 0) (po_some pe_int) (po_some pe_int))) (pg_name (i := 2) sc__law_raw.nd rfl (.inl rfl)) (pss_one (ps_for PassesOwn.never rfl (pi_range1 (by rfl) T.free_range (pa_cons pe_int pa_nil)) (pg_name (i := 3) sc__law_raw.nd rfl (.inl rfl)) (pss_one (ps_set (i := 1) sc__law_raw.nd rfl (.inl rfl) (pe_op op_addT (pv 1) (pe_ix ix_str (pe_T (l := [48, 49]) (by decide +kernel)) (pe_op op_and (pe_op op_shr (pv 2) (pv 3)) pe_int) (fun _ _ => rfl))))))))
    (pss_one (ps_ret (pv 1)))))
theorem ok__law_bent (T : Tx K mg) : FnOk P w K mg base (L2.CX P w) 2 (He.fAd K d__law_bent.at_) (fdOf K d__law_bent.at_) ["_law_script", "_law_row"] (sp__law_bent K) := by
  refine (F__law_bent T).ok (k := 1) sc__law_bent (fun vs H Q E h => len__law_bent h) (fun cdv A outer s H vs Q E hr h => ⟨t__law_bent K, ?_, rd__law_bent vs H Q E h⟩)
  exact PSs.nox (pss_cons (ps_set (i := 2) sc__law_bent.nd rfl (.inl rfl) (pe_call (ok__law_mixed T) (hr.mono (by omega)) (by rfl) T.glo__law_mixed (F__law_mixed T).kp (b__law_mixed T) .nil passL (pa_cons (pe_call (ok__law_cell_at T) (hr.mono (by omega)) (by rfl) T.glo__law_cell_at (F__law_cell_at T).kp (b__law_cell_at T) .nil passL (pa_cons (pv 0) (pa_cons pe_int pa_nil))) (pa_cons pe_int pa_nil))))
    (pss_cons (ps_set (i := 3) sc__law_bent.nd rfl (.inl rfl) (pe_op op_mod (pe_op op_fdivW (pv 2) pe_int) (pe_callB call_lenK (by rfl) T.free_len (by decide +kernel) (pa_cons (pv 1) pa_nil))))
    (pss_cons (ps_set (i := 4) sc__law_bent.nd rfl (.inl rfl) (pe_ix ix_list (pe_lst (pa_cons (pe_T (l := [49]) (by decide +kernel)) (pa_cons (pe_T (l := [48]) (by decide +kernel)) pa_nil))) (pe_callTy call_intB (by rfl) T.free_int (by decide +kernel) (pa_cons (pe_cmpR op_eq (pe_ix ix_str (pv 1) (pv 3) (fun _ _ => rfl)) (pe_T (l := [49]) (by decide +kernel)) (nomark _)) pa_nil)) (fun _ _ => rfl)))
    (pss_cons (ps_set (i := 6) sc__law_bent.nd rfl (.inl rfl) (pe_bm PySem.F.plainAttrs_str PySem.F.slot_str_join PySem.F.type_str_join mt_joinK (pe_T (l := []) (by decide +kernel)) (pa_cons (pe_lc (own := [("_law_cell", 5)]) (g := (gName 5)) (tt := tYes) rfl sc__law_bent.nd (pi_list (pe_slice sl_list (pv 0) po_none (po_some pe_int))) (blkOk_by (N := N__law_bent) (sc := defScope s__law_bent) (by decide +kernel)) (fun _ _ _ _ _ => (pg_name (i := 5) sc__law_bent.nd rfl (.inl rfl))) (fun _ _ _ _ _ => by exact pts_nil) (fun _ _ _ _ _ => by exact (pe_slice sl_str (pe_slice sl_str (pe_T (l := [48, 48, 48, 49, 49, 48, 49, 49, 48, 49]) (by decide +kernel)) (po_some (pe_op op_mulX (pe_op op_mod (pe_call (ok__law_mixed T) (hr.mono (by omega)) (by rfl) T.glo__law_mixed (F__law_mixed T).kp (b__law_mixed T) .nil passL (pa_cons (pv 5) (pa_cons pe_int pa_nil))) pe_int) pe_int)) po_none) po_none (po_some pe_int)))) pa_nil)))
    (pss_cons (ps_if (pt_cmpR op_eq (pe_op op_mod (pe_call (ok__law_cell_at T) (hr.mono (by omega)) (by rfl) T.glo__law_cell_at (F__law_cell_at T).kp (b__law_cell_at T) .nil passL (pa_cons (pv 0) (pa_cons pe_int pa_nil))) pe_int) pe_int (nomark _)) (pss_one (ps_set (i := 6) sc__law_bent.nd rfl (.inl rfl) (pe_call (ok__law_raw T) (hr.mono (by omega)) (by rfl) T.glo__law_raw (F__law_raw T).kp (b__law_raw T) .nil passL (pa_cons (pv 0) pa_nil)))) pss_nil)
    (pss_cons (ps_if (pt_cmpR op_eq (pe_op op_mod (pv 2) pe_int) pe_int (nomark _)) (pss_one (ps_ret (pe_slice sl_str (pv 1) po_none (po_some (pv 3))))) pss_nil)
    (pss_cons (ps_if (pt_cmpR op_eq (pe_op op_mod (pv 2) pe_int) pe_int (nomark _)) (pss_one (ps_ret (pe_op op_addT (pe_op op_addT (pe_op op_addT (pe_slice sl_str (pv 1) po_none (po_some (pv 3))) (pv 4)) (pe_slice sl_str (pv 1) (po_some (pe_op op_add (pv 3) pe_int)) po_none)) (pv 6)))) pss_nil)
    (pss_cons (ps_if (pt_cmpR op_eq (pe_op op_mod (pv 2) pe_int) pe_int (nomark _)) (pss_cons (ps_set (i := 7) sc__law_bent.nd rfl (.inl rfl) (pe_slice sl_str (pv 1) (po_some (pe_op op_add (pv 3) pe_int)) (po_some (pe_op op_add (pv 3) pe_int))))
    (pss_one (ps_ret (pe_op op_addT (pe_op op_addT (pe_op op_addT (pe_op op_addT (pe_slice sl_str (pv 1) po_none (po_some (pv 3))) (pv 7)) (pe_ix ix_str (pv 1) (pv 3) (fun _ _ => rfl))) (pe_slice sl_str (pv 1) (po_some (pe_op op_add (pv 3) pe_int)) po_none)) (pv 6))))) pss_nil)
    (pss_cons (ps_if (pt_cmpR op_eq (pe_op op_mod (pv 2) pe_int) pe_int (nomark _)) (pss_one (ps_ret (pv 6))) pss_nil)
    (pss_one (ps_ret (pe_op op_addT (pv 1) (pe_slice sl_str (pv 6) po_none (po_some (pe_op op_mod (pe_op op_fdivW (pv 2) pe_int) pe_int)))))))))))))))
theorem ok__law_take (T : Tx K mg) : FnOk P w K mg base (L2.CX P w) 1 (He.fAd K d__law_take.at_) (fdOf K d__law_take.at_) ["_law_state", "_law_flipped"] (sp__law_take K) := by
  refine (F__law_take T).ok (k := 0) sc__law_take (fun vs H Q E h => len__law_take h) (fun cdv A outer s H vs Q E hr h => ⟨t__law_take K, ?_, rd__law_take vs H Q E h⟩)
  exact PSs.nox (pss_cons (ps_if (pt_cmpR op_ge (pe_ix ix_list (pv 0) pe_int (fun _ _ => rfl)) (pe_callB call_lenK (by rfl) T.free_len (by decide +kernel) (pa_cons (pe_ix ix_list (pv 0) pe_int (fun _ _ => rfl)) pa_nil)) (nomark _)) (pss_one (ps_ret (pe_un un_neg pe_int))) pss_nil)
    (pss_cons (ps_asg (pe_op op_add (pe_ix ix_list (pv 0) pe_int (fun _ _ => rfl)) pe_int) (pg_sub (pv 0) pe_int set_list))
    (pss_one (ps_ret (pe_op op_xor (pe_callTy call_intB (by rfl) T.free_int (by decide +kernel) (pa_cons (pe_cmpR op_eq (pe_ix ix_str (pe_ix ix_list (pv 0) pe_int (fun _ _ => rfl)) (pe_op op_sub (pe_ix ix_list (pv 0) pe_int (fun _ _ => rfl)) pe_int) (fun _ _ => rfl)) (pe_T (l := [49]) (by decide +kernel)) (nomark _)) pa_nil)) (pv 1))))))
theorem ok__law_digits_on (T : Tx K mg) : FnOk P w K mg base (L2.CX P w) 2 (He.fAd K d__law_digits_on.at_) (fdOf K d__law_digits_on.at_) ["_law_state", "_law_flipped", "_law_number", "_law_many"] (sp__law_digits_on K) := by
  refine (F__law_digits_on T).ok (k := 1) sc__law_digits_on (fun vs H Q E h => len__law_digits_on h) (fun cdv A outer s H vs Q E hr h => ⟨t__law_digits_on K, ?_, rd__law_digits_on vs H Q E h⟩)
  exact PSs.nox (pss_cons (ps_for PassesOwn.never rfl (pi_range1 (by rfl) T.free_range (pa_cons (pv 3) pa_nil)) (pg_name (i := 4) sc__law_digits_on.nd rfl (.inl rfl)) (pss_cons (ps_set (i := 5) sc__law_digits_on.nd rfl (.inl rfl) (pe_call (ok__law_take T) (hr.mono (by omega)) (by rfl) T.glo__law_take (F__law_take T).kp (b__law_take T) .nil passL (pa_cons (pv 0) (pa_cons (pv 1) pa_nil))))
    (pss_cons (ps_if (PW.pt (pw_or (pt_cmpR op_lt (pv 5) pe_int (nomark _)) (pw_or1 (pt_cmpR op_lt (pv 2) pe_int (nomark _))))) (pss_one (ps_ret (pe_un un_neg pe_int))) pss_nil)
    (pss_one (ps_set (i := 2) sc__law_digits_on.nd rfl (.inl rfl) (pe_op op_add (pe_op op_mulX (pv 2) pe_int) (pv 5)))))))
    (pss_one (ps_ret (pv 2))))
theorem ok__law_count_on (T : Tx K mg) : FnOk P w K mg base (L2.CX P w) 3 (He.fAd K d__law_count_on.at_) (fdOf K d__law_count_on.at_) ["_law_state", "_law_flipped"] (sp__law_count_on K) := by
  refine (F__law_count_on T).ok (k := 2) sc__law_count_on (fun vs H Q E h => len__law_count_on h) (fun cdv A outer s H vs Q E hr h => ⟨t__law_count_on K, ?_, rd__law_count_on vs H Q E h⟩)
  exact PSs.nox (pss_cons (ps_set (i := 2) sc__law_count_on.nd rfl (.inl rfl) pe_int)
    (pss_cons (ps_set (i := 3) sc__law_count_on.nd rfl (.inl rfl) pe_int)
    (pss_cons (ps_while PassesOwn.never (PW.pt (pw_and (pt_cmpR op_eq (pv 3) pe_int (nomark _)) (pw_and1 (pt_cmpR op_lt (pv 2) pe_int (nomark _))))) (pss_cons (ps_set (i := 3) sc__law_count_on.nd rfl (.inl rfl) (pe_call (ok__law_take T) (hr.mono (by omega)) (by rfl) T.glo__law_take (F__law_take T).kp (b__law_take T) .nil passL (pa_cons (pv 0) (pa_cons (pv 1) pa_nil))))
    (pss_one (ps_set (i := 2) sc__law_count_on.nd rfl (.inl rfl) (pe_op op_add (pv 2) (pe_callB (call_max2 rfl) (by rfl) T.free_max (by decide +kernel) (pa_cons (pv 3) (pa_cons pe_int pa_nil))))))))
    (pss_cons (ps_set (i := 4) sc__law_count_on.nd rfl (.inl rfl) (pe_call (ok__law_digits_on T) (hr.mono (by omega)) (by rfl) T.glo__law_digits_on (F__law_digits_on T).kp (b__law_digits_on T) .nil passL (pa_cons (pv 0) (pa_cons (pv 1) (pa_cons (pe_callB (call_min2 rfl) (by rfl) T.free_min (by decide +kernel) (pa_cons (pe_op op_add (pe_op op_mulX pe_int (pv 3)) pe_int) (pa_cons pe_int pa_nil))) (pa_cons (pv 2) pa_nil))))))
    (pss_cons (ps_if (PW.pt (pw_or (pt_cmpR op_lt (pv 3) pe_int (nomark _)) (pw_or1 (pt_cmpR op_lt (pv 4) pe_int (nomark _))))) (pss_one (ps_ret (pe_un un_neg pe_int))) pss_nil)
    (pss_one (ps_ret (pe_op op_sub (pe_call (ok__law_digits_on T) (hr.mono (by omega)) (by rfl) T.glo__law_digits_on (F__law_digits_on T).kp (b__law_digits_on T) .nil passL (pa_cons (pv 0) (pa_cons (pv 1) (pa_cons pe_int (pa_cons (pe_op op_sub (pv 4) pe_int) pa_nil))))) pe_int))))))))
theorem ok__law_reader (T : Tx K mg) : FnOk P w K mg base (L2.CX P w) 4 (He.fAd K d__law_reader.at_) (fdOf K d__law_reader.at_) ["_law_signs", "_law_at"] (sp__law_reader K) := by
  refine (F__law_reader T).ok (k := 3) sc__law_reader (fun vs H Q E h => len__law_reader h) (fun cdv A outer s H vs Q E hr h => ⟨t__law_reader K, ?_, rd__law_reader vs H Q E h⟩)
  exact PSs.nox (pss_cons (ps_set (i := 2) sc__law_reader.nd rfl (.inl rfl) (pe_lst (pa_cons (pv 0) (pa_cons (pv 1) pa_nil))))
    (pss_cons (ps_set (i := 3) sc__law_reader.nd rfl (.inl rfl) (pe_call (ok__law_take T) (hr.mono (by omega)) (by rfl) T.glo__law_take (F__law_take T).kp (b__law_take T) .nil passL (pa_cons (pv 2) (pa_cons pe_int pa_nil))))
    (pss_cons (ps_if (pt_cmpR op_lt (pv 3) pe_int (nomark _)) (pss_one (ps_ret (pe_lst (pa_cons (pe_T (l := [115, 104, 111, 114, 116]) (by decide +kernel)) (pa_cons (pe_lst pa_nil) (pa_cons (pe_callB call_lenK (by rfl) T.free_len (by decide +kernel) (pa_cons (pv 0) pa_nil)) pa_nil)))))) pss_nil)
    (pss_cons (ps_set (i := 4) sc__law_reader.nd rfl (.inl rfl) (pe_call (ok__law_count_on T) (hr.mono (by omega)) (by rfl) T.glo__law_count_on (F__law_count_on T).kp (b__law_count_on T) .nil passL (pa_cons (pv 2) (pa_cons (pe_op op_sub pe_int (pv 3)) pa_nil))))
    (pss_cons (ps_set (i := 5) sc__law_reader.nd rfl (.inl rfl) (pe_lst (pa_cons (pe_ix ix_list (pe_lst (pa_cons (pe_op op_sub (pe_un un_neg pe_int) (pv 4)) (pa_cons (pv 4) pa_nil))) (pv 3) (fun _ _ => rfl)) pa_nil)))
    (pss_cons (ps_while PassesOwn.never (pt_cmpR op_ge (pv 4) pe_int (nomark _)) (pss_cons (ps_set (i := 6) sc__law_reader.nd rfl (.inl rfl) (pe_call (ok__law_take T) (hr.mono (by omega)) (by rfl) T.glo__law_take (F__law_take T).kp (b__law_take T) .nil passL (pa_cons (pv 2) (pa_cons (pe_op op_mod (pe_op op_sub (pe_callB call_lenK (by rfl) T.free_len (by decide +kernel) (pa_cons (pv 5) pa_nil)) pe_int) pe_int) pa_nil))))
    (pss_cons (ps_if (PW.pt (pw_and (pt_cmpR op_eq (pv 6) pe_int (nomark _)) (pw_and (pt_cmpR op_gt (pe_callB call_lenK (by rfl) T.free_len (by decide +kernel) (pa_cons (pv 5) pa_nil)) pe_int (nomark _)) (pw_and1 (pt_cmpR op_eq (pe_ix ix_list (pv 5) (pe_un un_neg pe_int) (fun _ _ => rfl)) pe_int (nomark _)))))) (pss_one (ps_ret (pe_lst (pa_cons (pe_T (l := [119, 114, 111, 110, 103]) (by decide +kernel)) (pa_cons (pe_lst pa_nil) (pa_cons (pe_op op_sub (pe_ix ix_list (pv 2) pe_int (fun _ _ => rfl)) pe_int) pa_nil)))))) pss_nil)
    (pss_cons (ps_if (pt_cmpR op_eq (pv 6) pe_int (nomark _)) (pss_one (ps_ret (pe_lst (pa_cons (pe_T (l := [114, 101, 97, 100]) (by decide +kernel)) (pa_cons (pv 5) (pa_cons (pe_ix ix_list (pv 2) pe_int (fun _ _ => rfl)) pa_nil)))))) pss_nil)
    (pss_cons (ps_set (i := 4) sc__law_reader.nd rfl (.inl rfl) (pe_un un_neg pe_int))
    (pss_cons (ps_if (pt_cmpR op_eq (pv 6) pe_int (nomark _)) (pss_one (ps_set (i := 4) sc__law_reader.nd rfl (.inl rfl) (pe_call (ok__law_count_on T) (hr.mono (by omega)) (by rfl) T.glo__law_count_on (F__law_count_on T).kp (b__law_count_on T) .nil passL (pa_cons (pv 2) (pa_cons (pe_op op_mod (pe_callB call_lenK (by rfl) T.free_len (by decide +kernel) (pa_cons (pv 5) pa_nil)) pe_int) pa_nil))))) pss_nil)
    (pss_one (ps_expr (pe_bm PySem.F.plainAttrs_list PySem.F.slot_list_append PySem.F.type_list_append mt_append (pv 5) (pa_cons (pe_op op_add (pv 4) pe_int) pa_nil))))))))))
    (pss_one (ps_ret (pe_lst (pa_cons (pe_T (l := [115, 104, 111, 114, 116]) (by decide +kernel)) (pa_cons (pe_lst pa_nil) (pa_cons (pe_callB call_lenK (by rfl) T.free_len (by decide +kernel) (pa_cons (pv 0) pa_nil)) pa_nil))))))))))))
theorem ok_Source___init__ (T : Tx K mg) : FnOk P w K mg base (L2.CX P w) 1 (He.fAd K d_Source___init__.at_) (fdOf K d_Source___init__.at_) ["self", "signs", "at", "fills"] (sp_Source___init__ K) := by
  refine (F_Source___init__ T).ok (k := 0) sc_Source___init__ (fun vs H Q E h => len_Source___init__ h) (fun cdv A outer s H vs Q E hr h => ⟨t_Source___init__ K, ?_, rd_Source___init__ vs H Q E h⟩)
  exact PSs.nox (pss_cons (ps_fldC T.cls_Source T.noat_Source_signs (pv 0) (pv 1))
    (pss_cons (ps_fldC T.cls_Source T.noat_Source_at (pv 0) (pv 2))
    (pss_one (ps_fldC T.cls_Source T.noat_Source_fills (pv 0) (pv 3)))))
theorem ok_Short___init__ (T : Tx K mg) : FnOk P w K mg base (L2.CX P w) 1 (He.fAd K d_Short___init__.at_) (fdOf K d_Short___init__.at_) ["self", "place"] (sp_Short___init__ K) := by
  refine (F_Short___init__ T).ok (k := 0) sc_Short___init__ (fun vs H Q E h => len_Short___init__ h) (fun cdv A outer s H vs Q E hr h => ⟨t_Short___init__ K, ?_, rd_Short___init__ vs H Q E h⟩)
  exact PSs.nox (pss_cons (ps_expr (pe_rinit (T.own_Short) T.root (by rfl) T.glo_RiseError (pa_cons (pv 0) (pa_cons (pe_T (l := [116, 111, 111, 32, 115, 104, 111, 114, 116]) (by decide +kernel)) pa_nil))))
    (pss_one (ps_ostC T.own_Short (pv 0) (pv 1))))
theorem ok_Source_take (T : Tx K mg) : FnOk P w K mg base (L2.CX P w) 3 (He.fAd K d_Source_take.at_) (fdOf K d_Source_take.at_) ["self", "wish"] (sp_Source_take K) := by
  refine (F_Source_take T).ok (k := 2) sc_Source_take (fun vs H Q E h => len_Source_take h) (fun cdv A outer s H vs Q E hr h => ⟨t_Source_take K E, ?_, rd_Source_take vs H Q E h⟩)
  exact (pss_cons (ps_if (pt_cmpR op_lt (pe_fldC T.cls_Source T.noat_Source_at (pv 0)) (pe_callB call_lenK (by rfl) T.free_len (by decide +kernel) (pa_cons (pe_fldC T.cls_Source T.noat_Source_signs (pv 0)) pa_nil)) (nomark _)) (pss_one (ps_set (i := 2) sc_Source_take.nd rfl (.inl rfl) (pe_ix ix_str (pe_fldC T.cls_Source T.noat_Source_signs (pv 0)) (pe_fldC T.cls_Source T.noat_Source_at (pv 0)) (fun _ _ => rfl)))) (pss_one (ps_if (pt_val (pe_fldC T.cls_Source T.noat_Source_fills (pv 0))) (pss_one (ps_set (i := 2) sc_Source_take.nd rfl (.inl rfl) (pv 1))) (pss_one (ps_raise rfl (takes_of rfl rfl rfl rfl) (pmk_oex T.own_Short.T T.own_Short.i T.own_Short.t (ok_Short___init__ T) (hr.mono (by omega)) (b_Short___init__ T) .nil passL (by rfl) T.glo_Short (pa_cons (pe_callB call_lenK (by rfl) T.free_len (by decide +kernel) (pa_cons (pe_fldC T.cls_Source T.noat_Source_signs (pv 0)) pa_nil)) pa_nil)))))))
    (pss_cons (ps_fldaugC T.cls_Source T.noat_Source_at (pv 0) pe_int in_add)
    (pss_one (ps_ret (pv 2)))))
theorem ok_other_sign (T : Tx K mg) : FnOk P w K mg base (L2.CX P w) 1 (He.fAd K d_other_sign.at_) (fdOf K d_other_sign.at_) ["sign"] (sp_other_sign K) := by
  refine (F_other_sign T).ok (k := 0) sc_other_sign (fun vs H Q E h => len_other_sign h) (fun cdv A outer s H vs Q E hr h => ⟨t_other_sign K, ?_, rd_other_sign vs H Q E h⟩)
  exact PSs.nox (pss_cons (ps_if (pt_cmpR op_eq (pv 0) (pe_T (l := [48]) (by decide +kernel)) (nomark _)) (pss_one (ps_ret (pe_T (l := [49]) (by decide +kernel)))) pss_nil)
    (pss_one (ps_ret (pe_T (l := [48]) (by decide +kernel)))))
theorem okR_TurnedSource_take (T : Tx K mg) : ∀ k : Nat, FnOk P w K mg base (L2.CX P w) (4 + k) (He.fAd K d_TurnedSource_take.at_) (fdOf K d_TurnedSource_take.at_) ["self", "wish"] (spR_TurnedSource_take K k)
  | 0 => (F_TurnedSource_take T).ok (k := 3) sc_TurnedSource_take (fun vs H Q E h => (z_TurnedSource_take h).elim) (fun cdv A outer s H vs Q E hr h => (z_TurnedSource_take h).elim)
  | k + 1 => by
    have ih_ := fun T : Tx K mg => okR_TurnedSource_take T k
    refine (F_TurnedSource_take T).ok (k := 4 + k) sc_TurnedSource_take (fun vs H Q E h => len_TurnedSource_take h) (fun cdv A outer s H vs Q E hr h => ⟨t_TurnedSource_take K (spR_TurnedSource_take K k) E, ?_, rd_TurnedSource_take k vs H Q E h⟩)
    exact (pss_one (ps_ret (pe_call (ok_other_sign T) (hr.mono (by omega)) (by rfl) T.glo_other_sign (F_other_sign T).kp (b_other_sign T) .nil passL (pa_cons (pe_or2 (pe_meth (pe_fldC T.cls_TurnedSource T.noat_TurnedSource_inner (pv 0)) T.cls_Source T.meth_Source_take (ok_Source_take T) (hr.mono (by omega)) (b_Source_take T) .nil (passes_call (takes_of rfl rfl rfl rfl) (fun _ _ _ _ h => h)) (pa_cons (pe_call (ok_other_sign T) (hr.mono (by omega)) (by rfl) T.glo_other_sign (F_other_sign T).kp (b_other_sign T) .nil passL (pa_cons (pv 1) pa_nil)) pa_nil)) (pe_meth (pe_fldC T.cls_TurnedSource T.noat_TurnedSource_inner (pv 0)) T.cls_TurnedSource T.meth_TurnedSource_take (ih_ T) hr (b_TurnedSource_take T) .nil (passes_call (takes_of rfl rfl rfl rfl) (fun _ _ _ _ h => h)) (pa_cons (pe_call (ok_other_sign T) (hr.mono (by omega)) (by rfl) T.glo_other_sign (F_other_sign T).kp (b_other_sign T) .nil passL (pa_cons (pv 1) pa_nil)) pa_nil))) pa_nil))))
theorem ok_TurnedSource_take (T : Tx K mg) : FnOk P w K mg base (L2.CX P w) 5 (He.fAd K d_TurnedSource_take.at_) (fdOf K d_TurnedSource_take.at_) ["self", "wish"] (sp_TurnedSource_take K) := okR_TurnedSource_take T 1
theorem ok_take_digits (T : Tx K mg) : FnOk P w K mg base (L2.CX P w) 6 (He.fAd K d_take_digits.at_) (fdOf K d_take_digits.at_) ["source", "number", "many"] (sp_take_digits K) := by
  refine (F_take_digits T).ok (k := 5) sc_take_digits (fun vs H Q E h => len_take_digits h) (fun cdv A outer s H vs Q E hr h => ⟨t_take_digits K E, ?_, rd_take_digits vs H Q E h⟩)
  exact (pss_cons (ps_for (passes_of rfl) rfl (pi_range1 (by rfl) T.free_range (pa_cons (pv 2) pa_nil)) (pg_name (i := 3) sc_take_digits.nd rfl (.inl rfl)) (pss_one (ps_set (i := 1) sc_take_digits.nd rfl (.inl rfl) (pe_op op_add (pe_op op_mulX (pv 1) pe_int) (pe_callTy call_intB (by rfl) T.free_int (by decide +kernel) (pa_cons (pe_cmpR op_eq (pe_or2 (pe_meth (pv 0) T.cls_Source T.meth_Source_take (ok_Source_take T) (hr.mono (by omega)) (b_Source_take T) .nil (passes_call (takes_of rfl rfl rfl rfl) (fun _ _ _ _ h => h)) (pa_cons (pe_T (l := [48]) (by decide +kernel)) pa_nil)) (pe_meth (pv 0) T.cls_TurnedSource T.meth_TurnedSource_take (ok_TurnedSource_take T) (hr.mono (by omega)) (b_TurnedSource_take T) .nil (passes_call (takes_of rfl rfl rfl rfl) (fun _ _ _ _ h => h)) (pa_cons (pe_T (l := [48]) (by decide +kernel)) pa_nil))) (pe_T (l := [49]) (by decide +kernel)) (nomark _)) pa_nil))))))
    (pss_one (ps_ret (pv 1))))
theorem ok_take_count (T : Tx K mg) : FnOk P w K mg base (L2.CX P w) 7 (He.fAd K d_take_count.at_) (fdOf K d_take_count.at_) ["source", "wish"] (sp_take_count K) := by
  refine (F_take_count T).ok (k := 6) sc_take_count (fun vs H Q E h => len_take_count h) (fun cdv A outer s H vs Q E hr h => ⟨t_take_count K E, ?_, rd_take_count vs H Q E h⟩)
  exact (pss_cons (ps_set (i := 2) sc_take_count.nd rfl (.inl rfl) pe_int)
    (pss_cons (ps_while (passes_of rfl) (PW.pt (pw_and (pt_cmpR op_lt (pv 2) (pe_gint (by rfl) T.int_MOST_ONES_7) (nomark _)) (pw_and1 (pt_cmpR op_eq (pe_or2 (pe_meth (pv 0) T.cls_Source T.meth_Source_take (ok_Source_take T) (hr.mono (by omega)) (b_Source_take T) .nil (passes_call (takes_of rfl rfl rfl rfl) (fun _ _ _ _ h => h)) (pa_cons (pv 1) pa_nil)) (pe_meth (pv 0) T.cls_TurnedSource T.meth_TurnedSource_take (ok_TurnedSource_take T) (hr.mono (by omega)) (b_TurnedSource_take T) .nil (passes_call (takes_of rfl rfl rfl rfl) (fun _ _ _ _ h => h)) (pa_cons (pv 1) pa_nil))) (pe_T (l := [49]) (by decide +kernel)) (nomark _))))) (pss_cons (ps_aug (i := 2) sc_take_count.nd rfl (.inl rfl) pe_int ip_add)
    (pss_one (ps_set (i := 1) sc_take_count.nd rfl (.inl rfl) (pe_T (l := [48]) (by decide +kernel))))))
    (pss_cons (ps_set (i := 3) sc_take_count.nd rfl (.inl rfl) (pe_call (ok_take_digits T) (hr.mono (by omega)) (by rfl) T.glo_take_digits (F_take_digits T).kp (b_take_digits T) .nil (passes_call (takes_of rfl rfl rfl rfl) (fun _ _ _ _ h => h)) (pa_cons (pv 0) (pa_cons pe_int (pa_cons (pv 2) pa_nil)))))
    (pss_one (ps_ret (pe_op op_sub (pe_call (ok_take_digits T) (hr.mono (by omega)) (by rfl) T.glo_take_digits (F_take_digits T).kp (b_take_digits T) .nil (passes_call (takes_of rfl rfl rfl rfl) (fun _ _ _ _ h => h)) (pa_cons (pv 0) (pa_cons pe_int (pa_cons (pe_op op_sub (pv 3) pe_int) pa_nil)))) pe_int))))))
theorem ok_TurnedSource___init__ (T : Tx K mg) : FnOk P w K mg base (L2.CX P w) 1 (He.fAd K d_TurnedSource___init__.at_) (fdOf K d_TurnedSource___init__.at_) ["self", "inner"] (sp_TurnedSource___init__ K) := by
  refine (F_TurnedSource___init__ T).ok (k := 0) sc_TurnedSource___init__ (fun vs H Q E h => len_TurnedSource___init__ h) (fun cdv A outer s H vs Q E hr h => ⟨t_TurnedSource___init__ K, ?_, rd_TurnedSource___init__ vs H Q E h⟩)
  exact PSs.nox (pss_one (ps_fldC T.cls_TurnedSource T.noat_TurnedSource_inner (pv 0) (pv 1)))
theorem ok_take_whole (T : Tx K mg) : FnOk P w K mg base (L2.CX P w) 8 (He.fAd K d_take_whole.at_) (fdOf K d_take_whole.at_) ["source"] (sp_take_whole K) := by
  refine (F_take_whole T).ok (k := 7) sc_take_whole (fun vs H Q E h => len_take_whole h) (fun cdv A outer s H vs Q E hr h => ⟨t_take_whole K E, ?_, rd_take_whole vs H Q E h⟩)
  exact (pss_cons (ps_if (pt_cmpR op_eq (pe_or2 (pe_meth (pv 0) T.cls_Source T.meth_Source_take (ok_Source_take T) (hr.mono (by omega)) (b_Source_take T) .nil (passes_call (takes_of rfl rfl rfl rfl) (fun _ _ _ _ h => h)) (pa_cons (pe_T (l := [49]) (by decide +kernel)) pa_nil)) (pe_meth (pv 0) T.cls_TurnedSource T.meth_TurnedSource_take (ok_TurnedSource_take T) (hr.mono (by omega)) (b_TurnedSource_take T) .nil (passes_call (takes_of rfl rfl rfl rfl) (fun _ _ _ _ h => h)) (pa_cons (pe_T (l := [49]) (by decide +kernel)) pa_nil))) (pe_T (l := [49]) (by decide +kernel)) (nomark _)) (pss_one (ps_ret (pe_call (ok_take_count T) (hr.mono (by omega)) (by rfl) T.glo_take_count (F_take_count T).kp (b_take_count T) .nil (passes_call (takes_of rfl rfl rfl rfl) (fun _ _ _ _ h => h)) (pa_cons (pv 0) (pa_cons (pe_T (l := [48]) (by decide +kernel)) pa_nil))))) pss_nil)
    (pss_one (ps_ret (pe_op op_sub (pe_un un_neg pe_int) (pe_call (ok_take_count T) (hr.mono (by omega)) (by rfl) T.glo_take_count (F_take_count T).kp (b_take_count T) .nil (passes_call (takes_of rfl rfl rfl rfl) (fun _ _ _ _ h => h)) (pa_cons (pe_make T.mkr_TurnedSource (ok_TurnedSource___init__ T) (hr.mono (by omega)) (by rfl) T.glo_TurnedSource (b_TurnedSource___init__ T) .nil passL (pa_cons (pv 0) pa_nil)) (pa_cons (pe_T (l := [48]) (by decide +kernel)) pa_nil)))))))
theorem ok_ends_in_one (T : Tx K mg) : FnOk P w K mg base (L2.CX P w) 1 (He.fAd K d_ends_in_one.at_) (fdOf K d_ends_in_one.at_) ["steps"] (sp_ends_in_one K) := by
  refine (F_ends_in_one T).ok (k := 0) sc_ends_in_one (fun vs H Q E h => len_ends_in_one h) (fun cdv A outer s H vs Q E hr h => ⟨t_ends_in_one K, ?_, rd_ends_in_one vs H Q E h⟩)
  exact PSs.nox (pss_one (ps_ret (pe_and (pe_cmpR op_gt (pe_callB call_lenK (by rfl) T.free_len (by decide +kernel) (pa_cons (pv 0) pa_nil)) pe_int (nomark _)) (pe_one (pe_cmpR op_eq (pe_ix ix_list (pv 0) (pe_un un_neg pe_int) (fun _ _ => rfl)) pe_int (nomark _))))))
theorem ok_Source_spot (T : Tx K mg) : FnOk P w K mg base (L2.CX P w) 1 (He.fAd K d_Source_spot.at_) (fdOf K d_Source_spot.at_) ["self"] (sp_Source_spot K) := by
  refine (F_Source_spot T).ok (k := 0) sc_Source_spot (fun vs H Q E h => len_Source_spot h) (fun cdv A outer s H vs Q E hr h => ⟨t_Source_spot K, ?_, rd_Source_spot vs H Q E h⟩)
  exact PSs.nox (pss_one (ps_ret (pe_fldC T.cls_Source T.noat_Source_at (pv 0))))
theorem ok_Wrong___init__ (T : Tx K mg) : FnOk P w K mg base (L2.CX P w) 1 (He.fAd K d_Wrong___init__.at_) (fdOf K d_Wrong___init__.at_) ["self", "place"] (sp_Wrong___init__ K) := by
  refine (F_Wrong___init__ T).ok (k := 0) sc_Wrong___init__ (fun vs H Q E h => len_Wrong___init__ h) (fun cdv A outer s H vs Q E hr h => ⟨t_Wrong___init__ K, ?_, rd_Wrong___init__ vs H Q E h⟩)
  exact PSs.nox (pss_cons (ps_expr (pe_rinit (T.own_Wrong) T.root (by rfl) T.glo_RiseError (pa_cons (pv 0) (pa_cons (pe_T (l := [97, 32, 119, 114, 111, 110, 103, 32, 115, 105, 103, 110]) (by decide +kernel)) pa_nil))))
    (pss_one (ps_ostC T.own_Wrong (pv 0) (pv 1))))
theorem ok_Source_wrong (T : Tx K mg) : FnOk P w K mg base (L2.CX P w) 3 (He.fAd K d_Source_wrong.at_) (fdOf K d_Source_wrong.at_) ["self"] (sp_Source_wrong K) := by
  refine (F_Source_wrong T).ok (k := 2) sc_Source_wrong (fun vs H Q E h => len_Source_wrong h) (fun cdv A outer s H vs Q E hr h => ⟨t_Source_wrong K E, ?_, rd_Source_wrong vs H Q E h⟩)
  exact (pss_one (ps_raise rfl (takes_of rfl rfl rfl rfl) (pmk_oex T.own_Wrong.T T.own_Wrong.i T.own_Wrong.t (ok_Wrong___init__ T) (hr.mono (by omega)) (b_Wrong___init__ T) .nil passL (by rfl) T.glo_Wrong (pa_cons (pe_op op_sub (pe_meth0 (pv 0) T.cls_Source T.meth_Source_spot (ok_Source_spot T) (hr.mono (by omega)) (b_Source_spot T) .nil passL) pe_int) pa_nil))))
theorem okR_TurnedSource_spot (T : Tx K mg) : ∀ k : Nat, FnOk P w K mg base (L2.CX P w) (2 + k) (He.fAd K d_TurnedSource_spot.at_) (fdOf K d_TurnedSource_spot.at_) ["self"] (spR_TurnedSource_spot K k)
  | 0 => (F_TurnedSource_spot T).ok (k := 1) sc_TurnedSource_spot (fun vs H Q E h => (z_TurnedSource_spot h).elim) (fun cdv A outer s H vs Q E hr h => (z_TurnedSource_spot h).elim)
  | k + 1 => by
    have ih_ := fun T : Tx K mg => okR_TurnedSource_spot T k
    refine (F_TurnedSource_spot T).ok (k := 2 + k) sc_TurnedSource_spot (fun vs H Q E h => len_TurnedSource_spot h) (fun cdv A outer s H vs Q E hr h => ⟨t_TurnedSource_spot K (spR_TurnedSource_spot K k), ?_, rd_TurnedSource_spot k vs H Q E h⟩)
    exact PSs.nox (pss_one (ps_ret (pe_or2 (pe_meth0 (pe_fldC T.cls_TurnedSource T.noat_TurnedSource_inner (pv 0)) T.cls_Source T.meth_Source_spot (ok_Source_spot T) (hr.mono (by omega)) (b_Source_spot T) .nil passL) (pe_meth0 (pe_fldC T.cls_TurnedSource T.noat_TurnedSource_inner (pv 0)) T.cls_TurnedSource T.meth_TurnedSource_spot (ih_ T) hr (b_TurnedSource_spot T) .nil passL))))
theorem ok_TurnedSource_spot (T : Tx K mg) : FnOk P w K mg base (L2.CX P w) 3 (He.fAd K d_TurnedSource_spot.at_) (fdOf K d_TurnedSource_spot.at_) ["self"] (sp_TurnedSource_spot K) := okR_TurnedSource_spot T 1
theorem ok_TurnedSource_wrong (T : Tx K mg) : FnOk P w K mg base (L2.CX P w) 4 (He.fAd K d_TurnedSource_wrong.at_) (fdOf K d_TurnedSource_wrong.at_) ["self"] (sp_TurnedSource_wrong K) := by
  refine (F_TurnedSource_wrong T).ok (k := 3) sc_TurnedSource_wrong (fun vs H Q E h => len_TurnedSource_wrong h) (fun cdv A outer s H vs Q E hr h => ⟨t_TurnedSource_wrong K E, ?_, rd_TurnedSource_wrong vs H Q E h⟩)
  exact (pss_one (ps_raise rfl (takes_of rfl rfl rfl rfl) (pmk_oex T.own_Wrong.T T.own_Wrong.i T.own_Wrong.t (ok_Wrong___init__ T) (hr.mono (by omega)) (b_Wrong___init__ T) .nil passL (by rfl) T.glo_Wrong (pa_cons (pe_op op_sub (pe_meth0 (pv 0) T.cls_TurnedSource T.meth_TurnedSource_spot (ok_TurnedSource_spot T) (hr.mono (by omega)) (b_TurnedSource_spot T) .nil passL) pe_int) pa_nil))))
theorem ok_fraction_of (T : Tx K mg) : FnOk P w K mg base (L2.CX P w) 2 (He.fAd K d_fraction_of.at_) (fdOf K d_fraction_of.at_) ["steps"] (sp_fraction_of K) := by
  refine (F_fraction_of T).ok (k := 1) sc_fraction_of (fun vs H Q E h => len_fraction_of h) (fun cdv A outer s H vs Q E hr h => ⟨t_fraction_of K E, ?_, rd_fraction_of vs H Q E h⟩)
  exact (pss_cons (ps_if (PW.pt (pw_or (pt_cmpR op_eq (pe_callB call_lenK (by rfl) T.free_len (by decide +kernel) (pa_cons (pv 0) pa_nil)) pe_int (nomark _)) (pw_or1 (pt_val (pe_call (ok_ends_in_one T) (hr.mono (by omega)) (by rfl) T.glo_ends_in_one (F_ends_in_one T).kp (b_ends_in_one T) .nil passL (pa_cons (pv 0) pa_nil)))))) (pss_one (ps_raise rfl (takes_of rfl rfl rfl rfl) (pmk_txt T.exc_NoFit T.glo_NoFit))) pss_nil)
    (pss_cons (ps_for (passes_of rfl) rfl (pi_list (pe_slice sl_list (pv 0) (po_some pe_int) po_none)) (pg_name (i := 1) sc_fraction_of.nd rfl (.inl rfl)) (pss_one (ps_if (pt_cmpR op_lt (pv 1) pe_int (nomark _)) (pss_one (ps_raise rfl (takes_of rfl rfl rfl rfl) (pmk_txt T.exc_NoFit T.glo_NoFit))) pss_nil)))
    (pss_cons (ps_par (i := 2) (j := 3) (by rfl) sc_fraction_of.nd rfl rfl (by decide) rfl rfl (pa_cons (pe_ix ix_list (pv 0) (pe_un un_neg pe_int) (fun _ _ => rfl)) (pa_cons pe_int pa_nil)) (by rfl))
    (pss_cons (ps_for (passes_of rfl) rfl (pi_reversed (by rfl) T.free_reversed (pa_cons (pe_slice sl_list (pv 0) po_none (po_some (pe_un un_neg pe_int))) pa_nil)) (pg_name (i := 1) sc_fraction_of.nd rfl (.inl rfl)) (pss_one (ps_par (i := 2) (j := 3) (by rfl) sc_fraction_of.nd rfl rfl (by decide) rfl rfl (pa_cons (pe_op op_add (pe_op op_mulX (pv 1) (pv 2)) (pv 3)) (pa_cons (pv 2) pa_nil)) (by rfl))))
    (pss_one (ps_ret (pe_tup (pa_cons (pv 2) (pa_cons (pv 3) pa_nil)))))))))
theorem ok_take_fraction (T : Tx K mg) : FnOk P w K mg base (L2.CX P w) 9 (He.fAd K d_take_fraction.at_) (fdOf K d_take_fraction.at_) ["source"] (sp_take_fraction K) := by
  refine (F_take_fraction T).ok (k := 8) sc_take_fraction (fun vs H Q E h => len_take_fraction h) (fun cdv A outer s H vs Q E hr h => ⟨t_take_fraction K E, ?_, rd_take_fraction vs H Q E h⟩)
  exact (pss_cons (ps_set (i := 1) sc_take_fraction.nd rfl (.inl rfl) (pe_lst (pa_cons (pe_call (ok_take_whole T) (hr.mono (by omega)) (by rfl) T.glo_take_whole (F_take_whole T).kp (b_take_whole T) .nil (passes_call (takes_of rfl rfl rfl rfl) (fun _ _ _ _ h => h)) (pa_cons (pv 0) pa_nil)) pa_nil)))
    (pss_cons (ps_set (i := 2) sc_take_fraction.nd rfl (.inl rfl) (pe_lst (pa_cons (pv 0) (pa_cons (pe_make T.mkr_TurnedSource (ok_TurnedSource___init__ T) (hr.mono (by omega)) (by rfl) T.glo_TurnedSource (b_TurnedSource___init__ T) .nil passL (pa_cons (pv 0) pa_nil)) pa_nil))))
    (pss_cons (ps_while (passes_of rfl) (pt_cmpR op_eq (pe_or2 (pe_meth (pe_ix ix_list (pv 2) (pe_op op_mod (pe_op op_sub (pe_callB call_lenK (by rfl) T.free_len (by decide +kernel) (pa_cons (pv 1) pa_nil)) pe_int) pe_int) (fun _ _ => rfl)) T.cls_Source T.meth_Source_take (ok_Source_take T) (hr.mono (by omega)) (b_Source_take T) .nil (passes_call (takes_of rfl rfl rfl rfl) (fun _ _ _ _ h => h)) (pa_cons (pe_ix ix_list (pe_lst (pa_cons (pe_T (l := [48]) (by decide +kernel)) (pa_cons (pe_T (l := [49]) (by decide +kernel)) pa_nil))) (pe_callTy call_intB (by rfl) T.free_int (by decide +kernel) (pa_cons (pe_call (ok_ends_in_one T) (hr.mono (by omega)) (by rfl) T.glo_ends_in_one (F_ends_in_one T).kp (b_ends_in_one T) .nil passL (pa_cons (pv 1) pa_nil)) pa_nil)) (fun _ _ => rfl)) pa_nil)) (pe_meth (pe_ix ix_list (pv 2) (pe_op op_mod (pe_op op_sub (pe_callB call_lenK (by rfl) T.free_len (by decide +kernel) (pa_cons (pv 1) pa_nil)) pe_int) pe_int) (fun _ _ => rfl)) T.cls_TurnedSource T.meth_TurnedSource_take (ok_TurnedSource_take T) (hr.mono (by omega)) (b_TurnedSource_take T) .nil (passes_call (takes_of rfl rfl rfl rfl) (fun _ _ _ _ h => h)) (pa_cons (pe_ix ix_list (pe_lst (pa_cons (pe_T (l := [48]) (by decide +kernel)) (pa_cons (pe_T (l := [49]) (by decide +kernel)) pa_nil))) (pe_callTy call_intB (by rfl) T.free_int (by decide +kernel) (pa_cons (pe_call (ok_ends_in_one T) (hr.mono (by omega)) (by rfl) T.glo_ends_in_one (F_ends_in_one T).kp (b_ends_in_one T) .nil passL (pa_cons (pv 1) pa_nil)) pa_nil)) (fun _ _ => rfl)) pa_nil))) (pe_T (l := [49]) (by decide +kernel)) (nomark _)) (pss_one (ps_expr (pe_bm PySem.F.plainAttrs_list PySem.F.slot_list_append PySem.F.type_list_append mt_append (pv 1) (pa_cons (pe_op op_add (pe_call (ok_take_count T) (hr.mono (by omega)) (by rfl) T.glo_take_count (F_take_count T).kp (b_take_count T) .nil (passes_call (takes_of rfl rfl rfl rfl) (fun _ _ _ _ h => h)) (pa_cons (pe_ix ix_list (pv 2) (pe_op op_mod (pe_callB call_lenK (by rfl) T.free_len (by decide +kernel) (pa_cons (pv 1) pa_nil)) pe_int) (fun _ _ => rfl)) (pa_cons (pe_T (l := [49]) (by decide +kernel)) pa_nil))) pe_int) pa_nil)))))
    (pss_cons (ps_if (pt_val (pe_call (ok_ends_in_one T) (hr.mono (by omega)) (by rfl) T.glo_ends_in_one (F_ends_in_one T).kp (b_ends_in_one T) .nil passL (pa_cons (pv 1) pa_nil))) (pss_one (ps_expr (pe_or2 (pe_meth0 (pe_ix ix_list (pv 2) (pe_op op_mod (pe_op op_sub (pe_callB call_lenK (by rfl) T.free_len (by decide +kernel) (pa_cons (pv 1) pa_nil)) pe_int) pe_int) (fun _ _ => rfl)) T.cls_Source T.meth_Source_wrong (ok_Source_wrong T) (hr.mono (by omega)) (b_Source_wrong T) .nil (passes_call (takes_of rfl rfl rfl rfl) (fun _ _ _ _ h => h))) (pe_meth0 (pe_ix ix_list (pv 2) (pe_op op_mod (pe_op op_sub (pe_callB call_lenK (by rfl) T.free_len (by decide +kernel) (pa_cons (pv 1) pa_nil)) pe_int) pe_int) (fun _ _ => rfl)) T.cls_TurnedSource T.meth_TurnedSource_wrong (ok_TurnedSource_wrong T) (hr.mono (by omega)) (b_TurnedSource_wrong T) .nil (passes_call (takes_of rfl rfl rfl rfl) (fun _ _ _ _ h => h)))))) pss_nil)
    (pss_one (ps_ret (pe_call (ok_fraction_of T) (hr.mono (by omega)) (by rfl) T.glo_fraction_of (F_fraction_of T).kp (b_fraction_of T) .nil (passes_call (takes_of rfl rfl rfl rfl) (fun _ _ _ _ h => h)) (pa_cons (pv 1) pa_nil))))))))
theorem ok_read_fraction (T : Tx K mg) : FnOk P w K mg base (L2.CX P w) 10 (He.fAd K d_read_fraction.at_) (fdOf K d_read_fraction.at_) ["signs", "at"] (sp_read_fraction K) := by
  refine (F_read_fraction T).ok (k := 9) sc_read_fraction (fun vs H Q E h => len_read_fraction h) (fun cdv A outer s H vs Q E hr h => ⟨t_read_fraction K E, ?_, rd_read_fraction vs H Q E h⟩)
  exact (pss_cons (ps_set (i := 2) sc_read_fraction.nd rfl (.inl rfl) (pe_make T.mkr_Source (ok_Source___init__ T) (hr.mono (by omega)) (by rfl) T.glo_Source (b_Source___init__ T) .nil passL (pa_cons (pv 0) (pa_cons (pv 1) (pa_cons pe_bl pa_nil)))))
    (pss_cons (ps_set (i := 3) sc_read_fraction.nd rfl (.inl rfl) (pe_call (ok_take_fraction T) (hr.mono (by omega)) (by rfl) T.glo_take_fraction (F_take_fraction T).kp (b_take_fraction T) .nil (passes_call (takes_of rfl rfl rfl rfl) (fun _ _ _ _ h => h)) (pa_cons (pv 2) pa_nil)))
    (pss_one (ps_ret (pe_tup (pa_cons (pv 3) (pa_cons (pe_meth0 (pv 2) T.cls_Source T.meth_Source_spot (ok_Source_spot T) (hr.mono (by omega)) (b_Source_spot T) .nil passL) pa_nil)))))))
theorem ok__law_fraction (T : Tx K mg) : FnOk P w K mg base (L2.CX P w) 1 (He.fAd K d__law_fraction.at_) (fdOf K d__law_fraction.at_) ["_law_steps_here"] (sp__law_fraction K) := by
  refine (F__law_fraction T).ok (k := 0) sc__law_fraction (fun vs H Q E h => len__law_fraction h) (fun cdv A outer s H vs Q E hr h => ⟨t__law_fraction K, ?_, rd__law_fraction vs H Q E h⟩)
  exact PSs.nox (pss_cons (ps_set (i := 1) sc__law_fraction.nd rfl (.inl rfl) (pe_ix ix_list (pv 0) (pe_un un_neg pe_int) (fun _ _ => rfl)))
    (pss_cons (ps_set (i := 2) sc__law_fraction.nd rfl (.inl rfl) pe_int)
    (pss_cons (ps_for PassesOwn.never rfl (pi_reversed (by rfl) T.free_reversed (pa_cons (pe_slice sl_list (pv 0) po_none (po_some (pe_un un_neg pe_int))) pa_nil)) (pg_name (i := 3) sc__law_fraction.nd rfl (.inl rfl)) (pss_one (ps_par (i := 1) (j := 2) (by rfl) sc__law_fraction.nd rfl rfl (by decide) rfl rfl (pa_cons (pe_op op_add (pe_op op_mulX (pv 3) (pv 1)) (pv 2)) (pa_cons (pv 1) pa_nil)) (by rfl))))
    (pss_one (ps_ret (pe_tup (pa_cons (pv 1) (pa_cons (pv 2) pa_nil))))))))
theorem ok__law_whole (T : Tx K mg) : FnOk P w K mg base (L2.CX P w) 1 (He.fAd K d__law_whole.at_) (fdOf K d__law_whole.at_) ["_law_found"] (sp__law_whole K) := by
  refine (F__law_whole T).ok (k := 0) sc__law_whole (fun vs H Q E h => len__law_whole h) (fun cdv A outer s H vs Q E hr h => ⟨t__law_whole K, ?_, rd__law_whole vs H Q E h⟩)
  exact PSs.nox (pss_one (ps_ret (pe_and (pe_callB call_isi (by rfl) T.free_isinstance (by decide +kernel) (pa_cons (pv 0) (pa_cons (pe_bltn (v := .ty "int") (by rfl) T.free_int (by decide +kernel) rfl) pa_nil))) (pe_one (pe_not (pe_callB call_isi (by rfl) T.free_isinstance (by decide +kernel) (pa_cons (pv 0) (pa_cons (pe_bltn (v := .ty "bool") (by rfl) T.free_bool (by decide +kernel) rfl) pa_nil))))))))
theorem ok__law_numbers (T : Tx K mg) : FnOk P w K mg base (L2.CX P w) 2 (He.fAd K d__law_numbers.at_) (fdOf K d__law_numbers.at_) ["_law_found", "_law_due", "_law_kind"] (sp__law_numbers K) := by
  refine (F__law_numbers T).ok (k := 1) sc__law_numbers (fun vs H Q E h => len__law_numbers h) (fun cdv A outer s H vs Q E hr h => ⟨t__law_numbers K, ?_, rd__law_numbers vs H Q E h⟩)
  exact PSs.nox (pss_cons (ps_if (PW.pt (pw_or (PW.pt (pw_and (pt_cmpR op_eq (pv 2) (pe_T (l := [108, 105, 115, 116]) (by decide +kernel)) (nomark _)) (pw_and1 (pt_not (pt_val (pe_callB call_isi (by rfl) T.free_isinstance (by decide +kernel) (pa_cons (pv 0) (pa_cons (pe_bltn (v := .ty "list") (by rfl) T.free_list (by decide +kernel) rfl) pa_nil)))))))) (pw_or1 (PW.pt (pw_and (pt_cmpR op_eq (pv 2) (pe_T (l := [116, 117, 112, 108, 101]) (by decide +kernel)) (nomark _)) (pw_and1 (pt_not (pt_val (pe_callB call_isi (by rfl) T.free_isinstance (by decide +kernel) (pa_cons (pv 0) (pa_cons (pe_bltn (v := .ty "tuple") (by rfl) T.free_tuple (by decide +kernel) rfl) pa_nil))))))))))) (pss_one (ps_ret pe_bl)) pss_nil)
    (pss_cons (ps_if (pt_cmpR op_ne (pe_callB call_lenK (by rfl) T.free_len (by decide +kernel) (pa_cons (pv 0) pa_nil)) (pe_callB call_lenK (by rfl) T.free_len (by decide +kernel) (pa_cons (pv 1) pa_nil)) (nomark _)) (pss_one (ps_ret pe_bl)) pss_nil)
    (pss_cons (ps_for PassesOwn.never rfl (pi_range1 (by rfl) T.free_range (pa_cons (pe_callB call_lenK (by rfl) T.free_len (by decide +kernel) (pa_cons (pv 1) pa_nil)) pa_nil)) (pg_name (i := 3) sc__law_numbers.nd rfl (.inl rfl)) (pss_one (ps_if (PW.pt (pw_or (pt_not (pt_val (pe_call (ok__law_whole T) (hr.mono (by omega)) (by rfl) T.glo__law_whole (F__law_whole T).kp (b__law_whole T) .nil passL (pa_cons (pe_ix ix_any (pv 0) (pv 3) (fun _ _ => rfl)) pa_nil)))) (pw_or1 (pt_cmpR op_ne (pe_ix ix_any (pv 0) (pv 3) (fun _ _ => rfl)) (pe_ix ix_any (pv 1) (pv 3) (fun _ _ => rfl)) (nomark _))))) (pss_one (ps_ret pe_bl)) pss_nil)))
    (pss_one (ps_ret pe_bl)))))
theorem ok__law_read (T : Tx K mg) : FnOk P w K mg base (L2.CX P w) 3 (He.fAd K d__law_read.at_) (fdOf K d__law_read.at_) ["_law_found", "_law_fraction_here", "_law_spot"] (sp__law_read K) := by
  refine (F__law_read T).ok (k := 2) sc__law_read (fun vs H Q E h => len__law_read h) (fun cdv A outer s H vs Q E hr h => ⟨t__law_read K, ?_, rd__law_read vs H Q E h⟩)
  exact PSs.nox (pss_cons (ps_if (PW.pt (pw_or (pt_not (pt_val (pe_callB call_isi (by rfl) T.free_isinstance (by decide +kernel) (pa_cons (pv 0) (pa_cons (pe_bltn (v := .ty "tuple") (by rfl) T.free_tuple (by decide +kernel) rfl) pa_nil))))) (pw_or (pt_cmpR op_ne (pe_callB call_lenK (by rfl) T.free_len (by decide +kernel) (pa_cons (pv 0) pa_nil)) pe_int (nomark _)) (pw_or1 (pt_not (pt_val (pe_call (ok__law_numbers T) (hr.mono (by omega)) (by rfl) T.glo__law_numbers (F__law_numbers T).kp (b__law_numbers T) .nil passL (pa_cons (pe_ix ix_tup (pv 0) pe_int (fun _ _ => rfl)) (pa_cons (pv 1) (pa_cons (pe_T (l := [116, 117, 112, 108, 101]) (by decide +kernel)) pa_nil)))))))))) (pss_one (ps_ret pe_bl)) pss_nil)
    (pss_one (ps_ret (pe_and (pe_call (ok__law_whole T) (hr.mono (by omega)) (by rfl) T.glo__law_whole (F__law_whole T).kp (b__law_whole T) .nil passL (pa_cons (pe_ix ix_tup (pv 0) pe_int (fun _ _ => rfl)) pa_nil)) (pe_one (pe_cmpR op_eq (pe_ix ix_tup (pv 0) pe_int (fun _ _ => rfl)) (pv 2) (nomark _)))))))
theorem ok__law_alone (T : Tx K mg) : FnOk P w K mg base (L2.CX P w) 1 (He.fAd K d__law_alone.at_) (fdOf K d__law_alone.at_) ["_law_error"] (sp__law_alone K) := by
  refine (F__law_alone T).ok (k := 0) sc__law_alone (fun vs H Q E h => len__law_alone h) (fun cdv A outer s H vs Q E hr h => ⟨t__law_alone K, ?_, rd__law_alone T.kx vs H Q E h⟩)
  exact PSs.nox (pss_cons (ps_if (PW.pt (pw_or (pt_not (pt_val (pe_callB call_isA (by rfl) T.free_isinstance (by decide +kernel) (pa_cons (pv 0) (pa_cons (pe_glob (v := .ref (He.ga _ "RiseError")) (by rfl) T.glo_RiseError rfl) pa_nil))))) (pw_or1 (pt_not (pt_val (pe_callB call_isA (by rfl) T.free_isinstance (by decide +kernel) (pa_cons (pv 0) (pa_cons (pe_bltn (v := .ty "ValueError") (by rfl) T.free_ValueError (by decide +kernel) rfl) pa_nil)))))))) (pss_one (ps_ret pe_bl)) pss_nil)
    (pss_cons (ps_set (i := 1) sc__law_alone.nd rfl (.inl rfl) (pe_lst (pa_cons (pe_callB call_isA (by rfl) T.free_isinstance (by decide +kernel) (pa_cons (pv 0) (pa_cons (pe_glob (v := .ref (He.ga _ "NoFit")) (by rfl) T.glo_NoFit rfl) pa_nil))) (pa_cons (pe_callB call_isA (by rfl) T.free_isinstance (by decide +kernel) (pa_cons (pv 0) (pa_cons (pe_glob (v := .ref (He.ga _ "NoForm")) (by rfl) T.glo_NoForm rfl) pa_nil))) (pa_cons (pe_callB call_isA (by rfl) T.free_isinstance (by decide +kernel) (pa_cons (pv 0) (pa_cons (pe_glob (v := .ref (He.ga _ "NoText")) (by rfl) T.glo_NoText rfl) pa_nil))) pa_nil)))))
    (pss_cons (ps_set (i := 1) sc__law_alone.nd rfl (.inl rfl) (pe_op op_cat (pv 1) (pe_lst (pa_cons (pe_callB call_isA (by rfl) T.free_isinstance (by decide +kernel) (pa_cons (pv 0) (pa_cons (pe_glob (v := .ref (He.ga _ "NotAhead")) (by rfl) T.glo_NotAhead rfl) pa_nil))) (pa_cons (pe_callB call_isA (by rfl) T.free_isinstance (by decide +kernel) (pa_cons (pv 0) (pa_cons (pe_glob (v := .ref (He.ga _ "BadPage")) (by rfl) T.glo_BadPage rfl) pa_nil))) (pa_cons (pe_callB call_isA (by rfl) T.free_isinstance (by decide +kernel) (pa_cons (pv 0) (pa_cons (pe_glob (v := .ref (He.ga _ "Twice")) (by rfl) T.glo_Twice rfl) pa_nil))) pa_nil))))))
    (pss_cons (ps_set (i := 1) sc__law_alone.nd rfl (.inl rfl) (pe_op op_cat (pv 1) (pe_lst (pa_cons (pe_callB call_isA (by rfl) T.free_isinstance (by decide +kernel) (pa_cons (pv 0) (pa_cons (pe_glob (v := .ref (He.ga _ "Lacking")) (by rfl) T.glo_Lacking rfl) pa_nil))) (pa_cons (pe_callB call_isA (by rfl) T.free_isinstance (by decide +kernel) (pa_cons (pv 0) (pa_cons (pe_glob (v := .ref (He.ga _ "Short")) (by rfl) T.glo_Short rfl) pa_nil))) (pa_cons (pe_callB call_isA (by rfl) T.free_isinstance (by decide +kernel) (pa_cons (pv 0) (pa_cons (pe_glob (v := .ref (He.ga _ "Wrong")) (by rfl) T.glo_Wrong rfl) pa_nil))) pa_nil))))))
    (pss_cons (ps_set (i := 1) sc__law_alone.nd rfl (.inl rfl) (pe_op op_cat (pv 1) (pe_lst (pa_cons (pe_callB call_isA (by rfl) T.free_isinstance (by decide +kernel) (pa_cons (pv 0) (pa_cons (pe_glob (v := .ref (He.ga _ "Left")) (by rfl) T.glo_Left rfl) pa_nil))) pa_nil))))
    (pss_one (ps_ret (pe_cmpR op_eq (pe_callB call_lenK (by rfl) T.free_len (by decide +kernel) (pa_cons (pe_lc (own := [("_law_one", 2)]) (g := (gName 2)) (tt := (tB (tVar 2))) rfl sc__law_alone.nd (pi_list (pv 1)) (blkOk_by (N := N__law_alone) (sc := defScope s__law_alone) (by decide +kernel)) (fun _ _ _ _ _ => (pg_name (i := 2) sc__law_alone.nd rfl (.inl rfl))) (fun _ _ _ _ _ => by exact (pts_one (pt_val (pv 2)))) (fun _ _ _ _ _ => by exact (pv 2))) pa_nil)) pe_int (nomark _)))))))))
theorem ok_law (T : Tx K mg) : FnOk P w K mg base (L2.CX P w) 11 (He.fAd K d_law.at_) (fdOf K d_law.at_) ["_law_script"] (sp_law K) := by
  refine (F_law T).ok (k := 10) sc_law (fun vs H Q E h => len_law h) (fun cdv A outer s H vs Q E hr h => ⟨t_law K, ?_, rd_law T.kx T.ko vs H Q E h⟩)
  exact PSs.nox (pss_cons (ps_set (i := 1) sc_law.nd rfl (.inl rfl) (pe_slice sl_str (pe_call (ok__law_bent T) (hr.mono (by omega)) (by rfl) T.glo__law_bent (F__law_bent T).kp (b__law_bent T) .nil passL (pa_cons (pv 0) (pa_cons (pe_call (ok__law_laid T) (hr.mono (by omega)) (by rfl) T.glo__law_laid (F__law_laid T).kp (b__law_laid T) .nil passL (pa_cons (pe_call (ok__law_steps T) (hr.mono (by omega)) (by rfl) T.glo__law_steps (F__law_steps T).kp (b__law_steps T) .nil passL (pa_cons (pv 0) pa_nil)) pa_nil)) pa_nil))) po_none (po_some pe_int)))
    (pss_cons (ps_set (i := 2) sc_law.nd rfl (.inl rfl) (pe_slice sl_str (pe_T (l := [48, 49, 49, 48, 49]) (by decide +kernel)) po_none (po_some (pe_op op_mod (pe_call (ok__law_mixed T) (hr.mono (by omega)) (by rfl) T.glo__law_mixed (F__law_mixed T).kp (b__law_mixed T) .nil passL (pa_cons (pe_call (ok__law_cell_at T) (hr.mono (by omega)) (by rfl) T.glo__law_cell_at (F__law_cell_at T).kp (b__law_cell_at T) .nil passL (pa_cons (pv 0) (pa_cons pe_int pa_nil))) (pa_cons pe_int pa_nil))) pe_int))))
    (pss_cons (ps_set (i := 3) sc_law.nd rfl (.inl rfl) (pe_call (ok__law_reader T) (hr.mono (by omega)) (by rfl) T.glo__law_reader (F__law_reader T).kp (b__law_reader T) .nil passL (pa_cons (pe_op op_addT (pv 2) (pv 1)) (pa_cons (pe_callB call_lenK (by rfl) T.free_len (by decide +kernel) (pa_cons (pv 2) pa_nil)) pa_nil))))
    (pss_cons (ps_set (i := 4) sc_law.nd rfl (.inl rfl) pe_non)
    (pss_cons (ps_set (i := 5) sc_law.nd rfl (.inl rfl) pe_non)
    (pss_cons (ps_set (i := 6) sc_law.nd rfl (.inl rfl) (pe_T (l := [114, 101, 97, 100]) (by decide +kernel)))
    (pss_cons (ps_try_manyK (tb := fun W => (tAsg (tCallS (sp_read_fraction K) (WE W) (tCons (tOp rAddT (tVar 2) (tVar 1)) (tCons (tCB (rLenK K) (tCons (tVar 2) tNil)) tNil))) (gName 4))) (Wout := (fun _ _ _ _ => False)) rfl rfl rfl sc_law.nd takes0
    (fun W pn xe tk ho => by exact (pss_one (ps_set (i := 4) sc_law.nd rfl (.inl rfl) (pe_callS (ok_read_fraction T) (hr.mono (by omega)) (by rfl) T.glo_read_fraction (F_read_fraction T).kp (b_read_fraction T) (fun σ => passAt tk σ) (pa_cons (pe_op op_addT (pv 2) (pv 1)) (pa_cons (pe_callB call_lenK (by rfl) T.free_len (by decide +kernel) (pa_cons (pv 2) pa_nil)) pa_nil))))))
    (.cons (i := 7) rfl rfl ⟨rfl, by decide, .inl T.glo_Short⟩ (fun a oe cls d pn hz hf => by exact (pss_cons (ps_set (i := 6) sc_law.nd rfl (.inl rfl) (pe_T (l := [115, 104, 111, 114, 116]) (by decide +kernel)))
    (pss_one (ps_set (i := 5) sc_law.nd rfl (.inl rfl) (pv 7))))) (.cons (i := 7) rfl rfl ⟨rfl, by decide, .inl T.glo_Wrong⟩ (fun a oe cls d pn hz hf => by exact (pss_cons (ps_set (i := 6) sc_law.nd rfl (.inl rfl) (pe_T (l := [119, 114, 111, 110, 103]) (by decide +kernel)))
    (pss_one (ps_set (i := 5) sc_law.nd rfl (.inl rfl) (pv 7))))) .nil)))
    (pss_cons (ps_if (pt_cmpR op_ne (pv 6) (pe_ix ix_list (pv 3) pe_int (fun _ _ => rfl)) (nomark _)) (pss_one (ps_ret pe_bl)) pss_nil)
    (pss_cons (ps_if (pt_cmpR op_eq (pv 6) (pe_T (l := [114, 101, 97, 100]) (by decide +kernel)) (nomark _)) (pss_one (ps_ret (pe_call (ok__law_read T) (hr.mono (by omega)) (by rfl) T.glo__law_read (F__law_read T).kp (b__law_read T) .nil passL (pa_cons (pv 4) (pa_cons (pe_call (ok__law_fraction T) (hr.mono (by omega)) (by rfl) T.glo__law_fraction (F__law_fraction T).kp (b__law_fraction T) .nil passL (pa_cons (pe_ix ix_list (pv 3) pe_int (fun _ _ => rfl)) pa_nil)) (pa_cons (pe_ix ix_list (pv 3) pe_int (fun _ _ => rfl)) pa_nil)))))) pss_nil)
    (pss_one (ps_ret (pe_and (pe_call (ok__law_alone T) (hr.mono (by omega)) (by rfl) T.glo__law_alone (F__law_alone T).kp (b__law_alone T) .nil passL (pa_cons (pv 5) pa_nil)) (pe_and (pe_call (ok__law_whole T) (hr.mono (by omega)) (by rfl) T.glo__law_whole (F__law_whole T).kp (b__law_whole T) .nil passL (pa_cons (pe_xfk (pv 5)) pa_nil)) (pe_one (pe_cmpR op_eq (pe_xfk (pv 5)) (pe_ix ix_list (pv 3) pe_int (fun _ _ => rfl)) (nomark _))))))))))))))))
end
def loose0 : List Str := ["RiseError", "NoFit", "NoForm", "NoText", "NotAhead", "BadPage", "Twice", "Lacking", "Short", "Wrong", "Left", "other_sign", "Source", "TurnedSource", "MOST_ONES", "take_digits", "take_count", "take_whole", "ends_in_one", "fraction_of", "take_fraction", "read_fraction", "_law_cell_at", "_law_whole", "_law_mixed", "_law_digits", "_law_count", "_law_turned", "_law_laid", "_law_free_steps"]
def loose1 : List Str := ["_law_steps", "_law_fraction", "_law_numbers", "_law_read", "_law_alone", "_law_raw", "_law_bent", "_law_take", "_law_digits_on", "_law_count_on", "_law_reader"]
def looseAll : List Str := loose0 ++ loose1
/-! ### the top -/
abbrev Rw : PySem.W.OpenRow := PySem.W.OpenLaw.row PySem.Challenge.rw_keyrise_k15_fractions_of_any_signs
abbrev hk : PySem.W.Hook := hookM 5 fa fn exAll
def ob (s : PySem.W.SharedT) : AlM := obsM 5 fa fn exAll (HandSHeadRun.getT s)
theorem ob_eq (s : PySem.W.SharedT) : ob s = hk.obs s.abs := obsM_eq (HandSHeadRun.getT_eq s)
theorem run (w : World) : HandSHeadRun.RunEq Rw (PySem.W.view Rw.prog [46]) hk ob 4000 looseAll w := by
  intro os
  kernel_rfl
theorem facts {P : Program} {w : World} {K : PySem.W.Frag} {h : Heap} {mg : Str → Option Value} {f : Addr} (X : K.In h) (G : h.Ns mainGlobals mg) (hfa : mg ("law" : Str) = some (.ref f)) (c : He.SaysD fa fn K) (cx : exAll K = true) :
    ∃ fd : FuncData, (∀ (s : Shared) (v : Value), BindsTo s fd ⟨[v], []⟩ [("_law_script", v)]) ∧ ∀ base : Heap, K.In base → base.Ns mainGlobals mg → FnOk P w K mg base (L2.CX P w) 11 f fd ["_law_script"] (sp_law K) := by
  have T : Tx K mg := ⟨c, cx, h, X, G⟩
  have e := hfa.symm.trans T.glo_law
  cases e
  have b := FunD.bindsA (ps := ["_law_script"]) (F_law T) fun _ _ _ _ _ _ us hl => match us, hl with | [_], _ => rfl
  exact ⟨_, fun s v => b s [v] rfl, fun base _ _ => ok_law T⟩
end Kr
open PySem PySem.W PySem.Calls PyProof.Rows
theorem PySem.Challenge.cw_keyrise_k15_fractions_of_any_signs_holds : PySem.Challenge.rw_keyrise_k15_fractions_of_any_signs.Holds := by
  w_on; o_law
  refine HandSHeadRun.head_any (r := OpenLaw.row PySem.Challenge.rw_keyrise_k15_fractions_of_any_signs) (q := view (OpenLaw.row PySem.Challenge.rw_keyrise_k15_fractions_of_any_signs).prog [46]) (H := Kr.hk) (ob := Kr.ob) (M := 4000) (loose := Kr.looseAll) (d := HandSHeadRun.topDef (OpenLaw.row PySem.Challenge.rw_keyrise_k15_fractions_of_any_signs).prog 46) (kwd := []) Kr.ob_eq
    (by kernel_rfl) (fun s => by kernel_rfl) Kr.run (by kernel_rfl) (by kernel_rfl) (by kernel_rfl) (by rfl) (by first | assumption | decide +kernel) (by decide +kernel) ⟨rfl, rfl, rfl, rfl, rfl, by decide +kernel⟩ ?hw ?hc
  case hw => w_witness2
  case hc =>
    refine Kr.walk_wB (l := PySem.Challenge.rw_keyrise_k15_fractions_of_any_signs) (n := 63) (k := 11) (x := "_law_script") rfl (by decide) (by kernel_rfl) ⟨rfl, by decide, by decide⟩ ?F
    case F =>
      intro w mg fa h Y G hmg0
      obtain ⟨K, KX, c, cx⟩ := Y
      have hmg : mg ("law" : PySem.Str) = some (.ref fa) := by
        have e : (HandSHeadRun.topDef (OpenLaw.row PySem.Challenge.rw_keyrise_k15_fractions_of_any_signs).prog 46).name = ("law" : PySem.Str) := by kernel_rfl
        rw [← e]
        exact hmg0
      obtain ⟨fd, hb, hF⟩ := Kr.facts (P := (PySem.Challenge.rw_keyrise_k15_fractions_of_any_signs).prog) (w := w) KX G hmg c cx
      exact ⟨K, fd, KX, hb, fun H a ns hl hB hO hS => Kr.law_inB hl hB hO hS, hF⟩

