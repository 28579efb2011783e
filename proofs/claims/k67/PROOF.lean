import PyProof.Rows.All
import Wide.All
import OpenK.AllK
import Wide.FinOn
import KE.KStateDown
import HandS.ForMost
import HandS.ForExc
import HandS.Evl
import HandS.Wide
import HandS.WideBits
import HandS.IsInst
import HandS.StrMore
import HandS.Defaults
import HandS.Flow
import HandS.TryOnly
import HandS.HeadEnd
import HandS.Head0
import HandS.Head1
import HandS.Head2
import HandS.HeadHook1
import HandS.HeadHook2
import HandS.ExcIs
import HandS.ExcField
import HandS.ExcInit
import HandS.SuiteRaise
import HandS.ExcInitHot
import PyProof.Rows.StrMeet
import HandS.TryMany
import HandS.Rev
import HandS.EndBits
import PyProof.Rows.SortShellAny
import PySem.Challenge.RW_keyrise_k67_bad_pages_everywhere
set_option Elab.async false
set_option linter.all false
set_option maxRecDepth 100000
set_option maxHeartbeats 4000000
namespace Kr
open PySem PySem.Spec PyProof.Rows L2 Evl
/-! ### texts by their codes -/
def T (l : List Nat) : Str := ⟨l.toArray⟩
theorem T_cps (l : List Nat) : (T l).cps.toList = l := rfl
theorem T_len (l : List Nat) : (T l).length = l.length := by
  show l.toArray.size = l.length
  simp
theorem T_add (a b : List Nat) : T a ++ T b = T (a ++ b) := by
  show (⟨a.toArray ++ b.toArray⟩ : Str) = ⟨(a ++ b).toArray⟩
  simp
theorem T_inj {a b : List Nat} : T a = T b ↔ a = b := by
  constructor
  · intro h
    have := congrArg (fun z : Str => z.cps.toList) h
    exact this
  · rintro rfl; rfl
theorem T_eta (z : Str) : ∃ l, z = T l := ⟨z.cps.toList, by cases z; rename_i c; cases c; rfl⟩

/-! ### operations on values, named -/
abbrev rAddI : R2 := rI0 fun i j => .int (i + j)
abbrev rSubI : R2 := rI0 fun i j => .int (i - j)
abbrev rMulI : R2 := rI CMulX fun i j => .int (i * j)
abbrev rDivI : R2 := rI CDivW fun i j => .int (i / j)
abbrev rModI : R2 := rI (fun _ j => 0 < j) fun i j => .int (i % j)
abbrev rShrI : R2 := rI (fun _ j => 0 ≤ j) fun i j => .int (i / 2 ^ j.toNat)
abbrev rShlI : R2 := rI CShl fun i j => .int (i * 2 ^ j.toNat)
abbrev rPowI : R2 := rI CPow fun i j => .int (i ^ j.toNat)
abbrev rAndI : R2 := rI0 fun i j => .int (Builtin.bitAnd i j)
abbrev rLtI : R2 := rI0 fun i j => .bl (decide (i < j))
abbrev rLeI : R2 := rI0 fun i j => .bl (decide (i ≤ j))
abbrev rGtI : R2 := rI0 fun i j => .bl (decide (j < i))
abbrev rGeI : R2 := rI0 fun i j => .bl (decide (j ≤ i))
def rAddT : R2 := fun x y H Q => ∃ i j, x = .str i ∧ y = .str j ∧ i.length + j.length ≤ sizeLine ∧ Q (.str (i ++ j)) H
def rLtT : R2 := fun x y H Q => ∃ i j, x = .str i ∧ y = .str j ∧ Q (.bl (decide (i.cps.toList < j.cps.toList))) H
def rLeT : R2 := fun x y H Q => ∃ i j, x = .str i ∧ y = .str j ∧ Q (.bl (!decide (j.cps.toList < i.cps.toList))) H
def rMulT : R2 := fun x y H Q => ∃ (i : Str) (n : Int), x = .str i ∧ y = .int n ∧ -(2 ^ 62) ≤ n ∧ n < 2 ^ 62 ∧ i.length * n.toNat ≤ sizeLine ∧ Q (.str (T (List.replicate n.toNat i.cps.toList).flatten)) H
def rStrip : V → List V → Hp → VK → Prop := fun x xs H Q => ∃ a b, x = .str a ∧ xs = [.str b] ∧ a.length ≤ sizeLine ∧ Q (.str (Txt.rstripChars a b)) H
def rJoin (K : PySem.W.Frag) : V → List V → Hp → VK → Prop := fun x xs H Q => ∃ a p, ∃ ys : List Str, x = .str a ∧ xs = [.ref p] ∧ (SqL K H p (ys.map V.str) ∨ SqT K H p (ys.map V.str)) ∧ (ys.map (·.length)).sum + ys.length * a.length ≤ 16777216 ∧ Q (.str (Txt.join a ys)) H
section
variable {X : Cx}
theorem op_addT : OpR X (binaryOp .Add) rAddT := op_add_str
theorem op_ltT' : OpR X (compareOp .Lt) rLtT := op_lt_str
theorem op_leT' : OpR X (compareOp .LtE) rLeT := op_le_str
theorem mt_rstripC : MtR X "str.rstrip" rStrip := mt_rstripChars
theorem mt_joinK : MtR X "str.join" (rJoin X.K) := mt_join
theorem flat_rep (k : Nat) (c : Array Nat) : ((List.replicate k c).foldl (· ++ ·) #[]).toList = (List.replicate k c.toList).flatten := by
  have key : ∀ (k : Nat) (a : Array Nat), ((List.replicate k c).foldl (· ++ ·) a).toList = a.toList ++ (List.replicate k c.toList).flatten := by
    intro k
    induction k with
    | zero => intro a; simp
    | succ k ih =>
      intro a
      rw [List.replicate_succ, List.foldl_cons, ih]
      simp [List.replicate_succ]
  rw [key]
  simp
theorem op_mulT : OpR X (binaryOp .Mult) rMulT := by
  intro pins s σ H x y v u Q I rx ry h
  obtain ⟨i, n, rfl, rfl, h1, h2, h3, q⟩ := h
  obtain ⟨t, rfl⟩ := rx
  obtain ⟨t', rfl⟩ := ry
  have hsz : sizeLine = 16777216 := sizeLine_eq
  refine PySem.P.mul_str ?_ (fun g1 g2 => ?_) (fun g1 g2 => ?_) ?_
  · have e1 : decide (n < -(2 ^ 63 : Int)) = false := decide_eq_false (by omega)
    have e2 : decide (n ≥ 2 ^ 63) = false := decide_eq_false (by omega)
    rw [e1, e2] <;> rfl
  · have hn : 1 ≤ n := by omega
    intro g
    have h5 : (i.length : Int) * n ≤ 16777216 := by
      have e : n = (n.toNat : Int) := by omega
      rw [e, ← Int.natCast_mul]
      omega
    have h6 : (2 ^ 63 - 1 : Int) / n < (i.length : Int) := g
    have h7 := (Int.ediv_lt_iff_lt_mul (show 0 < n by omega)).mp h6
    omega
  · have : ¬ (i.length * n.toNat > 2 ^ 24) := by
      have e : (2 : Nat) ^ 24 = 16777216 := by decide
      rw [e]; omega
    simpa [Builtin.Str.tooLong, hsz] using this
  · by_cases g : n < 1
    · rw [if_pos g]
      refine ⟨by rw [hsz]; decide, ?_⟩
      refine ⟨.str _, H, I.tok _, ⟨_, rfl⟩, ?_⟩
      have e : n.toNat = 0 := by omega
      rw [e] at q
      exact q
    · rw [if_neg g]
      by_cases g2 : (n == 1 || i.length == 0) = true
      · rw [if_pos g2]
        refine ⟨.str _, H, I, ⟨_, rfl⟩, ?_⟩
        have e : T (List.replicate n.toNat i.cps.toList).flatten = i := by
          obtain ⟨l, rfl⟩ := T_eta i
          rw [T_inj, T_cps]
          rw [Bool.or_eq_true] at g2
          rcases g2 with g2 | g2
          · have : n = 1 := by simpa using g2
            subst this
            simp
          · have : l = [] := by
              have := T_len l
              rw [beq_iff_eq] at g2
              rw [g2] at this
              exact List.eq_nil_of_length_eq_zero this.symm
            subst this
            simp
        rw [e] at q
        exact q
      · rw [if_neg g2]
        have e : (⟨(List.replicate n.toNat i.cps).foldl (· ++ ·) #[]⟩ : Str) = T (List.replicate n.toNat i.cps.toList).flatten := by
          rw [← flat_rep]
          rfl
        rw [e]
        refine ⟨?_, ⟨.str _, H, I.tok _, ⟨_, rfl⟩, q⟩⟩
        rw [T_len]
        have key : ∀ k : Nat, (List.replicate k i.cps.toList).flatten.length = k * i.cps.size := by
          intro k
          induction k with
          | zero => simp
          | succ k ih => rw [List.replicate_succ, List.flatten_cons, List.length_append, ih, Array.length_toList, Nat.succ_mul, Nat.add_comm]
        rw [key]
        have : n.toNat * i.cps.size = i.cps.size * n.toNat := Nat.mul_comm _ _
        have h8 : i.length = i.cps.size := rfl
        rw [h8] at h3
        omega
end
end Kr
namespace Kr
open PySem PySem.Spec PyProof.Rows L2 Evl
/-! ### rules that the hand layer lacks -/
section
variable {X : Cx}
theorem pe_T {x : Str} {l : List Nat} {j : Nat} {pos : Pos} (h : x = T l) : PE X (.Constant (.str x) j pos) (tC (.str (T l))) := by
  subst h
  exact pe_str
def rIsN0 : R2 := fun x y H Q => y = .non ∧ Q (.bl (decide (x = .non))) H
def rNotN0 : R2 := fun x y H Q => y = .non ∧ Q (.bl (!decide (x = .non))) H
theorem op_isN0 : OpR X (compareOp .Is) rIsN0 := op_isN
theorem op_notN0 : OpR X (compareOp .IsNot) rNotN0 := op_notN
/-- len -/
def rLenK (K : PySem.W.Frag) : List V → Hp → VK → Prop := fun xs H Q => ∃ x n, xs = [x] ∧ LenV K x H n ∧ Q (.int n) H
theorem call_lenK : CallR X (.builtin "len") (rLenK X.K) := call_len
/-- int of a truth, of a number -/
def rIntB : List V → Hp → VK → Prop := fun xs H Q => (∃ i, xs = [.int i] ∧ Q (.int i) H) ∨ ∃ k, xs = [.bl k] ∧ Q (.int (if k then 1 else 0)) H
theorem call_intB : CallR X (.type "int") rIntB := call_int1
end
/-! ### values of expressions: what the parts are worth, the whole is worth -/
section
variable {K : PySem.W.Frag} {σ : L2.St} {H : Hp} {ta tb te : TE} {t u : TT} {x y z v : V}
theorem rv_addI {i j : Int} : RV rAddI (.int i) (.int j) H (.int (i + j)) := rv_I0
theorem rv_subI {i j : Int} : RV rSubI (.int i) (.int j) H (.int (i - j)) := rv_I0
theorem rv_mulI {i j : Int} (h : CMulX i j) : RV rMulI (.int i) (.int j) H (.int (i * j)) := rv_I h
theorem rv_divI {i j : Int} (h : CDivW i j) : RV rDivI (.int i) (.int j) H (.int (i / j)) := rv_I h
theorem rv_modI {i j : Int} (h : 0 < j) : RV rModI (.int i) (.int j) H (.int (i % j)) := rv_I h
theorem rv_shrI {i j : Int} (h : 0 ≤ j) : RV rShrI (.int i) (.int j) H (.int (i / 2 ^ j.toNat)) := rv_I h
theorem rv_shlI {i j : Int} (h : CShl i j) : RV rShlI (.int i) (.int j) H (.int (i * 2 ^ j.toNat)) := rv_I h
theorem rv_powI {i j : Int} (h : CPow i j) : RV rPowI (.int i) (.int j) H (.int (i ^ j.toNat)) := rv_I h
theorem rv_andI {i j : Int} : RV rAndI (.int i) (.int j) H (.int (Builtin.bitAnd i j)) := rv_I0
theorem rv_ltI {i j : Int} : RV rLtI (.int i) (.int j) H (.bl (decide (i < j))) := rv_I0
theorem rv_leI {i j : Int} : RV rLeI (.int i) (.int j) H (.bl (decide (i ≤ j))) := rv_I0
theorem rv_gtI {i j : Int} : RV rGtI (.int i) (.int j) H (.bl (decide (j < i))) := rv_I0
theorem rv_geI {i j : Int} : RV rGeI (.int i) (.int j) H (.bl (decide (j ≤ i))) := rv_I0
theorem rv_addT {a b : List Nat} (h : a.length + b.length ≤ 16000000) : RV rAddT (.str (T a)) (.str (T b)) H (.str (T (a ++ b))) := fun H1 _ Q q =>
  ⟨T a, T b, rfl, rfl, by rw [T_len, T_len, sizeLine_eq]; omega, by rw [T_add]; exact q H1 (Ex.refl H1)⟩
theorem rv_ltT {a b : List Nat} : RV rLtT (.str (T a)) (.str (T b)) H (.bl (decide (a < b))) := fun H1 _ Q q => ⟨T a, T b, rfl, rfl, q H1 (Ex.refl H1)⟩
theorem rv_leT {a b : List Nat} : RV rLeT (.str (T a)) (.str (T b)) H (.bl (!decide (b < a))) := fun H1 _ Q q => ⟨T a, T b, rfl, rfl, q H1 (Ex.refl H1)⟩
theorem rv_mulT {a : List Nat} {n : Int} (h0 : n < 2 ^ 62) (h1 : -(2 ^ 62) ≤ n) (h : a.length * n.toNat ≤ 16000000) : RV rMulT (.str (T a)) (.int n) H (.str (T (List.replicate n.toNat a).flatten)) := fun H1 _ Q q =>
  ⟨T a, n, rfl, rfl, h1, h0, by rw [T_len, sizeLine_eq]; omega, q H1 (Ex.refl H1)⟩
theorem dec_T {a b : List Nat} : decide (V.str (T a) = V.str (T b)) = decide (a = b) := by
  by_cases h : a = b
  · subst h; simp
  · rw [decide_eq_false h, decide_eq_false (fun e => h (T_inj.mp (V.str.inj e)))]
theorem dec_I {a b : Int} : decide (V.int a = V.int b) = decide (a = b) := by
  by_cases h : a = b
  · subst h; simp
  · rw [decide_eq_false h, decide_eq_false (fun e => h (V.int.inj e))]
theorem dec_B {a b : Bool} : decide (V.bl a = V.bl b) = decide (a = b) := by cases a <;> cases b <;> decide
theorem rv_eqT {a b : List Nat} : RV rEq (.str (T a)) (.str (T b)) H (.bl (decide (a = b))) := by
  rw [← dec_T]; exact rv_eq rfl
theorem rv_neT {a b : List Nat} : RV rNe (.str (T a)) (.str (T b)) H (.bl (!decide (a = b))) := by
  rw [← dec_T]; exact rv_ne rfl
theorem rv_eqI {a b : Int} : RV rEq (.int a) (.int b) H (.bl (decide (a = b))) := by
  rw [← dec_I]; exact rv_eq rfl
theorem rv_neI {a b : Int} : RV rNe (.int a) (.int b) H (.bl (!decide (a = b))) := by
  rw [← dec_I]; exact rv_ne rfl
theorem rv_eqB {a b : Bool} : RV rEq (.bl a) (.bl b) H (.bl (decide (a = b))) := by
  rw [← dec_B]; exact rv_eq rfl
theorem rv_neB {a b : Bool} : RV rNe (.bl a) (.bl b) H (.bl (!decide (a = b))) := by
  rw [← dec_B]; exact rv_ne rfl
theorem rv_isN : RV rIsN0 x .non H (.bl (decide (x = .non))) := fun H1 _ Q q => ⟨rfl, q H1 (Ex.refl H1)⟩
theorem rv_notN : RV rNotN0 x .non H (.bl (!decide (x = .non))) := fun H1 _ Q q => ⟨rfl, q H1 (Ex.refl H1)⟩
/-- texts: an item, a slice, the length -/
theorem rv_ixT {l : List Nat} {i : Int} {c : Nat} (hz : l.length ≤ 16000000) (h : atI l i = some c) : RV rIxS (.str (T l)) (.int i) H (.str (T [c])) := fun H1 _ Q q =>
  ⟨T l, i, c, rfl, rfl, by rw [T_len, sizeLine_eq]; omega, h, q H1 (Ex.refl H1)⟩
def cutL (l : List Nat) (lo hi : Option Int) : List Nat := (l.drop (HT.sIx l.length 0 lo)).take (HT.sIx l.length l.length hi - HT.sIx l.length 0 lo)
theorem cutS_T (l : List Nat) (lo hi : Option Int) : cutS (T l) lo hi = T (cutL l lo hi) := by
  unfold cutS cutL T
  simp [Str.length]
theorem cutL_len (l : List Nat) (lo hi : Option Int) : (cutL l lo hi).length ≤ l.length := by
  unfold cutL
  rw [List.length_take, List.length_drop]
  omega
theorem cutL_pre {l : List Nat} {n : Nat} : cutL l none (some (n : Int)) = l.take n := by
  unfold cutL
  rw [HT.sIx_none, HT.sIx_nat]
  simp
theorem cutL_suf {l : List Nat} {n : Nat} : cutL l (some (n : Int)) none = l.drop n := by
  unfold cutL
  rw [HT.sIx_none, HT.sIx_nat]
  by_cases h : n ≤ l.length
  · rw [Nat.min_eq_left h, List.take_of_length_le (by simp)]
  · rw [Nat.min_eq_right (by omega), Nat.sub_self, List.take_zero, List.drop_eq_nil_of_le (by omega)]
theorem cutL_last {l : List Nat} : cutL l none (some (-1)) = l.dropLast := by
  unfold cutL
  rw [HT.sIx_none, List.dropLast_eq_take]
  show (l.drop 0).take (((-1 : Int) + l.length).toNat - 0) = _
  rw [List.drop_zero, Nat.sub_zero]
  congr 1
  omega
theorem ev_slT {tl th : TO} {l : List Nat} {lo hi : Option Int} (h : Ev te σ H (.str (T l))) (hz : l.length ≤ 16000000) (h1 : EvO tl σ H lo) (h2 : EvO th σ H hi) : Ev (tSl rSlS te tl th) σ H (.str (T (cutL l lo hi))) := fun H1 e Q q =>
  h H1 e _ fun H2 e2 => h1 H2 (e.trans e2) _ fun H3 e3 => h2 H3 ((e.trans e2).trans e3) _ fun H4 e4 =>
    ⟨T l, rfl, by rw [T_len, sizeLine_eq]; omega, by rw [cutS_T]; exact q H4 ((e2.trans e3).trans e4)⟩
theorem ev_lenT {l : List Nat} (h : Ev ta σ H (.str (T l))) (hz : l.length ≤ 16000000) : Ev (tCB (rLenK K) (tCons ta tNil)) σ H (.int (l.length : Int)) := fun H1 e Q q =>
  h H1 e _ fun H2 e2 => ⟨.str (T l), l.length, rfl, ⟨by rw [T_len, sizeLine_eq]; omega, (T_len l).symm⟩, q H2 e2⟩
theorem ev_lenS {p : Addr} {xs : List V} (h : Ev ta σ H (.ref p)) (hs : SqL K H p xs ∨ SqT K H p xs) : Ev (tCB (rLenK K) (tCons ta tNil)) σ H (.int (xs.length : Int)) := fun H1 e Q q =>
  h H1 e _ fun H2 e2 => ⟨.ref p, xs.length, rfl, by
    rcases hs with hs | hs
    · exact .inl ⟨xs, ex_l (e.trans e2) hs, rfl⟩
    · exact .inr ⟨xs, ex_t (e.trans e2) hs, rfl⟩, q H2 e2⟩
theorem ev_lenNL {xs : List V} (h : EvL ta σ H xs) : Ev (tCB (rLenK K) (tCons ta tNil)) σ H (.int (xs.length : Int)) := fun H1 e Q q =>
  h H1 e _ fun p H2 _ e2 hp => ⟨.ref p, xs.length, rfl, .inl ⟨xs, sq_of hp, rfl⟩, q H2 e2⟩
/-- int(b) -/
theorem ev_intB {b : Bool} (h : Ev ta σ H (.bl b)) : Ev (tCB rIntB (tCons ta tNil)) σ H (.int (if b then 1 else 0)) := fun H1 e Q q =>
  h H1 e _ fun H2 e2 => .inr ⟨b, rfl, q H2 e2⟩
theorem ev_intI {i : Int} (h : Ev ta σ H (.int i)) : Ev (tCB rIntB (tCons ta tNil)) σ H (.int i) := fun H1 e Q q =>
  h H1 e _ fun H2 e2 => .inl ⟨i, rfl, q H2 e2⟩
/-- an item of a written list -/
theorem ev_ixNL {xs : List V} {i : Int} (h : EvL ta σ H xs) (hi : ∀ H1, Ex H H1 → Ev tb σ H1 (.int i)) (hv : atI xs i = some v) : Ev (tOp (rIxL K) ta tb) σ H v :=
  ev_opL1 h hi fun p H1 h1 _ => rv_ixL (sq_of h1) hv
/-- isinstance of scalars -/
def tyS : V → Option String
  | .non => some "NoneType"
  | .bl _ => some "bool"
  | .int _ => some "int"
  | .str _ => some "str"
  | _ => none
theorem tyS_ok {x : V} {n : String} (h : tyS x = some n) (H : Hp) : TyX K H x (.type n) := by
  cases x with
  | non => cases h; exact .base .non
  | bl b => cases h; exact .base (.bl b)
  | int i => cases h; exact .base (.int i)
  | str s => cases h; exact .base (.str s)
  | _ => cases h
theorem ev_isi {n m : String} {b : Bool} (h : Ev ta σ H x) (hn : tyS x = some n) (hb : kitB n m = some b) : Ev (tCB (rIsi K) (tCons ta (tCons (tC (.ty m)) tNil))) σ H (.bl b) := fun H1 e Q q =>
  h H1 e _ fun H2 e2 => ⟨x, .ty m, .type n, .type m, b, rfl, .ty m, tyS_ok hn H2, kit_ty hb, q H2 e2⟩
theorem ev_isiL {p : Addr} {xs : List V} {m : String} {b : Bool} (h : Ev ta σ H (.ref p)) (hp : H p = some (.lst xs)) (hb : kitB "list" m = some b) : Ev (tCB (rIsi K) (tCons ta (tCons (tC (.ty m)) tNil))) σ H (.bl b) := fun H1 e Q q =>
  h H1 e _ fun H2 e2 => ⟨.ref p, .ty m, .type "list", .type m, b, rfl, .ty m, .base (.lst ((e.trans e2) _ _ hp)), kit_ty hb, q H2 e2⟩
theorem ev_isiT {p : Addr} {xs : List V} {m : String} {b : Bool} (h : Ev ta σ H (.ref p)) (hp : H p = some (.tup xs)) (hb : kitB "tuple" m = some b) : Ev (tCB (rIsi K) (tCons ta (tCons (tC (.ty m)) tNil))) σ H (.bl b) := fun H1 e Q q =>
  h H1 e _ fun H2 e2 => ⟨.ref p, .ty m, .type "tuple", .type m, b, rfl, .ty m, .base (.tup ((e.trans e2) _ _ hp)), kit_ty hb, q H2 e2⟩
end
/-! ### promises of defs whose answer is a function of their arguments -/
def pureSp (n : Nat) (F : List V → Option V) : Sp := fun vs H Q _ => vs.length = n ∧ ∃ v, F vs = some v ∧ RetV v H Q
theorem use_pure {n : Nat} {F : List V → Option V} {vs : List V} {v : V} {H : Hp} (h : F vs = some v) (hn : vs.length = n) : SpV (pureSp n F) vs H v := fun H1 e Q q E => ⟨hn, v, h, fun H2 e2 => q H2 e2⟩
/-- .. the first argument a list -/
def pureSpL (K : PySem.W.Frag) (n : Nat) (F : List V → List V → Option V) : Sp := fun vs H Q _ => ∃ a xs us, vs = .ref a :: us ∧ us.length = n ∧ SqL K H a xs ∧ ∃ v, F xs us = some v ∧ RetV v H Q
theorem pureSpL_len {K : PySem.W.Frag} {n : Nat} {F : List V → List V → Option V} {vs : List V} {H : Hp} {Q : VK} {E : XK} (h : pureSpL K n F vs H Q E) : vs.length = n + 1 := by
  obtain ⟨a, xs, us, rfl, hn, _⟩ := h
  rw [List.length_cons, hn]
theorem use_pureL {K : PySem.W.Frag} {n : Nat} {F : List V → List V → Option V} {a : Addr} {xs us : List V} {v : V} {H : Hp} (hs : SqL K H a xs) (h : F xs us = some v) (hn : us.length = n) : SpV (pureSpL K n F) (.ref a :: us) H v := fun H1 e Q q E =>
  ⟨a, xs, us, rfl, hn, ex_l e hs, v, h, fun H2 e2 => q H2 e2⟩
section
variable {K : PySem.W.Frag} {σ : L2.St} {H : Hp} {te : TE}
/-- a call whose first argument is a new list -/
theorem ev_callNL {n : Nat} {F : List V → List V → Option V} {E : XK} {tr : TA} {xs us : List V} {v : V} (h : EvL te σ H xs) (hr : ∀ H1, Ex H H1 → EvA tr σ H1 us) (hF : F xs us = some v) (hn : us.length = n) :
    Ev (tCall (pureSpL K n F) [] E (tCons te tr)) σ H v := fun H1 e Q q =>
  h H1 e _ fun p H2 _ e2 hp => hr H2 (e.trans e2) H2 (Ex.refl H2) _ fun H3 e3 => by
    show pureSpL K n F ((.ref p :: us) ++ []) H3 Q E
    rw [List.append_nil]
    exact ⟨p, xs, us, rfl, hn, sq_of (e3 _ _ hp), v, hF, fun H4 e4 => q H4 ((e2.trans e3).trans e4)⟩
end

/-! ### the text's facts -/
def fdOf (K : PySem.W.Frag) (p : Str × Option Str) : FuncData := match K.lookup (He.fAd K p) with
  | some ⟨_, _, .func fd, _⟩ => fd
  | _ => PySem.W.fnOf "" "" ⟨[], [], none, [], [], none, []⟩ [] ⟨.function, [], false, false, []⟩ .none .none .none .none none .none .none
theorem fun_fdOf {K : PySem.W.Frag} {x qual : Str} {params : Arguments} {body : List Stmt} {scope : Scope} {dvs : List V} {kws : List (Str × V)} {p : Str × Option Str}
    (h : ∃ fd, FunD K x qual params body scope dvs kws (He.fAd K p) fd) : FunD K x qual params body scope dvs kws (He.fAd K p) (fdOf K p) := by
  obtain ⟨fd, F⟩ := h
  have e : fdOf K p = fd := by
    obtain ⟨oc, od, dV, kV, doc, pm, an, cdv, ct, osl, _, lk, _⟩ := F.ex
    unfold fdOf
    rw [lk]
  rw [e]
  exact F
theorem cx_none {P : Program} {w : World} {H : Hp} {s : Shared} {e : Value} {s' : Shared} (z : L2.CX P w [] H s (fun _ _ _ => False) e s') : False := by
  obtain ⟨_, _, _, _, _, _, _, _, _, _, _, _, z⟩ := z
  exact z
section
variable {X : Cx}
/-- a module's number, text -/
theorem pe_gint {x : Str} {i : Int} {pos : Pos} (hg : Gl X x) (hm : ∃ t, X.mg x = some (.int i t)) (hd : (x == ("__debug__" : Str)) = false := by decide) : PE X (.Name x pos) (tC (.int i)) := by
  obtain ⟨t, e⟩ := hm
  exact pe_glob hg e ⟨t, rfl⟩ hd
theorem pe_gstr {x : Str} {z : Str} {l : List Nat} {pos : Pos} (hg : Gl X x) (hm : ∃ t, X.mg x = some (.str z t)) (hz : z = T l) (hd : (x == ("__debug__" : Str)) = false := by decide) : PE X (.Name x pos) (tC (.str (T l))) := by
  obtain ⟨t, e⟩ := hm
  subst hz
  exact pe_glob hg e ⟨t, rfl⟩ hd
end
/-- a law's promise: called with the script, it gives True -/
def lawSp (K : PySem.W.Frag) : Sp := fun vs H Q _ => ∃ (a : Addr) (ns : List Int), vs = [.ref a] ∧ SqL K H a (ns.map V.int) ∧ ns.length ≤ 63 ∧ Only H ∧ ∀ H', Q (.bl true) H'
theorem lawSp_len {K : PySem.W.Frag} {vs : List V} {H : Hp} {Q : VK} {E : XK} (h : lawSp K vs H Q E) : vs.length = 1 := by
  obtain ⟨a, ns, rfl, _⟩ := h
  rfl
theorem law_in {K : PySem.W.Frag} {H : Hp} {a : Addr} {ns : List Int} {E : XK} (hl : ns.length ≤ 63) (hO : Only H) (hS : SqL K H a (ns.map V.int)) : lawSp K [.ref a] H (fun v _ => v = .bl true) E := ⟨a, ns, rfl, hS, hl, hO, fun _ => rfl⟩

/-- the end of a law over a head by facts, where what leaves a def depends on the world -/
theorem walk_w {l : PySem.W.OpenLaw} {n k : Nat} {q : Program} {loose : List Str} {XP : (Str → Option Value) → Heap → Prop} {YP : World → Heap → Prop} {d : DefRec} {x : Str}
    (hn : l.most = some n) (hn2 : n ≤ sizeLine) (hdf : d.params.defaults = []) (hr : Room k callerA)
    (F : ∀ (w : World) (mg : Str → Option Value) (fa : Addr) (h : Heap), YP w h → h.Ns mainGlobals mg → mg d.name = some (.ref fa) →
      ∃ (K : PySem.W.Frag) (fd : FuncData), K.In h ∧ (∀ (s : Shared) (u : Value), BindsTo s fd ⟨[u], []⟩ [(x, u)]) ∧
        (∀ (H : Hp) (a : Addr) (ns : List Int), ns.length ≤ n → Only H → SqL K H a (ns.map V.int) → lawSp K [.ref a] H (fun v _ => v = .bl true) fun _ _ _ => False) ∧
        ∀ base : Heap, K.In base → base.Ns mainGlobals mg → FnOk l.prog w K mg base (L2.CX l.prog w) k fa fd [x] (lawSp K)) :
    PySem.W.WalkO q loose XP YP l.row.toRowW d [] (fun f vs => PySem.call f vs) := by
  refine Att.attach_call hn hdf fun w s₀ s₁ mg mb fa o pm cd doc a vs ns G Y ho hd hcd hmg hobj hints hlen hg => ?_
  have Z := F w mg fa s₁.heap Y G.T.g hmg
  obtain ⟨K, fd, KX, hb, hsp, hF⟩ := Z
  exact law_call KX G.T.g G.T.b G.T.builtins G.T.nolimit hg hobj hints (Nat.le_trans hlen hn2) hr hF hb (fun H hO hS => hsp H a ns hlen hO hS)
    (fun H e s' z => cx_none z)
end Kr
/-! rows of two signs as lists of truths; the reading's own tactics -/
namespace Kr
open PySem PySem.Spec PyProof.Rows L2 Evl
/-! ### rows -/
def bc (b : Bool) : Nat := if b then 49 else 48
def R (b : List Bool) : List Nat := b.map bc
theorem R_app (a b : List Bool) : R (a ++ b) = R a ++ R b := List.map_append
theorem R_len (a : List Bool) : (R a).length = a.length := List.length_map _
theorem bc_inj {a b : Bool} (h : bc a = bc b) : a = b := by cases a <;> cases b <;> first | rfl | (exact absurd h (by decide))
theorem R_inj {a b : List Bool} (h : R a = R b) : a = b := by
  induction a generalizing b with
  | nil => cases b with
    | nil => rfl
    | cons y b => simp [R] at h
  | cons x a ih => cases b with
    | nil => simp [R] at h
    | cons y b =>
      simp only [R, List.map_cons, List.cons.injEq] at h
      rw [bc_inj h.1, ih h.2]
theorem R_take (a : List Bool) (n : Nat) : (R a).take n = R (a.take n) := by simp [R, List.map_take]
theorem R_drop (a : List Bool) (n : Nat) : (R a).drop n = R (a.drop n) := by simp [R, List.map_drop]
theorem lt_split {p x y : List Nat} : p ++ 48 :: x < p ++ 49 :: y := by
  induction p with
  | nil => exact List.Lex.rel (by decide)
  | cons c p ih => exact List.Lex.cons ih
theorem lt_pre {p y : List Nat} {c : Nat} : p < p ++ c :: y := by
  induction p with
  | nil => exact List.Lex.nil
  | cons d p ih => exact List.Lex.cons ih
/-! ### the script -/
def cellAt (ns : List Int) (k : Int) : Int := (ns[k.toNat]?).getD 0
theorem cell_at {ns : List Int} {j : Nat} (hj : j < ns.length) : ns[j]? = some (cellAt ns j) := by
  unfold cellAt
  rw [Int.toNat_natCast, List.getElem?_eq_getElem hj]
  rfl
/-- a cell of the script by its place -/
theorem at_int {ns : List Int} {j : Nat} (hj : j < ns.length) : atI (ns.map V.int) (j : Int) = some (.int (cellAt ns j)) := by
  refine atI_nat (j := j) ?_
  rw [List.getElem?_map, cell_at hj]
  rfl
theorem cut_len {ns : List Int} (h : ns.length ≤ 63) : ((cutV (ns.map V.int) none (some 63)).length : Int) = (ns.length : Int) := by
  unfold cutV
  rw [HT.sIx_none, show HT.sIx (ns.map V.int).length (ns.map V.int).length (some 63) = min 63 (ns.map V.int).length from HT.sIx_nat _ _ 63]
  simp
  omega
theorem ev_len63 {K : PySem.W.Frag} {σ : L2.St} {H : Hp} {te : TE} {a : Addr} {ns : List Int} (h : Ev te σ H (.ref a)) (hs : SqL K H a (ns.map V.int)) (hl : ns.length ≤ 63) :
    Ev (tCB (rLenK K) (tCons (tSl (rSlL K) te tNoPart (tPart (tC (.int 63)))) tNil)) σ H (.int (ns.length : Int)) := by
  have := ev_lenNL (K := K) (el_sl (K := K) h eo_none (eo_some (ev_c (v := .int 63))) hs)
  rw [cut_len hl] at this
  exact this
/-! ### one rule an operation, for apply -/
section
variable {K : PySem.W.Frag} {σ : L2.St} {H : Hp} {ta tb te : TE} {x : V}
theorem ev_addI {i j : Int} (ha : Ev ta σ H (.int i)) (hb : Ev tb σ H (.int j)) : Ev (tOp rAddI ta tb) σ H (.int (i + j)) := ev_op ha hb rv_addI
theorem ev_subI {i j : Int} (ha : Ev ta σ H (.int i)) (hb : Ev tb σ H (.int j)) : Ev (tOp rSubI ta tb) σ H (.int (i - j)) := ev_op ha hb rv_subI
theorem ev_mulI {i j : Int} (ha : Ev ta σ H (.int i)) (hb : Ev tb σ H (.int j)) (h : CMulX i j) : Ev (tOp rMulI ta tb) σ H (.int (i * j)) := ev_op ha hb (rv_mulI h)
theorem ev_divI {i j : Int} (ha : Ev ta σ H (.int i)) (hb : Ev tb σ H (.int j)) (h : CDivW i j) : Ev (tOp rDivI ta tb) σ H (.int (i / j)) := ev_op ha hb (rv_divI h)
theorem ev_modI {i j : Int} (ha : Ev ta σ H (.int i)) (hb : Ev tb σ H (.int j)) (h : 0 < j) : Ev (tOp rModI ta tb) σ H (.int (i % j)) := ev_op ha hb (rv_modI h)
theorem ev_shrI {i j : Int} (ha : Ev ta σ H (.int i)) (hb : Ev tb σ H (.int j)) (h : 0 ≤ j) : Ev (tOp rShrI ta tb) σ H (.int (i / 2 ^ j.toNat)) := ev_op ha hb (rv_shrI h)
theorem ev_shlI {i j : Int} (ha : Ev ta σ H (.int i)) (hb : Ev tb σ H (.int j)) (h : CShl i j) : Ev (tOp rShlI ta tb) σ H (.int (i * 2 ^ j.toNat)) := ev_op ha hb (rv_shlI h)
theorem ev_powI {i j : Int} (ha : Ev ta σ H (.int i)) (hb : Ev tb σ H (.int j)) (h : CPow i j) : Ev (tOp rPowI ta tb) σ H (.int (i ^ j.toNat)) := ev_op ha hb (rv_powI h)
theorem ev_andI {i j : Int} (ha : Ev ta σ H (.int i)) (hb : Ev tb σ H (.int j)) : Ev (tOp rAndI ta tb) σ H (.int (Builtin.bitAnd i j)) := ev_op ha hb rv_andI
theorem ev_ltI {i j : Int} (ha : Ev ta σ H (.int i)) (hb : Ev tb σ H (.int j)) : Ev (tOp rLtI ta tb) σ H (.bl (decide (i < j))) := ev_op ha hb rv_ltI
theorem ev_leI {i j : Int} (ha : Ev ta σ H (.int i)) (hb : Ev tb σ H (.int j)) : Ev (tOp rLeI ta tb) σ H (.bl (decide (i ≤ j))) := ev_op ha hb rv_leI
theorem ev_gtI {i j : Int} (ha : Ev ta σ H (.int i)) (hb : Ev tb σ H (.int j)) : Ev (tOp rGtI ta tb) σ H (.bl (decide (j < i))) := ev_op ha hb rv_gtI
theorem ev_geI {i j : Int} (ha : Ev ta σ H (.int i)) (hb : Ev tb σ H (.int j)) : Ev (tOp rGeI ta tb) σ H (.bl (decide (j ≤ i))) := ev_op ha hb rv_geI
theorem ev_eqI {i j : Int} (ha : Ev ta σ H (.int i)) (hb : Ev tb σ H (.int j)) : Ev (tOp rEq ta tb) σ H (.bl (decide (i = j))) := ev_op ha hb rv_eqI
theorem ev_neI {i j : Int} (ha : Ev ta σ H (.int i)) (hb : Ev tb σ H (.int j)) : Ev (tOp rNe ta tb) σ H (.bl (!decide (i = j))) := ev_op ha hb rv_neI
theorem ev_eqB {i j : Bool} (ha : Ev ta σ H (.bl i)) (hb : Ev tb σ H (.bl j)) : Ev (tOp rEq ta tb) σ H (.bl (decide (i = j))) := ev_op ha hb rv_eqB
theorem ev_neB {i j : Bool} (ha : Ev ta σ H (.bl i)) (hb : Ev tb σ H (.bl j)) : Ev (tOp rNe ta tb) σ H (.bl (!decide (i = j))) := ev_op ha hb rv_neB
theorem ev_addT {a b : List Nat} (ha : Ev ta σ H (.str (T a))) (hb : Ev tb σ H (.str (T b))) (h : a.length + b.length ≤ 16000000) : Ev (tOp rAddT ta tb) σ H (.str (T (a ++ b))) := ev_op ha hb (rv_addT h)
theorem ev_ltT {a b : List Nat} (ha : Ev ta σ H (.str (T a))) (hb : Ev tb σ H (.str (T b))) : Ev (tOp rLtT ta tb) σ H (.bl (decide (a < b))) := ev_op ha hb rv_ltT
theorem ev_leT {a b : List Nat} (ha : Ev ta σ H (.str (T a))) (hb : Ev tb σ H (.str (T b))) : Ev (tOp rLeT ta tb) σ H (.bl (!decide (b < a))) := ev_op ha hb rv_leT
theorem ev_eqT {a b : List Nat} (ha : Ev ta σ H (.str (T a))) (hb : Ev tb σ H (.str (T b))) : Ev (tOp rEq ta tb) σ H (.bl (decide (a = b))) := ev_op ha hb rv_eqT
theorem ev_neT {a b : List Nat} (ha : Ev ta σ H (.str (T a))) (hb : Ev tb σ H (.str (T b))) : Ev (tOp rNe ta tb) σ H (.bl (!decide (a = b))) := ev_op ha hb rv_neT
theorem ev_mulT {a : List Nat} {n : Int} (ha : Ev ta σ H (.str (T a))) (hb : Ev tb σ H (.int n)) (h0 : n < 2 ^ 62) (h1 : -(2 ^ 62) ≤ n) (h : a.length * n.toNat ≤ 16000000) : Ev (tOp rMulT ta tb) σ H (.str (T (List.replicate n.toNat a).flatten)) := ev_op ha hb (rv_mulT h0 h1 h)
theorem ev_ixT {l : List Nat} {i : Int} {c : Nat} (ha : Ev ta σ H (.str (T l))) (hb : Ev tb σ H (.int i)) (hz : l.length ≤ 16000000) (h : atI l i = some c) : Ev (tOp rIxS ta tb) σ H (.str (T [c])) := ev_op ha hb (rv_ixT hz h)
theorem ev_isN (ha : Ev ta σ H x) : Ev (tOp rIsN0 ta (tC .non)) σ H (.bl (decide (x = .non))) := ev_op ha ev_c rv_isN
theorem ev_notN (ha : Ev ta σ H x) : Ev (tOp rNotN0 ta (tC .non)) σ H (.bl (!decide (x = .non))) := ev_op ha ev_c rv_notN
theorem ev_neg {i : Int} (ha : Ev ta σ H (.int i)) : Ev (tUn (rU fun i => .int (-i)) ta) σ H (.int (-i)) := ev_un ha ru_neg
theorem ev_bits {i : Int} (ha : Ev ta σ H (.int i)) : Ev (tBits ta) σ H (.int (Builtin.Int.intBits i : Nat)) := fun H1 e Q q => ha H1 e _ fun H2 e2 => ⟨i, rfl, q H2 e2⟩
end
theorem bit_at (x : Int) (j : Nat) : atI [48, 49] (Builtin.bitAnd (x / 2 ^ ((j : Int)).toNat) 1) = some (bc (decide (x / 2 ^ j % 2 = 1))) := by
  have e : Builtin.bitAnd (x / 2 ^ ((j : Int)).toNat) 1 = x / 2 ^ j % 2 := by
    have := PySem.W.kbt_mask (x / 2 ^ j) 1
    rw [Int.toNat_natCast]
    exact this
  rw [e]
  have : x / 2 ^ j % 2 = 0 ∨ x / 2 ^ j % 2 = 1 := by omega
  rcases this with h | h <;> rw [h] <;> rfl
end Kr
/-! errors of the text's own: raised with a text, caught and kept as values, asked for their classes -/
namespace Kr
open PySem PySem.Spec PyProof.Rows L2 Evl
/-! ### facts of the error classes, looked up by the names -/
def exCB (K : PySem.W.Frag) (C : Addr) : Bool :=
  decide (PySem.W.findIn K (.ref C) "__getattribute__" = some (some (.builtin "BaseException.__getattribute__"))) && (decide (PySem.W.findIn K (.ref C) "__getattr__" = some none) &&
  (decide (PySem.W.subIn K (.ref C) (.type "BaseException") = some true) && (PySem.W.hasDictIn K C && (decide (PySem.W.findIn K (.ref C) "__class__" = some (some (.builtin "object.__class__"))) &&
  (decide (PySem.W.specialIn K (.builtin "object.__class__") "__get__" = some (some (.builtin "getset_descriptor.__get__"))) && (decide (PySem.W.takesIn K (.builtin "object.__class__") = some true) &&
  decide (PySem.W.mroIn K C (.type "object") = some true)))))))
theorem exCB_ok {K : PySem.W.Frag} {C : Addr} (h : exCB K C = true) : ExcC K C := by
  obtain ⟨h1, h⟩ := He.ba h
  obtain ⟨h2, h⟩ := He.ba h
  obtain ⟨h3, h⟩ := He.ba h
  obtain ⟨h4, h⟩ := He.ba h
  obtain ⟨h5, h⟩ := He.ba h
  obtain ⟨h6, h⟩ := He.ba h
  obtain ⟨h7, h8⟩ := He.ba h
  exact ⟨of_decide_eq_true h1, of_decide_eq_true h2, of_decide_eq_true h3, h4, of_decide_eq_true h5, of_decide_eq_true h6, of_decide_eq_true h7, of_decide_eq_true h8⟩
/-- RiseError stands above each of L, none of L above another one -/
def exsB (K : PySem.W.Frag) (L : List Str) : Bool := decide (PySem.W.exmOne K (.ref (He.ga K "RiseError")) (.ref (He.ga K "RiseError")) = some true) && L.all fun x => exCB K (He.ga K x) &&
  (decide (PySem.W.kitOne K (.ref (He.ga K x)) (.ref (He.ga K "RiseError")) = some true) && (decide (PySem.W.kitOne K (.ref (He.ga K x)) (.type "ValueError") = some true) && (decide (PySem.W.exmOne K (.ref (He.ga K x)) (.ref (He.ga K "RiseError")) = some true) &&
  L.all fun y => decide (PySem.W.kitOne K (.ref (He.ga K x)) (.ref (He.ga K y)) = some (decide (x = y))) && decide (PySem.W.exmOne K (.ref (He.ga K x)) (.ref (He.ga K y)) = some (decide (x = y))))))
structure KxL (L : List Str) (K : PySem.W.Frag) : Prop where
  ok : exsB K L = true
section
variable {L : List Str} {K : PySem.W.Frag} {x y : Str}
theorem KxL.at_ (k : KxL L K) (hx : x ∈ L) : exCB K (He.ga K x) = true ∧ PySem.W.kitOne K (.ref (He.ga K x)) (.ref (He.ga K "RiseError")) = some true ∧ PySem.W.kitOne K (.ref (He.ga K x)) (.type "ValueError") = some true ∧
    PySem.W.exmOne K (.ref (He.ga K x)) (.ref (He.ga K "RiseError")) = some true ∧ ∀ y ∈ L, PySem.W.kitOne K (.ref (He.ga K x)) (.ref (He.ga K y)) = some (decide (x = y)) ∧ PySem.W.exmOne K (.ref (He.ga K x)) (.ref (He.ga K y)) = some (decide (x = y)) := by
  obtain ⟨_, h⟩ := He.ba k.ok
  have h := List.all_eq_true.mp h x hx
  obtain ⟨h1, h⟩ := He.ba h
  obtain ⟨h2, h⟩ := He.ba h
  obtain ⟨h3, h⟩ := He.ba h
  obtain ⟨h4, h⟩ := He.ba h
  refine ⟨h1, of_decide_eq_true h2, of_decide_eq_true h3, of_decide_eq_true h4, fun y hy => ?_⟩
  obtain ⟨a, b⟩ := He.ba (List.all_eq_true.mp h y hy)
  exact ⟨of_decide_eq_true a, of_decide_eq_true b⟩
theorem KxL.exc (k : KxL L K) (hx : x ∈ L) : ExcC K (He.ga K x) := exCB_ok (k.at_ hx).1
theorem KxL.root (k : KxL L K) (hx : x ∈ L) : PySem.W.kitOne K (.ref (He.ga K x)) (.ref (He.ga K "RiseError")) = some true := (k.at_ hx).2.1
theorem KxL.val (k : KxL L K) (hx : x ∈ L) : PySem.W.kitOne K (.ref (He.ga K x)) (.type "ValueError") = some true := (k.at_ hx).2.2.1
theorem KxL.exR (k : KxL L K) (hx : x ∈ L) : PySem.W.exmOne K (.ref (He.ga K x)) (.ref (He.ga K "RiseError")) = some true := (k.at_ hx).2.2.2.1
theorem KxL.kit (k : KxL L K) (hx : x ∈ L) (hy : y ∈ L) : PySem.W.kitOne K (.ref (He.ga K x)) (.ref (He.ga K y)) = some (decide (x = y)) := ((k.at_ hx).2.2.2.2 y hy).1
theorem KxL.exm (k : KxL L K) (hx : x ∈ L) (hy : y ∈ L) : PySem.W.exmOne K (.ref (He.ga K x)) (.ref (He.ga K y)) = some (decide (x = y)) := ((k.at_ hx).2.2.2.2 y hy).2
end
/-! ### the head's look, one more answer of one's own beside -/
abbrev AlM : Type := He.AlD × Bool
def frM (g : Addr → Option Obj) (n : Nat) : PySem.W.Frag := He.frG g (He.asD g n ++ [cStatics])
def hookM (n : Nat) (fa : List He.Fa) (fn : List He.DefD) (ex : PySem.W.Frag → Bool) : PySem.W.Hook where
  α := AlM
  obs := fun s => (He.obsD fa fn (frM s.heap.get? n), ex (frM s.heap.get? n))
  val := fun _ => (He.valD fn, true)
  says := fun _ h => ∃ K : PySem.W.Frag, K.In h ∧ He.SaysD fa fn K ∧ ex K = true
  of := fun _ _ e => ⟨_, He.frG_in, congrArg (fun z : AlM => z.1) e, congrArg (fun z : AlM => z.2) e⟩
  keeps := fun _ _ _ ⟨K, hK, c⟩ k => ⟨K, PySem.W.Frag.In.keeps hK k, c⟩
def obsM (n : Nat) (fa : List He.Fa) (fn : List He.DefD) (ex : PySem.W.Frag → Bool) (g : Addr → Option Obj) : AlM := (He.obsD fa fn (frM g n), ex (frM g n))
theorem obsM_eq {n : Nat} {fa : List He.Fa} {fn : List He.DefD} {ex : PySem.W.Frag → Bool} {g : Addr → Option Obj} {s : Shared} (h : ∀ a, g a = s.heap.get? a) : obsM n fa fn ex g = (hookM n fa fn ex).obs s := by
  have e : g = s.heap.get? := funext h
  rw [e] <;> rfl
/-! ### raise X('..') -/
def tRaiseX (cls : Value) (E : XK) : TS := fun _ _ H => E cls none H
section
variable {X : Cx}
theorem pmk_txt {x m : Str} {C : Addr} {j : Nat} {p p2 pos : Pos}
    (c : PySem.W.excIn X.K C He.veBase "ValueError.__new__" = true ∧ PySem.W.keepIn X.K (.ref C) = true ∧ PySem.W.subIn X.K (.ref C) (.type "BaseException") = some true ∧ PySem.W.typeIn X.K (.ref C) = some (.type "type"))
    (g : X.mg x = some (.ref C)) (hg : Gl X x := by rfl) (hd : (x == ("__debug__" : Str)) = false := by decide) :
    PMk X (.Call (.Name x p) [.Constant (.str m) j p2] [] pos) (fun _ H Q => Q (.ref C) none H) :=
  pmk_own PySem.F.excBase_ValueError c.1 g c.2.1 (raises_own c.2.2.1 c.2.2.2) hg hd
end
/-- a promise's ways out -/
def RaiseX (cls : Value) (H : Hp) (E : XK) : Prop := ∀ H', Ex H H' → E cls none H'
/-! ### an error that was caught stands as a value -/
def ExK (cls : Value) (d : Option Addr) (a : Addr) : HO := .ext fun h => ∃ oe : Obj, h.get? a = some oe ∧ Zc cls d oe ∧ ∃ vs, oe.data = .fields vs
theorem exK_ok {P : Program} {w : World} {H : Hp} {h : Heap} {a : Addr} {cls : Value} {d : Option Addr} {oe : Obj} (e : h.get? a = some oe) (z : Zc cls d oe) (f : ∃ vs, oe.data = .fields vs) : ObjOk P w H h a (ExK cls d a) :=
  ⟨⟨oe, e, z, f⟩, ⟨oe, e⟩, fun _ _ ⟨o, q, r⟩ k => ⟨o, k o q, r⟩⟩
section
variable {X : Cx} {pins : List (Addr × Obj)} {σ : L2.St} {H : Hp} {s : Shared}
/-- what was pinned, new in this def, is tracked from now on -/
theorem inv_track {a : Addr} {oe : Obj} {cls : Value} {d : Option Addr} (I : Inv X ((a, oe) :: pins) σ H s) (hz : Zc cls d oe) (hv : ∃ vs, oe.data = .fields vs) (hnew : X.s_0.heap.get? a = none)
    (hpn : ∀ p ∈ X.pn ++ pins, p.1 ≠ a) : Inv X pins σ (upd H a (ExK cls d a)) s := by
  have hp : (a, oe) ∈ X.pn ++ (a, oe) :: pins := List.mem_append_right _ List.mem_cons_self
  obtain ⟨hget, hn, hL, hF, hnc⟩ := I.pin _ hp
  have ne0 : ∀ b o, X.s_0.heap.get? b = some o → b ≠ a := fun b o e z => by
    rw [z, hnew] at e
    cases e
  have neH : ∀ b u, H b = some u → b ≠ a := fun b u e z => by
    rw [z, hn] at e
    cases e
  refine ⟨I.ok, I.os, I.bare, ⟨I.base.keep, I.base.slot, fun b o e n hx => ?_, I.base.there, fun b xs e => ?_, fun b o u e => ?_, fun b ps e => ?_⟩, I.loc, I.cell, ?_, fun x c e => ?_, fun p hp' => ?_, fun b u e => ?_, I.len⟩
  · rw [upd_ne (ne0 b o e)]
    exact I.base.free b o e n hx
  · have q := I.base.tups b xs e
    rw [upd_ne (neH b _ q)]
    exact q
  · have q := I.base.frzs b o u e
    rw [upd_ne (neH b _ q)]
    exact q
  · obtain ⟨m, q⟩ := I.base.tbls b ps e
    exact ⟨m, by rw [upd_ne (neH b _ q)]; exact q⟩
  · rw [upd_ne (Ne.symm hL)]
    exact I.free
  · have hc : c ≠ a := fun z => by
      obtain ⟨v, o, ho, hd⟩ := I.cell x c e
      rw [z] at ho
      have := ho.symm.trans hget
      cases this
      exact hnc v hd
    rw [upd_ne hc]
    exact I.freeC x c e
  · have hp2 : p ∈ X.pn ++ (a, oe) :: pins := by
      rcases List.mem_append.mp hp' with z | z
      · exact List.mem_append_left _ z
      · exact List.mem_append_right _ (List.mem_cons_of_mem _ z)
    obtain ⟨p1, p2, p3, p4, p5⟩ := I.pin p hp2
    exact ⟨p1, by rw [upd_ne (hpn p hp')]; exact p2, p3, p4, p5⟩
  · by_cases hb : b = a
    · subst hb
      rw [upd_same] at e
      cases e
      exact exK_ok hget hz hv
    · rw [upd_ne hb] at e
      exact (I.hok b u e).stay (fun c v _ q => q) (fun c q => by rw [upd_ne (neH c _ q)]; exact q) (fun c xs q => by rw [upd_ne (neH c _ q)]; exact q)
end
/-- what the clause 'except x as n' wishes, the error kept behind the suite's end -/
def wKeep (K : PySem.W.Frag) (c : Value) (i : Nat) (ts : Addr → Value → Option Addr → TS) (Wout : WX) (D : Ends) : WX := fun cls d σ H =>
  ∃ b, PySem.W.exmOne K cls c = some b ∧
    (b = true → ∀ a, H a = none → ts a cls d { nx := fun σ' H' => D.nx (σ'.set i none) (upd H' a (ExK cls d a)), rt := fun _ _ => False } (σ.set i (some (.ref a))) H) ∧
    (b = false → Wout cls d σ H)
section
variable {X : Cx} {x n : Str} {c : Value} {i : Nat} {body suite : List Stmt} {b₀ : Stmt} {np pos pos' : Pos} {tb : WX → TS} {ts : Addr → Value → Option Addr → TS} {Wout : WX}
theorem ps_try_keep (hs : X.stack = X.env :: X.outer) (hf : X.env.frame = some X.env.locals) (hex : X.ex = []) (hN : X.N.Nodup) (hi : X.N[i]? = some n) (hln : X.env.kindOf n = some .local) (hc : Names X x c) (tk : Takes X Wout)
    (hb : ∀ (W : WX) (pn : List (Addr × Obj)) (xe : Value → Shared → Prop), Takes (X.tr pn xe) W → PassesOwn (model X.prog X.w) X.A X.env xe → PSs (X.tr pn xe) body (tb W))
    (hsu : ∀ (a : Addr) (oe : Obj) (cls : Value) (d : Option Addr) (pn : List (Addr × Obj)), Zc cls d oe → (∃ vs, oe.data = .fields vs) → PSs (X.suite a ((a, oe) :: pn)) (b₀ :: suite) (ts a cls d)) :
    PS X (.Try body [.ExceptHandler (some (.Name x np)) (some n) (b₀ :: suite) pos'] [] [] pos) (fun D σ H => tb (wKeep X.K c i ts Wout D) D σ H) := by
  refine ⟨fun pins s σ H D I h => ?_⟩
  have okX := I.ok
  have frX : X.A.frames = some (X.env :: X.outer) := by rw [okX.frames, hs]
  refine wpAny_Try_except (wpAny_mono ((hb (wKeep X.K c i ts Wout D) (X.pn ++ pins) _ (fun u s1 air => ?air) PassesOwn.looking).run [] s σ H D (I.toTry _) h) (fun f s1 done => ?done) (fun e s1 he => he))
  case done =>
    cases f with
    | next => obtain ⟨σ1, H1, J, q⟩ := done; exact wpAny_execs_nil ⟨σ1, H1, J.ofTry okX, q⟩
    | brk => obtain ⟨σ1, H1, J, q⟩ := done; exact ⟨σ1, H1, J.ofTry okX, q⟩
    | cont => obtain ⟨σ1, H1, J, q⟩ := done; exact ⟨σ1, H1, J.ofTry okX, q⟩
    | ret u => obtain ⟨v, σ1, H1, J, r, q⟩ := done; exact ⟨v, σ1, H1, J.ofTry okX, r, q⟩
  case air =>
    obtain ⟨a, B, s2, pins2, σ2, H2, cls, d, rfl, J0, nb, up, sky, na, os, ag, b, hb1, hyes, hno⟩ := air
    have J : Inv X pins σ2 H2 s2 := J0.ofTry okX
    rw [show (X.tr (X.pn ++ pins) _).stack = X.env :: X.outer from hs] at sky
    show wpAny (model X.prog X.w) X.A (noteFrame (.ref a) X.env) _ _ _
    refine Sky.land Zc.steady frX hf sky fun h3 fl3 up3 => ?_
    have J3 : Inv X pins σ2 H2 { s1 with heap := h3 } := J.landed nb fl3.1 (up.trans up3) os ag
    obtain ⟨oe3, vs3, he3, hz3, hd3⟩ := fl3.there
    have far : a ∉ frs (X.env :: X.outer) := fun hm => by
      obtain ⟨_, o', e', hnf⟩ := fl3.2.2.1.mem hm
      have e2 := he3.symm.trans e'
      cases e2
      exact hnf _ hd3
    have nL : a ≠ X.env.locals := fun z => far (List.mem_filterMap.mpr ⟨X.env, List.mem_cons_self, by rw [hf, z]⟩)
    have nF : a ∉ X.fs := fun hm => by
      obtain ⟨e, he, q⟩ := List.mem_filterMap.mp hm
      exact far (List.mem_filterMap.mpr ⟨e, List.mem_cons_of_mem _ he, q⟩)
    -- the error is new in this def
    have ground : ∀ o, s2.heap.get? a = some o → False := fun o e => by
      have := nb a o e (by rw [show (X.tr (X.pn ++ pins) _).stack = X.env :: X.outer from hs]; exact far)
      rw [fl3.2.1] at this
      cases this
    have hnew : X.s_0.heap.get? a = none := by
      cases e : X.s_0.heap.get? a with
      | none => rfl
      | some o =>
        obtain ⟨o', e'⟩ := J.base.there a o e (by rw [hex]; exact fun z => nomatch z)
        exact (ground o' e').elim
    have hpn : ∀ p ∈ X.pn ++ pins, p.1 ≠ a := fun p hp z => by
      have e := (J.pin p hp).1
      rw [z] at e
      exact ground _ e
    have S3 := J3.suite he3 hd3 na nL nF
    refine wpAny_handleBy_cons (codeAny_handlers_test ?_) (by intro q; cases q)
    have LT : PySem.W.Looks (model X.prog X.w) h3 (typeOf (.ref a)) cls := fun A Q E s k q => wpAny_typeOf_ref (k _ _ he3) (by rw [hz3.1]; exact q)
    have LM := PySem.W.exm_one (M := model X.prog X.w) J3.kIn LT hb1
    have named : ∀ {Q : Value → Shared → Prop} {E : Value → Shared → Prop}, Q c { s1 with heap := h3 } → wpAny (model X.prog X.w) (X.A.mark (some (.ref a))) (eval (.Name x np) X.env) Q E { s1 with heap := h3 } := fun {Q E} q => by
      obtain ⟨hg, hdbg, hm | ⟨hm, hv, hnn⟩⟩ := hc
      · exact ld_glob (X := X.suite a ((a, oe3) :: (X.pn ++ pins))) S3 hg hm q hdbg
      · exact ld_blt (X := X.suite a ((a, oe3) :: (X.pn ++ pins))) S3 hg hm hv q hnn hdbg
    refine named (LM.here ?_)
    cases b with
    | true =>
      refine codeAny_handlers_suite_as (HandSPX.lands_againZ fl3 fun h4 fl4 up4 => ?_)
      have J4 : Inv X pins σ2 H2 { s1 with heap := h4 } := J.landed nb fl4.1 ((up.trans up3).trans up4) os ag
      obtain ⟨oe4, vs4, he4, hz4, hd4⟩ := fl4.there
      have S4 := J4.suite he4 hd4 na nL nF
      refine store_ok (X := X.suite a ((a, oe4) :: (X.pn ++ pins))) (v := .ref a) S4 hN hi (.inl hln) rfl (fun s5 S5 => ?_) (.inr hln)
      refine wpAny_mono ((hsu a oe4 cls d (X.pn ++ pins) hz4 ⟨_, hd4⟩).run [] s5 _ H2 _ S5 (hyes rfl a na)) (fun f s6 hsp => ?_) (fun _ _ z => False.elim z)
      cases f with
      | next =>
        obtain ⟨σ6, H6, S6, q6⟩ := hsp
        have P6 : Inv X ((a, oe4) :: pins) σ6 H6 s6 := ⟨okX, S6.os, S6.bare, S6.base, S6.loc, S6.cell, S6.free, S6.freeC, fun p hp => S6.pin p (List.mem_append_left _ (by
          rcases List.mem_append.mp hp with z | z
          · exact List.mem_cons_of_mem _ (List.mem_append_left _ z)
          · rcases List.mem_cons.mp z with z | z
            · rw [z]; exact List.mem_cons_self
            · exact List.mem_cons_of_mem _ (List.mem_append_right _ z))), S6.hok, S6.len⟩
        exact gone_ok P6 hN hi hln fun s7 J7 => ⟨_, _, inv_track J7 hz4 ⟨_, hd4⟩ hnew hpn, q6⟩
      | brk => obtain ⟨_, _, _, q6⟩ := hsp; exact q6.elim
      | cont => obtain ⟨_, _, _, q6⟩ := hsp; exact q6.elim
      | ret u => obtain ⟨_, _, _, _, _, q6⟩ := hsp; exact q6.elim
    | false =>
      show wpAny _ X.A (handleBy (.ref a) X.env []) _ _ _
      refine wpAny_handleBy_nil ?_
      obtain ⟨k1, k2, k3, oe, vs, T, oT, ts', he, hz, hd, h1, hr⟩ := id fl3
      unfold PySem.passOn
      refine wpAny_bind (wpAny_field he hd h1 ?_)
      rw [if_neg (show ¬ ((Value.ref T == Value.none) = true) from by simp)]
      have out : wpAny (model X.prog X.w) X.A (setFlight (.ref a) X.env.frame) (fun _ s4 => wpAny (model X.prog X.w) X.A (throw (.ref a) : Sem Flow) (SP X pins D) X.xe s4) X.xe { s1 with heap := h3 } := by
        rw [hf]
        refine HandSPX.setFlight_upZ fl3 fun h4 hh4 up4 => wpAny_throw (tk _ _ ?_)
        exact ⟨a, B, s2, pins, σ2, H2, cls, d, rfl, J, nb, (up.trans up3).trans up4, .inr (.inr (by rw [hs]; exact hh4)), na, os, ag, hno rfl⟩
      first
        | exact wpAny_bind (wpAny_pure (wpAny_bind out))
        | exact wpAny_bind out
end
end Kr
/-! isinstance of kept errors, with a dict of their own or without -/
namespace Kr
open PySem PySem.Spec PyProof.Rows L2 Evl
section
open PySem.W PySem.Calls
variable {prog : Program} {w : World} {A : Around} {E : Value → Shared → Prop} {s : Shared} {K : Frag} {x D : Addr} {ox : Obj} {od : Option Obj}
/-- an error's __class__, whether it has a dict or not -/
theorem cls_of_err {Q : Option Value → Shared → Prop} (c : ExcC K D) (X : K.In s.heap) (I : PySem.W.InstAt s.heap x ox D od) (h : Q (some (.ref D)) { s with toks := s.toks + 1 }) :
    wpAny (model prog w) A (getAttr? (.ref x) "__class__") Q E s := by
  obtain ⟨hga, hgt, hsub, hdct, ha, hn, htk, hm⟩ := c
  have found : findObj K D od "__class__" = some (.bind (.builtin "getset_descriptor.__get__") (.builtin "object.__class__")) := by
    obtain ⟨cd, hc, _⟩ := any_some hdct
    unfold findObj
    rw [hc, Option.bind_some, ha, Option.bind_some]
    simp [hn, htk]
  obtain ⟨hp, g, dr, t, os⟩ := s
  have ty := I.type (M := model prog w)
  have at1 := looks_findIn (M := model prog w) X hga
  have at2 := looks_findIn (M := model prog w) X hgt
  have at3 := looks_find (M := model prog w) X I found
  have isB : Looks (model prog w) hp (isInstance (.ref x) (.type "BaseException")) true := ty.andThen (looks_subIn X hsub)
  have no : (Value.builtin "BaseException.__getattribute__" == Value.builtin "object.__getattribute__") = false := by decide +kernel
  unfold getAttr? getAttrBy? getAttrBy
  refine wpAny_bind (wpAny_mkText (wpAny_bind (wpAny_attempt (wpAny_holding (wpAny_bind (ty.at (wpAny_bind (at1.at ?_))))))))
  have no2 : (onTheHeap (Value.ref D) && Value.builtin "BaseException.__getattribute__" == Value.builtin "object.__getattribute__") = false := by rw [no]; rfl
  show wpAny _ _ (if (onTheHeap (Value.ref D) && Value.builtin "BaseException.__getattribute__" == Value.builtin "object.__getattribute__") = true then _ else _) _ _ _
  rw [no2, if_neg Bool.false_ne_true]
  unfold getAttrByItsOwn hookBefore
  refine wpAny_bind ?_
  rw [if_pos (show onTheHeap (Value.ref D) = true from rfl)]
  refine at2.at (wpAny_bind (wpAny_attempt (wpAny_holding ?_)))
  unfold callGetattribute
  rw [show (false && onTheHeap (Value.builtin "BaseException.__getattribute__")) = false from rfl, if_neg Bool.false_ne_true]
  unfold boundAndCalled
  rw [PySem.F.excAttr_ValueError.ga.bind (.ref x)]
  refine wpAny_bind (wpAny_pure ?_)
  show wpAny _ _ (call (.builtin "BaseException.__getattribute__") [.ref x, .str "__class__" t]) _ _ _
  refine wpAny_call (codeAny_call_builtin PySem.F.excAttr_ValueError.ga.plain PySem.F.entry_bexc_ga ?_)
  refine @check_slot (model prog w) _ _ ⟨hp, g, dr, t + 1, os⟩ "BaseException.__getattribute__" "BaseException" "__getattribute__" (.ref x) [.str "__class__" t] [] _ (by decide +kernel) (by decide +kernel) isB (PySem.F.args_bexc_ga (.ref x) (.str "__class__" t)) ?_
  unfold Builtin.«object.__getattribute__»
  refine wpAny_bind (wpAny_of_eq (a := ((Value.ref x : Value), [Value.str "__class__" t])) (by first | rfl | (simp only [slotArgs]; rfl)) (wpAny_bind (wpAny_pure (wpAny_bind (ty.at (wpAny_bind (at3.at ?_)))))))
  show wpAny _ _ (holding [Value.builtin "object.__class__"] (call (.builtin "getset_descriptor.__get__") [.builtin "object.__class__", .ref x, .ref D]) >>= ret) _ _ _
  refine wpAny_bind (wpAny_holding (wpAny_call (class_get (s := ⟨hp, g, dr, t + 1, os⟩) (ox := ox) (od := od) X I hm (wpAny_pure ?_))))
  show wpAny _ _ (handedOut (.ref D)) _ _ _
  rw [handedOut_of (v := .ref D) rfl]
  first
    | exact wpAny_pure (wpAny_pure h)
    | exact wpAny_pure h
    | exact wpAny_pure (wpAny_bind (wpAny_pure (wpAny_pure h)))
theorem kitx_err (c : ExcC K D) : KitX K (.ref x) (.ref D) (fun h => PySem.W.InstAt h x ox D od) where
  ty := fun _ _ _ I => I.type
  it := fun M h X _ => by
    obtain ⟨cd, e, _⟩ := any_some c.hd
    unfold clsIn at e
    split at e
    · rename_i q
      intro A' Q' E' s' k z
      unfold isType loadHead
      exact wpAny_bind (wpAny_loadPart (k _ _ (X _ _ q)) (wpAny_pure z))
    · cases e
  ne := fun h tp dd its n sl X htp => by
    obtain ⟨cd, e, _⟩ := any_some c.hd
    refine Bool.eq_false_iff.mpr fun z => ?_
    obtain rfl : D = tp := Value.ref.inj (beq_iff_eq.mp z)
    unfold clsIn at e
    split at e
    · rename_i q
      have y := (X _ _ q).symm.trans htp
      cases y
    · cases e
  ca := fun X I k => cls_of_err c X I k
end
/-- a kept error's dict, if it has one, is tracked -/
def XdOk (H : Hp) (d : Option Addr) : Prop := d = none ∨ ∃ dd fs, d = some dd ∧ H dd = some (.xd fs)
/-- isinstance(e, c) of a kept error -/
def rIsX (K : PySem.W.Frag) : List V → Hp → VK → Prop := fun xs H Q => ∃ (a D : Addr) (d : Option Addr) (c : V) (cv : Value) (b : Bool), xs = [.ref a, c] ∧ H a = some (ExK (.ref D) d a) ∧ XdOk H d ∧ ExcC K D ∧ ClsV c cv ∧ PySem.W.kitOne K (.ref D) cv = some b ∧ Q (.bl b) H
section
variable {X : Cx}
theorem inst_of_err {pins : List (Addr × Obj)} {s : Shared} {σ : L2.St} {H : Hp} {a D : Addr} {d : Option Addr} (I : Inv X pins σ H s) (ha : H a = some (ExK (.ref D) d a)) (hd : XdOk H d) : ∃ oe od, PySem.W.InstAt s.heap a oe D od := by
  obtain ⟨⟨oe, e, z, vs, hv⟩, _, _⟩ := I.hok a _ ha
  obtain ⟨oc, odi, oda, osl⟩ := oe
  obtain ⟨h1, h2⟩ := z
  dsimp only at h1 h2 hv
  subst h1 h2 hv
  rcases hd with rfl | ⟨dd, fs, rfl, hx⟩
  · exact ⟨_, none, e, rfl, rfl, trivial⟩
  · obtain ⟨mA, hns, _⟩ := (show ObjOk X.prog X.w H s.heap dd (.xd fs) from I.hok dd _ hx)
    obtain ⟨od, ho, _⟩ := lookIn_ns hns
    exact ⟨_, some od, e, rfl, rfl, ho⟩
theorem call_isX : CallR X (.builtin "isinstance") (rIsX X.K) := by
  intro pins s σ H xs us Q I r h
  obtain ⟨a, D, d, c, cv, b, rfl, ha, hd, hc, hcv, e, q⟩ := h
  obtain ⟨u1, u2, rfl, r1, r2⟩ := vals2 r
  obtain rfl : u1 = Value.ref a := r1
  have e2 := hcv.eq r2
  subst e2
  obtain ⟨oe, od, J⟩ := inst_of_err I ha hd
  exact PySem.W.kia_one (kitx_err hc) I.kIn J e (fun z => nomatch z) fun tk => ⟨.bl b, H, I.tok tk, rfl, q⟩
/-- isinstance of any value: plain, or a kept error -/
def rIsA (K : PySem.W.Frag) : List V → Hp → VK → Prop := fun xs H Q => rIsi K xs H Q ∨ rIsX K xs H Q
theorem call_isA : CallR X (.builtin "isinstance") (rIsA X.K) := by
  intro pins s σ H xs us Q I r h
  rcases h with h | h
  · exact call_isi pins s σ H xs us Q I r h
  · exact call_isX pins s σ H xs us Q I r h
/-- e.f of a kept error -/
def tXfK (K : PySem.W.Frag) (f : Str) (te : TE) : TE := fun σ H Q => te σ H fun x H1 => ∃ (a D dd : Addr) (fs : List (Str × V)) (v : V), x = .ref a ∧ H1 a = some (ExK (.ref D) (some dd) a) ∧ H1 dd = some (.xd fs) ∧ XfC K D ∧ PySem.W.findIn K (.ref D) f = some none ∧
  fs.lookup f = some v ∧ Q v H1
theorem pe_xfk {e : Expr} {te : TE} {pos : Pos} {n : Str} (he : PE X e te) (hb : attributeBase e n X.env (eval e X.env) = eval e X.env := by rfl) : PE X (.Attribute e n pos) (tXfK X.K n te) := by
  refine ⟨fun pins s σ H Q I h => attr_of hb (thn (he.run pins s σ H _ I h) fun u s1 hh => ?_)⟩
  obtain ⟨x, H1, I1, rx, a, D, dd, fs, v, rfl, ha, hx, T, hno, l, q⟩ := hh
  obtain rfl : u = Value.ref a := rx
  obtain ⟨⟨oe, e0, z, vs, hv⟩, _, _⟩ := I1.hok a _ ha
  obtain ⟨mA, hns, hr⟩ := (show ObjOk X.prog X.w H1 s1.heap dd (.xd fs) from I1.hok dd _ hx)
  obtain ⟨od, ho, hl⟩ := lookIn_ns hns
  obtain ⟨u, hu, ru⟩ := RelO.some_of (v := v) (o := mA n) (by rw [← l]; exact hr n)
  have J : PySem.W.InstAt s1.heap a oe D (some od) := ⟨e0, z.1, by unfold PySem.W.notCls; rw [hv] <;> rfl, by rw [z.2]; exact ho⟩
  exact HandSPX.exc_get I1.kIn J T.ga T.gg T.exC (PySem.W.findObj_own T.hdC hno rfl (by rw [hl, hu])) (handed_of ru) ⟨v, H1, I1.tok _, ru, q⟩
end
def tTryKeep (K : PySem.W.Frag) (c : Value) (i : Nat) (tb : WX → TS) (ts : Addr → Value → Option Addr → TS) (Wout : WX) : TS := fun D σ H => tb (wKeep K c i ts Wout D) D σ H
end Kr
/-! comprehensions whose items are functions of what is walked; join; loops over texts -/
namespace Kr
open PySem PySem.Spec PyProof.Rows L2 Evl
section
variable {K : PySem.W.Frag} {σ : L2.St} {H : Hp} {tl te tb : TE} {t : TT}
theorem given_all (n : Nat) (v : Nat → V) : given n (fun _ => true) v = (List.range n).map v := by
  unfold given
  rw [List.filter_eq_self.mpr (fun _ _ => rfl)]
/-- [te for j in range(n)] -/
theorem el_mapR {ta : TA} {j : Nat} {vs : List Nat} {n : Int} (v : Nat → V) (h : EvA ta σ H [.int n]) (hn : 0 ≤ n ∧ n ≤ 40000) (hw : ∀ x, wipe ((wipe σ vs).set j (some x)) vs = wipe σ vs)
    (he : ∀ (i : Nat) H1, Ex H H1 → (i : Int) < n → Ev te ((wipe σ vs).set j (some (.int (i : Int)))) H1 (v i)) : EvL (tLc (iRng1 ta) (gName j) tYes te vs) σ H ((List.range n.toNat).map v) := by
  rw [← given_all]
  exact el_lcR1 (fun _ => true) v h hn hw (fun i H1 _ _ => fun H2 e2 Q q => q H2 (Ex.refl H2)) fun i H1 e hi _ => he i H1 e hi
/-- [te for j in xs] -/
theorem el_mapL {a : Addr} {xs : List V} {j : Nat} {vs : List Nat} (g : V → V) (h : Ev tl σ H (.ref a)) (hx : SqL K H a xs) (hz : xs.length ≤ 40000) (hw : ∀ x, wipe ((wipe σ vs).set j (some x)) vs = wipe σ vs)
    (he : ∀ x ∈ xs, ∀ H1, Ex H H1 → Ev te ((wipe σ vs).set j (some x)) H1 (g x)) : EvL (tLc (iList K tl) (gName j) tYes te vs) σ H (xs.map g) := by
  have key : given xs.length (fun _ => true) (fun i => g (xs.getD i .non)) = xs.map g := by
    rw [given_all]
    apply List.ext_getElem?
    intro i
    rw [List.getElem?_map, List.getElem?_map]
    by_cases hi : i < xs.length
    · rw [List.getElem?_range hi, List.getElem?_eq_getElem hi]
      simp [List.getD, List.getElem?_eq_getElem hi]
    · rw [List.getElem?_eq_none (by simpa using hi), List.getElem?_eq_none (by simpa using hi)]
      rfl
  rw [← key]
  refine el_lcL (fun _ => true) _ h hx hz hw (fun i x H1 _ _ => fun H2 e2 Q q => q H2 (Ex.refl H2)) fun i x H1 e hi _ => ?_
  have e2 : xs.getD i .non = x := by simp [List.getD, hi]
  rw [e2]
  exact he x (List.mem_of_getElem? hi) H1 e
theorem tYes_step {σ : L2.St} {H : Hp} {A B : Hp → Prop} (h : A H) : tYes σ H fun b H3 => if b = true then A H3 else B H3 := by
  show (if true = true then A H else B H)
  rw [if_pos rfl]
  exact h
/-- [te for j in a text] -/
theorem el_mapS {l : List Nat} {j : Nat} {vs : List Nat} (g : Nat → V) (h : Ev tl σ H (.str (T l))) (hz : l.length ≤ 1000000) (hw : ∀ x, wipe ((wipe σ vs).set j (some x)) vs = wipe σ vs)
    (he : ∀ c ∈ l, ∀ H1, Ex H H1 → Ev te ((wipe σ vs).set j (some (.str (T [c])))) H1 (g c)) : EvL (tLc (iStr tl) (gName j) tYes te vs) σ H (l.map g) := fun H0 e Q q => h H0 e _ fun H1 e1 => ⟨T l, rfl, fun Dl hD => by
  have hsz : (T l).cps.size = l.length := by simp [T]
  refine ⟨fun i m H' => m = l.length - i ∧ i ≤ l.length ∧ Ex H1 H' ∧ H' Dl = some (.lst ((l.take i).map g)), ⟨l.length, by simp, Nat.zero_le _, Ex.new hD, upd_same⟩, ?_⟩
  rintro i m H' ⟨rfl, hi, eH, hDl⟩
  by_cases hlt : i < l.length
  · refine .inr ⟨by show i < (T l).cps.size; rw [hsz]; exact hlt, fun H2 => Ex H1 H2 ∧ H2 Dl = some (.lst ((l.take (i + 1)).map g)), fun H2 p => ⟨l.length - (i + 1), by omega, rfl, hlt, p.1, p.2⟩, fun x H2 y => ?_⟩
    obtain ⟨rfl, c, hc, rfl⟩ := y
    have hc2 : l[i]? = some c := by
      have : (T l).cps[i]? = l[i]? := by simp [T]
      rw [← this]; exact hc
    refine ⟨hw _, ?_⟩
    refine tYes_step ?_
    refine he c (List.mem_of_getElem? hc2) H2 ((e.trans e1).trans eH) H2 (Ex.refl H2) _ fun H3 e3 => ⟨(l.take i).map g, e3 _ _ hDl, ?_, Ex.mut (eH.trans e3) hD, ?_⟩
    · rw [List.length_map, List.length_take, sizeLine_eq]
      omega
    · rw [upd_same, List.take_add_one, hc2]
      simp
  · have : i = l.length := by omega
    subst this
    rw [List.take_length] at hDl
    exact .inl ⟨by show (T l).cps.size ≤ l.length; rw [hsz]; exact Nat.le_refl _, q Dl H' (fresh_back e1 hD) (e1.trans eH) hDl⟩⟩
theorem join_T : ∀ ps : List (List Nat), Txt.join (T []) (ps.map T) = T ps.flatten := by
  intro ps
  rw [TL.join_eq]
  refine TL.ext_tl ?_
  have hj := TL.tl_join (T []) (ps.map T)
  rw [hj]
  have : (ps.map T).map TL.tl = ps := by
    rw [List.map_map]
    exact List.map_id' ps
  rw [this]
  show TL.joinL [] ps = ps.flatten
  clear hj this
  induction ps with
  | nil => rfl
  | cons p ps ih => cases ps with
    | nil => simp [TL.joinL]
    | cons r ps =>
      show p ++ ([] ++ TL.joinL [] (r :: ps)) = _
      rw [ih]
      simp
/-- "".join(..) of a new list of texts -/
theorem ev_join {ps : List (List Nat)} (h : EvL tl σ H (ps.map fun p => V.str (T p))) (hz : ps.flatten.length ≤ 16000000) (hn : ps.length ≤ 1000000) :
    Ev (tBM K "str" (rJoin K) (tC (.str (T []))) (tCons tl tNil)) σ H (.str (T ps.flatten)) := fun H1 e Q q => ⟨rfl, h H1 e _ fun p H2 _ e2 hp => ⟨T [], p, ps.map T, rfl, rfl, .inl (by
    rw [List.map_map]
    exact sq_of hp), by
    have e1 : ((ps.map T).map (·.length)).sum = ps.flatten.length := by
      rw [List.map_map, List.length_flatten]
      congr 1
    have e2 : (T []).length = 0 := rfl
    rw [e1, e2]
    omega, by
    rw [join_T]
    exact q H2 e2⟩⟩
theorem R_flat (b : List Bool) : (b.map fun x => [bc x]).flatten = R b := by
  induction b with
  | nil => rfl
  | cons x b ih => simp [R, ih]
end
theorem ones_R (n : Nat) : (List.replicate n [49]).flatten = R (List.replicate n true) := by
  induction n with
  | zero => rfl
  | succ n ih => rw [List.replicate_succ, List.flatten_cons, ih, List.replicate_succ]; rfl
theorem ev_ones {σ : L2.St} {H : Hp} {te : TE} {n : Int} (h : Ev te σ H (.int n)) (h0 : 0 ≤ n) (h1 : n ≤ 1000) : Ev (tOp rMulT (tC (.str (T [49]))) te) σ H (.str (T (R (List.replicate n.toNat true)))) :=
  ev_is (ev_mulT ev_c h (by omega) (by omega) (by simp; omega)) (by rw [ones_R])
/-- a statement whose ways meet again -/
theorem q_cond {tu tz : TS} {D : Ends} {σ : L2.St} {H : Hp} (P : L2.St → Hp → Prop) (h : ∀ M : L2.St → Hp → Prop, (∀ σ' H', P σ' H' → M σ' H') → tu { D with nx := M } σ H) (k : ∀ σ' H', P σ' H' → tz D σ' H') : tSeq tu tz D σ H :=
  h _ k
end Kr
/-! lists of plain values compared; kept errors asked for their classes; tries -/
namespace Kr
open PySem PySem.Spec PyProof.Rows L2 Evl
/-! ### plain values as data -/
def toD : V → PyData
  | .bl b => .bool b
  | .int i => .int i
  | .str s => .str s
  | _ => .none
def plainV : V → Bool
  | .non => true
  | .bl _ => true
  | .int _ => true
  | .str s => s.cps.all (· < 0x110000)
  | _ => false
theorem dp_plain {K : PySem.W.Frag} {H : Hp} {x : V} (h : plainV x = true) : Dp K H x (toD x) := by
  cases x with
  | non => exact .non
  | bl b => exact .bl b
  | int i => exact .int i
  | str s => exact .str s
  | _ => cases h
theorem dpAll_plain {K : PySem.W.Frag} {H : Hp} : ∀ {xs : List V}, xs.all plainV = true → DpAll K H xs (xs.map toD)
  | [], _ => .nil
  | x :: xs, h => by
    rw [List.all_cons, Bool.and_eq_true] at h
    exact .cons (dp_plain h.1) (dpAll_plain h.2)
theorem lay_plain {x : V} (h : plainV x = true) : (toD x).canLay0 = true := by
  cases x with
  | str s => exact h
  | non => rfl
  | bl b => rfl
  | int i => rfl
  | _ => cases h
theorem layAll_plain : ∀ {xs : List V}, xs.all plainV = true → PyData.canLayAll0 (xs.map toD) = true
  | [], _ => by simp [PyData.canLayAll0]
  | x :: xs, h => by
    rw [List.all_cons, Bool.and_eq_true] at h
    rw [List.map_cons, PyData.canLayAll0, lay_plain h.1, layAll_plain h.2]
    rfl
theorem depth_plain {x : V} : (toD x).depth = 0 := by cases x <;> simp [toD, PyData.depth]
theorem depthAll_plain : ∀ {xs : List V}, PyData.depthAll (xs.map toD) = 0
  | [] => by simp [PyData.depthAll]
  | x :: xs => by
    rw [List.map_cons, PyData.depthAll, depth_plain, depthAll_plain]
    rfl
theorem shaped_plain {x : V} (h : plainV x = true) : SeqAt.shaped (toD x) = true := by
  unfold SeqAt.shaped
  rw [lay_plain h, depth_plain]
  rfl
theorem shaped_list {xs : List V} (h : xs.all plainV = true) : SeqAt.shaped (.list (xs.map toD)) = true := by
  unfold SeqAt.shaped
  rw [show (PyData.list (xs.map toD)).canLay0 = true by rw [PyData.canLay0]; exact layAll_plain h]
  rw [show (PyData.list (xs.map toD)).depth = 1 by rw [PyData.depth, depthAll_plain]]
  rfl
theorem shaped_tup {xs : List V} (h : xs.all plainV = true) : SeqAt.shaped (.tuple (xs.map toD)) = true := by
  unfold SeqAt.shaped
  rw [show (PyData.tuple (xs.map toD)).canLay0 = true by rw [PyData.canLay0]; exact layAll_plain h]
  rw [show (PyData.tuple (xs.map toD)).depth = 1 by rw [PyData.depth, depthAll_plain]]
  rfl
theorem eqv_same {d : PyData} (h : SeqAt.shaped d = true) : PyData.eqv d d = true := PySem.SeqAt.eqv_refl d (SeqAt.canLay_of_shaped h)
section
variable {K : PySem.W.Frag} {σ : L2.St} {H : Hp} {ta tb te : TE} {x : V}
theorem rv_eqD {y : V} {d e : PyData} (h : Dp K H x d) (h2 : Dp K H y e) (hd : SeqAt.shaped d = true) (he : SeqAt.shaped e = true) (hm : ∀ H1, Ex H H1 → Dp K H1 x d) (hm2 : ∀ H1, Ex H H1 → Dp K H1 y e) : RV (rEqD K) x y H (.bl (PyData.eqv d e)) := fun H1 e1 Q q =>
  ⟨d, e, hm H1 e1, hm2 H1 e1, hd, he, q H1 (Ex.refl H1)⟩
mutual
theorem dp_mono {H1 : Hp} (e : Ex H H1) : ∀ {v : V} {d : PyData}, Dp K H v d → Dp K H1 v d
  | _, _, .non => .non
  | _, _, .bl b => .bl b
  | _, _, .int i => .int i
  | _, _, .str s => .str s
  | _, _, .lst h a => .lst (ex_l e h) (dpAll_mono e a)
  | _, _, .tup h a => .tup (ex_t e h) (dpAll_mono e a)
theorem dpAll_mono {H1 : Hp} (e : Ex H H1) : ∀ {vs : List V} {ds : List PyData}, DpAll K H vs ds → DpAll K H1 vs ds
  | _, _, .nil => .nil
  | _, _, .cons h a => .cons (dp_mono e h) (dpAll_mono e a)
end
/-- xs == ys, xs != ys of two new lists of like plain values -/
theorem ev_eqNL {xs : List V} (ha : EvL ta σ H xs) (hb : ∀ H1, Ex H H1 → EvL tb σ H1 xs) (h : xs.all plainV = true) : Ev (tOp (rEqD K) ta tb) σ H (.bl true) := fun H1 e Q q =>
  ha H1 e _ fun p H2 _ e2 hp => hb H2 (e.trans e2) H2 (Ex.refl H2) _ fun r H3 _ e3 hr => ⟨.list (xs.map toD), .list (xs.map toD), .lst (sq_of (e3 _ _ hp)) (dpAll_plain h), .lst (sq_of hr) (dpAll_plain h), shaped_list h, shaped_list h, by
    rw [eqv_same (shaped_list h)]
    exact q H3 (e2.trans e3)⟩
theorem ev_neNL {xs : List V} (ha : EvL ta σ H xs) (hb : ∀ H1, Ex H H1 → EvL tb σ H1 xs) (h : xs.all plainV = true) : Ev (tOp (rNeD K) ta tb) σ H (.bl false) := fun H1 e Q q =>
  ha H1 e _ fun p H2 _ e2 hp => hb H2 (e.trans e2) H2 (Ex.refl H2) _ fun r H3 _ e3 hr => ⟨.list (xs.map toD), .list (xs.map toD), .lst (sq_of (e3 _ _ hp)) (dpAll_plain h), .lst (sq_of hr) (dpAll_plain h), shaped_list h, shaped_list h, by
    rw [eqv_same (shaped_list h)]
    exact q H3 (e2.trans e3)⟩
/-- a + b of lists: the first one a name's | new -/
theorem el_cat {p : Addr} {xs ys : List V} (ha : Ev ta σ H (.ref p)) (hp : H p = some (.lst xs)) (hb : EvL tb σ H ys) (hz : xs.length + ys.length ≤ 100000) : EvL (tOp rCat ta tb) σ H (xs ++ ys) := fun H1 e Q q =>
  ha H1 e _ fun H2 e2 => hb H2 (e.trans e2) _ fun r H3 hr e3 h3 => ⟨p, r, xs, ys, rfl, rfl, ((e.trans e2).trans e3) _ _ hp, h3, sz_of hz, fun l hl => q l _ (fresh_back (e2.trans e3) hl) ((e2.trans e3).trans (Ex.new hl)) upd_same⟩
theorem el_catN {xs ys : List V} (ha : EvL ta σ H xs) (hb : ∀ H1, Ex H H1 → EvL tb σ H1 ys) (hz : xs.length + ys.length ≤ 100000) : EvL (tOp rCat ta tb) σ H (xs ++ ys) := fun H1 e Q q =>
  ha H1 e _ fun p H2 _ e2 hp => hb H2 (e.trans e2) H2 (Ex.refl H2) _ fun r H3 _ e3 h3 => ⟨p, r, xs, ys, rfl, rfl, e3 _ _ hp, h3, sz_of hz, fun l hl => q l _ (fresh_back (e2.trans e3) hl) ((e2.trans e3).trans (Ex.new hl)) upd_same⟩
/-- a list * n, the list new -/
theorem el_repN {xs : List V} {n : Int} (ha : EvL ta σ H xs) (hb : ∀ H1, Ex H H1 → Ev tb σ H1 (.int n)) (h0 : -100000 ≤ n) (h1 : n ≤ 100000) (hz : xs.length * n.toNat ≤ 100000) : EvL (tOp rRep ta tb) σ H (List.replicate n.toNat xs).flatten := fun H1 e Q q =>
  ha H1 e _ fun p H2 _ e2 hp => hb H2 (e.trans e2) H2 (Ex.refl H2) _ fun H3 e3 => ⟨p, n, xs, rfl, rfl, e3 _ _ hp, by omega, by omega, sz_of hz, fun l hl => q l _ (fresh_back (e2.trans e3) hl) ((e2.trans e3).trans (Ex.new hl)) upd_same⟩
/-! ### kept errors -/
theorem xd_mono {H1 : Hp} {d : Option Addr} (e : Ex H H1) (h : XdOk H d) : XdOk H1 d := by
  rcases h with rfl | ⟨dd, fs, rfl, h⟩
  · exact .inl rfl
  · exact .inr ⟨dd, fs, rfl, e _ _ h⟩
/-- x is a kept error of the class named n -/
def IsErr (K : PySem.W.Frag) (H : Hp) (x : V) (n : Str) : Prop := ∃ a d, x = .ref a ∧ H a = some (ExK (.ref (He.ga K n)) d a) ∧ XdOk H d
theorem IsErr.mono {H1 : Hp} {n : Str} (e : Ex H H1) (h : IsErr K H x n) : IsErr K H1 x n := by
  obtain ⟨a, d, r, h1, h2⟩ := h
  exact ⟨a, d, r, e _ _ h1, xd_mono e h2⟩
theorem ev_isE {c : V} {cv : Value} {n : Str} {b : Bool} (h : Ev ta σ H x) (hx : IsErr K H x n) (hc : ExcC K (He.ga K n)) (hcv : ClsV c cv) (hb : PySem.W.kitOne K (.ref (He.ga K n)) cv = some b) :
    Ev (tCB (rIsA K) (tCons ta (tCons (tC c) tNil))) σ H (.bl b) := fun H1 e Q q => h H1 e _ fun H2 e2 => by
  obtain ⟨a, d, rfl, h1, h2⟩ := hx.mono (e.trans e2)
  exact .inr ⟨a, He.ga K n, d, c, cv, b, rfl, h1, h2, hc, hcv, hb, q H2 e2⟩
/-- .. of a plain value -/
theorem ev_isP {n m : String} {b : Bool} (h : Ev ta σ H x) (hn : tyS x = some n) (hb : kitB n m = some b) : Ev (tCB (rIsA K) (tCons ta (tCons (tC (.ty m)) tNil))) σ H (.bl b) := fun H1 e Q q =>
  h H1 e _ fun H2 e2 => .inl ⟨x, .ty m, .type n, .type m, b, rfl, .ty m, tyS_ok hn H2, kit_ty hb, q H2 e2⟩
theorem ev_callS {sp : Sp} {vs : List V} {E : L2.St → XK} {ta : TA} {z : V} (h : EvA ta σ H vs) (hs : SpV sp vs H z) : Ev (tCallS sp E ta) σ H z := fun H1 e Q q =>
  h H1 e _ fun H2 e2 => hs H2 (e.trans e2) Q (fun H3 e3 => q H3 (e2.trans e3)) (E σ)
theorem s_dropX {sp : Sp} {vs : List V} {E : L2.St → XK} {ta : TA} {D : Ends} (h : EvA ta σ H vs) (k : ∀ H1, Ex H H1 → sp vs H1 (fun _ H2 => D.nx σ H2) (E σ)) : tDrop (tCallS sp E ta) D σ H := h H (Ex.refl H) _ k
end
/-! ### tries -/
section
variable {K : PySem.W.Frag} {σ : L2.St} {H : Hp} {D : Ends} {tz : TS} {c : Value} {i : Nat} {tb : WX → TS} {ts : Addr → Value → Option Addr → TS} {Wout : WX}
theorem q_try (h : tb (wKeep K c i ts Wout { D with nx := tz D }) { D with nx := tz D } σ H) : tSeq (tTryKeep K c i tb ts Wout) tz D σ H := h
/-- an error comes to a clause that names it, its suite keeps it in slot j -/
theorem keep_err {j : Nat} {cls : Value} {d : Option Addr} (he : PySem.W.exmOne K cls c = some true) (hi : i < σ.length) (h : ∀ a, H a = none → D.nx ((((σ.set i (some (.ref a))).set j (some (.ref a)))).set i none) (upd H a (ExK cls d a))) :
    wKeep K c i (fun _ _ _ => tAsg (tVar i) (gName j)) Wout D cls d σ H :=
  ⟨true, he, fun _ a ha => ⟨.ref a, by rw [List.getElem?_set_self hi], h a ha⟩, fun z => nomatch z⟩
end
theorem RetV.mono {v : V} {H H1 : Hp} {Q : VK} (q : RetV v H Q) (e : Ex H H1) : RetV v H1 Q := fun H2 e2 => q H2 (e.trans e2)
theorem RetL.mono {xs : List V} {H H1 : Hp} {Q : VK} (q : RetL xs H Q) (e : Ex H H1) : RetL xs H1 Q := fun p H2 hp e2 h => q p H2 (fresh_back e hp) (e.trans e2) h
end Kr
/-! what two rows begin with in common; new lists as arguments; answers of which a word is told -/
namespace Kr
open PySem PySem.Spec PyProof.Rows L2 Evl
/-- how many signs two rows begin with in common -/
def com : List Bool → List Bool → Nat
  | x :: a, y :: b => if x = y then com a b + 1 else 0
  | _, _ => 0
theorem com_nil (a : List Bool) : com a [] = 0 := by cases a <;> rfl
theorem com_le : ∀ (a b : List Bool), com a b ≤ a.length
  | [], _ => Nat.zero_le _
  | x :: a, [] => Nat.zero_le _
  | x :: a, y :: b => by
    have := com_le a b
    unfold com
    split
    · exact Nat.succ_le_succ this
    · exact Nat.zero_le _
theorem com_symm : ∀ (a b : List Bool), com a b = com b a
  | [], [] => rfl
  | [], _ :: _ => rfl
  | _ :: _, [] => rfl
  | x :: a, y :: b => by
    unfold com
    rw [com_symm a b]
    by_cases h : x = y
    · subst h; rfl
    · rw [if_neg h, if_neg (fun z => h z.symm)]
theorem com_le2 (a b : List Bool) : com a b ≤ b.length := by rw [com_symm]; exact com_le b a
theorem com_end {a b : List Bool} {i : Nat} (h : ¬ (i < a.length ∧ i < b.length)) : com (a.drop i) (b.drop i) = 0 := by
  by_cases h1 : i < a.length
  · rw [List.drop_eq_nil_of_le (as := b) (i := i) (by omega), com_nil]
  · rw [List.drop_eq_nil_of_le (as := a) (i := i) (by omega)]
    cases b.drop i <;> rfl
theorem com_at {a b : List Bool} {i : Nat} (h1 : i < a.length) (h2 : i < b.length) : com (a.drop i) (b.drop i) = if a[i] = b[i] then com (a.drop (i + 1)) (b.drop (i + 1)) + 1 else 0 := by
  rw [List.drop_eq_getElem_cons h1, List.drop_eq_getElem_cons h2]
  rfl
theorem com_take : ∀ (a b : List Bool), a.take (com a b) = b.take (com a b)
  | [], b => by cases b <;> rfl
  | x :: a, [] => rfl
  | x :: a, y :: b => by
    unfold com
    split
    · rename_i h
      subst h
      rw [List.take_succ_cons, List.take_succ_cons, com_take a b]
    · rfl
theorem R_at {b : List Bool} {i : Nat} (h : i < b.length) : atI (R b) (i : Int) = some (bc b[i]) := by
  refine atI_nat ?_
  rw [R, List.getElem?_map, List.getElem?_eq_getElem h]
  rfl
theorem R_eq {a b : List Bool} : R a = R b ↔ a = b := ⟨R_inj, fun h => by rw [h]⟩
theorem cutL_mid {l : List Nat} {i j : Nat} : cutL l (some (i : Int)) (some (j : Int)) = (l.drop i).take (j - i) := by
  unfold cutL
  rw [HT.sIx_nat, HT.sIx_nat]
  by_cases h : i ≤ l.length
  · rw [Nat.min_eq_left h]
    by_cases h2 : j ≤ l.length
    · rw [Nat.min_eq_left h2]
    · rw [Nat.min_eq_right (by omega), List.take_of_length_le (l := l.drop i) (i := l.length - i) (by simp), List.take_of_length_le (by simp; omega)]
  · rw [Nat.min_eq_right (a := i) (by omega), List.drop_eq_nil_of_le (Nat.le_refl _), List.drop_eq_nil_of_le (by omega)]
    simp
theorem R_mid {b : List Bool} {i j : Nat} : cutL (R b) (some (i : Int)) (some (j : Int)) = R ((b.drop i).take (j - i)) := by rw [cutL_mid, R_drop, R_take]
/-- one sign cut out of each -/
theorem cut1_eq {a b : List Bool} {i : Nat} (h : i < a.length) : ((a.drop i).take 1 = (b.drop i).take 1) ↔ ∃ h2 : i < b.length, a[i] = b[i] := by
  have ha : (a.drop i).take 1 = [a[i]] := by rw [List.drop_eq_getElem_cons h]; rfl
  rw [ha]
  by_cases h2 : i < b.length
  · have hb : (b.drop i).take 1 = [b[i]] := by rw [List.drop_eq_getElem_cons h2]; rfl
    rw [hb]
    simp [h2]
  · rw [List.drop_eq_nil_of_le (as := b) (i := i) (by omega)]
    simp [h2]
section
variable {K : PySem.W.Frag} {σ : L2.St} {H : Hp} {ta tb te : TE} {D : Ends} {tz : TS} {x z : V}
/-- a call one of whose arguments is a new list -/
theorem ev_callL1 {sp : Sp} {E : XK} {xs : List V} (h : EvL ta σ H xs) (hb : ∀ H1, Ex H H1 → Ev tb σ H1 x) (hs : ∀ p H1, Ex H H1 → H1 p = some (.lst xs) → SpV sp [.ref p, x] H1 z) : Ev (tCall sp [] E (tCons ta (tCons tb tNil))) σ H z := fun H1 e Q q =>
  h H1 e _ fun p H2 _ e2 hp => hb H2 (e.trans e2) H2 (Ex.refl H2) _ fun H3 e3 => hs p H3 ((e.trans e2).trans e3) (e3 _ _ hp) H3 (Ex.refl H3) Q (fun H4 e4 => q H4 ((e2.trans e3).trans e4)) E
/-- a new list of which a word holds -/
def EvM (te : TE) (σ : L2.St) (H : Hp) (P : List V → Prop) : Prop := ∀ H1, Ex H H1 → ∀ Q : VK, (∀ xs p H2, P xs → H1 p = none → Ex H1 H2 → H2 p = some (.lst xs) → Q (.ref p) H2) → te σ H1 Q
/-- a value of which a word holds -/
def EvW (te : TE) (σ : L2.St) (H : Hp) (P : V → Prop) : Prop := ∀ H1, Ex H H1 → ∀ Q : VK, (∀ v H2, P v → Ex H1 H2 → Q v H2) → te σ H1 Q
theorem q_asgW {i : Nat} {P : V → Prop} (h : EvW te σ H P) (k : ∀ v H1, P v → Ex H H1 → tz D (σ.set i (some v)) H1) : tSeq (tAsg te (gName i)) tz D σ H := h H (Ex.refl H) _ k
theorem q_asgM {i : Nat} {P : List V → Prop} (h : EvM te σ H P) (k : ∀ xs p H1, P xs → H p = none → Ex H H1 → H1 p = some (.lst xs) → tz D (σ.set i (some (.ref p))) H1) : tSeq (tAsg te (gName i)) tz D σ H := h H (Ex.refl H) _ k
/-- a, b = a new list of two -/
theorem q_two {i j : Nat} {P : V → V → Prop} (h : EvM te σ H (fun xs => ∃ x y, xs = [x, y] ∧ P x y)) (k : ∀ x y H1, P x y → Ex H H1 → tz D ((σ.set i (some x)).set j (some y)) H1) : tSeq (tAsg te (gLst K 2 (gCons (gName i) (gCons (gName j) gNil)))) tz D σ H :=
  h H (Ex.refl H) _ fun xs p H1 ⟨x, y, e, hP⟩ _ e1 h1 => ⟨p, xs, rfl, sq_of h1, by rw [e]; rfl, by
    subst e
    exact ⟨x, [y], rfl, y, [], rfl, rfl, k x y H1 hP e1⟩⟩
/-- a call that may raise, its answer in a name -/
theorem s_asgX {sp : Sp} {vs : List V} {E : L2.St → XK} {ta : TA} {i : Nat} (h : EvA ta σ H vs) (k : ∀ H1, Ex H H1 → sp vs H1 (fun v H2 => D.nx (σ.set i (some v)) H2) (E σ)) : tAsg (tCallS sp E ta) (gName i) D σ H := h H (Ex.refl H) _ k
end
end Kr
/-! min and max of two texts; > and strip of texts; the order of rows -/
namespace PySem.Krt
open PySem Sem
/-- < of two values that are texts -/
def ltS : Value → Value → Bool
  | .str x _, .str y _ => decide (x.cps.toList < y.cps.toList)
  | _, _ => false
def isS : Value → Prop | .str _ _ => True | _ => False
theorem cmpOf_ltS {prog : Program} {w : World} {A : Around} (vs : Array Value) (hn : ∀ v ∈ vs, isS v) :
    CmpOf prog w A .Lt (fun i v => vs[i]? = some v) (fun i j => ltS (vs.getD i .none) (vs.getD j .none)) := fun i j vi vj s Q E hi hj h => by
  have e1 : vs.getD i .none = vi := by simp [Array.getD_eq_getD_getElem?, hi]
  have e2 : vs.getD j .none = vj := by simp [Array.getD_eq_getD_getElem?, hj]
  simp only [e1, e2] at h
  have n1 := hn _ (Array.mem_of_getElem? hi)
  have n2 := hn _ (Array.mem_of_getElem? hj)
  cases vi with
  | str x t => cases vj with
    | str y u => exact richCompare_gives (op := .Lt) (typeIs_str s _ t) (typeIs_str s _ u) F.slot_str_lt F.entry_str_lt (F.args_str_lt_2 _ _) (gives_str_lt _ _ t u) (fun x => nomatch x) h
    | _ => exact n2.elim
  | _ => exact n1.elim
theorem cmpOf_gtS {prog : Program} {w : World} {A : Around} (vs : Array Value) (hn : ∀ v ∈ vs, isS v) :
    CmpOf prog w A .Gt (fun i v => vs[i]? = some v) (fun i j => ltS (vs.getD j .none) (vs.getD i .none)) := fun i j vi vj s Q E hi hj h => by
  have e1 : vs.getD i .none = vi := by simp [Array.getD_eq_getD_getElem?, hi]
  have e2 : vs.getD j .none = vj := by simp [Array.getD_eq_getD_getElem?, hj]
  simp only [e1, e2] at h
  have n1 := hn _ (Array.mem_of_getElem? hi)
  have n2 := hn _ (Array.mem_of_getElem? hj)
  cases vi with
  | str x t => cases vj with
    | str y u => exact richCompare_gives (op := .Gt) (typeIs_str s _ t) (typeIs_str s _ u) F.slot_str_gt F.entry_str_gt (F.args_str_gt_2 _ _) (gives_str_gt _ _ t u) (fun x => nomatch x) h
    | _ => exact n2.elim
  | _ => exact n1.elim
theorem two_old {s : Shared} {a b : Value} {h' : Heap} (hk : ∀ c o, c ∉ [(s.heap.push { cls := .type "tuple", data := .seq #[a, b] }).objs.size] → ((s.heap.push { cls := .type "tuple", data := .seq #[a, b] }).push { cls := .type "tuple_iterator", data := .fields #[.ref s.heap.objs.size, .int 0 0] }).get? c = some o → h'.get? c = some o) :
    ∀ c o, s.heap.get? c = some o → h'.get? c = some o := fun c o e => by
  refine hk c o (fun hm => ?_) (Heap.get?_push_of_some _ (Heap.get?_push_of_some _ e))
  rcases List.mem_cons.mp hm with e1 | hm
  · have := Heap.lt_size e
    rw [e1, Heap.size_push] at this
    exact Nat.lt_irrefl _ (Nat.lt_of_succ_lt this)
  · cases hm
section
variable {prog : Program} {w : World} {A : Around} {E : Value → Shared → Prop} {s : Shared} {Q : Value → Shared → Prop} {a b : Value}
theorem min_two_txt (hh : A.handled = none) (ha : isS a) (hb : isS b)
    (h : ∀ h' tk, (∀ c o, s.heap.get? c = some o → h'.get? c = some o) → Q (if ltS b a then b else a) { s with heap := h', toks := tk }) :
    wpAny (model prog w) A (call (.builtin "min") [a, b]) Q E s := by
  have hT : (s.heap.push { cls := .type "tuple", data := .seq #[a, b] }).IsTuple s.heap.objs.size #[a, b] := ⟨_, Heap.get?_push_size _ rfl, rfl, 0, rfl⟩
  have hsz : (s.heap.push { cls := .type "tuple", data := .seq #[a, b] }).objs.size = s.heap.objs.size + 1 := Heap.size_push ..
  refine call_min_two (wpAny_pyIter_tuple hT ⟨_, [_, s.heap.objs.size], [_], _, _, _, _, rfl, Walks.tuple (A := A.in1) hh _ s.heap.objs.size (by rw [hsz]; exact Nat.ne_of_lt (Nat.lt_succ_self _)) #[a, b],
    ⟨⟨_, Heap.get?_push_size _ rfl, rfl, rfl⟩, hT.push _⟩, fun c hc => ?_, by simp, cmpOf_ltS #[a, b] (by simp [ha, hb]), fun v h' tk hP hk => ?_⟩)
  · show c < ((s.heap.push _).push _).objs.size
    rw [Heap.size_push, hsz]
    rcases List.mem_cons.mp hc with e1 | hc
    · rw [e1, hsz]; exact Nat.lt_succ_self _
    · rcases List.mem_cons.mp hc with e1 | hc
      · rw [e1]; exact Nat.lt_succ_of_lt (Nat.lt_succ_self _)
      · cases hc
  · have := h h' tk (two_old hk)
    have hv : v = if ltS b a then b else a := by
      cases hc : ltS b a <;> simp [argBest, hc] at hP <;> simp [hP]
    rw [hv]
    exact this
theorem max_two_txt (hh : A.handled = none) (ha : isS a) (hb : isS b)
    (h : ∀ h' tk, (∀ c o, s.heap.get? c = some o → h'.get? c = some o) → Q (if ltS a b then b else a) { s with heap := h', toks := tk }) :
    wpAny (model prog w) A (call (.builtin "max") [a, b]) Q E s := by
  have hT : (s.heap.push { cls := .type "tuple", data := .seq #[a, b] }).IsTuple s.heap.objs.size #[a, b] := ⟨_, Heap.get?_push_size _ rfl, rfl, 0, rfl⟩
  have hsz : (s.heap.push { cls := .type "tuple", data := .seq #[a, b] }).objs.size = s.heap.objs.size + 1 := Heap.size_push ..
  refine call_max_two (wpAny_pyIter_tuple hT ⟨_, [_, s.heap.objs.size], [_], _, _, _, _, rfl, Walks.tuple (A := A.in1) hh _ s.heap.objs.size (by rw [hsz]; exact Nat.ne_of_lt (Nat.lt_succ_self _)) #[a, b],
    ⟨⟨_, Heap.get?_push_size _ rfl, rfl, rfl⟩, hT.push _⟩, fun c hc => ?_, by simp, cmpOf_gtS #[a, b] (by simp [ha, hb]), fun v h' tk hP hk => ?_⟩)
  · show c < ((s.heap.push _).push _).objs.size
    rw [Heap.size_push, hsz]
    rcases List.mem_cons.mp hc with e1 | hc
    · rw [e1, hsz]; exact Nat.lt_succ_self _
    · rcases List.mem_cons.mp hc with e1 | hc
      · rw [e1]; exact Nat.lt_succ_of_lt (Nat.lt_succ_self _)
      · cases hc
  · have := h h' tk (two_old hk)
    have hv : v = if ltS a b then b else a := by
      cases hc : ltS a b <;> simp [argBest, hc] at hP <;> simp [hP]
    rw [hv]
    exact this
end
end PySem.Krt
namespace Kr
open PySem PySem.Spec PyProof.Rows L2 Evl
def rMinT : List V → Hp → VK → Prop := fun xs H Q => ∃ i j, xs = [.str i, .str j] ∧ Q (.str (if j.cps.toList < i.cps.toList then j else i)) H
def rMaxT : List V → Hp → VK → Prop := fun xs H Q => ∃ i j, xs = [.str i, .str j] ∧ Q (.str (if i.cps.toList < j.cps.toList then j else i)) H
def rGtT : R2 := fun x y H Q => ∃ i j, x = .str i ∧ y = .str j ∧ Q (.bl (decide (j.cps.toList < i.cps.toList))) H
def rGeT : R2 := fun x y H Q => ∃ i j, x = .str i ∧ y = .str j ∧ Q (.bl (!decide (i.cps.toList < j.cps.toList))) H
def rStripC : V → List V → Hp → VK → Prop := fun x xs H Q => ∃ a b, x = .str a ∧ xs = [.str b] ∧ a.length ≤ sizeLine ∧ Q (.str (Txt.stripChars a b)) H
section
variable {X : Cx}
theorem call_minT (hc : X.calm = true) : CallR X (.builtin "min") rMinT := by
  intro pins s σ H xs us Q I r h
  obtain ⟨i, j, rfl, q⟩ := h
  obtain ⟨u, w', rfl, ⟨t, rfl⟩, ⟨t', rfl⟩⟩ := vals2 r
  refine PySem.Krt.min_two_txt (I.ok.hd hc) trivial trivial fun h' tk k => ⟨_, H, I.kept k, ?_, q⟩
  unfold PySem.Krt.ltS
  by_cases hj : j.cps.toList < i.cps.toList
  · rw [if_pos hj, if_pos (by simpa using hj)]; exact ⟨_, rfl⟩
  · rw [if_neg hj, if_neg (by simpa using hj)]; exact ⟨_, rfl⟩
theorem call_maxT (hc : X.calm = true) : CallR X (.builtin "max") rMaxT := by
  intro pins s σ H xs us Q I r h
  obtain ⟨i, j, rfl, q⟩ := h
  obtain ⟨u, w', rfl, ⟨t, rfl⟩, ⟨t', rfl⟩⟩ := vals2 r
  refine PySem.Krt.max_two_txt (I.ok.hd hc) trivial trivial fun h' tk k => ⟨_, H, I.kept k, ?_, q⟩
  unfold PySem.Krt.ltS
  by_cases hj : i.cps.toList < j.cps.toList
  · rw [if_pos hj, if_pos (by simpa using hj)]; exact ⟨_, rfl⟩
  · rw [if_neg hj, if_neg (by simpa using hj)]; exact ⟨_, rfl⟩
theorem op_gtT' : OpR X (compareOp .Gt) rGtT := op_gt_str
theorem op_geT' : OpR X (compareOp .GtE) rGeT := op_ge_str
theorem mt_stripC : MtR X "str.strip" rStripC := mt_stripChars
end
section
variable {K : PySem.W.Frag} {σ : L2.St} {H : Hp} {ta tb te : TE} {x : V}
theorem ev_minT {a b : List Nat} (ha : Ev ta σ H (.str (T a))) (hb : Ev tb σ H (.str (T b))) : Ev (tCB rMinT (tCons ta (tCons tb tNil))) σ H (.str (T (if b < a then b else a))) := fun H1 e Q q =>
  ha H1 e _ fun H2 e2 => hb H2 (e.trans e2) _ fun H3 e3 => ⟨T a, T b, rfl, by
    have := q H3 (e2.trans e3)
    by_cases h : b < a
    · rw [if_pos h] at this; rw [if_pos (show (T b).cps.toList < (T a).cps.toList from h)]; exact this
    · rw [if_neg h] at this; rw [if_neg (show ¬ (T b).cps.toList < (T a).cps.toList from h)]; exact this⟩
theorem ev_maxT {a b : List Nat} (ha : Ev ta σ H (.str (T a))) (hb : Ev tb σ H (.str (T b))) : Ev (tCB rMaxT (tCons ta (tCons tb tNil))) σ H (.str (T (if a < b then b else a))) := fun H1 e Q q =>
  ha H1 e _ fun H2 e2 => hb H2 (e.trans e2) _ fun H3 e3 => ⟨T a, T b, rfl, by
    have := q H3 (e2.trans e3)
    by_cases h : a < b
    · rw [if_pos h] at this; rw [if_pos (show (T a).cps.toList < (T b).cps.toList from h)]; exact this
    · rw [if_neg h] at this; rw [if_neg (show ¬ (T a).cps.toList < (T b).cps.toList from h)]; exact this⟩
theorem rv_gtT {a b : List Nat} : RV rGtT (.str (T a)) (.str (T b)) H (.bl (decide (b < a))) := fun H1 _ Q q => ⟨T a, T b, rfl, rfl, q H1 (Ex.refl H1)⟩
theorem ev_gtT {a b : List Nat} (ha : Ev ta σ H (.str (T a))) (hb : Ev tb σ H (.str (T b))) : Ev (tOp rGtT ta tb) σ H (.bl (decide (b < a))) := ev_op ha hb rv_gtT
theorem rv_geT {a b : List Nat} : RV rGeT (.str (T a)) (.str (T b)) H (.bl (!decide (a < b))) := fun H1 _ Q q => ⟨T a, T b, rfl, rfl, q H1 (Ex.refl H1)⟩
theorem ev_geT {a b : List Nat} (ha : Ev ta σ H (.str (T a))) (hb : Ev tb σ H (.str (T b))) : Ev (tOp rGeT ta tb) σ H (.bl (!decide (a < b))) := ev_op ha hb rv_geT
theorem strip_R (b : List Bool) : Txt.stripChars (T (R b)) (T [48, 49]) = T [] := by
  have hg : ∀ c ∈ R b, (T [48, 49]).cps.contains c = true := by
    intro c hc
    obtain ⟨x, _, rfl⟩ := List.mem_map.mp hc
    cases x <;> simp [T, bc]
  show Txt.stripBy (fun c => (T [48, 49]).cps.contains c) true true (T (R b)) = _
  rw [stripBy_eq]
  have e : stripLo (fun c => (T [48, 49]).cps.contains c) true (T (R b)) = (R b).length := by
    unfold stripLo
    rw [if_pos rfl]
    show ((R b).takeWhile _).length = _
    congr 1
    generalize R b = l at hg
    induction l with
    | nil => rfl
    | cons c l ih => rw [List.takeWhile_cons, if_pos (hg c (List.mem_cons_self ..)), ih fun d hd => hg d (List.mem_cons_of_mem _ hd)]
  rw [e]
  unfold Builtin.Str.strSub T
  simp
theorem ev_stripR {b : List Bool} (h : Ev ta σ H (.str (T (R b)))) (hl : b.length ≤ 1000000) : Ev (tBM K "str" rStripC ta (tCons (tC (.str (T [48, 49]))) tNil)) σ H (.str (T [])) := fun H1 e Q q =>
  h H1 e _ fun H2 e2 => ⟨rfl, T (R b), T [48, 49], rfl, rfl, by rw [T_len, R_len, sizeLine_eq]; omega, by
    rw [strip_R]
    exact q H2 e2⟩
end
/-! ### the order of rows -/
theorem not_lt_pre : ∀ (p t : List Nat), ¬ p ++ t < p
  | [], t => by simp
  | c :: p, t => by
    rw [List.cons_append, List.cons_lt_cons_iff]
    rintro (h | ⟨_, h⟩)
    · exact Nat.lt_irrefl _ h
    · exact not_lt_pre p t h
theorem R_lt_or : ∀ (a b : List Bool), ¬ R a < R b → R a ≠ R b → R b < R a
  | [], [], _, h => absurd rfl h
  | [], y :: b, h, _ => absurd (List.Lex.nil) h
  | x :: a, [], _, _ => List.Lex.nil
  | x :: a, y :: b, h, h2 => by
    show bc y :: R b < bc x :: R a
    have h3 : ¬ bc x :: R a < bc y :: R b := h
    have h4 : ¬ bc x :: R a = bc y :: R b := h2
    rw [List.cons_lt_cons_iff] at h3 ⊢
    by_cases hb : bc x = bc y
    · rw [hb] at h3 h4
      exact .inr ⟨hb.symm, R_lt_or a b (fun z => h3 (.inr ⟨rfl, z⟩)) (fun z => h4 (by rw [z]))⟩
    · have : ¬ bc x < bc y := fun z => h3 (.inl z)
      exact .inl (by omega)
/-- how the lesser of two rows comes to be the lesser -/
theorem R_lt_cases : ∀ (a b : List Bool), R a < R b → (∃ c t, b = a ++ c :: t ∧ com a b = a.length) ∨ ∃ p s t, a = p ++ false :: s ∧ b = p ++ true :: t ∧ com a b = p.length
  | [], [], h => by cases h
  | [], y :: b, _ => .inl ⟨y, b, rfl, rfl⟩
  | x :: a, [], h => by cases h
  | x :: a, y :: b, h => by
    have h3 : bc x :: R a < bc y :: R b := h
    rw [List.cons_lt_cons_iff] at h3
    rcases h3 with h3 | ⟨h3, h4⟩
    · cases x with
      | true => cases y <;> exact absurd h3 (by decide)
      | false => cases y with
        | false => exact absurd h3 (by decide)
        | true => exact .inr ⟨[], a, b, rfl, rfl, rfl⟩
    · have hxy := bc_inj h3
      subst hxy
      have hc : com (x :: a) (x :: b) = com a b + 1 := if_pos rfl
      rcases R_lt_cases a b h4 with ⟨c, t, h5, h6⟩ | ⟨p, s, t, h5, h6, h7⟩
      · exact .inl ⟨c, t, by rw [List.cons_append, ← h5], by rw [hc, h6]; rfl⟩
      · exact .inr ⟨x :: p, s, t, by rw [List.cons_append, ← h5], by rw [List.cons_append, ← h6], by rw [hc, h7]; rfl⟩
theorem R_lt_pre {a : List Bool} {c : Bool} {t : List Bool} : R a < R (a ++ c :: t) := by rw [R_app]; exact lt_pre
theorem R_lt_split {p s t : List Bool} : R (p ++ false :: s) < R (p ++ true :: t) := by rw [R_app, R_app]; exact lt_split
theorem R_not_lt_pre {p t : List Bool} : ¬ R (p ++ t) < R p := by rw [R_app]; exact not_lt_pre _ _
end Kr
/-! fields of instances of one class, a method of one of two classes, errors with an __init__ of their own that calls RiseError's -/
namespace Kr
open PySem PySem.Spec PyProof.Rows L2 Evl
section
variable {X : Cx} {o e value : Expr} {f : Str} {pos pos' tpos : Pos} {ta tv : TE} {C : Addr}
def tFldC (C : Addr) (ta : TE) (f : Str) : TE := fun σ H Q => ta σ H fun x H1 => ∃ a dx fs v, x = .ref a ∧ H1 a = some (.ins C dx fs) ∧ fs.lookup f = some v ∧ Q v H1
def sFldC (C : Addr) (ta tv : TE) (f : Str) : TS := fun D σ H => tv σ H fun y H1 => ta σ H1 fun x H2 => ∃ a dx fs, x = .ref a ∧ H2 a = some (.ins C dx fs) ∧ fs.length < 1000 ∧ D.nx σ (upd H2 a (.ins C dx (putF f y fs)))
def sFldAugC (C : Addr) (ta tv : TE) (rd : V → V → Hp → VK → Prop) (f : Str) : TS := fun D σ H => ta σ H fun x H1 => ∃ a dx fs v, x = .ref a ∧ H1 a = some (.ins C dx fs) ∧ fs.lookup f = some v ∧
  tv σ H1 fun y H2 => rd v y H2 fun z H3 => ∃ dx' fs', H3 a = some (.ins C dx' fs') ∧ fs'.length < 1000 ∧ D.nx σ (upd H3 a (.ins C dx' (putF f z fs')))
theorem pe_fldC (c : Cls X.K C) (n : NoAttr X.K C f) (he : PE X e ta) (hb : attributeBase e f X.env (eval e X.env) = eval e X.env := by rfl) : PE X (.Attribute e f pos) (tFldC C ta f) := by
  refine ⟨fun pins s σ H Q I h => ?_⟩
  refine attr_of hb (thn (he.run pins s σ H _ I h) fun u s1 ⟨x, H1, I1, rx, a, dx, fs, v, ex, ea, l, q⟩ => ?_)
  subst ex
  obtain rfl : u = Value.ref a := rx
  exact getattr_ok I1 ea c n l fun u' s2 I2 ru => ⟨v, H1, I2, ru, q⟩
theorem ps_fldC (c : Cls X.K C) (n : NoAttr X.K C f) (ha : PE X o ta) (hv : PE X value tv) (hs : swapsWith value (some (.Attribute o f pos')) pos.line X.env = pure false := by rfl) : PS X (.Assign [.Attribute o f pos'] value pos) (sFldC C ta tv f) := by
  refine ⟨fun pins s σ H D I h => ?_⟩
  refine plainObj_wpAny_Assign_Attribute (thn (hv.run pins s σ H _ I h) fun u s1 ⟨y, H1, I1, ry, q⟩ => thn (ha.run pins s1 σ H1 _ I1 q) fun ov s2 ⟨x, H2, I2, rx, a, dx, fs, ex, ea, l, q2⟩ => ?_) hs
  subst ex
  obtain rfl : ov = Value.ref a := rx
  exact setattr_ok I2 ea c n l ry fun s3 I3 => ⟨σ, _, I3, q2⟩
theorem ps_fldaugC {op : Operator} {rd : V → V → Hp → VK → Prop} (c : Cls X.K C) (n : NoAttr X.K C f) (ha : PE X o ta) (hv : PE X value tv) (hop : InOp X op rd) : PS X (.AugAssign (.Attribute o f tpos) op value pos) (sFldAugC C ta tv rd f) := by
  refine ⟨fun pins s σ H D I h => ?_⟩
  refine wpAny_AugAssign_AttributeAny (thn (ha.run pins s σ H _ I h) fun ov s1 ⟨x, H1, I1, rx, a, dx, fs, v, ex, ea, l, q⟩ => ?_)
  subst ex
  obtain rfl : ov = Value.ref a := rx
  refine getattr_ok I1 ea c n l fun u s2 I2 ru => thn (hv.run pins s2 σ H1 _ I2 q) fun w3 s3 ⟨y, H2, I3, ry, q3⟩ => thn (hop pins s3 σ H2 v y u w3 _ I3 ru ry q3) fun w4 s4 ⟨z, H3, I4, rz, dx', fs', ea', l', q4⟩ => ?_
  exact setattr_ok I4 ea' c n l' rz fun s5 I5 => ⟨σ, _, I5, q4⟩
/-- one of two readings, whichever is known to hold -/
def tOr2 (t u : TE) : TE := fun σ H Q => t σ H Q ∨ u σ H Q
theorem pe_or2 {t u : TE} (h1 : PE X e t) (h2 : PE X e u) : PE X e (tOr2 t u) :=
  ⟨fun pins s σ H Q I h => h.elim (fun h => h1.run pins s σ H Q I h) fun h => h2.run pins s σ H Q I h⟩
end
/-! ### errors with an own __init__ -/
def oexB (K : PySem.W.Frag) (C : Addr) : Bool := (match K.lookup C with
  | some ⟨.type "type", _, .cls cd, sl⟩ => (match cd.mro, sl.toList with
    | .ref C' :: bm, [_, _, _, _, some (.builtin n), _] => decide (C' = C) && (decide (n = "ValueError.__new__") && (!cd.hasDel && (cd.hasDict && PySem.HandSPX.refsVE bm)))
    | _, _ => false)
  | _ => false) && (decide (PySem.W.findIn K (.ref C) "__setattr__" = some (some (.builtin "object.__setattr__"))) && (decide (PySem.W.subIn K (.ref C) (.type "BaseException") = some true) && (decide (PySem.W.typeIn K (.ref C) = some (.type "type")) && PySem.W.keepIn K (.ref C))))
theorem oexB_ok {K : PySem.W.Frag} {C : Addr} (h : oexB K C = true) : OexC K C := by
  obtain ⟨h0, h⟩ := He.ba h
  obtain ⟨h1, h⟩ := He.ba h
  obtain ⟨h2, h⟩ := He.ba h
  obtain ⟨h3, h4⟩ := He.ba h
  refine ⟨?_, of_decide_eq_true h1, of_decide_eq_true h2, of_decide_eq_true h3, h4⟩
  split at h0
  · rename_i dd cd sl ho
    split at h0
    · rename_i C' bm k0 k1 k2 k3 n k5 hm hs
      obtain ⟨e1, h0⟩ := He.ba h0
      obtain ⟨e2, h0⟩ := He.ba h0
      obtain ⟨e3, h0⟩ := He.ba h0
      obtain ⟨e4, e5⟩ := He.ba h0
      have e1 := of_decide_eq_true e1
      have e2 := of_decide_eq_true e2
      subst e1 e2
      obtain ⟨nm, bs, mro, ns, qn, hd, sn, sub, ab, col, del⟩ := cd
      dsimp only at hm e3 e4
      have e3 : del = false := by simpa using e3
      subst hm e3 e4
      have hsl : sl = #[k0, k1, k2, k3, some (.builtin "ValueError.__new__"), k5] := by
        obtain ⟨l⟩ := sl
        simp only at hs
        rw [hs]
      subst hsl
      exact ⟨_, _, _, _, _, _, _, _, _, _, _, _, _, _, _, ho, e5⟩
    · cases h0
  · cases h0
/-- what the text's errors with own __init__ are asked for, by the names -/
def ownB (K : PySem.W.Frag) (x : Str) : Bool := oexB K (He.ga K x) && (decide (PySem.W.findIn K (.ref (He.ga K x)) "__init__" = some (some (.ref (He.ma K (He.ga K x) "__init__")))) && (decide (PySem.W.typeIn K (.ref (He.ma K (He.ga K x) "__init__")) = some (.type "function")) &&
  decide (PySem.W.findIn K (.ref (He.ga K x)) "place" = some none)))
def rootB (K : PySem.W.Frag) : Bool := decide (PySem.W.specialIn K (.ref (He.ga K "RiseError")) "__getattribute__" = some (some (.builtin "type.__getattribute__"))) && (PySem.W.readsIn K (He.ga K "RiseError") (.type "type") &&
  (match PySem.W.findCls K (.ref (He.ga K "RiseError")) (.type "type") "__init__" with
  | some (.val (.builtin n)) => decide (n = "ValueError.__init__")
  | _ => false))
structure OwnX (K : PySem.W.Frag) (C fI : Addr) : Prop where
  T : OexC K C
  i : PySem.W.findIn K (.ref C) "__init__" = some (some (.ref fI))
  t : PySem.W.typeIn K (.ref fI) = some (.type "function")
  p : PySem.W.findIn K (.ref C) "place" = some none
theorem ownB_ok {K : PySem.W.Frag} {x : Str} (h : ownB K x = true) : OwnX K (He.ga K x) (He.ma K (He.ga K x) "__init__") := by
  obtain ⟨h1, h⟩ := He.ba h
  obtain ⟨h2, h⟩ := He.ba h
  obtain ⟨h3, h4⟩ := He.ba h
  exact ⟨oexB_ok h1, of_decide_eq_true h2, of_decide_eq_true h3, of_decide_eq_true h4⟩
structure RootX (K : PySem.W.Frag) : Prop where
  g : PySem.W.specialIn K (.ref (He.ga K "RiseError")) "__getattribute__" = some (some (.builtin "type.__getattribute__"))
  r : PySem.W.readsIn K (He.ga K "RiseError") (.type "type") = true
  f : PySem.W.findCls K (.ref (He.ga K "RiseError")) (.type "type") "__init__" = some (.val (.builtin "ValueError.__init__"))
theorem rootB_ok {K : PySem.W.Frag} (h : rootB K = true) : RootX K := by
  obtain ⟨h1, h⟩ := He.ba h
  obtain ⟨h2, h3⟩ := He.ba h
  refine ⟨of_decide_eq_true h1, h2, ?_⟩
  split at h3
  · rename_i n e
    rw [e, of_decide_eq_true h3]
  · cases h3
/-- RiseError.__init__(self, ..), self a new error of the class at C -/
def tRinit (C : Addr) (ta : TA) : TE := fun σ H Q => ta σ H fun vs H1 => ∃ (a : Addr) (ws : List V), vs = .ref a :: ws ∧ ws.length ≤ 1000 ∧ H1 a = some (exo a C none) ∧ Q .non H1
def tOstC (C : Addr) (f : Str) (to te : TE) : TS := fun D σ H => te σ H fun y H1 => to σ H1 fun x H2 => ∃ a : Addr, x = .ref a ∧ H2 a = some (exo a C none) ∧ ∀ dx, H2 dx = none → dx ≠ a → D.nx σ (upd (upd H2 dx (exd dx [(f, y)])) a (exo a C (some dx)))
section
variable {X : Cx} {o e : Expr} {es : List Expr} {to te : TE} {ta : TA} {f x : Str} {p p' p1 p2 pos : Pos} {C fI : Addr}
theorem pe_rinit {pl : Sem Bool} (T : OwnX X.K C fI) (R : RootX X.K) (hg : Gl X "RiseError") (hm : X.mg "RiseError" = some (.ref (He.ga X.K "RiseError"))) (ha : PA X (e :: es) ta)
    (hc : eval (.Call (.Attribute (.Name "RiseError" p1) "__init__" p2) (e :: es) [] pos) X.env = (do
      let ov ← eval (.Name "RiseError" p1) X.env
      standAt p2.atName
      let (f, first) ← holding [ov] (getMethod ov "__init__" pl)
      callWith pos f first (backTo pos (starEach (e :: es) X.env)) (backToKw pos (keywordEach [] X.env))) := by rfl)
    (he : starEach (e :: es) X.env = (false, eval e X.env) :: starEach es X.env := by rfl) (hpl : (backTo pos (starEach es X.env)).any (·.1) = false := by rfl) :
    PE X (.Call (.Attribute (.Name "RiseError" p1) "__init__" p2) (e :: es) [] pos) (tRinit C ta) := by
  refine ⟨fun pins s σ H Q I h => ?_⟩
  refine PySem.W.methodCall_KW (ld_glob I hg hm ?_ (by decide)) hc
  refine PySem.W.method_cls I.kIn R.g (PySem.W.cls_value I.kIn R.r R.f (by decide +kernel) ?_)
  show wpAny _ _ (callWith pos (Value.builtin "ValueError.__init__") [] (backTo pos (starEach (e :: es) X.env)) []) _ _ _
  refine PyProof.Rows.callWith_method1 (thn (ha.run pos pins _ σ H _ (I.tok _) h) fun us s1 ⟨vs, H1, I1, r1, a, ws, ev, hl, ea, q⟩ => ?_) he hpl
  subst ev
  cases r1 with
  | @cons _ u0 _ ur ra rw' =>
    obtain rfl : u0 = Value.ref a := ra
    have hlen : ur.length ≤ sizeLine := by
      rw [← Paired.length rw', sizeLine_eq]
      omega
    exact oinit_ok T.T I1 ea hlen fun s' J => ⟨.non, H1, J, rfl, q⟩
theorem ps_ostC (T : OwnX X.K C fI) (ho : PE X o to) (he : PE X e te) (hs : swapsWith e (some (.Attribute o "place" p')) pos.line X.env = pure false := by rfl) : PS X (.Assign [.Attribute o "place" p'] e pos) (tOstC C "place" to te) := by
  refine ⟨fun pins s σ H D I h => ?_⟩
  refine plainObj_wpAny_Assign_Attribute (thn (he.run pins s σ H _ I h) fun v s1 ⟨y, H1, I1, r1, q1⟩ => thn (ho.run pins s1 σ H1 _ I1 q1) fun u s2 ⟨x, H2, I2, r2, a, ex, ea, q⟩ => ?_) hs
  subst ex
  obtain rfl : u = Value.ref a := r2
  exact ost_new T.T I2 ea T.p r1 fun dx s' n ne J => ⟨σ, _, J, q dx n ne⟩
end
/-- raise C(..) -/
def tRaiseO (C : Addr) (sp : Sp) (ta : TA) (E : XK) : TS := fun _ σ H => tMkO C sp [] ta σ H E
/-- the promise of __init__(self, place) of such a class -/
def placeSp (C : Addr) : Sp := fun vs H Q _ => ∃ (a : Addr) (y : V), vs = [.ref a, y] ∧ H a = some (exo a C none) ∧ ∀ dx H1, Ex H H1 → H1 dx = none → dx ≠ a → Q .non (upd (upd H1 dx (exd dx [("place", y)])) a (exo a C (some dx)))
theorem placeSp_len {C : Addr} {vs H Q E} (h : placeSp C vs H Q E) : vs.length = 2 := by
  obtain ⟨a, y, rfl, _⟩ := h
  rfl
/-- a promise's ways out: an error with a place -/
def RaiseD (cls : Value) (p : Int) (H : Hp) (E : XK) : Prop := ∀ d H', H d = none → Ex H H' → H' d = some (.xd [("place", .int p)]) → E cls (some d) H'
theorem RaiseD.mono {cls : Value} {p : Int} {H H1 : Hp} {E : XK} (h : RaiseD cls p H E) (e : Ex H H1) : RaiseD cls p H1 E := fun d H' hd e2 h2 => h d H' (fresh_back e hd) (e.trans e2) h2
theorem ev_rinit {C a : Addr} {ws : List V} {ta : TA} {σ : L2.St} {H : Hp} (h : EvA ta σ H (.ref a :: ws)) (hl : ws.length ≤ 1000) (ha : H a = some (exo a C none)) : Ev (tRinit C ta) σ H .non := fun H1 e Q q =>
  h H1 e _ fun H2 e2 => ⟨a, ws, rfl, hl, (e.trans e2) _ _ ha, q H2 e2⟩
theorem s_ostC {C a : Addr} {f : Str} {to te : TE} {y : V} {σ : L2.St} {H : Hp} {D : Ends} (h1 : Ev te σ H y) (h2 : Ev to σ H (.ref a)) (ha : H a = some (exo a C none)) (k : ∀ dx H1, Ex H H1 → H1 dx = none → dx ≠ a → D.nx σ (upd (upd H1 dx (exd dx [(f, y)])) a (exo a C (some dx)))) : tOstC C f to te D σ H :=
  h1 H (Ex.refl H) _ fun H1 e1 => h2 H1 e1 _ fun H2 e2 => ⟨a, rfl, (e1.trans e2) _ _ ha, fun dx hd hne => k dx H2 (e1.trans e2) hd hne⟩
theorem rd_place {C : Addr} {m : List Nat} (vs : List V) (H : Hp) (Q : VK) (E : XK) (h : placeSp C vs H Q E) :
    (tSeq (tDrop (tRinit C (tCons (tVar 0) (tCons (tC (.str (T m))) tNil)))) (tOstC C "place" (tVar 0) (tVar 1))) { nx := fun _ H' => Q .non H', rt := Q } (start ["self", "place"] vs) H := by
  obtain ⟨a, y, rfl, ha, q⟩ := h
  refine q_drop (ev_rinit (a := a) (ws := [.str (T m)]) (ea_cons (ev_var rfl) (ea_cons ev_c ea_nil)) (by simp) ha) fun H1 e1 => ?_
  exact s_ostC (y := y) (ev_var rfl) (ev_var rfl) (e1 _ _ ha) fun dx H2 e2 hd hne => q dx H2 (e1.trans e2) hd hne
theorem s_raiseO {C : Addr} {ta : TA} {E : XK} {D : Ends} {σ : L2.St} {H : Hp} {p : Int} (h : EvA ta σ H [.int p]) (k : RaiseD (.ref C) p H E) : tRaiseO C (placeSp C) ta E D σ H :=
  h H (Ex.refl H) _ fun H1 e1 => ⟨by simp, fun a ha => ⟨a, .int p, rfl, upd_same, fun dx H2 e2 hd hne => ⟨rfl, dx, [("place", .int p)], upd_same, by rw [upd_ne hne, upd_same], by
    have := fresh_back e2 hd
    rwa [upd_ne hne] at this, by
    refine k dx _ ?_ ?_ upd_same
    · have := fresh_back e2 hd
      rw [upd_ne hne] at this
      exact fresh_back e1 this
    · intro b o hb
      have h1 := e1 _ _ hb
      have hba : b ≠ a := fun z => by rw [z, ha] at h1; cases h1
      have h2 : H2 b = some o := e2 _ _ (by rw [upd_ne hba]; exact h1)
      have hbd : b ≠ dx := fun z => by rw [z, hd] at h2; cases h2
      rw [upd_ne hbd, del_ne hba, upd_ne hba, upd_ne hbd]
      exact h2⟩⟩⟩
def KoL (L : List Str) (K : PySem.W.Frag) : Prop := ∀ x ∈ L, OwnX K (He.ga K x) (He.ma K (He.ga K x) "__init__")
end Kr
/-! signs as they are read: the object, what is read of it, how a promise that reads ends -/
namespace Kr
open PySem PySem.Spec PyProof.Rows L2 Evl
/-- all but the object at a stays -/
def ExU (a : Addr) (H H' : Hp) : Prop := ∀ b o, b ≠ a → H b = some o → H' b = some o
theorem ExU.refl (a : Addr) (H : Hp) : ExU a H H := fun _ _ _ h => h
theorem ExU.trans {a : Addr} {H H1 H2 : Hp} (x : ExU a H H1) (y : ExU a H1 H2) : ExU a H H2 := fun b o n h => y b o n (x b o n h)
theorem exu {a : Addr} {H H1 : Hp} (e : Ex H H1) : ExU a H H1 := fun b o _ h => e b o h
theorem ExU.upd {a : Addr} {H H1 : Hp} {o : HO} (e : ExU a H H1) : ExU a H (upd H1 a o) := fun b u n h => by rw [upd_ne n]; exact e b u n h
/-- what H does not know may have changed -/
theorem ExU.ex {a : Addr} {H H1 : Hp} (e : ExU a H H1) (h : H a = none) : Ex H H1 := fun b o hb => e b o (fun z => by rw [z, h] at hb; cases hb) hb
/-- the signs that are read, at the object a -/
def SrcB (K : PySem.W.Frag) (H : Hp) (a : Addr) (b : List Bool) (t : Nat) (f : Bool) : Prop := ∃ dx, H a = some (.ins (He.ga K "Source") dx [("signs", .str (T (R b))), ("at", .int (t : Int)), ("fills", .bl f)])
/-- x reads the object at a, each sign exchanged or not, through k others -/
inductive Src (K : PySem.W.Frag) (H : Hp) (a : Addr) : V → Bool → Nat → Prop
  | base : Src K H a (.ref a) false 0
  | turn {t dx : Addr} {y : V} {n : Bool} {k : Nat} (h : H t = some (.ins (He.ga K "TurnedSource") dx [("inner", y)])) (ne : t ≠ a) (r : Src K H a y n k) : Src K H a (.ref t) (!n) (k + 1)
theorem Src.mono {K : PySem.W.Frag} {H H1 : Hp} {a : Addr} {x : V} {n : Bool} {k : Nat} (e : ExU a H H1) (s : Src K H a x n k) : Src K H1 a x n k := by
  induction s with
  | base => exact .base
  | turn h ne r ih => exact .turn (e _ _ ne h) ne ih
theorem SrcB.mono {K : PySem.W.Frag} {H H1 : Hp} {a : Addr} {b : List Bool} {t : Nat} {f : Bool} (e : Ex H H1) (s : SrcB K H a b t f) : SrcB K H1 a b t f := by
  obtain ⟨dx, h⟩ := s
  exact ⟨dx, e _ _ h⟩
theorem SrcB.some {K : PySem.W.Frag} {H : Hp} {a : Addr} {b : List Bool} {t : Nat} {f : Bool} (s : SrcB K H a b t f) : H a ≠ none := by
  obtain ⟨dx, h⟩ := s
  rw [h]
  exact fun z => nomatch z
/-! ### what is read -/
inductive Res (α : Type) where
  | ok (v : α) (t : Nat)
  | bad (c : Str) (p : Int)
def Res.bind {α β : Type} (r : Res α) (g : α → Nat → Res β) : Res β := match r with
  | .ok v t => g v t
  | .bad c p => .bad c p
/-- the next sign -/
def takeB (b : List Bool) (f n w : Bool) (t : Nat) : Res Bool := match b[t]? with
  | some c => .ok (c != n) (t + 1)
  | none => if f then .ok w (t + 1) else .bad "Short" b.length
theorem takeB_turn (b : List Bool) (f n w : Bool) (t : Nat) : takeB b f (!n) w t = (takeB b f n (!w) t).bind fun c t' => .ok (!c) t' := by
  unfold takeB
  cases b[t]? with
  | some c => cases c <;> cases n <;> rfl
  | none => cases f <;> simp [Res.bind]
/-- more binary digits -/
def tdig (b : List Bool) (f n : Bool) : Nat → Int → Nat → Res Int
  | 0, x, t => .ok x t
  | k + 1, x, t => (takeB b f n false t).bind fun c t' => tdig b f n k (x * 2 + (if c then 1 else 0)) t'
def tones (b : List Bool) (f n : Bool) : Nat → Bool → Nat → Nat → Res Nat
  | 0, _, o, t => .ok o t
  | k + 1, w, o, t => (takeB b f n w t).bind fun c t' => if c then tones b f n k false (o + 1) t' else .ok o t'
def tcount (b : List Bool) (f n w : Bool) (t : Nat) : Res Int :=
  (tones b f n 7 w 0 t).bind fun o t1 => (tdig b f n o 1 t1).bind fun s t2 => (tdig b f n (s - 1).toNat 1 t2).bind fun x t3 => .ok (x - 1) t3
def twhole (b : List Bool) (f n : Bool) (t : Nat) : Res Int :=
  (takeB b f n true t).bind fun c t1 => if c then tcount b f n false t1 else (tcount b f (!n) false t1).bind fun x t2 => .ok (-1 - x) t2
def tfix (b : List Bool) (f n : Bool) (most : Int) : Nat → Int → Nat → Res Int
  | 0, x, t => .ok x t
  | k + 1, x, t => (takeB b f n false t).bind fun c t' => if x * 2 + (if c then 1 else 0) > most / 2 ^ k then .bad "Wrong" ((t' : Int) - 1) else tfix b f n most k (x * 2 + (if c then 1 else 0)) t'
/-! ### how a promise that reads ends -/
def RaiseU (a : Addr) (cls : Value) (p : Int) (H : Hp) (E : XK) : Prop := ∀ d H', d ≠ a → H d = none → ExU a H H' → H' d = some (.xd [("place", .int p)]) → E cls (some d) H'
theorem RaiseU.mono {a : Addr} {cls : Value} {p : Int} {H H1 : Hp} {E : XK} (e : ExU a H H1) (h : RaiseU a cls p H E) : RaiseU a cls p H1 E := fun d H' hn hd e2 h2 =>
  h d H' hn (by
    cases q : H d with
    | none => rfl
    | some o => rw [e d o hn q] at hd; cases hd) (e.trans e2) h2
theorem RaiseU.d {a : Addr} {cls : Value} {p : Int} {H : Hp} {E : XK} (h : RaiseU a cls p H E) (ha : H a ≠ none) : RaiseD cls p H E := fun d H' hd e h2 =>
  h d H' (fun z => ha (by rw [← z]; exact hd)) hd (exu e) h2
def Fin {α : Type} (K : PySem.W.Frag) (val : α → V) (a : Addr) (b : List Bool) (f : Bool) (H : Hp) (Q : VK) (E : XK) : Res α → Prop
  | .ok v t => ∀ H', ExU a H H' → SrcB K H' a b t f → Q (val v) H'
  | .bad c p => RaiseU a (.ref (He.ga K c)) p H E
theorem Fin.mono {α : Type} {K : PySem.W.Frag} {val : α → V} {a : Addr} {b : List Bool} {f : Bool} {H H1 : Hp} {Q : VK} {E : XK} {r : Res α} (h : Fin K val a b f H Q E r) (e : ExU a H H1) : Fin K val a b f H1 Q E r := by
  cases r with
  | ok v t => exact fun H' e2 s => h H' (e.trans e2) s
  | bad c p => exact RaiseU.mono e h
/-- a part of what is read, then the rest -/
theorem Fin.step {α β : Type} {K : PySem.W.Frag} {val : α → V} {wal : β → V} {a : Addr} {b : List Bool} {f : Bool} {H : Hp} {Q Q2 : VK} {E : XK} {r : Res α} {g : α → Nat → Res β} (h : Fin K wal a b f H Q E (r.bind g))
    (k : ∀ v t H', r = .ok v t → ExU a H H' → SrcB K H' a b t f → Fin K wal a b f H' Q E (g v t) → Q2 (val v) H') : Fin K val a b f H Q2 E r := by
  cases r with
  | ok v t => exact fun H' e s => k v t H' rfl e s (Fin.mono (show Fin K wal a b f H Q E (g v t) from h) e)
  | bad c p => exact h
abbrev vB (c : Bool) : V := .str (T [bc c])
/-- a new tuple -/
def RetU (xs : List V) (H : Hp) (Q : VK) : Prop := ∀ p H2, H p = none → Ex H H2 → H2 p = some (.tup xs) → Q (.ref p) H2
theorem RetU.mono {xs : List V} {H H1 : Hp} {Q : VK} (q : RetU xs H Q) (e : Ex H H1) : RetU xs H1 Q := fun p H2 hp e2 h => q p H2 (fresh_back e hp) (e.trans e2) h
/-- what is told of a row read from a place on: the number and the place behind it -/
def FinR (K : PySem.W.Frag) (H : Hp) (Q : VK) (E : XK) : Res Int → Prop
  | .ok v t => RetU [.int v, .int (t : Int)] H Q
  | .bad c p => RaiseD (.ref (He.ga K c)) p H E
theorem Res.bind_assoc {α β γ : Type} (r : Res α) (g : α → Nat → Res β) (h : β → Nat → Res γ) : (r.bind g).bind h = r.bind fun v t => (g v t).bind h := by cases r <;> rfl
/-- x reads the signs b from t on, through at most D others -/
structure Rdr (D : Nat) (K : PySem.W.Frag) (H : Hp) (x : V) (a : Addr) (b : List Bool) (f n : Bool) (t : Nat) : Prop where
  j : ∃ j, j ≤ D ∧ Src K H a x n j
  s : SrcB K H a b t f
  l : b.length ≤ 1000000
theorem Rdr.after {D : Nat} {K : PySem.W.Frag} {H H' : Hp} {x : V} {a : Addr} {b : List Bool} {f n : Bool} {t t' : Nat} (r : Rdr D K H x a b f n t) (e : ExU a H H') (s : SrcB K H' a b t' f) : Rdr D K H' x a b f n t' := by
  obtain ⟨⟨j, hj, hx⟩, _, l⟩ := r
  exact ⟨⟨j, hj, hx.mono e⟩, s, l⟩
theorem Rdr.mono {D : Nat} {K : PySem.W.Frag} {H H' : Hp} {x : V} {a : Addr} {b : List Bool} {f n : Bool} {t : Nat} (r : Rdr D K H x a b f n t) (e : Ex H H') : Rdr D K H' x a b f n t := r.after (exu e) (r.s.mono e)
theorem tdig_rng {b : List Bool} {f n : Bool} : ∀ {k : Nat} {x y : Int} {t t' : Nat}, tdig b f n k x t = .ok y t' → x * 2 ^ k ≤ y ∧ y < (x + 1) * 2 ^ k
  | 0, x, y, t, t', h => by
    cases h
    simp
    omega
  | k + 1, x, y, t, t', h => by
    unfold tdig at h
    cases ht : takeB b f n false t with
    | bad c p => rw [ht] at h; cases h
    | ok c t1 =>
      rw [ht] at h
      have := tdig_rng (show tdig b f n k _ t1 = .ok y t' from h)
      have e1 : x * 2 ^ (k + 1) = x * 2 * 2 ^ k := by rw [Int.pow_succ, Int.mul_assoc, Int.mul_comm (2 ^ k) 2]
      have e2 : (x + 1) * 2 ^ (k + 1) = (x * 2 + 2) * 2 ^ k := by rw [Int.pow_succ, Int.mul_comm (2 ^ k) 2, ← Int.mul_assoc, Int.add_mul x 1 2, Int.one_mul]
      have hp : (0 : Int) < 2 ^ k := Int.pow_pos (by decide)
      rw [e1, e2]
      cases c with
      | true =>
        have h1 := Int.mul_le_mul_of_nonneg_right (show x * 2 ≤ x * 2 + 1 by omega) (Int.le_of_lt hp)
        have h2 : (x * 2 + 1 + 1) = x * 2 + 2 := by omega
        simp only [if_true] at this
        rw [h2] at this
        exact ⟨Int.le_trans h1 this.1, this.2⟩
      | false =>
        have h1 := Int.mul_le_mul_of_nonneg_right (show x * 2 + 1 ≤ x * 2 + 2 by omega) (Int.le_of_lt hp)
        simp only [Bool.false_eq_true, if_false, Int.add_zero] at this
        exact ⟨this.1, Int.lt_of_lt_of_le this.2 h1⟩
theorem tones_rng {b : List Bool} {f n : Bool} : ∀ {k : Nat} {w : Bool} {o o' t t' : Nat}, tones b f n k w o t = .ok o' t' → o ≤ o' ∧ o' ≤ o + k
  | 0, w, o, o', t, t', h => by
    cases h
    omega
  | k + 1, w, o, o', t, t', h => by
    unfold tones at h
    cases ht : takeB b f n w t with
    | bad c p => rw [ht] at h; cases h
    | ok c t1 =>
      rw [ht] at h
      cases c with
      | true =>
        have := tones_rng (show tones b f n k false (o + 1) t1 = .ok o' t' from h)
        omega
      | false =>
        cases (show Res.ok o t1 = .ok o' t' from h)
        omega
theorem putF_len (f : Str) (v : V) : ∀ fs : List (Str × V), (putF f v fs).length ≤ fs.length + 1
  | [] => Nat.le_refl _
  | (g, x) :: r => by
    unfold putF
    split
    · simp
    · have := putF_len f v r
      simp
      omega
def rMin2 : List V → Hp → VK → Prop := fun xs H Q => ∃ i j, xs = [.int i, .int j] ∧ Q (.int (if j < i then j else i)) H
theorem ev_min2 {σ : L2.St} {H : Hp} {ta tb : TE} {i j : Int} (ha : Ev ta σ H (.int i)) (hb : Ev tb σ H (.int j)) : Ev (tCB rMin2 (tCons ta (tCons tb tNil))) σ H (.int (if j < i then j else i)) := fun H1 e Q q =>
  ha H1 e _ fun H2 e2 => hb H2 (e.trans e2) _ fun H3 e3 => ⟨i, j, rfl, q H3 (e2.trans e3)⟩
section
variable {K : PySem.W.Frag} {σ : L2.St} {H : Hp} {ta : TE} {v : V} {C a dx : Addr} {fs : List (Str × V)} {f : Str}
theorem ev_fldC (h : Ev ta σ H (.ref a)) (ha : H a = some (.ins C dx fs)) (hl : fs.lookup f = some v) : Ev (tFldC C ta f) σ H v := fun H1 e Q q =>
  h H1 e _ fun H2 e2 => ⟨a, dx, fs, v, rfl, (e.trans e2) _ _ ha, hl, q H2 e2⟩
/-- self.f = value -/
theorem q_fldC {te : TE} {D : Ends} {tz : TS} (h1 : Ev te σ H v) (h2 : Ev ta σ H (.ref a)) (ha : H a = some (.ins C dx fs)) (hn : fs.length < 1000) (k : ∀ H1, ExU a H H1 → H1 a = some (.ins C dx (putF f v fs)) → tz D σ H1) : tSeq (sFldC C ta te f) tz D σ H :=
  h1 H (Ex.refl H) _ fun H1 e1 => h2 H1 e1 _ fun H2 e2 => ⟨a, dx, fs, rfl, (e1.trans e2) _ _ ha, hn, k _ (ExU.upd (exu (e1.trans e2))) upd_same⟩
theorem s_fldC {te : TE} {D : Ends} (h1 : Ev te σ H v) (h2 : Ev ta σ H (.ref a)) (ha : H a = some (.ins C dx fs)) (hn : fs.length < 1000) (k : ∀ H1, ExU a H H1 → H1 a = some (.ins C dx (putF f v fs)) → D.nx σ H1) : sFldC C ta te f D σ H :=
  h1 H (Ex.refl H) _ fun H1 e1 => h2 H1 e1 _ fun H2 e2 => ⟨a, dx, fs, rfl, (e1.trans e2) _ _ ha, hn, k _ (ExU.upd (exu (e1.trans e2))) upd_same⟩
/-- self.f += n -/
theorem q_augC {te : TE} {D : Ends} {tz : TS} {i j : Int} (h2 : Ev ta σ H (.ref a)) (ha : H a = some (.ins C dx fs)) (hl : fs.lookup f = some (.int i)) (h1 : Ev te σ H (.int j)) (hn : fs.length < 1000) (k : ∀ H1, ExU a H H1 → H1 a = some (.ins C dx (putF f (.int (i + j)) fs)) → tz D σ H1) : tSeq (sFldAugC C ta te rAdd f) tz D σ H :=
  h2 H (Ex.refl H) _ fun H1 e1 => ⟨a, dx, fs, .int i, rfl, e1 _ _ ha, hl, h1 H1 e1 _ fun H2 e2 => ⟨i, j, rfl, rfl, dx, fs, (e1.trans e2) _ _ ha, hn, k _ (ExU.upd (exu (e1.trans e2))) upd_same⟩⟩
/-- a method of an instance of C -/
theorem go_meth {m : Str} {sp : Sp} {E : XK} {t : TA} {vs : List V} {Q : VK} (h : Ev ta σ H (.ref a)) (ha : H a = some (.ins C dx fs)) (hl : fs.lookup m = none) (ht : ∀ H1, Ex H H1 → EvA t σ H1 vs) (k : ∀ H1, Ex H H1 → sp (.ref a :: vs) H1 Q E) : tMeth C m sp [] E ta t σ H Q :=
  h H (Ex.refl H) _ fun H1 e1 => ⟨a, dx, fs, rfl, e1 _ _ ha, hl, ht H1 e1 H1 (Ex.refl H1) _ fun H2 e2 => by rw [List.append_nil]; exact k H2 (e1.trans e2)⟩
theorem ev_meth {m : Str} {sp : Sp} {E : XK} {t : TA} {vs : List V} {z : V} (h : Ev ta σ H (.ref a)) (ha : H a = some (.ins C dx fs)) (hl : fs.lookup m = none) (ht : EvA t σ H vs) (hs : SpV sp (.ref a :: vs) H z) : Ev (tMeth C m sp [] E ta t) σ H z := fun H1 e Q q =>
  go_meth (h.mono e) (e _ _ ha) hl (fun H2 e2 => fun H3 e3 => ht H3 ((e.trans e2).trans e3)) fun H2 e2 => hs H2 (e.trans e2) Q (fun H3 e3 => q H3 (e2.trans e3)) E
/-- a sign is read here; P tells what is known then -/
def GoS (tk : TE) (σ : L2.St) (H : Hp) (P : Bool → Hp → Prop) : Prop := ∀ H1, Ex H H1 → ∀ Q : VK, (∀ c H', P c H' → Q (vB c) H') → tk σ H1 Q
theorem bc_one (c : Bool) : decide ([bc c] = [49]) = c := by cases c <;> decide
/-- .. and asked whether it is a one -/
theorem t_one {tk : TE} {P : Bool → Hp → Prop} {Q : Bool → Hp → Prop} (h : GoS tk σ H P) (k : ∀ c H' H2, P c H' → Ex H' H2 → Q c H2) : tTest (tOp rEq tk (tC (.str (T [49])))) σ H Q :=
  h H (Ex.refl H) _ fun c H' p => (ev_c : Ev (tC (.str (T [49]))) σ H' _) H' (Ex.refl H') _ fun H0 e0 => rv_eqT (a := [bc c]) (b := [49]) H0 (Ex.refl H0) _ fun H2 e2 => ⟨c, by rw [bc_one], k c H' H2 p (e0.trans e2)⟩
/-- number = number * 2 + int(sign == '1') -/
theorem s_num {tk : TE} {P : Bool → Hp → Prop} {i : Nat} {x : Int} {D : Ends} (hx : σ[i]? = some (some (.int x))) (hm : CMulX x 2) (h : GoS tk σ H P) (k : ∀ c H' H2, P c H' → Ex H' H2 → D.nx (σ.set i (some (.int (x * 2 + (if c then 1 else 0))))) H2) :
    tAsg (tOp rAddI (tOp rMulI (tVar i) (tC (.int 2))) (tCB rIntB (tCons (tOp rEq tk (tC (.str (T [49])))) tNil))) (gName i) D σ H :=
  (ev_mulI (ev_var hx) ev_c hm : Ev (tOp rMulI (tVar i) (tC (.int 2))) σ H _) H (Ex.refl H) _ fun H1 e1 => h H1 e1 _ fun c H' p => (ev_c : Ev (tC (.str (T [49]))) σ H' _) H' (Ex.refl H') _ fun H0 e0 => rv_eqT (a := [bc c]) (b := [49]) H0 (Ex.refl H0) _ fun H2 e2 =>
    Or.inr ⟨c, by rw [bc_one], ⟨_, _, rfl, rfl, k c H' H2 p (e0.trans e2)⟩⟩
theorem q_num {tk : TE} {P : Bool → Hp → Prop} {i : Nat} {x : Int} {D : Ends} {tz : TS} (hx : σ[i]? = some (some (.int x))) (hm : CMulX x 2) (h : GoS tk σ H P) (k : ∀ c H' H2, P c H' → Ex H' H2 → tz D (σ.set i (some (.int (x * 2 + (if c then 1 else 0))))) H2) :
    tSeq (tAsg (tOp rAddI (tOp rMulI (tVar i) (tC (.int 2))) (tCB rIntB (tCons (tOp rEq tk (tC (.str (T [49])))) tNil))) (gName i)) tz D σ H := s_num (D := { D with nx := tz D }) hx hm h k
/-- name = f(..), f's promise met -/
theorem q_asgF {sp : Sp} {E : XK} {t : TA} {vs : List V} {i : Nat} {D : Ends} {tz : TS} (h : EvA t σ H vs) (k : ∀ H1, Ex H H1 → sp vs H1 (fun v H2 => tz D (σ.set i (some v)) H2) E) : tSeq (tAsg (tCall sp [] E t) (gName i)) tz D σ H :=
  h H (Ex.refl H) _ fun H1 e1 => by rw [List.append_nil]; exact k H1 e1
theorem s_retSubF {sp : Sp} {E : XK} {t : TA} {vs : List V} {D : Ends} {c : Int} (h : EvA t σ H vs) (k : ∀ H1, Ex H H1 → sp vs H1 (fun v H2 => rSubI v (.int c) H2 D.rt) E) : tRet (tOp rSubI (tCall sp [] E t) (tC (.int c))) D σ H :=
  h H (Ex.refl H) _ fun H1 e1 => by rw [List.append_nil]; exact k H1 e1
theorem s_retF {sp : Sp} {E : XK} {t : TA} {vs : List V} {D : Ends} (h : EvA t σ H vs) (k : ∀ H1, Ex H H1 → sp vs H1 D.rt E) : tRet (tCall sp [] E t) D σ H :=
  h H (Ex.refl H) _ fun H1 e1 => by rw [List.append_nil]; exact k H1 e1
/-- C(..): the new instance stands when its __init__ is done -/
theorem go_make {sp : Sp} {E : XK} {t : TA} {vs : List V} {Q : VK} (ht : EvA t σ H vs) (k : ∀ x dx H1, Ex H H1 → H1 x = none → H1 dx = none → dx ≠ x → sp (.ref x :: vs) (upd (upd H1 dx (.own x)) x (.ins C dx [])) (fun v H2 => v = .non ∧ Q (.ref x) H2) E) : tMake C sp [] E t σ H Q :=
  ht H (Ex.refl H) _ fun H1 e1 x dx hx hd hne => by rw [List.append_nil]; exact k x dx H1 e1 hx hd hne
end
end Kr
/-! rows of counts, whole numbers and bounded numbers; what is read of them -/
namespace Kr
open PySem PySem.Spec PyProof.Rows L2 Evl
def neg (b : List Bool) : List Bool := b.map (!·)
theorem neg_len (b : List Bool) : (neg b).length = b.length := List.length_map _
theorem neg_neg (b : List Bool) : neg (neg b) = b := by
  induction b with
  | nil => rfl
  | cons x b ih =>
    show (!!x) :: neg (neg b) = x :: b
    rw [ih, Bool.not_not]
theorem neg_app (a b : List Bool) : neg (a ++ b) = neg a ++ neg b := List.map_append
/-- the k lower binary digits of x, the higher ones first -/
def digs (x : Int) : Nat → List Bool
  | 0 => []
  | k + 1 => decide (x / 2 ^ k % 2 = 1) :: digs x k
theorem digs_len (x : Int) (k : Nat) : (digs x k).length = k := by
  induction k with
  | zero => rfl
  | succ k ih => rw [digs, List.length_cons, ih]
theorem digs_map (x : Int) : ∀ k : Nat, digs x k = (List.range k).map fun i => decide (x / 2 ^ (k - 1 - i) % 2 = 1)
  | 0 => rfl
  | k + 1 => by
    rw [digs, List.range_succ_eq_map, List.map_cons, List.map_map, digs_map x k]
    congr 1
    refine List.map_congr_left fun i hi => ?_
    have : i < k := List.mem_range.mp hi
    show decide (x / 2 ^ (k - 1 - i) % 2 = 1) = decide (x / 2 ^ (k + 1 - 1 - (i + 1)) % 2 = 1)
    rw [show k + 1 - 1 - (i + 1) = k - 1 - i by omega]
/-- how many binary digits a number from one on has -/
def blen (m : Nat) : Nat := m.log2 + 1
theorem bits_nat {m : Nat} (h : 0 < m) : Builtin.Int.intBits (m : Int) = blen m := by
  unfold Builtin.Int.intBits blen
  rw [if_neg (by simp; omega)]
  rfl
/-- the row of a count -/
def countRow (n : Nat) : List Bool :=
  List.replicate (blen (blen (n + 1)) - 1) true ++ (if blen (blen (n + 1)) - 1 < 7 then [false] else []) ++ digs (blen (n + 1) : Nat) (blen (blen (n + 1)) - 1) ++ digs ((n + 1 : Nat) : Int) (blen (n + 1) - 1)
def countOk (n : Int) : Prop := 0 ≤ n ∧ n < 2 ^ 255 - 1
instance (n : Int) : Decidable (countOk n) := by unfold countOk; infer_instance
theorem blen_le {m k : Nat} (h : m < 2 ^ k) (hm : 0 < m) : blen m ≤ k := by
  unfold blen
  have := (Nat.log2_lt (by omega)).mpr h
  omega
theorem blen_gt {m k : Nat} (h : 2 ^ k ≤ m) : k < blen m := by
  unfold blen
  have hm : m ≠ 0 := by
    have := Nat.two_pow_pos k
    omega
  have := (Nat.le_log2 hm).mpr h
  omega
theorem blen_pos (m : Nat) : 0 < blen m := Nat.succ_pos _
theorem countRow_len {n : Nat} (h : countOk n) : (countRow n).length ≤ 300 := by
  have h1 : blen (n + 1) ≤ 255 := blen_le (by have := h.2; omega) (by omega)
  have h2 : blen (blen (n + 1)) ≤ 8 := blen_le (by omega) (blen_pos _)
  unfold countRow
  simp only [List.length_append, List.length_replicate, digs_len]
  split <;> simp <;> omega
def wholeOk (n : Int) : Prop := -(2 ^ 255) < n + 0 ∧ n < 2 ^ 255 - 1
def wholeRow (n : Int) : List Bool := if n < 0 then false :: neg (countRow (-1 - n).toNat) else true :: countRow n.toNat
theorem wholeOk_neg {n : Int} (h : n < 0) : wholeOk n ↔ countOk (-1 - n) := by
  unfold wholeOk countOk
  constructor
  · rintro ⟨a, b⟩; omega
  · rintro ⟨a, b⟩; omega
theorem wholeOk_pos {n : Int} (h : ¬ n < 0) : wholeOk n ↔ countOk n := by
  unfold wholeOk countOk
  constructor
  · rintro ⟨a, b⟩; omega
  · rintro ⟨a, b⟩; omega
/-- the binary digits of most, none for nought -/
def flen (m : Nat) : Nat := if m = 0 then 0 else blen m
theorem bits_all (m : Nat) : Builtin.Int.intBits (m : Int) = flen m := by
  unfold flen
  by_cases h : m = 0
  · subst h; rfl
  · rw [if_neg h, bits_nat (by omega)]
theorem flen_le {m k : Nat} (h : m < 2 ^ k) : flen m ≤ k := by
  unfold flen
  by_cases h0 : m = 0
  · rw [if_pos h0]; exact Nat.zero_le _
  · rw [if_neg h0]; exact blen_le h (by omega)
def fixedRow (n m : Int) : List Bool := digs n (flen m.toNat)
/-! ### rows read -/
/-- a row, turned or not -/
def nz (n : Bool) (l : List Bool) : List Bool := l.map (· != n)
theorem nz_false (l : List Bool) : nz false l = l := by
  induction l with
  | nil => rfl
  | cons x l ih => cases x <;> simp [nz] at ih ⊢ <;> exact ih
theorem nz_true (l : List Bool) : nz true l = neg l := by
  induction l with
  | nil => rfl
  | cons x l ih => cases x <;> simp [nz, neg] at ih ⊢
theorem nz_app (n : Bool) (a b : List Bool) : nz n (a ++ b) = nz n a ++ nz n b := List.map_append
theorem nz_neg (n : Bool) (l : List Bool) : nz n (neg l) = nz (!n) l := by
  unfold nz neg
  rw [List.map_map]
  refine List.map_congr_left fun c _ => ?_
  cases c <;> cases n <;> rfl
theorem nz_len (n : Bool) (l : List Bool) : (nz n l).length = l.length := List.length_map _
theorem takeB_at {b rest : List Bool} {f n w c : Bool} {t : Nat} (h : b.drop t = (c != n) :: rest) : takeB b f n w t = .ok c (t + 1) ∧ b.drop (t + 1) = rest := by
  have ht : b[t]? = some (c != n) := by
    rw [← List.head?_drop, h]
    rfl
  unfold takeB
  rw [ht]
  refine ⟨by cases c <;> cases n <;> rfl, ?_⟩
  rw [← List.tail_drop, h]
  rfl
theorem mod_two_pow (x : Int) (k : Nat) : x % 2 ^ (k + 1) = x / 2 ^ k % 2 * 2 ^ k + x % 2 ^ k := by
  have hp : (0 : Int) < 2 ^ k := Int.pow_pos (by decide)
  have hr0 := Int.emod_nonneg x (Int.ne_of_gt hp)
  have hr1 := Int.emod_lt_of_pos x hp
  have hx := Int.mul_ediv_add_emod x (2 ^ k)
  have hq := Int.mul_ediv_add_emod (x / 2 ^ k) 2
  have hq01 : x / 2 ^ k % 2 = 0 ∨ x / 2 ^ k % 2 = 1 := by omega
  generalize x % 2 ^ k = r at *
  generalize x / 2 ^ k = q at *
  generalize q % 2 = m at *
  generalize q / 2 = d at *
  have e : x = (m * 2 ^ k + r) + 2 ^ (k + 1) * d := by
    rw [Int.pow_succ, ← hx, ← hq]
    rw [Int.mul_add, Int.mul_comm m (2 ^ k), Int.mul_assoc (2 ^ k) 2 d]
    omega
  rw [e, Int.add_mul_emod_self_left]
  have h2 : (2 : Int) ^ (k + 1) = 2 * 2 ^ k := by rw [Int.pow_succ, Int.mul_comm]
  rcases hq01 with rfl | rfl
  · exact Int.emod_eq_of_lt (by omega) (by omega)
  · exact Int.emod_eq_of_lt (by omega) (by omega)
theorem tdig_at {b post : List Bool} {f n : Bool} {x : Int} : ∀ {k : Nat} {y : Int} {t : Nat}, b.drop t = nz n (digs x k) ++ post → tdig b f n k y t = .ok (y * 2 ^ k + x % 2 ^ k) (t + k) ∧ b.drop (t + k) = post
  | 0, y, t, h => by
    refine ⟨?_, h⟩
    unfold tdig
    rw [Int.pow_zero, Int.mul_one, Int.emod_one, Int.add_zero]
    rfl
  | k + 1, y, t, h => by
    obtain ⟨h1, h2⟩ := takeB_at (f := f) (w := false) (show b.drop t = (decide (x / 2 ^ k % 2 = 1) != n) :: (nz n (digs x k) ++ post) from h)
    unfold tdig
    rw [h1]
    obtain ⟨h3, h4⟩ := tdig_at (f := f) (y := y * 2 + (if decide (x / 2 ^ k % 2 = 1) = true then 1 else 0)) h2
    refine ⟨?_, by rw [show t + (k + 1) = t + 1 + k by omega]; exact h4⟩
    show tdig b f n k _ (t + 1) = _
    rw [h3, mod_two_pow, show t + (k + 1) = t + 1 + k by omega]
    congr 1
    have hp : (2 : Int) ^ (k + 1) = 2 * 2 ^ k := by rw [Int.pow_succ, Int.mul_comm]
    have : x / 2 ^ k % 2 = 0 ∨ x / 2 ^ k % 2 = 1 := by omega
    rw [hp, ← Int.mul_assoc]
    rcases this with h | h <;> rw [h] <;> simp
    rw [Int.add_mul, Int.one_mul]
    omega
theorem tones_at {b post : List Bool} {f n : Bool} : ∀ {k j o : Nat} {w : Bool} {t : Nat}, j ≤ k → b.drop t = nz n (List.replicate j true ++ (if j < k then [false] else [])) ++ post → tones b f n k w o t = .ok (o + j) (t + j + (if j < k then 1 else 0)) ∧ b.drop (t + j + (if j < k then 1 else 0)) = post
  | 0, j, o, w, t, hj, h => by
    obtain rfl : j = 0 := by omega
    exact ⟨rfl, h⟩
  | k + 1, 0, o, w, t, hj, h => by
    rw [if_pos (Nat.succ_pos k)] at h ⊢
    obtain ⟨h1, h2⟩ := takeB_at (f := f) (w := w) (c := false) (show b.drop t = (false != n) :: post from h)
    unfold tones
    rw [h1]
    exact ⟨rfl, h2⟩
  | k + 1, j + 1, o, w, t, hj, h => by
    obtain ⟨h1, h2⟩ := takeB_at (f := f) (w := w) (c := true) (show b.drop t = (true != n) :: (nz n (List.replicate j true ++ (if j + 1 < k + 1 then [false] else [])) ++ post) from h)
    have e : (if j + 1 < k + 1 then [false] else []) = (if j < k then [false] else [] : List Bool) := by
      by_cases q : j < k
      · rw [if_pos q, if_pos (by omega)]
      · rw [if_neg q, if_neg (by omega)]
    have e2 : (if j + 1 < k + 1 then 1 else 0) = (if j < k then 1 else 0 : Nat) := by
      by_cases q : j < k
      · rw [if_pos q, if_pos (by omega)]
      · rw [if_neg q, if_neg (by omega)]
    rw [e] at h2
    rw [e2]
    obtain ⟨h3, h4⟩ := tones_at (k := k) (j := j) (o := o + 1) (f := f) (w := false) (by omega) h2
    unfold tones
    rw [h1]
    refine ⟨?_, by rw [show t + (j + 1) = t + 1 + j by omega]; exact h4⟩
    show tones b f n k false (o + 1) (t + 1) = _
    rw [h3, show o + 1 + j = o + (j + 1) by omega, show t + 1 + j = t + (j + 1) by omega]
/-- the highest digit is a one -/
theorem blen_top {m : Nat} (h : 0 < m) : 1 * 2 ^ (blen m - 1) + (m : Int) % 2 ^ (blen m - 1) = m := by
  have h1 : 2 ^ (blen m - 1) ≤ m := by
    unfold blen
    exact Nat.log2_self_le (by omega)
  have h2 : m < 2 ^ blen m := by
    unfold blen
    exact Nat.lt_log2_self
  have h3 : 2 ^ blen m = 2 ^ (blen m - 1) * 2 := by
    rw [← Nat.pow_succ]
    congr 1
  have e : (m : Int) % 2 ^ (blen m - 1) = ((m % 2 ^ (blen m - 1) : Nat) : Int) := by simp
  rw [e, Int.one_mul]
  have e2 : m % 2 ^ (blen m - 1) = m - 2 ^ (blen m - 1) := by
    rw [Nat.mod_eq_sub_mod h1, Nat.mod_eq_of_lt (by omega)]
  rw [e2]
  have e3 : ((2 : Int) ^ (blen m - 1)) = ((2 ^ (blen m - 1) : Nat) : Int) := by simp
  rw [e3]
  omega
theorem countRow_size {m : Nat} (h : countOk m) : blen (m + 1) ≤ 255 ∧ blen (blen (m + 1)) ≤ 8 := by
  have h1 : blen (m + 1) ≤ 255 := blen_le (by have := h.2; omega) (by omega)
  exact ⟨h1, blen_le (by omega) (blen_pos _)⟩
theorem tcount_at {b post : List Bool} {f n w : Bool} {m t : Nat} (hm : countOk m) (h : b.drop t = nz n (countRow m) ++ post) : tcount b f n w t = .ok m (t + (countRow m).length) ∧ b.drop (t + (countRow m).length) = post := by
  obtain ⟨hs1, hs2⟩ := countRow_size hm
  have hz := blen_pos (blen (m + 1))
  unfold countRow at h ⊢
  have hM : (1 * 2 ^ (blen (m + 1) - 1) + ((m + 1 : Nat) : Int) % 2 ^ (blen (m + 1) - 1)) = ((m + 1 : Nat) : Int) := blen_top (Nat.succ_pos m)
  have hL : (1 * 2 ^ (blen (blen (m + 1)) - 1) + ((blen (m + 1) : Nat) : Int) % 2 ^ (blen (blen (m + 1)) - 1)) = ((blen (m + 1) : Nat) : Int) := blen_top (blen_pos _)
  have hpos := blen_pos (m + 1)
  generalize hj : blen (blen (m + 1)) - 1 = j at h hL ⊢
  generalize hl : blen (m + 1) = l at *
  rw [nz_app, nz_app, List.append_assoc, List.append_assoc] at h
  obtain ⟨h1, h2⟩ := tones_at (k := 7) (j := j) (o := 0) (f := f) (w := w) (by omega) h
  obtain ⟨h3, h4⟩ := tdig_at (f := f) (y := 1) h2
  obtain ⟨h5, h6⟩ := tdig_at (f := f) (y := 1) h4
  have len : (List.replicate j true ++ (if j < 7 then [false] else []) ++ digs (l : Int) j ++ digs ((m + 1 : Nat) : Int) (l - 1)).length = j + (if j < 7 then 1 else 0) + j + (l - 1) := by
    simp only [List.length_append, List.length_replicate, digs_len]
    split <;> rfl
  rw [len]
  refine ⟨?_, by rw [← h6]; congr 1; omega⟩
  unfold tcount
  rw [h1]
  show ((tdig b f n (0 + j) 1 _).bind _) = _
  rw [Nat.zero_add, h3]
  show ((tdig b f n (1 * 2 ^ j + (l : Int) % 2 ^ j - 1).toNat 1 _).bind _) = _
  rw [hL, show ((l : Int) - 1).toNat = l - 1 by omega, h5, hM]
  show Res.ok _ _ = Res.ok _ _
  congr 1
  · omega
  · omega
theorem twhole_at {b post : List Bool} {f n : Bool} {x : Int} {t : Nat} (hx : wholeOk x) (h : b.drop t = nz n (wholeRow x) ++ post) : twhole b f n t = .ok x (t + (wholeRow x).length) ∧ b.drop (t + (wholeRow x).length) = post := by
  unfold wholeRow at h ⊢
  by_cases h0 : x < 0
  · rw [if_pos h0] at h ⊢
    have hc : countOk (-1 - x) := (wholeOk_neg h0).mp hx
    obtain ⟨m, hm⟩ := Int.eq_ofNat_of_zero_le (show 0 ≤ -1 - x by omega)
    rw [hm] at h hc ⊢
    rw [Int.toNat_natCast] at h ⊢
    obtain ⟨h1, h2⟩ := takeB_at (f := f) (w := true) (c := false) (show b.drop t = (false != n) :: (nz n (neg (countRow m)) ++ post) from h)
    rw [nz_neg] at h2
    obtain ⟨h3, h4⟩ := tcount_at (f := f) (w := false) hc h2
    rw [List.length_cons, neg_len]
    refine ⟨?_, by rw [← h4]; congr 1; omega⟩
    unfold twhole
    rw [h1]
    show ((tcount b f (!n) false (t + 1)).bind _) = _
    rw [h3]
    show Res.ok _ _ = Res.ok _ _
    congr 1
    · omega
    · omega
  · rw [if_neg h0] at h ⊢
    have hc : countOk x := (wholeOk_pos h0).mp hx
    obtain ⟨m, hm⟩ := Int.eq_ofNat_of_zero_le (show 0 ≤ x by omega)
    subst hm
    rw [Int.toNat_natCast] at h ⊢
    obtain ⟨h1, h2⟩ := takeB_at (f := f) (w := true) (c := true) (show b.drop t = (true != n) :: (nz n (countRow m) ++ post) from h)
    obtain ⟨h3, h4⟩ := tcount_at (f := f) (w := false) hc h2
    rw [List.length_cons]
    refine ⟨?_, by rw [← h4]; congr 1; omega⟩
    unfold twhole
    rw [h1]
    show tcount b f n false (t + 1) = _
    rw [h3]
    congr 1
    omega
theorem div_digit (x : Int) (k : Nat) : x / 2 ^ (k + 1) * 2 + (if decide (x / 2 ^ k % 2 = 1) = true then 1 else 0) = x / 2 ^ k := by
  have h2 : x / 2 ^ (k + 1) = x / 2 ^ k / 2 := by
    rw [Int.pow_succ, Int.ediv_ediv_of_nonneg (Int.le_of_lt (Int.pow_pos (by decide)))]
  rw [h2]
  have : x / 2 ^ k % 2 = 0 ∨ x / 2 ^ k % 2 = 1 := by omega
  rcases this with h | h <;> rw [h] <;> simp <;> omega
theorem tfix_at {b post : List Bool} {f n : Bool} {x most : Int} (hx : x ≤ most) : ∀ {k : Nat} {t : Nat}, b.drop t = nz n (digs x k) ++ post → tfix b f n most k (x / 2 ^ k) t = .ok x (t + k) ∧ b.drop (t + k) = post
  | 0, t, h => by
    refine ⟨?_, h⟩
    unfold tfix
    rw [Int.pow_zero, Int.ediv_one]
    rfl
  | k + 1, t, h => by
    obtain ⟨h1, h2⟩ := takeB_at (f := f) (w := false) (show b.drop t = (decide (x / 2 ^ k % 2 = 1) != n) :: (nz n (digs x k) ++ post) from h)
    obtain ⟨h3, h4⟩ := tfix_at hx h2 (f := f)
    refine ⟨?_, by rw [show t + (k + 1) = t + 1 + k by omega]; exact h4⟩
    unfold tfix
    rw [h1]
    show (if x / 2 ^ (k + 1) * 2 + (if decide (x / 2 ^ k % 2 = 1) = true then 1 else 0) > most / 2 ^ k then _ else tfix b f n most k (x / 2 ^ (k + 1) * 2 + (if decide (x / 2 ^ k % 2 = 1) = true then 1 else 0)) (t + 1)) = _
    rw [div_digit, if_neg (by have := Int.ediv_le_ediv (Int.pow_pos (n := 2) (m := k) (by decide)) hx; omega), h3]
    congr 1
    omega
/-- the binary digits of a number, none for nought -/
def bin (m : Nat) : List Bool := digs (m : Int) (flen m)
end Kr
namespace Kr
open PySem PySem.Spec PyProof.Rows L2 Evl
theorem digs_last (x : Int) : ∀ k : Nat, digs x (k + 1) = digs (x / 2) k ++ [decide (x % 2 = 1)]
  | 0 => by
    show [decide (x / 2 ^ 0 % 2 = 1)] = _
    rw [Int.pow_zero, Int.ediv_one]
    rfl
  | k + 1 => by
    rw [digs, digs_last x k, digs]
    have : x / 2 / 2 ^ k = x / 2 ^ (k + 1) := by
      rw [Int.ediv_ediv_of_nonneg (by decide), Int.pow_succ, Int.mul_comm]
    rw [this]
    rfl
theorem bin_zero : bin 0 = [] := rfl
theorem flen_half {m : Nat} (h : 0 < m) : flen m = flen (m / 2) + 1 := by
  unfold flen
  rw [if_neg (by omega)]
  by_cases h2 : m / 2 = 0
  · rw [if_pos h2]
    obtain rfl : m = 1 := by omega
    rfl
  · rw [if_neg h2]
    unfold blen
    have h3 : m.log2 = (m / 2).log2 + 1 := by
      rw [Nat.log2_def m, if_pos (by omega)]
    rw [h3]
theorem bin_step {m : Nat} (h : 0 < m) : bin m = bin (m / 2) ++ [decide ((m : Int) % 2 = 1)] := by
  unfold bin
  rw [flen_half h, digs_last]
  congr 1
theorem bin_len (m : Nat) : (bin m).length = flen m := digs_len _ _
section
variable {K : PySem.W.Frag} {σ : L2.St} {H : Hp} {ta tb tc te : TE} {v x y z : V}
/-- an item of a tuple -/
theorem ev_ixU {p : Addr} {xs : List V} {i : Int} (ha : Ev ta σ H (.ref p)) (hp : H p = some (.tup xs)) (hb : Ev tb σ H (.int i)) (hv : atI xs i = some v) : Ev (tOp (rIxT K) ta tb) σ H v := ev_op ha hb (Evl.rv_ixT (st_of hp) hv)
theorem ev_lenU {p : Addr} {xs : List V} (ha : Ev ta σ H (.ref p)) (hp : H p = some (.tup xs)) : Ev (tCB (rLenK K) (tCons ta tNil)) σ H (.int (xs.length : Int)) := ev_lenS ha (.inr (st_of hp))
def SpU (sp : Sp) (vs : List V) (H : Hp) (xs : List V) : Prop := ∀ H1, Ex H H1 → ∀ Q : VK, RetU xs H1 Q → ∀ E : XK, sp vs H1 Q E
theorem eu_call {sp : Sp} {vs xs : List V} {E : XK} {t : TA} (h : EvA t σ H vs) (hs : SpU sp vs H xs) : EvU (tCall sp [] E t) σ H xs := fun H1 e Q q =>
  h H1 e _ fun H2 e2 => by
    rw [List.append_nil]
    exact hs H2 (e.trans e2) Q (fun p H3 hp e3 h3 => q p H3 (fresh_back e2 hp) (e2.trans e3) h3) E
/-- a call of three, the first a new tuple -/
theorem ev_callU3 {sp : Sp} {E : XK} {xs : List V} (h : EvU ta σ H xs) (hb : ∀ H1, Ex H H1 → Ev tb σ H1 x) (hc : ∀ H1, Ex H H1 → Ev tc σ H1 y) (hs : ∀ p H1, Ex H H1 → H1 p = some (.tup xs) → SpV sp [.ref p, x, y] H1 z) : Ev (tCall sp [] E (tCons ta (tCons tb (tCons tc tNil)))) σ H z := fun H1 e Q q =>
  h H1 e _ fun p H2 _ e2 hp => hb H2 (e.trans e2) H2 (Ex.refl H2) _ fun H3 e3 => hc H3 ((e.trans e2).trans e3) H3 (Ex.refl H3) _ fun H4 e4 => hs p H4 (((e.trans e2).trans e3).trans e4) ((e3.trans e4) _ _ hp) H4 (Ex.refl H4) Q (fun H5 e5 => q H5 (((e2.trans e3).trans e4).trans e5)) E
theorem ev_lenR {b : List Bool} (h : Ev ta σ H (.str (T (R b)))) (hl : b.length ≤ 16000000) : Ev (tCB (rLenK K) (tCons ta tNil)) σ H (.int (b.length : Int)) := by
  have := ev_lenT (K := K) h (by rw [R_len]; exact hl)
  rwa [R_len] at this
theorem ev_addR {a b : List Bool} (ha : Ev ta σ H (.str (T (R a)))) (hb : Ev tb σ H (.str (T (R b)))) (h : a.length + b.length ≤ 16000000) : Ev (tOp rAddT ta tb) σ H (.str (T (R (a ++ b)))) := by
  rw [R_app]
  exact ev_addT ha hb (by rw [R_len, R_len]; exact h)
end
theorem two_step {x : Int} {m : Nat} (c : Bool) (h : x.natAbs < 2 ^ m) : (x * 2 + (if c then 1 else 0)).natAbs < 2 ^ (m + 1) := by
  rw [Nat.pow_succ]
  cases c <;> simp <;> omega
theorem zeros_R (n : Nat) : (List.replicate n [48]).flatten = R (List.replicate n false) := by
  induction n with
  | zero => rfl
  | succ n ih => rw [List.replicate_succ, List.flatten_cons, ih, List.replicate_succ]; rfl
theorem ev_zeros {σ : L2.St} {H : Hp} {te : TE} {n : Int} (h : Ev te σ H (.int n)) (h0 : -1000 ≤ n) (h1 : n ≤ 1000) : Ev (tOp rMulT (tC (.str (T [48]))) te) σ H (.str (T (R (List.replicate n.toNat false)))) :=
  ev_is (ev_mulT ev_c h (by omega) (by omega) (by simp; omega)) (by rw [zeros_R])
end Kr
/-! the rows of counts and whole numbers stand as the numbers do; beginnings of texts -/
namespace Kr
open PySem PySem.Spec PyProof.Rows L2 Evl
/-- two rows part at a place, the one has 0 there, the other 1 -/
def Split (a b : List Bool) : Prop := ∃ p s t, a = p ++ false :: s ∧ b = p ++ true :: t
theorem Split.lt {a b : List Bool} (h : Split a b) : R a < R b := by
  obtain ⟨p, s, t, rfl, rfl⟩ := h
  exact R_lt_split
theorem Split.pre {a b : List Bool} (h : Split a b) (c : List Bool) : Split (c ++ a) (c ++ b) := by
  obtain ⟨p, s, t, rfl, rfl⟩ := h
  exact ⟨c ++ p, s, t, by rw [List.append_assoc], by rw [List.append_assoc]⟩
theorem Split.post {a b : List Bool} (h : Split a b) (c d : List Bool) : Split (a ++ c) (b ++ d) := by
  obtain ⟨p, s, t, rfl, rfl⟩ := h
  exact ⟨p, s ++ c, t ++ d, by rw [List.append_assoc]; rfl, by rw [List.append_assoc]; rfl⟩
theorem Split.neg {a b : List Bool} (h : Split a b) : Split (neg b) (neg a) := by
  obtain ⟨p, s, t, rfl, rfl⟩ := h
  exact ⟨Kr.neg p, Kr.neg t, Kr.neg s, by rw [neg_app]; rfl, by rw [neg_app]; rfl⟩
theorem Split.no1 {a b : List Bool} (h : Split a b) : ¬ a <+: b := by
  obtain ⟨p, s, t, rfl, rfl⟩ := h
  intro ⟨c, hc⟩
  rw [List.append_assoc] at hc
  have := List.append_cancel_left hc
  simp at this
theorem Split.no2 {a b : List Bool} (h : Split a b) : ¬ b <+: a := by
  obtain ⟨p, s, t, rfl, rfl⟩ := h
  intro ⟨c, hc⟩
  rw [List.append_assoc] at hc
  have := List.append_cancel_left hc
  simp at this
theorem Split.ne {a b : List Bool} (h : Split a b) : a ≠ b := fun z => h.no1 (by rw [z]; exact List.prefix_refl _)
theorem digs_split {x y : Int} : ∀ {k : Nat}, x % 2 ^ k < y % 2 ^ k → Split (digs x k) (digs y k)
  | 0, h => by
    rw [Int.pow_zero, Int.emod_one, Int.emod_one] at h
    exact absurd h (Int.lt_irrefl _)
  | k + 1, h => by
    rw [mod_two_pow x, mod_two_pow y] at h
    have hp : (0 : Int) < 2 ^ k := Int.pow_pos (by decide)
    have x0 := Int.emod_nonneg x (Int.ne_of_gt hp)
    have x1 := Int.emod_lt_of_pos x hp
    have y0 := Int.emod_nonneg y (Int.ne_of_gt hp)
    have y1 := Int.emod_lt_of_pos y hp
    have dx : x / 2 ^ k % 2 = 0 ∨ x / 2 ^ k % 2 = 1 := by omega
    have dy : y / 2 ^ k % 2 = 0 ∨ y / 2 ^ k % 2 = 1 := by omega
    rw [digs, digs]
    rcases dx with dx | dx <;> rcases dy with dy | dy <;> rw [dx, dy] at h ⊢
    · exact (digs_split (k := k) (by simpa using h)).pre [false]
    · exact ⟨[], digs x k, digs y k, rfl, rfl⟩
    · exact absurd h (by omega)
    · exact (digs_split (k := k) (by omega)).pre [true]
theorem blen_mono {n m : Nat} (h0 : 0 < n) (h : n ≤ m) : blen n ≤ blen m := by
  refine blen_le ?_ h0
  unfold blen
  exact Nat.lt_of_le_of_lt h Nat.lt_log2_self
/-- numbers of as many digits: what follows the first digit stands as the numbers -/
theorem top_lt {n m : Nat} (h0 : 0 < n) (h : n < m) (e : blen n = blen m) : ((n : Int) % 2 ^ (blen n - 1)) < ((m : Int) % 2 ^ (blen n - 1)) := by
  have h1 := blen_top h0
  have h2 := blen_top (show 0 < m by omega)
  rw [← e] at h2
  omega
theorem rep_split {i j : Nat} (h : i < j) (c : List Bool) : Split (List.replicate i true ++ false :: c) (List.replicate j true) := by
  refine ⟨List.replicate i true, c, List.replicate (j - i - 1) true, rfl, ?_⟩
  have : j = i + ((j - i - 1) + 1) := by omega
  conv => lhs; rw [this]
  rw [← List.replicate_append_replicate, List.replicate_succ]
theorem countRow_split {n m : Nat} (hn : countOk n) (hm : countOk m) (h : n < m) : Split (countRow n) (countRow m) := by
  obtain ⟨a1, a2⟩ := countRow_size hn
  obtain ⟨b1, b2⟩ := countRow_size hm
  have hL : blen (n + 1) ≤ blen (m + 1) := blen_mono (by omega) (by omega)
  have hS : blen (blen (n + 1)) ≤ blen (blen (m + 1)) := blen_mono (blen_pos _) hL
  have p1 := blen_pos (blen (n + 1))
  unfold countRow
  by_cases e : blen (blen (n + 1)) = blen (blen (m + 1))
  · rw [← e]
    by_cases e2 : blen (n + 1) = blen (m + 1)
    · rw [← e2]
      refine Split.pre (digs_split ?_) _
      exact top_lt (by omega) (by omega) e2
    · refine Split.post (Split.pre (digs_split ?_) _) _ _
      exact top_lt (blen_pos _) (by omega) e
  · rw [if_pos (by omega)]
    have := rep_split (i := blen (blen (n + 1)) - 1) (j := blen (blen (m + 1)) - 1) (by omega) []
    have h2 := this.post (digs (blen (n + 1) : Nat) (blen (blen (n + 1)) - 1) ++ digs ((n + 1 : Nat) : Int) (blen (n + 1) - 1)) ((if blen (blen (m + 1)) - 1 < 7 then [false] else []) ++ digs (blen (m + 1) : Nat) (blen (blen (m + 1)) - 1) ++ digs ((m + 1 : Nat) : Int) (blen (m + 1) - 1))
    simpa [List.append_assoc] using h2
theorem wholeRow_split {x y : Int} (hx : wholeOk x) (hy : wholeOk y) (h : x < y) : Split (wholeRow x) (wholeRow y) := by
  unfold wholeRow
  by_cases h0 : x < 0
  · by_cases h1 : y < 0
    · rw [if_pos h0, if_pos h1]
      have cx := (wholeOk_neg h0).mp hx
      have cy := (wholeOk_neg h1).mp hy
      refine Split.pre (c := [false]) (Split.neg (countRow_split ?_ ?_ (by omega)))
      · rw [Int.toNat_of_nonneg (by omega)]; exact cy
      · rw [Int.toNat_of_nonneg (by omega)]; exact cx
    · rw [if_pos h0, if_neg h1]
      exact ⟨[], _, _, rfl, rfl⟩
  · have h1 : ¬ y < 0 := by omega
    rw [if_neg h0, if_neg h1]
    have cx := (wholeOk_pos h0).mp hx
    have cy := (wholeOk_pos h1).mp hy
    refine Split.pre (c := [true]) (countRow_split ?_ ?_ (by omega))
    · rw [Int.toNat_of_nonneg (by omega)]; exact cx
    · rw [Int.toNat_of_nonneg (by omega)]; exact cy
theorem countRow_most {n : Nat} (h : countOk n) : (countRow n).length ≤ blen (n + 1) + 14 := by
  obtain ⟨a1, a2⟩ := countRow_size h
  have p1 := blen_pos (blen (n + 1))
  have p2 := blen_pos (n + 1)
  unfold countRow
  simp only [List.length_append, List.length_replicate, digs_len]
  split <;> simp <;> omega
theorem wholeRow_len {x : Int} (h : wholeOk x) : (wholeRow x).length ≤ 301 := by
  unfold wholeRow
  by_cases h0 : x < 0
  · rw [if_pos h0, List.length_cons, neg_len]
    have := countRow_len (n := (-1 - x).toNat) (by rw [Int.toNat_of_nonneg (by omega)]; exact (wholeOk_neg h0).mp h)
    omega
  · rw [if_neg h0, List.length_cons]
    have := countRow_len (n := x.toNat) (by rw [Int.toNat_of_nonneg (by omega)]; exact (wholeOk_pos h0).mp h)
    omega
section
variable {K : PySem.W.Frag} {σ : L2.St} {H : Hp} {ta tb : TE} {x z : V}
/-- a call of two, the second a value of which a word holds -/
theorem ev_callW2 {sp : Sp} {E : XK} {P : V → Prop} (ha : Ev ta σ H x) (hb : EvW tb σ H P) (hs : ∀ y H1, P y → Ex H H1 → SpV sp [x, y] H1 z) : Ev (tCall sp [] E (tCons ta (tCons tb tNil))) σ H z := fun H1 e Q q =>
  ha H1 e _ fun H2 e2 => hb H2 (e.trans e2) _ fun y H3 hy e3 => hs y H3 hy ((e.trans e2).trans e3) H3 (Ex.refl H3) Q (fun H4 e4 => q H4 ((e2.trans e3).trans e4)) E
/-- a call of two, the first what makes or reads -/
theorem go_call2 {te tw : TE} {sp : Sp} {E : XK} {Q : VK} {w : V} {P : V → Hp → Prop} (h : ∀ Q2 : VK, (∀ x H1, P x H1 → Q2 x H1) → te σ H Q2) (hw : ∀ H1, Ev tw σ H1 w) (k : ∀ x H1 H2, P x H1 → Ex H1 H2 → sp [x, w] H2 Q E) : tCall sp [] E (tCons te (tCons tw tNil)) σ H Q :=
  h _ fun x H1 p => hw H1 H1 (Ex.refl H1) _ fun H2 e2 => k x H1 H2 p e2
/-- return a op b, b what promises more -/
theorem s_retOpF {r : R2} {D : Ends} (ha : Ev ta σ H x) (k : ∀ H1, Ex H H1 → tb σ H1 (fun y H2 => r x y H2 D.rt)) : tRet (tOp r ta tb) D σ H := ha H (Ex.refl H) _ k
theorem s_retW {P : V → Prop} {D : Ends} (h : EvW tb σ H P) (k : ∀ v H1, P v → Ex H H1 → D.rt v H1) : tRet tb D σ H := h H (Ex.refl H) _ k
end
/-! ### startswith -/
def rStarts : V → List V → Hp → VK → Prop := fun x xs H Q => ∃ a b, x = .str a ∧ xs = [.str b] ∧ Q (.bl (Txt.startswith a b)) H
theorem mt_starts {X : Cx} : MtR X "str.startswith" rStarts := mt_startswith
theorem starts_T (a b : List Nat) : Txt.startswith (T a) (T b) = decide (b <+: a) := by
  unfold Txt.startswith
  rw [PySem.StrLaws.subAt_eq]
  show (decide (0 + (T b).length ≤ (T a).length) && (((T a).cps.toList.drop 0).take (T b).length == (T b).cps.toList)) = _
  rw [T_len, T_len]
  have e : (T a).cps.toList = a := rfl
  have e2 : (T b).cps.toList = b := rfl
  rw [e, e2, List.drop_zero, Nat.zero_add]
  by_cases h : b <+: a
  · rw [decide_eq_true h, decide_eq_true h.length_le, Bool.true_and, beq_iff_eq]
    exact (List.prefix_iff_eq_take.mp h).symm
  · rw [decide_eq_false h, Bool.and_eq_false_iff]
    refine .inr ?_
    rw [beq_eq_false_iff_ne]
    exact fun z => h (List.prefix_iff_eq_take.mpr z.symm)
theorem R_pre {a b : List Bool} : R b <+: R a ↔ b <+: a := by
  constructor
  · intro ⟨c, hc⟩
    refine List.prefix_iff_eq_take.mpr ?_
    have := congrArg (List.take (R b).length) hc
    rw [List.take_left, R_len, R_take] at this
    exact R_inj this
  · intro ⟨c, hc⟩
    exact ⟨R c, by rw [← R_app, hc]⟩
theorem ev_startsR {K : PySem.W.Frag} {σ : L2.St} {H : Hp} {ta tb : TE} {a b : List Bool} (ha : Ev ta σ H (.str (T (R a)))) (hb : Ev tb σ H (.str (T (R b)))) : Ev (tBM K "str" rStarts ta (tCons tb tNil)) σ H (.bl (decide (b <+: a))) := fun H1 e Q q =>
  ha H1 e _ fun H2 e2 => ⟨rfl, hb H2 (e.trans e2) _ fun H3 e3 => ⟨T (R a), T (R b), rfl, rfl, by
    have := q H3 (e2.trans e3)
    rw [starts_T]
    rwa [show decide (R b <+: R a) = decide (b <+: a) from decide_eq_decide.mpr R_pre]⟩⟩
theorem cut_lenN {ns : List Int} (k : Nat) : ((cutV (ns.map V.int) none (some (k : Int))).length : Int) = ((min k ns.length : Nat) : Int) := by
  unfold cutV
  rw [HT.sIx_none, HT.sIx_nat]
  simp
end Kr
/-! errors raised where nothing is handled (their context is None), and an except suite that raises another one -/
namespace Kr
open PySem PySem.Spec PyProof.Rows L2 Evl
section
variable {P : Program} {w : World} {K : PySem.W.Frag} {mg : Str → Option Value} {base : Heap} {k : Nat} {f : Addr} {fd : FuncData} {ps : List Str} {sp : Sp}
theorem cxN_up {outer : List Env} {H : Hp} {s s' : Shared} {E : XK} {u : Value} (h : L2N.CX P w outer H s E u s') : L2.CX P w outer H s E u s' := by
  obtain ⟨a, B, H1, cls, d, e, fl, r⟩ := h
  exact ⟨a, B, H1, cls, d, e, L2H.flyingZ_imp (fun _ z => L2N.Zn.zc z) fl, r⟩
/-- a def whose errors have no context keeps the weaker promise too -/
theorem fnok_up (F : FnOk P w K mg base (L2N.CX P w) k f fd ps sp) : FnOk P w K mg base (L2.CX P w) k f fd ps sp :=
  ⟨F.len, fun A outer s H args us vs Q E hr he hb hv hs => codeAny_mono (F.run A outer s H args us vs Q E hr he hb hv hs) fun r s' x => by
    cases r with
    | ok fl => cases fl <;> exact x
    | error er => exact cxN_up x⟩
end
theorem passLN {X : Cx} : Passes (L2N.CX X.prog X.w) X E0 := fun _ _ _ _ _ _ _ h => by
  obtain ⟨_, _, _, _, _, _, _, _, _, _, _, _, z⟩ := h
  exact z.elim
section
variable {X : Cx} {e : Expr} {es : List Expr} {ta : TA} {p pos : Pos}
/-- C(..) with an own __init__, nothing being handled: the new error's context is None -/
theorem pmkN_oex {CX : CXT} {x : Str} {C fI : Addr} {k : Nat} {fd : FuncData} {ps : List Str} {sp : Sp} (T : OexC X.K C) (iC : PySem.W.findIn X.K (.ref C) "__init__" = some (some (.ref fI))) (tI : PySem.W.typeIn X.K (.ref fI) = some (.type "function"))
    (F1 : FnOk X.prog X.w X.K X.mg X.base CX k fI fd ps sp) (room : Room (k + 1) X.A) (bi : Binds X.K fd ps []) (no : Passes CX X (fun _ _ _ => False)) (gx : Gl X x) (mx : X.mg x = some (.ref C)) (pa : PA X (e :: es) ta)
    (dbg : (x == ("__debug__" : Str)) = false := by decide) (se : starEach (e :: es) X.env = (false, eval e X.env) :: starEach es X.env := by rfl) (pl : (backTo pos (starEach es X.env)).any (·.1) = false := by rfl) :
    L2N.PMk X (.Call (.Name x p) (e :: es) [] pos) (tMkO C sp [] ta) := fun pn0 s0 σ0 H0 Q0 J0 w0 => by
  obtain ⟨_, _, _, _, bm, _, _, _, _, _, _, _, _, _, _, lk, mro⟩ := T.cls
  refine wpAny_Call_Name_kw (ld_glob J0 gx mx (PySem.W.callWith_K (h₀ := X.base) J0.ok.mod.kin T.kC (thn (pa.run pos pn0 s0 σ0 H0 _ J0 w0) fun us sA ⟨ws, HA, JA, rA, lA, wA⟩ => ⟨JA.kIn, ?_⟩) se pl) dbg)
  obtain ⟨hA, gA, dA, tA, oA⟩ := sA
  show wpAny _ _ (call (.ref C) us) _ _ _
  let n := hA.objs.size
  let hB := (hA.push (PySem.W.kdv_tup us)).push (PySem.HandSPX.excO C n)
  have old : ∀ b o, hA.get? b = some o → hB.get? b = some o := fun b o q => Heap.get?_push_of_some _ (Heap.get?_push_of_some _ q)
  have at1 : hB.get? (n + 1) = some (PySem.HandSPX.excO C n) := by
    show ((hA.push (PySem.W.kdv_tup us)).push (PySem.HandSPX.excO C hA.objs.size)).get? (hA.objs.size + 1) = some (PySem.HandSPX.excO C hA.objs.size)
    heap_get
  have le : hA.objs.size ≤ n + 1 := Nat.le_succ _
  have promise := wA (n + 1) (JA.hok.fresh le)
  have JB : Inv X pn0 σ0 (upd HA (n + 1) (exo (n + 1) C none)) ⟨hB, gA, dA, tA, oA⟩ := JA.laid (t' := tA) (a := n + 1) (o := exo (n + 1) C none) (h' := hB) old le (exo_ok at1)
  have rB : Vals (V.ref (n + 1) :: (ws ++ [])) (Value.ref (n + 1) :: (us ++ [])) := .cons rfl (rA.append .nil)
  have sizes : us.length ≤ sizeLine := by
    rw [← Paired.length rA, sizeLine_eq]; omega
  have many : (Value.ref (n + 1) :: us ++ []).length = ps.length := (rB.length.symm.trans (F1.len _ _ _ _ promise))
  have bb := bi _ (Value.ref (n + 1) :: us) JB.kIn many
  rw [List.cons_append] at bb
  have ran := F1.run _ X.stack _ _ ⟨Value.ref (n + 1) :: us, []⟩ (Value.ref (n + 1) :: (us ++ [])) _ _ (fun _ _ _ => False) (room.make C us []) (JB.env0.make C us []) bb rB promise
  refine wpAny_call (PySem.HandSPX.call_own F.excBase_ValueError (fun Y => PySem.HandSPX.refsVE_contains Y bm mro) (JA.kIn _ _ lk) (PySem.W.looks_findIn JA.kIn iC) (fun self => PySem.W.bind_fn JA.kIn self tI) sizes (codeAny_mono ran fun r sC out => ?_))
  match r, out with
  | .error er, out => exact no pn0 σ0 _ _ er sC JB out
  | .ok (.ret u), out =>
    obtain ⟨v, HC, osC, bareC, unC, okC, rv, non, d, fs, e1, e2, e3, qC⟩ := out
    subst non
    obtain ⟨hC, gC, dC, tC, oC⟩ := sC
    obtain ⟨t0, G, JG, kG, ge, hoe, na⟩ := mk_end0 (d2 := dC) (t2 := tC) JA le old unC okC osC bareC e1 e2 e3
    exact ⟨rv, n + 1, _, _, ⟨G, gC, dC, tC, oC⟩, _, .ref C, some d, rfl, JG, kG, ge, hoe, ⟨rfl, rfl, fun vs hv => by cases hv; rfl⟩, rfl, rfl, na, rfl, bareC, raises_own T.exC T.tyC, qC⟩
  | .ok .next, out => exact False.elim out
  | .ok .brk, out => exact False.elim out
  | .ok .cont, out => exact False.elim out
/-- X('..') made while an error is handled, or not -/
theorem pmkN_txt {x m : Str} {C : Addr} {j : Nat} {p p2 pos : Pos}
    (c : PySem.W.excIn X.K C He.veBase "ValueError.__new__" = true ∧ PySem.W.keepIn X.K (.ref C) = true ∧ PySem.W.subIn X.K (.ref C) (.type "BaseException") = some true ∧ PySem.W.typeIn X.K (.ref C) = some (.type "type"))
    (g : X.mg x = some (.ref C)) (hg : Gl X x := by rfl) (hd : (x == ("__debug__" : Str)) = false := by decide) :
    L2N.PMk X (.Call (.Name x p) [.Constant (.str m) j p2] [] pos) (fun _ H Q => Q (.ref C) none H) :=
  L2N.pmk_own PySem.F.excBase_ValueError c.1 g c.2.1 (raises_own c.2.2.1 c.2.2.2) hg hd
end
/-! ### more of lists -/
def rListK (K : PySem.W.Frag) : List V → Hp → VK → Prop := fun xs H Q => ∃ p ys, xs = [.ref p] ∧ (SqL K H p ys ∨ SqT K H p ys) ∧ ∀ l, H l = none → Q (.ref l) (upd H l (.lst ys))
def rInsertK : V → List V → Hp → VK → Prop := fun x vs H Q => ∃ (l : Addr) (xs : List V) (i : Int) (y : V), x = .ref l ∧ vs = [.int i, y] ∧ H l = some (.lst xs) ∧ xs.length < sizeLine ∧ 0 ≤ i ∧ i < 2 ^ 63 ∧ Q .non (upd H l (.lst (xs.take i.toNat ++ [y] ++ xs.drop i.toNat)))
def rAbs : List V → Hp → VK → Prop := fun xs H Q => ∃ i, xs = [.int i] ∧ Q (.int (if i < 0 then -i else i)) H
section
variable {X : Cx}
theorem call_listK : CallR X (.type "list") (rListK X.K) := call_list_of
theorem mt_insertK : MtR X "list.insert" rInsertK := mt_insert
end
section
variable {K : PySem.W.Frag} {σ : L2.St} {H : Hp} {ta tb te : TE} {v : V} {D : Ends} {tz : TS}
theorem el_copy {p : Addr} {ys : List V} (h : Ev ta σ H (.ref p)) (hs : SqL K H p ys) : EvL (tCB (rListK K) (tCons ta tNil)) σ H ys := fun H1 e Q q =>
  h H1 e _ fun H2 e2 => ⟨p, ys, rfl, .inl (ex_l (e.trans e2) hs), fun l hl => q l _ (fresh_back e2 hl) (e2.trans (Ex.new hl)) upd_same⟩
theorem q_insert {l : Addr} {xs : List V} {i : Nat} (hl : H l = some (.lst xs)) (ha : Ev ta σ H (.ref l)) (hi : Ev tb σ H (.int (i : Int))) (hv : Ev te σ H v) (hz : xs.length < 100000) (hi2 : i < 100000) (k : ∀ H1, Ex H H1 → tz D σ (upd H1 l (.lst (xs.take i ++ [v] ++ xs.drop i)))) :
    tSeq (tDrop (tBM K "list" rInsertK ta (tCons tb (tCons te tNil)))) tz D σ H :=
  ha H (Ex.refl H) _ fun H1 e1 => ⟨.inl ⟨rfl, xs, sq_of (e1 _ _ hl)⟩, hi H1 e1 _ fun H2 e2 => hv H2 (e1.trans e2) _ fun H3 e3 => ⟨l, xs, i, v, rfl, rfl, ((e1.trans e2).trans e3) _ _ hl, sz_lt hz, by omega, by omega, k H3 ((e1.trans e2).trans e3)⟩⟩
theorem s_insert {l : Addr} {xs : List V} {i : Nat} (hl : H l = some (.lst xs)) (ha : Ev ta σ H (.ref l)) (hi : Ev tb σ H (.int (i : Int))) (hv : Ev te σ H v) (hz : xs.length < 100000) (hi2 : i < 100000) (k : ∀ H1, Ex H H1 → D.nx σ (upd H1 l (.lst (xs.take i ++ [v] ++ xs.drop i)))) :
    tDrop (tBM K "list" rInsertK ta (tCons tb (tCons te tNil))) D σ H :=
  ha H (Ex.refl H) _ fun H1 e1 => ⟨.inl ⟨rfl, xs, sq_of (e1 _ _ hl)⟩, hi H1 e1 _ fun H2 e2 => hv H2 (e1.trans e2) _ fun H3 e3 => ⟨l, xs, i, v, rfl, rfl, ((e1.trans e2).trans e3) _ _ hl, sz_lt hz, by omega, by omega, k H3 ((e1.trans e2).trans e3)⟩⟩
theorem q_clear {l : Addr} {xs : List V} (hl : H l = some (.lst xs)) (ha : Ev ta σ H (.ref l)) (k : ∀ H1, Ex H H1 → tz D σ (upd H1 l (.lst []))) : tSeq (tDrop (tBM0 K "list" rClear ta)) tz D σ H :=
  ha H (Ex.refl H) _ fun H1 e1 => ⟨.inl ⟨rfl, xs, sq_of (e1 _ _ hl)⟩, l, xs, rfl, rfl, e1 _ _ hl, k H1 e1⟩
end
/-- try: .. except c: raise C('..') -/
def tTryRaise (K : PySem.W.Frag) (c : Value) (tb : WX → TS) (C : Value) (E : XK) : TS := fun D σ H => tb (wOnly K c (fun _ _ _ => tRaiseX C E) (fun cls d _ H => E cls d H) D) D σ H
end Kr
/-! pages: rows that ascend, the page made of them, the rows read of a page -/
namespace Kr
open PySem PySem.Spec PyProof.Rows L2 Evl
section
variable {K : PySem.W.Frag} {σ : L2.St} {H : Hp} {tl : TE} {D : Ends} {tu tz : TS}
/-- for i, x in enumerate(xs) -/
theorem s_forEnum {a : Addr} {xs : List V} {i j : Nat} (h : Ev tl σ H (.ref a)) (hx : SqL K H a xs) (Pv : Nat → L2.St → Hp → Prop) (h0 : ∀ H1, Ex H H1 → Pv 0 σ H1) (hl : ∀ k σ' H', k ≤ xs.length → Pv k σ' H' → SqL K H' a xs)
    (hs : ∀ k x σ' H' H2, xs[k]? = some x → Pv k σ' H' → Ex H' H2 → tu { D with nx := Pv (k + 1), ct := Pv (k + 1), bk := D.nx } ((σ'.set i (some (.int (k : Int)))).set j (some x)) H2) (hd : ∀ σ' H', Pv xs.length σ' H' → D.nx σ' H') :
    tFor (iEnum K (tCons tl tNil)) (gTup K 2 (gCons (gName i) (gCons (gName j) gNil))) tu D σ H :=
  h H (Ex.refl H) _ fun H1 e1 => ⟨a, xs, rfl, ex_l e1 hx, fun k m σ' H' => m = xs.length - k ∧ k ≤ xs.length ∧ Pv k σ' H', ⟨xs.length, rfl, Nat.zero_le _, h0 H1 e1⟩, by
    rintro k m σ' H' ⟨rfl, hk, p⟩
    by_cases hlt : k < xs.length
    · have hat : xs[k]? = some xs[k] := List.getElem?_eq_getElem hlt
      refine .inr ⟨⟨xs, xs[k], hl k σ' H' hk p, hat⟩, Pv (k + 1), fun σ2 H2 p2 => ⟨xs.length - (k + 1), by omega, rfl, hlt, p2⟩, ?_⟩
      rintro v H2 ⟨T, x, rfl, hT, rfl, hall⟩
      have hxx := hall xs (hl k σ' H' hk p)
      exact ⟨T, [.int (k : Nat), x], rfl, st_of upd_same, rfl, .int (k : Nat), [x], rfl, x, [], rfl, rfl, hs k x σ' H' _ hxx p (Ex.new hT)⟩
    · have : k = xs.length := by omega
      subst this
      exact .inl ⟨⟨xs, hl _ σ' H' hk p, Nat.le_refl _⟩, hd σ' H' p⟩⟩
theorem q_forEnum {a : Addr} {xs : List V} {i j : Nat} (h : Ev tl σ H (.ref a)) (hx : SqL K H a xs) (Pv : Nat → L2.St → Hp → Prop) (h0 : ∀ H1, Ex H H1 → Pv 0 σ H1) (hl : ∀ k σ' H', k ≤ xs.length → Pv k σ' H' → SqL K H' a xs)
    (hs : ∀ k x σ' H' H2, xs[k]? = some x → Pv k σ' H' → Ex H' H2 → tu { D with nx := Pv (k + 1), ct := Pv (k + 1), bk := tz D } ((σ'.set i (some (.int (k : Int)))).set j (some x)) H2) (hd : ∀ σ' H', Pv xs.length σ' H' → tz D σ' H') :
    tSeq (tFor (iEnum K (tCons tl tNil)) (gTup K 2 (gCons (gName i) (gCons (gName j) gNil))) tu) tz D σ H := s_forEnum (D := { D with nx := tz D }) h hx Pv h0 hl hs hd
/-- a, b = f(..), f telling a new tuple -/
theorem q_tupF {sp : Sp} {E : XK} {t : TA} {vs : List V} {i j : Nat} (h : EvA t σ H vs) (k : ∀ H1, Ex H H1 → ∀ Q2 : VK, (∀ x y, (∀ H2, Ex H1 H2 → tz D ((σ.set i (some x)).set j (some y)) H2) → RetU [x, y] H1 Q2) → sp vs H1 Q2 E) :
    tSeq (tAsg (tCall sp [] E t) (gTup K 2 (gCons (gName i) (gCons (gName j) gNil)))) tz D σ H :=
  h H (Ex.refl H) _ fun H1 e1 => by
    rw [List.append_nil]
    exact k H1 e1 _ fun x y hk p H2 hp e2 h2 => ⟨p, [x, y], rfl, st_of h2, rfl, x, [y], rfl, y, [], rfl, rfl, hk H2 e2⟩
end
section
variable {K : PySem.W.Frag} {σ : L2.St} {H : Hp} {D : Ends}
theorem s_tryR {c C : Value} {tb : WX → TS} {E : XK} (h : tb (wOnly K c (fun _ _ _ => tRaiseX C E) (fun cls d _ H => E cls d H) D) D σ H) : tTryRaise K c tb C E D σ H := h
theorem s_retX {sp : Sp} {vs : List V} {E : L2.St → XK} {ta : TA} (h : EvA ta σ H vs) (k : ∀ H1, Ex H H1 → sp vs H1 D.rt (E σ)) : tRet (tCallS sp E ta) D σ H := h H (Ex.refl H) _ k
end
/-! ### rows that ascend -/
def RL (rs : List (List Bool)) : List V := rs.map fun r => V.str (T (R r))
theorem RL_at {rs : List (List Bool)} {i : Nat} (h : i < rs.length) : (RL rs)[i]? = some (.str (T (R rs[i]))) := by
  unfold RL
  rw [List.getElem?_map, List.getElem?_eq_getElem h]
  rfl
theorem RL_len (rs : List (List Bool)) : (RL rs).length = rs.length := List.length_map _
theorem RL_app (a b : List (List Bool)) : RL (a ++ b) = RL a ++ RL b := List.map_append
theorem RL_inj {a b : List (List Bool)} (h : RL a = RL b) : a = b := by
  induction a generalizing b with
  | nil => cases b with
    | nil => rfl
    | cons y b => simp [RL] at h
  | cons x a ih => cases b with
    | nil => simp [RL] at h
    | cons y b =>
      simp only [RL, List.map_cons, List.cons.injEq] at h
      rw [R_inj (T_inj.mp (V.str.inj h.1)), ih h.2]
/-- each behind the one ahead of it, the first one behind last if there is one -/
def Asc : Option (List Bool) → List (List Bool) → Prop
  | _, [] => True
  | l, r :: rs => (∀ x, l = some x → R x < R r) ∧ Asc (some r) rs
instance decAsc : ∀ (l : Option (List Bool)) (rs : List (List Bool)), Decidable (Asc l rs)
  | _, [] => .isTrue trivial
  | none, r :: rs => match decAsc (some r) rs with
    | .isTrue h => .isTrue ⟨(fun _ z => nomatch z), h⟩
    | .isFalse h => .isFalse fun z => h z.2
  | some x, r :: rs => if h : R x < R r then match decAsc (some r) rs with
      | .isTrue h2 => .isTrue ⟨fun y z => by cases z; exact h, h2⟩
      | .isFalse h2 => .isFalse fun z => h2 z.2
    else .isFalse fun z => h (z.1 x rfl)
/-! ### the page -/
def entryRow (last row : List Bool) : List Bool := countRow (com last row) ++ countRow (row.length - com last row) ++ row.drop (com last row)
def pageBody : List Bool → List (List Bool) → List Bool
  | _, [] => []
  | last, r :: rs => entryRow last r ++ pageBody r rs
def pageRow (rs : List (List Bool)) : List Bool := countRow rs.length ++ pageBody [] rs
theorem small_count {n : Nat} (h : n ≤ 1000000) : countOk n := by
  refine ⟨by omega, ?_⟩
  have : (n : Int) ≤ 1000000 := by omega
  omega
theorem small_len {n : Nat} (h : n ≤ 1000000) : (countRow n).length ≤ 40 := by
  have h1 : blen (n + 1) ≤ 20 := blen_le (by omega) (by omega)
  have h2 : blen (blen (n + 1)) ≤ 5 := blen_le (by omega) (blen_pos _)
  unfold countRow
  simp only [List.length_append, List.length_replicate, digs_len]
  split <;> simp <;> omega
theorem entryRow_len {last row : List Bool} (h1 : row.length ≤ 1000000) : (entryRow last row).length ≤ 80 + row.length := by
  unfold entryRow
  have := com_le2 last row
  have a := small_len (n := com last row) (by omega)
  have b := small_len (n := row.length - com last row) (by omega)
  simp only [List.length_append, List.length_drop]
  omega
theorem pageBody_len {m : Nat} (hm : m ≤ 1000000) : ∀ {last : List Bool} {rs : List (List Bool)}, (∀ r ∈ rs, r.length ≤ m) → (pageBody last rs).length ≤ rs.length * (80 + m)
  | _, [], _ => Nat.zero_le _
  | last, r :: rs, h => by
    have hr := h r (List.mem_cons_self ..)
    have a := entryRow_len (last := last) (row := r) (by omega)
    have b := pageBody_len hm (last := r) (rs := rs) fun x hx => h x (List.mem_cons_of_mem _ hx)
    rw [pageBody, List.length_append, List.length_cons, Nat.succ_mul]
    omega
/-! ### the rows of a page -/
/-- a row of a page behind another one, and the place behind it -/
def entryAt (b : List Bool) (t : Nat) (last : List Bool) : Option (List Bool × Nat) := match tcount b false false false t with
  | .bad _ _ => none
  | .ok c t1 => match tcount b false false false t1 with
    | .bad _ _ => none
    | .ok m t2 => if (last.length : Int) < c ∨ (b.length : Int) - (t2 : Int) < m then none else
      if com last (last.take c.toNat ++ (b.drop t2).take m.toNat) ≠ c.toNat then none else some (last.take c.toNat ++ (b.drop t2).take m.toNat, t2 + m.toNat)
/-- k rows more, from the place t on, behind a last one if there is one -/
def rowsGo (b : List Bool) : Nat → Option (List Bool) → Nat → Nat → Option (List (List Bool) × Nat)
  | _, _, 0, t => some ([], t)
  | 0, _, _ + 1, _ => none
  | f + 1, l, k + 1, t => match entryAt b t (l.getD []) with
    | none => none
    | some (row, t') => if ∃ x, l = some x ∧ ¬ R x < R row then none else (rowsGo b f (some row) k t').map fun p => (row :: p.1, p.2)
def rowsOf (b : List Bool) : Option (List (List Bool)) := match tcount b false false false 0 with
  | .bad _ _ => none
  | .ok many t => match rowsGo b (b.length + 1) none many.toNat t with
    | none => none
    | some (rs, t') => if t' < b.length then none else some rs
/-! ### what reading does to the place -/
theorem takeB_le {b : List Bool} {n w c : Bool} {t t' : Nat} (h : takeB b false n w t = .ok c t') : t' = t + 1 ∧ t < b.length := by
  unfold takeB at h
  cases e : b[t]? with
  | none => rw [e] at h; cases h
  | some x =>
    rw [e] at h
    cases h
    exact ⟨rfl, (List.getElem?_eq_some_iff.mp e).1⟩
theorem takeB_bad {b : List Bool} {f n w : Bool} {t : Nat} {c : Str} {p : Int} (h : takeB b f n w t = .bad c p) : c = "Short" ∧ p = b.length := by
  unfold takeB at h
  cases e : b[t]? with
  | none =>
    rw [e] at h
    cases f with
    | true => cases h
    | false => cases h; exact ⟨rfl, rfl⟩
  | some x => rw [e] at h; cases h
theorem tdig_le {b : List Bool} {n : Bool} : ∀ {k : Nat} {x y : Int} {t t' : Nat}, tdig b false n k x t = .ok y t' → t ≤ t' ∧ (t ≤ b.length → t' ≤ b.length)
  | 0, x, y, t, t', h => by cases h; exact ⟨Nat.le_refl _, id⟩
  | k + 1, x, y, t, t', h => by
    unfold tdig at h
    cases e : takeB b false n false t with
    | bad c p => rw [e] at h; cases h
    | ok c t1 =>
      rw [e] at h
      obtain ⟨rfl, h2⟩ := takeB_le e
      have := tdig_le (show tdig b false n k _ _ = _ from h)
      exact ⟨by omega, fun _ => this.2 h2⟩
theorem tdig_bad {b : List Bool} {f n : Bool} {c : Str} {p : Int} : ∀ {k : Nat} {x : Int} {t : Nat}, tdig b f n k x t = .bad c p → c = "Short" ∧ p = b.length
  | 0, x, t, h => by cases h
  | k + 1, x, t, h => by
    unfold tdig at h
    cases e : takeB b f n false t with
    | bad c p => rw [e] at h; cases h; exact takeB_bad e
    | ok c t1 => rw [e] at h; exact tdig_bad (show tdig b f n k _ _ = _ from h)
theorem tones_le {b : List Bool} {n : Bool} : ∀ {k : Nat} {w : Bool} {o o' t t' : Nat}, tones b false n k w o t = .ok o' t' → t ≤ t' ∧ (t ≤ b.length → t' ≤ b.length) ∧ (0 < k → t < t')
  | 0, w, o, o', t, t', h => by cases h; exact ⟨Nat.le_refl _, id, fun z => by omega⟩
  | k + 1, w, o, o', t, t', h => by
    unfold tones at h
    cases e : takeB b false n w t with
    | bad c p => rw [e] at h; cases h
    | ok c t1 =>
      rw [e] at h
      obtain ⟨rfl, h2⟩ := takeB_le e
      cases c with
      | true =>
        have := tones_le (show tones b false n k false (o + 1) _ = _ from h)
        exact ⟨by omega, fun _ => this.2.1 h2, fun _ => by omega⟩
      | false =>
        cases (show Res.ok o (t + 1) = .ok o' t' from h)
        exact ⟨by omega, fun _ => h2, fun _ => by omega⟩
theorem tones_bad {b : List Bool} {f n : Bool} {c : Str} {p : Int} : ∀ {k : Nat} {w : Bool} {o t : Nat}, tones b f n k w o t = .bad c p → c = "Short" ∧ p = b.length
  | 0, w, o, t, h => by cases h
  | k + 1, w, o, t, h => by
    unfold tones at h
    cases e : takeB b f n w t with
    | bad c p => rw [e] at h; cases h; exact takeB_bad e
    | ok d t1 =>
      rw [e] at h
      cases d with
      | true => exact tones_bad (show tones b f n k false (o + 1) t1 = _ from h)
      | false => cases h
theorem tcount_ok {b : List Bool} {n w : Bool} {t t' : Nat} {x : Int} (h : tcount b false n w t = .ok x t') : 0 ≤ x ∧ t < t' ∧ (t ≤ b.length → t' ≤ b.length) := by
  unfold tcount at h
  cases e1 : tones b false n 7 w 0 t with
  | bad c p => rw [e1] at h; cases h
  | ok o t1 =>
    rw [e1] at h
    replace h : ((tdig b false n o 1 t1).bind fun s t2 => (tdig b false n (s - 1).toNat 1 t2).bind fun x t3 => .ok (x - 1) t3) = .ok x t' := h
    cases e2 : tdig b false n o 1 t1 with
    | bad c p => rw [e2] at h; cases h
    | ok s t2 =>
      rw [e2] at h
      replace h : ((tdig b false n (s - 1).toNat 1 t2).bind fun x t3 => .ok (x - 1) t3) = .ok x t' := h
      cases e3 : tdig b false n (s - 1).toNat 1 t2 with
      | bad c p => rw [e3] at h; cases h
      | ok y t3 =>
        rw [e3] at h
        cases h
        have l1 := tones_le e1
        have l2 := tdig_le e2
        have l3 := tdig_le e3
        have r3 := tdig_rng e3
        have hp : (0 : Int) < 2 ^ (s - 1).toNat := Int.pow_pos (by decide)
        exact ⟨by omega, by have := l1.2.2 (by decide); omega, fun z => l3.2 (l2.2 (l1.2.1 z))⟩
theorem tcount_bad {b : List Bool} {f n w : Bool} {t : Nat} {c : Str} {p : Int} (h : tcount b f n w t = .bad c p) : c = "Short" ∧ p = b.length := by
  unfold tcount at h
  cases e1 : tones b f n 7 w 0 t with
  | bad c p => rw [e1] at h; cases h; exact tones_bad e1
  | ok o t1 =>
    rw [e1] at h
    replace h : ((tdig b f n o 1 t1).bind fun s t2 => (tdig b f n (s - 1).toNat 1 t2).bind fun x t3 => .ok (x - 1) t3) = .bad c p := h
    cases e2 : tdig b f n o 1 t1 with
    | bad c p => rw [e2] at h; cases h; exact tdig_bad e2
    | ok s t2 =>
      rw [e2] at h
      replace h : ((tdig b f n (s - 1).toNat 1 t2).bind fun x t3 => .ok (x - 1) t3) = .bad c p := h
      cases e3 : tdig b f n (s - 1).toNat 1 t2 with
      | bad c p => rw [e3] at h; cases h; exact tdig_bad e3
      | ok y t3 => rw [e3] at h; cases h
theorem entryAt_le {b last row : List Bool} {t t' : Nat} (h : entryAt b t last = some (row, t')) (ht : t ≤ b.length) : t + 2 ≤ t' ∧ t' ≤ b.length ∧ row.length + t ≤ last.length + t' := by
  unfold entryAt at h
  cases e1 : tcount b false false false t with
  | bad c p => rw [e1] at h; cases h
  | ok c t1 =>
    rw [e1] at h
    dsimp only at h
    cases e2 : tcount b false false false t1 with
    | bad c p => rw [e2] at h; cases h
    | ok m t2 =>
      rw [e2] at h
      dsimp only at h
      split at h
      · cases h
      · rename_i hn
        split at h
        · cases h
        · cases h
          obtain ⟨a1, a2, a3⟩ := tcount_ok e1
          obtain ⟨b1, b2, b3⟩ := tcount_ok e2
          have := b3 (a3 ht)
          refine ⟨by omega, by omega, ?_⟩
          rw [List.length_append, List.length_take, List.length_take, List.length_drop]
          omega
/-! ### a page read -/
theorem entryAt_at {b last row post : List Bool} {t : Nat} (hr : row.length ≤ 1000000) (h : b.drop t = entryRow last row ++ post) : entryAt b t last = some (row, t + (entryRow last row).length) ∧ b.drop (t + (entryRow last row).length) = post := by
  unfold entryRow at h ⊢
  have c1 := com_le last row
  have c2 := com_le2 last row
  rw [List.append_assoc, List.append_assoc] at h
  obtain ⟨h1, h2⟩ := tcount_at (f := false) (n := false) (w := false) (m := com last row) (small_count (by omega)) (by rw [nz_false]; exact h)
  obtain ⟨h3, h4⟩ := tcount_at (f := false) (n := false) (w := false) (m := row.length - com last row) (small_count (by omega)) (by rw [nz_false]; exact h2)
  have hlen : b.length - (t + (countRow (com last row)).length + (countRow (row.length - com last row)).length) = (row.length - com last row) + post.length := by
    have := congrArg List.length h4
    rw [List.length_drop, List.length_append, List.length_drop] at this
    exact this
  have htk : (b.drop (t + (countRow (com last row)).length + (countRow (row.length - com last row)).length)).take (row.length - com last row) = row.drop (com last row) := by
    rw [h4, List.take_append_of_le_length (by rw [List.length_drop]; omega), List.take_of_length_le (by rw [List.length_drop]; omega)]
  have hrow : last.take (com last row) ++ row.drop (com last row) = row := by
    rw [com_take, List.take_append_drop]
  refine ⟨?_, ?_⟩
  · unfold entryAt
    rw [h1]
    dsimp only
    rw [h3]
    dsimp only
    rw [Int.toNat_natCast, Int.toNat_natCast, htk, hrow]
    rw [if_neg (by
      rintro (z | z)
      · omega
      · by_cases hz : row.length - com last row = 0
        · by_cases hb : t + (countRow (com last row)).length + (countRow (row.length - com last row)).length ≤ b.length
          · omega
          · have hd : b.drop (t + (countRow (com last row)).length) = [] ∨ t + (countRow (com last row)).length < b.length := by
              by_cases q : t + (countRow (com last row)).length < b.length
              · exact .inr q
              · exact .inl (List.drop_eq_nil_of_le (by omega))
            have := (tcount_ok h3).2.2
            rcases hd with hd | hd
            · rw [hd] at h2
              have := congrArg List.length h2
              rw [List.length_append] at this
              have hp : 0 < (countRow (row.length - com last row)).length := by
                have := (tcount_ok h3).2.1
                omega
              simp at this
              omega
            · have := this (by omega)
              omega
        · omega), if_neg (by simp)]
    congr 2
    rw [List.length_append, List.length_append, List.length_drop]
    omega
  · rw [List.length_append, List.length_append, List.length_drop]
    have : row.length - com last row = (row.drop (com last row)).length := by rw [List.length_drop]
    rw [show t + ((countRow (com last row)).length + (countRow (row.length - com last row)).length + (row.length - com last row)) = (t + (countRow (com last row)).length + (countRow (row.length - com last row)).length) + (row.length - com last row) by omega, ← List.drop_drop, h4, this, List.drop_left]
theorem rowsGo_at {b post : List Bool} : ∀ {rs : List (List Bool)} {l : Option (List Bool)} {f t : Nat}, rs.length ≤ f → (∀ r ∈ rs, r.length ≤ 1000000) → Asc l rs → b.drop t = pageBody (l.getD []) rs ++ post →
    rowsGo b f l rs.length t = some (rs, t + (pageBody (l.getD []) rs).length) ∧ b.drop (t + (pageBody (l.getD []) rs).length) = post
  | [], l, f, t, _, _, _, h => by
    refine ⟨?_, h⟩
    cases f <;> rfl
  | r :: rs, l, 0, t, hf, _, _, _ => by simp at hf
  | r :: rs, l, f + 1, t, hf, hl, ha, h => by
    rw [pageBody, List.append_assoc] at h
    obtain ⟨h1, h2⟩ := entryAt_at (hl r (List.mem_cons_self ..)) h
    obtain ⟨h3, h4⟩ := rowsGo_at (l := some r) (f := f) (by simpa using hf) (fun x hx => hl x (List.mem_cons_of_mem _ hx)) ha.2 h2
    rw [pageBody, List.length_append]
    refine ⟨?_, by rw [← Nat.add_assoc]; exact h4⟩
    rw [List.length_cons, rowsGo, h1]
    dsimp only
    rw [if_neg (by rintro ⟨x, hx, hn⟩; exact hn (ha.1 x hx)), h3]
    show some _ = some _
    congr 2
    rw [Nat.add_assoc]
    rfl
theorem rowsOf_page {rs : List (List Bool)} (hl : ∀ r ∈ rs, r.length ≤ 1000000) (hn : rs.length ≤ 1000000) (ha : Asc none rs) : rowsOf (pageRow rs) = some rs := by
  obtain ⟨h1, h2⟩ := tcount_at (b := pageRow rs) (post := pageBody [] rs) (f := false) (n := false) (w := false) (m := rs.length) (t := 0) (small_count hn) (by rw [nz_false]; rfl)
  have hf : rs.length ≤ (pageRow rs).length + 1 := by
    have : rs.length ≤ (pageBody [] rs).length := by
      clear h1 h2 ha hl hn
      generalize ([] : List Bool) = last
      induction rs generalizing last with
      | nil => exact Nat.zero_le _
      | cons r rs ih =>
        have := ih r
        rw [pageBody, List.length_append, List.length_cons]
        have hp : 0 < (entryRow last r).length := by
          unfold entryRow
          rw [List.length_append, List.length_append]
          have : 0 < (countRow (com last r)).length + (countRow (r.length - com last r)).length + (r.drop (com last r)).length := by
            by_cases hz : com last r = 0
            · rw [hz]
              have : (countRow 0).length = 1 := by decide
              omega
            · have : 0 < (countRow (com last r)).length := by
                unfold countRow
                have : 2 ≤ blen (com last r + 1) := blen_gt (k := 1) (by omega)
                simp only [List.length_append, List.length_replicate, digs_len]
                omega
              omega
          exact this
        omega
    unfold pageRow
    rw [List.length_append]
    omega
  obtain ⟨h3, h4⟩ := rowsGo_at (b := pageRow rs) (post := []) (rs := rs) (l := none) (f := (pageRow rs).length + 1) (t := 0 + (countRow rs.length).length) hf hl ha (by rw [h2, List.append_nil]; rfl)
  unfold rowsOf
  rw [h1]
  dsimp only
  rw [Int.toNat_natCast, h3]
  dsimp only
  rw [if_neg]
  have := congrArg List.length h4
  rw [List.length_drop] at this
  simp only [Option.getD_none, List.length_nil] at this ⊢
  omega
/-! ### lists of rows compared -/
theorem RL_plain (a : List (List Bool)) : (RL a).all plainV = true := by
  unfold RL
  rw [List.all_map, List.all_eq_true]
  intro r _
  show (T (R r)).cps.all (· < 0x110000) = true
  rw [Array.all_eq_true']
  intro c hc
  have : c ∈ R r := by simpa [T] using hc
  obtain ⟨x, _, rfl⟩ := List.mem_map.mp this
  cases x <;> decide
theorem eqvAll_RL : ∀ (a b : List (List Bool)), PyData.eqvAll ((RL a).map toD) ((RL b).map toD) = decide (a = b)
  | [], [] => by simp [RL, PyData.eqvAll]
  | [], y :: b => by simp [RL, PyData.eqvAll]
  | x :: a, [] => by simp [RL, PyData.eqvAll]
  | x :: a, y :: b => by
    show (PyData.eqv (.str (T (R x))) (.str (T (R y))) && PyData.eqvAll ((RL a).map toD) ((RL b).map toD)) = _
    rw [eqvAll_RL a b, PyData.eqv]
    by_cases h : x = y
    · subst h
      by_cases h2 : a = b
      · subst h2; simp
      · simp [h2]
    · have : (T (R x) == T (R y)) = false := by
        rw [beq_eq_false_iff_ne]
        exact fun z => h (R_inj (T_inj.mp z))
      rw [this]
      simp [h]
theorem eqv_RL (a b : List (List Bool)) : PyData.eqv (.list ((RL a).map toD)) (.list ((RL b).map toD)) = decide (a = b) := by
  rw [PyData.eqv]
  exact eqvAll_RL a b
section
variable {K : PySem.W.Frag} {σ : L2.St} {H : Hp} {ta tb : TE}
theorem ev_neRL {p q : Addr} {a b : List (List Bool)} (ha : Ev ta σ H (.ref p)) (hp : SqL K H p (RL a)) (hb : Ev tb σ H (.ref q)) (hq : SqL K H q (RL b)) : Ev (tOp (rNeD K) ta tb) σ H (.bl (!decide (a = b))) := fun H1 e Q k =>
  ha H1 e _ fun H2 e2 => hb H2 (e.trans e2) _ fun H3 e3 => ⟨.list ((RL a).map toD), .list ((RL b).map toD), .lst (ex_l ((e.trans e2).trans e3) hp) (dpAll_plain (RL_plain a)), .lst (ex_l ((e.trans e2).trans e3) hq) (dpAll_plain (RL_plain b)), shaped_list (RL_plain a), shaped_list (RL_plain b), by
    rw [eqv_RL]
    exact k H3 (e2.trans e3)⟩
theorem ev_neE {p : Addr} {a : List (List Bool)} (ha : Ev ta σ H (.ref p)) (hp : SqL K H p (RL a)) : Ev (tOp (rNeD K) ta (tLst tNil)) σ H (.bl (!decide (a = []))) := fun H1 e Q k =>
  ha H1 e _ fun H2 e2 => (el_lst ea_nil (by simp) : EvL (tLst tNil) σ H2 []) H2 (Ex.refl H2) _ fun r H3 _ e3 hr => ⟨.list ((RL a).map toD), .list ((RL []).map toD), .lst (ex_l ((e.trans e2).trans e3) hp) (dpAll_plain (RL_plain a)), .lst (sq_of hr) (dpAll_plain (RL_plain [])), shaped_list (RL_plain a), shaped_list (RL_plain []), by
    rw [eqv_RL]
    exact k H3 (e2.trans e3)⟩
end
/-- a row put in at its place -/
theorem asc_ins {row : List Bool} {B : List (List Bool)} : ∀ {A : List (List Bool)} {l : Option (List Bool)}, Asc l (A ++ B) → (∀ x ∈ A, R x < R row) → (∀ x, l = some x → R x < R row) → (∀ y ys, B = y :: ys → R row < R y) → Asc l (A ++ [row] ++ B)
  | [], l, h, _, hl, hB => by
    refine ⟨hl, ?_⟩
    cases B with
    | nil => trivial
    | cons y ys => exact ⟨fun x hx => by cases hx; exact hB y ys rfl, h.2⟩
  | a :: A, l, h, hA, hl, hB => ⟨h.1, asc_ins h.2 (fun x hx => hA x (List.mem_cons_of_mem _ hx)) (fun x hx => by cases hx; exact hA a (List.mem_cons_self ..)) hB⟩
/-- each row stands ahead of all behind it -/
theorem asc_lt : ∀ {rs : List (List Bool)} {l : Option (List Bool)} {i j : Nat} (hi : i < j) (hj : j < rs.length), Asc l rs → R rs[i] < R rs[j]
  | r :: rs, l, 0, 1, _, hj, h => by
    cases rs with
    | nil => simp at hj
    | cons y ys => exact h.2.1 r rfl
  | r :: rs, l, 0, j + 2, _, hj, h => by
    cases rs with
    | nil => simp at hj
    | cons y ys =>
      have h1 : R r < R y := h.2.1 r rfl
      have h2 := asc_lt (rs := y :: ys) (i := 0) (j := j + 1) (by omega) (by simpa using hj) h.2
      exact List.lt_trans h1 h2
  | r :: rs, l, i + 1, j + 1, hi, hj, h => asc_lt (rs := rs) (i := i) (j := j) (by omega) (by simpa using hj) h.2
theorem asc_none {rs : List (List Bool)} {l : Option (List Bool)} (h : Asc l rs) : Asc none rs := by
  cases rs with
  | nil => trivial
  | cons r rs => exact ⟨(fun x z => nomatch z), h.2⟩
/-- xs[i] = value, the value made already -/
theorem g_setL {σ : L2.St} {H : Hp} {ta tb : TE} {l : Addr} {xs : List V} {j : Nat} {v : V} {Q : L2.St → Hp → Prop} (hl : H l = some (.lst xs)) (ho : Ev ta σ H (.ref l)) (hi : Ev tb σ H (.int (j : Int))) (hj : j < xs.length) (k : ∀ H1, Ex H H1 → Q σ (upd H1 l (.lst (xs.set j v)))) : gSub ta tb rSetL v σ H Q :=
  ho H (Ex.refl H) _ fun H2 e2 => hi H2 e2 _ fun H3 e3 => ⟨l, xs, (j : Int), j, rfl, rfl, (e2.trans e3) _ _ hl, ixN_nat hj, k H3 (e2.trans e3)⟩
theorem twice_not {x : List Bool} {B : List (List Bool)} : ∀ {A : List (List Bool)} {l : Option (List Bool)}, ¬ Asc l (A ++ [x] ++ x :: B)
  | [], l, h => List.lt_irrefl _ (h.2.1 x rfl)
  | a :: A, l, h => twice_not h.2
theorem RL_ins (rs : List (List Bool)) (i : Nat) (r : List Bool) : (RL rs).take i ++ [V.str (T (R r))] ++ (RL rs).drop i = RL (rs.take i ++ [r] ++ rs.drop i) := by
  unfold RL
  rw [List.map_append, List.map_append, List.map_take, List.map_drop]
  rfl
end Kr
/-! rows picked, asked for, put in their order; pages with more behind -/
namespace Kr
open PySem PySem.Spec PyProof.Rows L2 Evl
/-- the rows ahead of one -/
def before (rs : List (List Bool)) (row : List Bool) : List (List Bool) := rs.filter fun r => decide (R r < R row)
theorem range_filter {α β : Type} (xs : List α) (d : α) (p : α → Bool) (g : α → β) : ((List.range xs.length).filter fun i => p (xs.getD i d)).map (fun i => g (xs.getD i d)) = (xs.filter p).map g := by
  have e : (List.range xs.length).map (fun i => xs.getD i d) = xs := by
    apply List.ext_getElem?
    intro i
    rw [List.getElem?_map]
    by_cases h : i < xs.length
    · rw [List.getElem?_range h]
      simp [List.getD, List.getElem?_eq_getElem h]
    · rw [List.getElem?_eq_none (by simpa using h), List.getElem?_eq_none (by simpa using h)]
      rfl
  conv => rhs; rw [← e]
  rw [List.filter_map, List.map_map]
  rfl
section
variable {K : PySem.W.Frag} {σ : L2.St} {H : Hp} {tl ta tb : TE} {t : TT}
/-- [one for one in rows if ..] -/
theorem el_filt {a : Addr} {rs : List (List Bool)} {j : Nat} {vs : List Nat} (p : List Bool → Bool) (h : Ev tl σ H (.ref a)) (hx : SqL K H a (RL rs)) (hz : rs.length ≤ 40000) (hw : ∀ x, wipe ((wipe σ vs).set j (some x)) vs = wipe σ vs) (hj : ∀ x : V, ((wipe σ vs).set j (some x))[j]? = some (some x))
    (ht : ∀ r ∈ rs, ∀ H1, Ex H H1 → EvT t ((wipe σ vs).set j (some (.str (T (R r))))) H1 (p r)) : EvL (tLc (iList K tl) (gName j) t (tVar j) vs) σ H (RL (rs.filter p)) := by
  have key : given (RL rs).length (fun i => p (rs.getD i [])) (fun i => V.str (T (R (rs.getD i [])))) = RL (rs.filter p) := by
    unfold given
    rw [RL_len]
    exact range_filter rs [] p fun r => V.str (T (R r))
  rw [← key]
  have at_ : ∀ {i : Nat} {x : V}, (RL rs)[i]? = some x → ∃ h : i < rs.length, x = .str (T (R rs[i])) ∧ rs.getD i [] = rs[i] := fun {i x} hi => by
    have h := (List.getElem?_eq_some_iff.mp hi).1
    rw [RL_len] at h
    rw [RL_at h] at hi
    exact ⟨h, (Option.some.inj hi).symm, by simp [List.getD, h]⟩
  refine el_lcL _ _ h hx (by rw [RL_len]; exact hz) hw (fun i x H1 e hi => ?_) (fun i x H1 e hi _ => ?_)
  · obtain ⟨hl, rfl, e2⟩ := at_ hi
    rw [e2]
    exact ht _ (List.getElem_mem hl) H1 e
  · obtain ⟨hl, rfl, e2⟩ := at_ hi
    rw [e2]
    exact ev_var (hj _)
theorem inV_RL (row : List Bool) : ∀ rs : List (List Bool), inV (.str (T (R row))) (RL rs) = decide (row ∈ rs)
  | [] => by simp [inV, RL]
  | r :: rs => by
    have ih := inV_RL row rs
    show (eqV (.str (T (R r))) (.str (T (R row))) || inV (.str (T (R row))) (RL rs)) = _
    rw [ih]
    show ((T (R r) == T (R row)) || _) = _
    by_cases h : r = row
    · subst h; simp
    · have : (T (R r) == T (R row)) = false := by
        rw [beq_eq_false_iff_ne]
        exact fun z => h (R_inj (T_inj.mp z))
      rw [this, Bool.false_or]
      by_cases h2 : row ∈ rs
      · simp [h2]
      · simp [h2, Ne.symm h]
theorem RL_flat (rs : List (List Bool)) : (RL rs).all flatV = true := by
  unfold RL
  rw [List.all_map, List.all_eq_true]
  intro r _
  rfl
theorem ev_inRL {a : Addr} {rs : List (List Bool)} {row : List Bool} (ha : Ev ta σ H (.str (T (R row)))) (hb : Ev tb σ H (.ref a)) (hx : SqL K H a (RL rs)) : Ev (tOp (rIn K false) ta tb) σ H (.bl (decide (row ∈ rs))) := by
  rw [← inV_RL]
  exact ev_op ha hb (rv_isL hx rfl (RL_flat rs))
theorem ev_niRL {a : Addr} {rs : List (List Bool)} {row : List Bool} (ha : Ev ta σ H (.str (T (R row)))) (hb : Ev tb σ H (.ref a)) (hx : SqL K H a (RL rs)) : Ev (tOp (rIn K true) ta tb) σ H (.bl (!decide (row ∈ rs))) := by
  rw [← inV_RL]
  exact ev_op ha hb (rv_niL hx rfl (RL_flat rs))
/-- a tuple compared with a new one, alike -/
theorem ev_eqU {p : Addr} {xs : List V} (ha : Ev ta σ H (.ref p)) (hp : H p = some (.tup xs)) (hb : EvU tb σ H xs) (h : xs.all plainV = true) : Ev (tOp (rEqD K) ta tb) σ H (.bl true) := fun H1 e Q q =>
  ha H1 e _ fun H2 e2 => hb H2 (e.trans e2) _ fun r H3 _ e3 hr => ⟨.tuple (xs.map toD), .tuple (xs.map toD), .tup (st_of (((e.trans e2).trans e3) _ _ hp)) (dpAll_plain h), .tup (st_of hr) (dpAll_plain h), shaped_tup h, shaped_tup h, by
    rw [eqv_same (shaped_tup h)]
    exact q H3 (e2.trans e3)⟩
theorem s_dropX2W {sp : Sp} {E : L2.St → XK} {D : Ends} {x : V} {P : V → Prop} (ha : Ev ta σ H x) (hb : EvW tb σ H P) (k : ∀ y H1, P y → Ex H H1 → sp [x, y] H1 (fun _ H2 => D.nx σ H2) (E σ)) : tDrop (tCallS sp E (tCons ta (tCons tb tNil))) D σ H :=
  ha H (Ex.refl H) _ fun H1 e1 => hb H1 e1 _ fun y H2 hy e2 => k y H2 hy (e1.trans e2)
end
/-! ### a page with more behind -/
theorem page_long {rs : List (List Bool)} {post : List Bool} : rs.length ≤ (pageRow rs ++ post).length + 1 := by
  have key : ∀ (rs : List (List Bool)) (last : List Bool), rs.length ≤ (pageBody last rs).length := by
    intro rs
    induction rs with
    | nil => exact fun _ => Nat.zero_le _
    | cons r rs ih =>
      intro last
      have := ih r
      rw [pageBody, List.length_append, List.length_cons]
      have hp : 0 < (entryRow last r).length := by
        unfold entryRow
        rw [List.length_append, List.length_append]
        by_cases hz : com last r = 0
        · rw [hz]
          have : (countRow 0).length = 1 := by decide
          omega
        · have : 0 < (countRow (com last r)).length := by
            unfold countRow
            have : 2 ≤ blen (com last r + 1) := blen_gt (k := 1) (by omega)
            simp only [List.length_append, List.length_replicate, digs_len]
            omega
          omega
      omega
  have := key rs []
  unfold pageRow
  rw [List.length_append, List.length_append]
  omega
theorem rowsOf_more {rs : List (List Bool)} {post : List Bool} (hl : ∀ r ∈ rs, r.length ≤ 1000000) (hn : rs.length ≤ 1000000) (ha : Asc none rs) (hp : post ≠ []) : rowsOf (pageRow rs ++ post) = none := by
  obtain ⟨h1, h2⟩ := tcount_at (b := pageRow rs ++ post) (post := pageBody [] rs ++ post) (f := false) (n := false) (w := false) (m := rs.length) (t := 0) (small_count hn) (by rw [nz_false]; unfold pageRow; rw [List.append_assoc]; rfl)
  obtain ⟨h3, h4⟩ := rowsGo_at (b := pageRow rs ++ post) (post := post) (rs := rs) (l := none) (f := (pageRow rs ++ post).length + 1) (t := 0 + (countRow rs.length).length) page_long hl ha (by rw [h2]; rfl)
  unfold rowsOf
  rw [h1]
  dsimp only
  rw [Int.toNat_natCast, h3]
  dsimp only
  rw [if_pos]
  have := congrArg List.length h4
  have hpp := List.length_pos_iff.mpr hp
  rw [List.length_drop] at this
  simp only [Option.getD_none] at this ⊢
  omega
theorem page_small {m : Nat} {rs : List (List Bool)} (hn : rs.length ≤ 100) (hl : ∀ r ∈ rs, r.length ≤ 100) : (pageRow rs).length ≤ 20000 := by
  have h1 := pageBody_len (m := 100) (by decide) (last := []) hl
  have h2 := small_len (n := rs.length) (by omega)
  have h3 : rs.length * (80 + 100) ≤ 100 * 180 := Nat.mul_le_mul_right _ hn
  unfold pageRow
  rw [List.length_append]
  omega
end Kr
/-! rows sorted; what refuses whatever comes behind -/
namespace Kr
open PySem PySem.Spec PyProof.Rows L2 Evl
def leR (a b : List Bool) : Bool := !decide (R b < R a)
theorem leR_trans (a b c : List Bool) (h1 : leR a b = true) (h2 : leR b c = true) : leR a c = true := by
  unfold leR at *
  rw [Bool.not_eq_true', decide_eq_false_iff_not] at *
  have h1 : R a ≤ R b := h1
  have h2 : R b ≤ R c := h2
  exact List.le_trans h1 h2
theorem leR_total (a b : List Bool) : (leR a b || leR b a) = true := by
  unfold leR
  by_cases h : R b < R a
  · rw [decide_eq_true h, decide_eq_false (List.lt_asymm h)]
    rfl
  · rw [decide_eq_false h]
    rfl
theorem leR_anti {a b : List Bool} (h1 : leR a b = true) (h2 : leR b a = true) : a = b := by
  unfold leR at *
  rw [Bool.not_eq_true', decide_eq_false_iff_not] at *
  by_cases h : R a = R b
  · exact R_inj h
  · exact absurd (R_lt_or a b h2 h) h1
/-- the rows in their order -/
def sortR (l : List (List Bool)) : List (List Bool) := l.mergeSort leR
theorem sortR_perm (l : List (List Bool)) : (sortR l).Perm l := List.mergeSort_perm l leR
theorem sortR_pair (l : List (List Bool)) : (sortR l).Pairwise fun a b => leR a b = true := List.pairwise_mergeSort leR_trans leR_total l
theorem sorted_eq {l m : List (List Bool)} (hl : l.Pairwise fun a b => leR a b = true) (hm : m.Pairwise fun a b => leR a b = true) (h : l.Perm m) : l = m :=
  List.Perm.eq_of_pairwise (fun a b _ _ h1 h2 => leR_anti h1 h2) hl hm h
theorem asc_pair : ∀ {l : Option (List Bool)} {rs : List (List Bool)}, Asc l rs → rs.Pairwise fun a b => R a < R b
  | _, [], _ => .nil
  | l, r :: rs, h => by
    refine .cons (fun x hx => ?_) (asc_pair h.2)
    obtain ⟨i, hi, rfl⟩ := List.mem_iff_getElem.mp hx
    exact asc_lt (rs := r :: rs) (i := 0) (j := i + 1) (by omega) (by simpa using hi) h
theorem pair_asc : ∀ {rs : List (List Bool)} {l : Option (List Bool)}, rs.Pairwise (fun a b => R a < R b) → (∀ x, l = some x → ∀ y ∈ rs, R x < R y) → Asc l rs
  | [], l, _, _ => trivial
  | r :: rs, l, h, hl => by
    rw [List.pairwise_cons] at h
    exact ⟨fun x hx => hl x hx r (List.mem_cons_self ..), pair_asc h.2 fun x hx y hy => by cases hx; exact h.1 y hy⟩
theorem asc_iff {rs : List (List Bool)} : Asc none rs ↔ rs.Pairwise fun a b => R a < R b := ⟨asc_pair, fun h => pair_asc h fun x hx => nomatch hx⟩
theorem lt_le {a b : List Bool} (h : R a < R b) : leR a b = true := by
  unfold leR
  rw [decide_eq_false (List.lt_asymm h)]
  rfl
theorem asc_nodup {rs : List (List Bool)} (h : Asc none rs) : rs.Nodup := by
  unfold List.Nodup
  refine (asc_pair h).imp fun {a b} hab => fun z => ?_
  rw [z] at hab
  exact List.lt_irrefl _ hab
theorem asc_sort {l : List (List Bool)} (h : l.Nodup) : Asc none (sortR l) := by
  rw [asc_iff]
  have h2 : (sortR l).Nodup := (sortR_perm l).nodup_iff.mpr h
  have h3 := (sortR_pair l).and h2
  refine h3.imp fun {a b} ⟨h4, h5⟩ => ?_
  unfold leR at h4
  rw [Bool.not_eq_true', decide_eq_false_iff_not] at h4
  exact R_lt_or b a h4 fun z => h5 (R_inj z).symm
theorem sort_asc {l : List (List Bool)} (h : Asc none l) : sortR l = l := sorted_eq (sortR_pair l) ((asc_pair h).imp lt_le) (sortR_perm l)
/-- rows that ascend are told by which they are -/
theorem asc_ext {l m : List (List Bool)} (hl : Asc none l) (hm : Asc none m) (h : ∀ r, r ∈ l ↔ r ∈ m) : l = m :=
  sorted_eq ((asc_pair hl).imp lt_le) ((asc_pair hm).imp lt_le) ((List.perm_ext_iff_of_nodup (asc_nodup hl) (asc_nodup hm)).mpr h)
theorem asc_filter {l : List (List Bool)} (h : Asc none l) (p : List Bool → Bool) : Asc none (l.filter p) := asc_iff.mpr ((asc_pair h).filter p)
theorem mem_sortR {l : List (List Bool)} {r : List Bool} : r ∈ sortR l ↔ r ∈ l := (sortR_perm l).mem_iff
theorem len_sortR (l : List (List Bool)) : (sortR l).length = l.length := (sortR_perm l).length_eq
/-! ### sorted() -/
def TRw (r : List Bool) : Str := T (R r)
theorem RL_TRw (l : List (List Bool)) : RL l = (l.map TRw).map V.str := by
  unfold RL
  rw [List.map_map]
  rfl
theorem risingS_pair : ∀ {p : Str} {l : List Str}, risingS p l = true → (p :: l).Pairwise fun a b => ¬ b.cps.toList < a.cps.toList
  | p, [], _ => .cons (fun _ h => (by cases h)) .nil
  | p, x :: r, h => by
    have h0 : (!ltCps x.cps.toList p.cps.toList && risingS x r) = true := h
    rw [Bool.and_eq_true, Bool.not_eq_true', ltCps_eq, decide_eq_false_iff_not] at h0
    have ih := risingS_pair h0.2
    refine .cons (fun y hy => ?_) ih
    rcases List.mem_cons.mp hy with rfl | hy
    · exact h0.1
    · have h1 : p.cps.toList ≤ x.cps.toList := h0.1
      have h2 : x.cps.toList ≤ y.cps.toList := (List.pairwise_cons.mp ih).1 y hy
      exact List.le_trans h1 h2
theorem sortedS_pair {l : List Str} (h : sortedS l = true) : l.Pairwise fun a b => ¬ b.cps.toList < a.cps.toList := by
  cases l with
  | nil => exact .nil
  | cons x r => exact risingS_pair h
theorem sorted_TRw {ys : List Str} {l : List (List Bool)} (hp : ys.Perm (l.map TRw)) (hs : sortedS ys = true) : ys = (sortR l).map TRw := by
  have h1 : ys.Perm ((sortR l).map TRw) := hp.trans ((sortR_perm l).map TRw).symm
  refine List.Perm.eq_of_pairwise (le := fun a b => ¬ b.cps.toList < a.cps.toList) (fun a b ha hb h1 h2 => ?_) (sortedS_pair hs) ?_ h1
  · obtain ⟨x, _, rfl⟩ := List.mem_map.mp (hp.mem_iff.mp ha)
    obtain ⟨y, _, rfl⟩ := List.mem_map.mp hb
    have h1 : ¬ R y < R x := h1
    have h2 : ¬ R x < R y := h2
    by_cases h : R x = R y
    · unfold TRw; rw [h]
    · exact absurd (R_lt_or x y h2 h) h1
  · rw [List.pairwise_map]
    refine (sortR_pair l).imp fun {a b} h => ?_
    unfold leR at h
    rw [Bool.not_eq_true', decide_eq_false_iff_not] at h
    exact h
section
variable {K : PySem.W.Frag} {σ : L2.St} {H : Hp} {te ta tb tl : TE} {x : V} {D : Ends}
theorem el_sorted {l : List (List Bool)} (h : EvL te σ H (RL l)) (hn : l.length < 64) : EvL (tCB (rSortedS K) (tCons te tNil)) σ H (RL (sortR l)) := fun H1 e Q q =>
  h H1 e _ fun p H2 hp e2 h2 => ⟨p, l.map TRw, rfl, by rw [← RL_TRw]; exact sq_of h2, by rw [List.length_map]; exact hn, fun ys r hperm hs hr => by
    rw [sorted_TRw hperm hs, ← RL_TRw]
    exact q r _ (fresh_back e2 hr) (e2.trans (Ex.new hr)) upd_same⟩
theorem el_catRL {p : Addr} {a b : List (List Bool)} (ha : Ev ta σ H (.ref p)) (hp : H p = some (.lst (RL a))) (hb : EvL tb σ H (RL b)) (hz : a.length + b.length ≤ 100000) : EvL (tOp rCat ta tb) σ H (RL (a ++ b)) := by
  rw [RL_app]
  exact el_cat ha hp hb (by rw [RL_len, RL_len]; exact hz)
theorem el_one {row : List Bool} (h : Ev te σ H (.str (T (R row)))) : EvL (tLst (tCons te tNil)) σ H (RL [row]) := el_lst (ea_cons h ea_nil) (by rw [RL_len]; simp)
/-- [one for one in rows if ..], over a new list -/
theorem el_filtN {rs : List (List Bool)} {t : TT} {j : Nat} {vs : List Nat} (p : List Bool → Bool) (h : EvL tl σ H (RL rs)) (hz : rs.length ≤ 40000) (hw : ∀ x, wipe ((wipe σ vs).set j (some x)) vs = wipe σ vs) (hj : ∀ x : V, ((wipe σ vs).set j (some x))[j]? = some (some x))
    (ht : ∀ r ∈ rs, ∀ H1, Ex H H1 → EvT t ((wipe σ vs).set j (some (.str (T (R r))))) H1 (p r)) : EvL (tLc (iList K tl) (gName j) t (tVar j) vs) σ H (RL (rs.filter p)) := by
  have key : given (RL rs).length (fun i => p (rs.getD i [])) (fun i => V.str (T (R (rs.getD i [])))) = RL (rs.filter p) := by
    unfold given
    rw [RL_len]
    exact range_filter rs [] p fun r => V.str (T (R r))
  rw [← key]
  have at_ : ∀ {i : Nat} {x : V}, (RL rs)[i]? = some x → ∃ h : i < rs.length, x = .str (T (R rs[i])) ∧ rs.getD i [] = rs[i] := fun {i x} hi => by
    have h := (List.getElem?_eq_some_iff.mp hi).1
    rw [RL_len] at h
    rw [RL_at h] at hi
    exact ⟨h, (Option.some.inj hi).symm, by simp [List.getD, h]⟩
  refine el_lcNL _ _ h (by rw [RL_len]; exact hz) hw (fun i x H1 e hi => ?_) (fun i x H1 e hi _ => ?_)
  · obtain ⟨hl, rfl, e2⟩ := at_ hi
    rw [e2]
    exact ht _ (List.getElem_mem hl) H1 e
  · obtain ⟨hl, rfl, e2⟩ := at_ hi
    rw [e2]
    exact ev_var (hj _)
/-! ### what never comes back -/
def Rz (te : TE) (σ : L2.St) (H : Hp) : Prop := ∀ H1, Ex H H1 → ∀ Q : VK, te σ H1 Q
def RzA (ta : TA) (σ : L2.St) (H : Hp) : Prop := ∀ H1, Ex H H1 → ∀ Q : List V → Hp → Prop, ta σ H1 Q
theorem rz_call {sp : Sp} {E : XK} {t : TA} {vs : List V} (h : EvA t σ H vs) (k : ∀ H1, Ex H H1 → ∀ Q : VK, sp vs H1 Q E) : Rz (tCall sp [] E t) σ H := fun H1 e Q => h H1 e _ fun H2 e2 => by
  rw [List.append_nil]
  exact k H2 (e.trans e2) Q
theorem rz_callA {sp : Sp} {dvs : List V} {E : XK} {t : TA} (h : RzA t σ H) : Rz (tCall sp dvs E t) σ H := fun H1 e Q => h H1 e _
theorem rz_cons {t : TA} (h : Rz te σ H) : RzA (tCons te t) σ H := fun H1 e Q => h H1 e _
theorem rz_cb {r : List V → Hp → VK → Prop} {t : TA} (h : RzA t σ H) : Rz (tCB r t) σ H := fun H1 e Q => h H1 e _
theorem rz_op1 {r : R2} (h : Rz ta σ H) : Rz (tOp r ta tb) σ H := fun H1 e Q => h H1 e _
theorem rz_op2 {r : R2} (ha : Ev ta σ H x) (h : Rz tb σ H) : Rz (tOp r ta tb) σ H := fun H1 e Q => ha H1 e _ fun H2 e2 => h H2 (e.trans e2) _
theorem rz_lc {g : TG} {t : TT} {vs : List Nat} (h : Rz tl σ H) : Rz (tLc (iList K tl) g t te vs) σ H := fun H1 e Q => h H1 e _
theorem s_retZ (h : Rz te σ H) : tRet te D σ H := h H (Ex.refl H) _
end
/-! ### what the rows of a page are -/
theorem rowsGo_asc {b : List Bool} : ∀ {f k t t' : Nat} {l : Option (List Bool)} {rs : List (List Bool)}, rowsGo b f l k t = some (rs, t') → t ≤ b.length → (l.getD []).length ≤ t → Asc l rs ∧ rs.length = k ∧ t + 2 * rs.length ≤ t' ∧ t' ≤ b.length ∧ ∀ r ∈ rs, r.length ≤ b.length
  | 0, 0, t, t', l, rs, h, ht, hl => by
    cases h
    exact ⟨trivial, rfl, Nat.le_refl _, ht, fun r hr => (by cases hr)⟩
  | f + 1, 0, t, t', l, rs, h, ht, hl => by
    have : rowsGo b (f + 1) l 0 t = some ([], t) := by simp [rowsGo]
    rw [this] at h
    cases h
    exact ⟨trivial, rfl, Nat.le_refl _, ht, fun r hr => (by cases hr)⟩
  | 0, k + 1, t, t', l, rs, h, ht, hl => by simp [rowsGo] at h
  | f + 1, k + 1, t, t', l, rs, h, ht, hl => by
    rw [rowsGo] at h
    cases he : entryAt b t (l.getD []) with
    | none => rw [he] at h; cases h
    | some rt =>
      obtain ⟨row, t1⟩ := rt
      rw [he] at h
      dsimp only at h
      obtain ⟨g1, g2, g3⟩ := entryAt_le he ht
      split at h
      · cases h
      · rename_i hn
        cases hg : rowsGo b f (some row) k t1 with
        | none => rw [hg] at h; cases h
        | some p =>
          obtain ⟨rs2, t2⟩ := p
          rw [hg] at h
          have h : some (row :: rs2, t2) = some (rs, t') := h
          cases h
          obtain ⟨i1, i2, i3, i4, i5⟩ := rowsGo_asc hg g2 (by show row.length ≤ t1; omega)
          refine ⟨⟨fun x hx => Classical.byContradiction fun z => hn ⟨x, hx, z⟩, i1⟩, by rw [List.length_cons, i2], by rw [List.length_cons]; omega, i4, fun r hr => ?_⟩
          rcases List.mem_cons.mp hr with rfl | hr
          · omega
          · exact i5 r hr
theorem rowsOf_asc {b : List Bool} {rs : List (List Bool)} (h : rowsOf b = some rs) : Asc none rs ∧ 2 * rs.length ≤ b.length ∧ ∀ r ∈ rs, r.length ≤ b.length := by
  unfold rowsOf at h
  cases e : tcount b false false false 0 with
  | bad c p => rw [e] at h; cases h
  | ok many t =>
    rw [e] at h
    dsimp only at h
    have ht := (tcount_ok e).2.2 (Nat.zero_le _)
    cases hg : rowsGo b (b.length + 1) none many.toNat t with
    | none => rw [hg] at h; cases h
    | some p =>
      obtain ⟨rs2, t2⟩ := p
      rw [hg] at h
      dsimp only at h
      split at h
      · cases h
      · cases h
        obtain ⟨i1, i2, i3, i4, i5⟩ := rowsGo_asc hg ht (Nat.zero_le _)
        exact ⟨i1, by omega, i5⟩
end Kr
namespace Kr
open PySem PySem.Spec PyProof.Rows L2 Evl
section
variable {K : PySem.W.Frag} {σ : L2.St} {H : Hp} {ta tb tl : TE} {x z : V}
/-- a new list compared with one that stands, alike -/
theorem ev_neLN {q : Addr} {a : List (List Bool)} (ha : EvL ta σ H (RL a)) (hb : Ev tb σ H (.ref q)) (hq : SqL K H q (RL a)) : Ev (tOp (rNeD K) ta tb) σ H (.bl false) := fun H1 e Q k =>
  ha H1 e _ fun p H2 _ e2 h2 => hb H2 (e.trans e2) _ fun H3 e3 => ⟨.list ((RL a).map toD), .list ((RL a).map toD), .lst (sq_of (e3 _ _ h2)) (dpAll_plain (RL_plain a)), .lst (ex_l ((e.trans e2).trans e3) hq) (dpAll_plain (RL_plain a)), shaped_list (RL_plain a), shaped_list (RL_plain a), by
    rw [eqv_same (shaped_list (RL_plain a))]
    exact k H3 (e2.trans e3)⟩
/-- a call of one, a new list -/
theorem ev_callL {sp : Sp} {E : XK} {xs : List V} (h : EvL ta σ H xs) (hs : ∀ p H1, Ex H H1 → H1 p = some (.lst xs) → SpV sp [.ref p] H1 z) : Ev (tCall sp [] E (tCons ta tNil)) σ H z := fun H1 e Q q =>
  h H1 e _ fun p H2 _ e2 hp => hs p H2 (e.trans e2) hp H2 (Ex.refl H2) Q (fun H3 e3 => q H3 (e2.trans e3)) E
theorem s_retF1L {sp : Sp} {E : XK} {xs : List V} {D : Ends} (h : EvL ta σ H xs) (k : ∀ p H1, H p = none → Ex H H1 → H1 p = some (.lst xs) → sp [.ref p] H1 D.rt E) : tRet (tCall sp [] E (tCons ta tNil)) D σ H :=
  h H (Ex.refl H) _ fun p H1 hp e1 h1 => k p H1 hp e1 h1
/-- two new tuples, alike -/
theorem ev_eqUU {xs : List V} (ha : EvU ta σ H xs) (hb : ∀ H1, Ex H H1 → EvU tb σ H1 xs) (h : xs.all plainV = true) : Ev (tOp (rEqD K) ta tb) σ H (.bl true) := fun H1 e Q q =>
  ha H1 e _ fun p H2 _ e2 hp => hb H2 (e.trans e2) H2 (Ex.refl H2) _ fun r H3 _ e3 hr => ⟨.tuple (xs.map toD), .tuple (xs.map toD), .tup (st_of (e3 _ _ hp)) (dpAll_plain h), .tup (st_of hr) (dpAll_plain h), shaped_tup h, shaped_tup h, by
    rw [eqv_same (shaped_tup h)]
    exact q H3 (e2.trans e3)⟩
end
end Kr
namespace Kr
open PySem PySem.Spec PyProof.Rows L2 Evl
/-- a new list and one that stands, together -/
theorem el_catN2 {σ : L2.St} {H : Hp} {ta tb : TE} {q : Addr} {a b : List (List Bool)} (ha : EvL ta σ H (RL a)) (hb : Ev tb σ H (.ref q)) (hq : H q = some (.lst (RL b))) (hz : a.length + b.length ≤ 100000) : EvL (tOp rCat ta tb) σ H (RL (a ++ b)) := fun H1 e Q k =>
  ha H1 e _ fun p H2 _ e2 h2 => hb H2 (e.trans e2) _ fun H3 e3 => ⟨p, q, RL a, RL b, rfl, rfl, e3 _ _ h2, ((e.trans e2).trans e3) _ _ hq, sz_of (by rw [RL_len, RL_len]; exact hz), fun l hl => k l _ (fresh_back (e2.trans e3) hl) ((e2.trans e3).trans (Ex.new hl)) (by rw [RL_app]; exact upd_same)⟩
end Kr
/-! slices with a step; sums; several except clauses without names -/
namespace Kr
open PySem PySem.Spec PyProof.Rows L2 Evl
theorem vals_pick {xs : List V} {us : List Value} (r : Vals xs us) : ∀ ix : List Nat, Vals (ix.filterMap (xs[·]?)) (ix.filterMap (us[·]?))
  | [] => .nil
  | i :: ix => by
    rw [List.filterMap_cons, List.filterMap_cons]
    cases e : xs[i]? with
    | none => rw [r.none_of e]; exact vals_pick r ix
    | some x =>
      obtain ⟨u, e2, q⟩ := r.get e
      rw [e2]
      exact .cons q (vals_pick r ix)
def slIx (lo hi st : Option Int) (n : Nat) : List Nat := sliceRange (sliceBounds lo hi st n).1 (sliceBounds lo hi st n).2.1 (sliceBounds lo hi st n).2.2
def stepV (xs : List V) (lo hi st : Option Int) : List V := (slIx lo hi st xs.length).filterMap (xs[·]?)
theorem slicePick_step (its : List Value) (lo hi st : Option Int) : slicePick its.toArray lo hi st = ((slIx lo hi st its.length).filterMap (its[·]?)).toArray := by
  unfold slicePick slIx
  simp only [List.size_toArray, List.getElem?_toArray]
variable {X : Cx}
def SlR3 (X : Cx) (r : V → Option Int → Option Int → Option Int → Hp → VK → Prop) : Prop :=
  ∀ (pins : List (Addr × Obj)) (s : Shared) (σ : L2.St) (H : Hp) (x : V) (v vl vu vs : Value) (lo hi st : Option Int) (sl : Addr) (Q : VK), Inv X pins σ H s → RelV x v → s.heap.IsSliceOf sl vl vu vs → IsPart vl lo → IsPart vu hi → IsPart vs st → r x lo hi st H Q →
    ∃ T id, typeLookup (.type T) "__getitem__" = pure (some (.builtin id)) ∧ s.TypeIs v T ∧ wpAny (model X.prog X.w) X.A (getItem v (.ref sl)) (EP X pins σ Q) X.xe s
def tSl3 (r : V → Option Int → Option Int → Option Int → Hp → VK → Prop) (te : TE) (tl th ts : TO) : TE := fun σ H Q => te σ H fun x H1 => tl σ H1 fun l H2 => th σ H2 fun u H3 => ts σ H3 fun st H4 => r x l u st H4 Q
theorem pe_slice3 {e : Expr} {lo hi : Option Expr} {se : Expr} {p2 pos : Pos} {te : TE} {tl th ts : TO} {r : V → Option Int → Option Int → Option Int → Hp → VK → Prop} (hr : SlR3 X r) (he : PE X e te) (hl : PO X lo tl) (hu : PO X hi th) (hs : PO X (some se) ts) : PE X (.Subscript e (.Slice lo hi (some se) p2) pos) (tSl3 r te tl th ts) := by
  refine ⟨fun pins s σ H Q I h => ?_⟩
  refine Subscript_ (thn (he.run pins s σ H _ I h) fun v s1 ⟨x, H1, I1, r1, q1⟩ => ?_)
  refine wpAny_Slice (thn (hl.run pins s1 σ H1 _ I1 q1) fun vl s2 ⟨l, H2, I2, pl, q2⟩ => thn (hu.run pins s2 σ H2 _ I2 q2) fun vu s3 ⟨u, H3, I3, pu, q3⟩ => thn (hs.run pins s3 σ H3 _ I3 q3) fun vs s4 ⟨st', H4, I4, ps, q4⟩ => ?_)
  have I5 : Inv X pins σ H4 { s4 with heap := s4.heap.push { cls := .type "slice", data := .fields #[vl, vu, vs] } } := I4.kept (t' := s4.toks) fun b ob q => Heap.get?_push_of_some _ q
  obtain ⟨T, id, hT, ht, hg⟩ := hr pins { s4 with heap := s4.heap.push { cls := .type "slice", data := .fields #[vl, vu, vs] } } σ H4 x v vl vu vs l u st' s4.heap.objs.size Q I5 r1 (Heap.IsSliceOf.new ..) pl pu ps q4
  show wpAny (model X.prog X.w) X.A (subscriptTail e (.Slice lo hi (some se) p2) v (.ref s4.heap.objs.size)) (EP X pins σ Q) X.xe { s4 with heap := s4.heap.push { cls := .type "slice", data := .fields #[vl, vu, vs] } }
  exact tail_any (ops := [v, .ref s4.heap.objs.size]) ht hT hg (by with_unfolding_all rfl)
def rSlL3 (K : PySem.W.Frag) : V → Option Int → Option Int → Option Int → Hp → VK → Prop := fun x lo hi st H Q => ∃ a xs, x = .ref a ∧ SqL K H a xs ∧ st ≠ some 0 ∧ ∀ p, H p = none → Q (.ref p) (upd H p (.lst (stepV xs lo hi st)))
theorem sl_list3 : SlR3 X (rSlL3 X.K) := by
  intro pins s σ H x v vl vu vs lo hi st sl Q I rx hs pl pu ps h
  obtain ⟨a, xs, rfl, hx, h0, q⟩ := h
  cases rx
  obtain ⟨its, r, ht, hz⟩ := I.list hx
  have hlen := r.length
  refine ⟨"list", _, slot_list_getitem.lookup, ht.isList.typeIs, ?_⟩
  refine wpAny_getItem_list_slice ht.isList hs pl pu ps h0 ?_ (by rw [List.size_toArray] <;> omega)
  have hv := vals_pick r (slIx lo hi st its.length)
  have hn : (stepV xs lo hi st).length ≤ sizeLine := by
    have := slicePick_size_le its.toArray lo hi st
    rw [slicePick_step, List.size_toArray, List.size_toArray] at this
    have e := hv.length
    unfold stepV
    rw [hlen]
    omega
  rw [slicePick_step]
  have hv' : Vals (stepV xs lo hi st) ((slIx lo hi st its.length).filterMap (its[·]?)) := by unfold stepV; rw [hlen]; exact hv
  refine ⟨.ref s.heap.objs.size, _, I.laid (t' := s.toks) (o := .lst (stepV xs lo hi st)) (fun b ob q => Heap.get?_push_of_some _ q) (Nat.le_refl _) ?_, rfl, q _ (I.hok.fresh (Nat.le_refl _))⟩
  exact ⟨hn, _, 0, hv', Heap.get?_push_size _ rfl⟩
theorem stepV_map {α : Type} (f : α → V) (ns : List α) (lo hi st : Option Int) : ∃ ms : List α, stepV (ns.map f) lo hi st = ms.map f ∧ (∀ m ∈ ms, m ∈ ns) ∧ ms.length ≤ ns.length ∧ ms = (slIx lo hi st ns.length).filterMap (ns[·]?) := by
  refine ⟨(slIx lo hi st ns.length).filterMap (ns[·]?), ?_, ?_, ?_, rfl⟩
  · unfold stepV
    rw [List.length_map, List.map_filterMap]
    congr 1
    funext i
    rw [List.getElem?_map]
  · intro m hm
    obtain ⟨i, _, e⟩ := List.mem_filterMap.mp hm
    exact List.mem_of_getElem? e
  · refine Nat.le_trans (List.length_filterMap_le _ _) ?_
    unfold slIx
    refine sliceRange_length_le _ _ _ _ (fun hc => ?_) fun hc => ?_
    · simp only [sliceBounds] at hc ⊢
      simp only [hc, if_true]
      constructor
      · cases lo with
        | none => simp
        | some i => dsimp only; omega
      · cases hi with
        | none => simp
        | some i => dsimp only; omega
    · simp only [sliceBounds] at hc ⊢
      simp only [hc, if_false]
      constructor
      · cases lo with
        | none => simp
        | some i => dsimp only; omega
      · cases hi with
        | none => simp
        | some i => dsimp only; omega
theorem sw_cell {elt : Expr} {gs : List Comprehension} {scope : Scope} {pos py : Pos} {y : Str} {l : Nat} {env : Env} (hy : env.scope.names.lookup y = some .cell) : swapsWith (.ListComp elt gs scope pos) (some (.Name y py)) l env = pure false := by
  have ky : env.kindOf y = some .cell := hy
  unfold swapsWith
  simp only [ky]
  cases h : env.blockKind == ScopeKind.function <;> rfl
def tTryMany (K : PySem.W.Frag) (l : List (Value × (Addr → Value → Option Addr → TS))) (tb : WX → TS) (Wout : WX) : TS := fun D σ H => tb (wMany K Wout D l) D σ H
theorem s_tryM {K : PySem.W.Frag} {l : List (Value × (Addr → Value → Option Addr → TS))} {tb : WX → TS} {Wout : WX} {D : Ends} {σ : L2.St} {H : Hp} (h : tb (wMany K Wout D l) D σ H) : tTryMany K l tb Wout D σ H := h
section
variable {K : PySem.W.Frag} {σ : L2.St} {H : Hp} {te ta tb tl : TE} {x : V} {D : Ends}
theorem el_sl3 {tl th ts : TO} {a : Addr} {xs : List V} {lo hi st : Option Int} (h : Ev te σ H (.ref a)) (h1 : EvO tl σ H lo) (h2 : EvO th σ H hi) (h3 : EvO ts σ H st) (h0 : st ≠ some 0) (hs : SqL K H a xs) : EvL (tSl3 (rSlL3 K) te tl th ts) σ H (stepV xs lo hi st) := fun H1 e _ q =>
  h H1 e _ fun H2 e2 => h1 H2 (e.trans e2) _ fun H3 e3 => h2 H3 ((e.trans e2).trans e3) _ fun H4 e4 => h3 H4 (((e.trans e2).trans e3).trans e4) _ fun H5 e5 =>
    ⟨a, xs, rfl, ex_l ((((e.trans e2).trans e3).trans e4).trans e5) hs, h0, fun p hp => q p _ (fresh_back (((e2.trans e3).trans e4).trans e5) hp) ((((e2.trans e3).trans e4).trans e5).trans (Ex.new hp)) upd_same⟩
theorem ev_sum {ns : List Int} (h : EvL te σ H (ns.map V.int)) : Ev (tCB (rSum K) (tCons te tNil)) σ H (.int ns.sum) := fun H1 e Q q =>
  h H1 e _ fun p H2 hp e2 h2 => ⟨p, ns, rfl, sq_of h2, q H2 e2⟩
theorem ev_sum3 {tl th ts : TO} {a : Addr} {ns : List Int} {lo hi st : Option Int} (h : Ev te σ H (.ref a)) (h1 : EvO tl σ H lo) (h2 : EvO th σ H hi) (h3 : EvO ts σ H st) (h0 : st ≠ some 0) (hs : SqL K H a (ns.map V.int)) : ∃ c : Int, Ev (tCB (rSum K) (tCons (tSl3 (rSlL3 K) te tl th ts) tNil)) σ H (.int c) := by
  obtain ⟨ms, e, _⟩ := stepV_map V.int ns lo hi st
  exact ⟨ms.sum, ev_sum (by rw [← e]; exact el_sl3 h h1 h2 h3 h0 hs)⟩
end
theorem R_dropL {b : List Bool} : (R b).dropLast = R b.dropLast := by
  unfold R
  rw [List.map_dropLast]
theorem q_tryM {K : PySem.W.Frag} {l : List (Value × (Addr → Value → Option Addr → TS))} {tb : WX → TS} {Wout : WX} {D : Ends} {σ : L2.St} {H : Hp} {tz : TS} (h : tb (wMany K Wout { D with nx := tz D } l) { D with nx := tz D } σ H) : tSeq (tTryMany K l tb Wout) tz D σ H := h
/-! where a row stands -/
theorem asc_split {rs : List (List Bool)} {l : Option (List Bool)} (h : Asc l rs) (row : List Bool) : before rs row ++ rs.filter (fun r => !decide (R r < R row)) = rs := by
  have hp := asc_pair h
  clear h
  unfold before
  induction hp with
  | nil => rfl
  | @cons r rs h1 h2 ih =>
    by_cases hr : R r < R row
    · rw [List.filter_cons_of_pos (by simp [hr]), List.filter_cons_of_neg (by simp [hr]), List.cons_append, ih]
    · have h3 : ∀ y ∈ r :: rs, ¬ R y < R row := fun y hy z => by
        rcases List.mem_cons.mp hy with rfl | hy
        · exact hr z
        · exact hr (List.lt_trans (h1 y hy) z)
      rw [List.filter_eq_nil_iff.mpr fun y hy => by simpa using h3 y hy, List.filter_eq_self.mpr fun y hy => by simpa using h3 y hy]
      rfl
theorem bef_le (rs : List (List Bool)) (row : List Bool) : (before rs row).length ≤ rs.length := List.length_filter_le _ _
theorem asc_put {rs : List (List Bool)} {row : List Bool} (h : Asc none rs) (hn : row ∉ rs) : Asc none (rs.take (before rs row).length ++ [row] ++ rs.drop (before rs row).length) := by
  have e := asc_split h row
  have e1 : rs.take (before rs row).length = before rs row := by
    conv => lhs; rw [← e]
    exact List.take_left' (by rw [e])
  have e2 : rs.drop (before rs row).length = rs.filter (fun r => !decide (R r < R row)) := by
    conv => lhs; rw [← e]
    exact List.drop_left' (by rw [e])
  rw [e1, e2]
  refine asc_ins (by rw [e]; exact h) (fun x hx => of_decide_eq_true (List.mem_filter.mp hx).2) (fun x z => nomatch z) fun y ys hy => ?_
  have hm : y ∈ rs.filter (fun r => !decide (R r < R row)) := by rw [hy]; exact List.mem_cons_self
  obtain ⟨hm1, hm2⟩ := List.mem_filter.mp hm
  have hm2 : ¬ R y < R row := by simpa using hm2
  exact R_lt_or _ _ hm2 fun z => hn (by rw [← R_inj z]; exact hm1)
theorem at_bef {rs : List (List Bool)} {row : List Bool} (h : Asc none rs) (hin : row ∈ rs) : rs[(before rs row).length]? = some row := by
  have e := asc_split h row
  have hp := asc_pair h
  have hm : row ∈ rs.filter (fun r => !decide (R r < R row)) := List.mem_filter.mpr ⟨hin, by simp [List.lt_irrefl]⟩
  have e2 : rs[(before rs row).length]? = (rs.filter (fun r => !decide (R r < R row)))[0]? := by
    conv => lhs; rw [← e]
    rw [List.getElem?_append_right (by rw [e]; exact Nat.le_refl _), e, Nat.sub_self]
  rw [e2]
  have hq := hp.filter (fun r => !decide (R r < R row))
  generalize hx : rs.filter (fun r => !decide (R r < R row)) = xs at hm hq
  cases xs with
  | nil => cases hm
  | cons x xs =>
    rcases List.mem_cons.mp hm with rfl | hm
    · rfl
    · have h1 := (List.pairwise_cons.mp hq).1 row hm
      have h2 : x ∈ rs.filter (fun r => !decide (R r < R row)) := by rw [hx]; exact List.mem_cons_self
      have h3 : ¬ R x < R row := by simpa using (List.mem_filter.mp h2).2
      exact absurd h1 h3
theorem asc_cut {rs : List (List Bool)} (h : Asc none rs) {ms : List (List Bool)} (hs : ms.Sublist rs) : Asc none ms := asc_iff.mpr ((asc_pair h).sublist hs)
theorem mem_put {rs : List (List Bool)} {row r : List Bool} {i : Nat} : r ∈ rs.take i ++ [row] ++ rs.drop i ↔ r ∈ rs ∨ r = row := by
  rw [List.mem_append, List.mem_append, List.mem_singleton]
  conv => rhs; rw [← List.take_append_drop i rs, List.mem_append]
  constructor
  · rintro ((h | h) | h)
    · exact .inl (.inl h)
    · exact .inr h
    · exact .inl (.inr h)
  · rintro ((h | h) | h)
    · exact .inl (.inl h)
    · exact .inr h
    · exact .inl (.inr h)
theorem put_sort {rs : List (List Bool)} {row : List Bool} (h : Asc none rs) (hn : row ∉ rs) (hnd : (rs ++ [row]).Nodup) : sortR (rs ++ [row]) = rs.take (before rs row).length ++ [row] ++ rs.drop (before rs row).length := by
  refine asc_ext (asc_sort hnd) (asc_put h hn) fun r => ?_
  rw [mem_sortR, mem_put, List.mem_append, List.mem_singleton]
theorem nodup_at {α : Type} : ∀ {xs : List α} {i j : Nat}, xs.Nodup → ∀ (hi : i < xs.length) (hj : j < xs.length), xs[i] = xs[j] → i = j
  | x :: xs, 0, 0, _, _, _, _ => rfl
  | x :: xs, 0, j + 1, h, _, hj, e => by
      have := (List.nodup_cons.mp h).1
      exact absurd (by rw [show x = xs[j]'(by simpa using hj) from e]; exact List.getElem_mem _) this
  | x :: xs, i + 1, 0, h, hi, _, e => by
      have := (List.nodup_cons.mp h).1
      exact absurd (by rw [← show xs[i]'(by simpa using hi) = x from e]; exact List.getElem_mem _) this
  | x :: xs, i + 1, j + 1, h, hi, hj, e => by
      rw [nodup_at (List.nodup_cons.mp h).2 (by simpa using hi) (by simpa using hj) e]
theorem drop_at {rs : List (List Bool)} {row : List Bool} (h : Asc none rs) (hin : row ∈ rs) : rs.eraseIdx (before rs row).length = rs.filter fun r => !decide (R r = R row) := by
  have hat := at_bef h hin
  refine asc_ext (asc_cut h (List.eraseIdx_sublist ..)) (asc_filter h _) fun r => ?_
  rw [List.mem_filter, List.mem_eraseIdx_iff_getElem?]
  have hnd := asc_nodup h
  constructor
  · rintro ⟨j, hj, e⟩
    refine ⟨List.mem_of_getElem? e, ?_⟩
    rw [Bool.not_eq_true', decide_eq_false_iff_not]
    intro z
    have z := R_inj z
    obtain ⟨h1, e1⟩ := List.getElem?_eq_some_iff.mp e
    obtain ⟨h2, e2⟩ := List.getElem?_eq_some_iff.mp hat
    exact hj (nodup_at hnd h1 h2 (by rw [e1, e2, z]))
  · rintro ⟨hr, hne⟩
    rw [Bool.not_eq_true', decide_eq_false_iff_not] at hne
    obtain ⟨j, hj⟩ := List.getElem?_of_mem hr
    refine ⟨j, fun z => ?_, hj⟩
    rw [z, hat] at hj
    exact hne (by rw [Option.some.inj hj])
section
variable {K : PySem.W.Frag} {σ : L2.St} {H : Hp} {te ta tb tl : TE} {x v : V} {D : Ends}
theorem s_popAt {l : Addr} {xs : List V} {i : Nat} {y : V} (hl : H l = some (.lst xs)) (ha : Ev ta σ H (.ref l)) (hi : Ev tb σ H (.int (i : Int))) (hy : xs[i]? = some y) (hi2 : i < 100000) (k : ∀ H1, Ex H H1 → D.nx σ (upd H1 l (.lst (xs.eraseIdx i)))) :
    tDrop (tBM K "list" rPopAt ta (tCons tb tNil)) D σ H :=
  ha H (Ex.refl H) _ fun H1 e1 => ⟨.inl ⟨rfl, xs, sq_of (e1 _ _ hl)⟩, hi H1 e1 _ fun H2 e2 => ⟨l, xs, i, i, y, rfl, rfl, (e1.trans e2) _ _ hl, by omega, by omega, by
    have := (List.getElem?_eq_some_iff.mp hy).1
    unfold seqIndex?
    rw [if_neg (show ¬ ((i : Int) < 0) by omega)]
    simp [this], hy, k H2 (e1.trans e2)⟩⟩
theorem ev_neUU {xs : List V} (ha : EvU ta σ H xs) (hb : ∀ H1, Ex H H1 → EvU tb σ H1 xs) (h : xs.all plainV = true) : Ev (tOp (rNeD K) ta tb) σ H (.bl false) := fun H1 e Q q =>
  ha H1 e _ fun p H2 _ e2 hp => hb H2 (e.trans e2) H2 (Ex.refl H2) _ fun r H3 _ e3 hr => ⟨.tuple (xs.map toD), .tuple (xs.map toD), .tup (st_of (e3 _ _ hp)) (dpAll_plain h), .tup (st_of hr) (dpAll_plain h), shaped_tup h, shaped_tup h, by
    rw [eqv_same (shaped_tup h)]
    exact q H3 (e2.trans e3)⟩
theorem el_slRL {tl th ts : TO} {a : Addr} {rs : List (List Bool)} {lo hi st : Option Int} (h : Ev te σ H (.ref a)) (h1 : EvO tl σ H lo) (h2 : EvO th σ H hi) (h3 : EvO ts σ H st) (h0 : st ≠ some 0) (hs : SqL K H a (RL rs)) : ∃ ms : List (List Bool), EvL (tSl3 (rSlL3 K) te tl th ts) σ H (RL ms) ∧ (∀ m ∈ ms, m ∈ rs) ∧ ms.length ≤ rs.length ∧ ms = (slIx lo hi st rs.length).filterMap (rs[·]?) := by
  obtain ⟨ms, e, g⟩ := stepV_map (fun r => V.str (T (R r))) rs lo hi st
  refine ⟨ms, ?_, g⟩
  have : stepV (RL rs) lo hi st = RL ms := e
  rw [← this]
  exact el_sl3 h h1 h2 h3 h0 hs
end
theorem slIx_two (n : Nat) : (slIx none none (some 2) n).Pairwise (· < ·) := by
  unfold slIx sliceRange
  simp only [sliceBounds, Option.getD_some, show (2 : Int) > 0 by decide, if_true]
  refine List.Pairwise.map _ (fun i j (h : i < j) => ?_) List.pairwise_lt_range
  omega
theorem asc_pick {rs : List (List Bool)} (h : Asc none rs) {ix : List Nat} (hx : ix.Pairwise (· < ·)) : Asc none (ix.filterMap (rs[·]?)) := by
  refine asc_iff.mpr (List.pairwise_filterMap.mpr (hx.imp fun {i j} hij a ha b hb => ?_))
  obtain ⟨h1, rfl⟩ := List.getElem?_eq_some_iff.mp ha
  obtain ⟨h2, rfl⟩ := List.getElem?_eq_some_iff.mp hb
  exact asc_lt hij h2 h
theorem RL_erase (rs : List (List Bool)) (i : Nat) : (RL rs).eraseIdx i = RL (rs.eraseIdx i) := by
  unfold RL
  rw [List.eraseIdx_eq_take_drop_succ, List.eraseIdx_eq_take_drop_succ, List.map_append, List.map_take, List.map_drop]
theorem RL_put (rs : List (List Bool)) (row : List Bool) (i : Nat) : (RL rs).take i ++ [.str (T (R row))] ++ (RL rs).drop i = RL (rs.take i ++ [row] ++ rs.drop i) := by
  unfold RL
  simp [List.map_take, List.map_drop]
theorem before_drop (rs : List (List Bool)) (row : List Bool) : before (rs.filter fun r => !decide (R r = R row)) row = before rs row := by
  unfold before
  rw [List.filter_filter]
  refine List.filter_congr fun r _ => ?_
  by_cases h : R r < R row
  · have : R r ≠ R row := fun z => List.lt_irrefl _ (by rw [z] at h; exact h)
    simp [h, this]
  · simp [h]
theorem before_app (xs ys : List (List Bool)) (row : List Bool) : before (xs ++ ys) row = before xs row ++ before ys row := by
  unfold before
  rw [List.filter_append]
theorem before_put (rs : List (List Bool)) (row : List Bool) (i : Nat) : before (rs.take i ++ [row] ++ rs.drop i) row = before rs row := by
  have h : before [row] row = [] := by
    unfold before
    rw [List.filter_eq_nil_iff]
    intro r hr
    rw [List.mem_singleton.mp hr]
    simp [List.lt_irrefl]
  rw [before_app, before_app, h, List.append_nil, ← before_app, List.take_append_drop]
end Kr
/-! several except clauses with names, each error kept -/
namespace Kr
open PySem PySem.Spec PyProof.Rows L2 Evl
/-- what the clauses 'except x as n' wish, one after the other -/
def wManyK (K : PySem.W.Frag) (Wout : WX) (D : Ends) : List (Value × Nat × (Addr → Value → Option Addr → TS)) → WX
  | [] => Wout
  | (c, i, ts) :: r => fun cls d σ H => ∃ b, PySem.W.exmOne K cls c = some b ∧
    (b = true → ∀ a, H a = none → ts a cls d { nx := fun σ' H' => D.nx (σ'.set i none) (upd H' a (ExK cls d a)), rt := fun _ _ => False } (σ.set i (some (.ref a))) H) ∧ (b = false → wManyK K Wout D r cls d σ H)
inductive HdsK (X : Cx) : List ExceptHandler → List (Value × Nat × (Addr → Value → Option Addr → TS)) → Prop
  | nil : HdsK X [] []
  | cons {x n : Str} {c : Value} {i : Nat} {ts : Addr → Value → Option Addr → TS} {b₀ : Stmt} {suite : List Stmt} {np pos' : Pos} {hds : List ExceptHandler} {l : List (Value × Nat × (Addr → Value → Option Addr → TS))}
      (hi : X.N[i]? = some n) (hln : X.env.kindOf n = some .local) (hc : Names X x c)
      (hsu : ∀ (a : Addr) (oe : Obj) (cls : Value) (d : Option Addr) (pn : List (Addr × Obj)), Zc cls d oe → (∃ vs, oe.data = .fields vs) → PSs (X.suite a ((a, oe) :: pn)) (b₀ :: suite) (ts a cls d)) (r : HdsK X hds l) :
      HdsK X (.ExceptHandler (some (.Name x np)) (some n) (b₀ :: suite) pos' :: hds) ((c, i, ts) :: l)
section
variable {X : Cx} {body : List Stmt} {h₀ : ExceptHandler} {hds : List ExceptHandler} {l : List (Value × Nat × (Addr → Value → Option Addr → TS))} {pos : Pos} {tb : WX → TS} {Wout : WX}
theorem ps_try_manyK (hs : X.stack = X.env :: X.outer) (hf : X.env.frame = some X.env.locals) (hex : X.ex = []) (hN : X.N.Nodup) (tk : Takes X Wout)
    (hb : ∀ (W : WX) (pn : List (Addr × Obj)) (xe : Value → Shared → Prop), Takes (X.tr pn xe) W → PassesOwn (model X.prog X.w) X.A X.env xe → PSs (X.tr pn xe) body (tb W))
    (hh : HdsK X (h₀ :: hds) l) : PS X (.Try body (h₀ :: hds) [] [] pos) (fun D σ H => tb (wManyK X.K Wout D l) D σ H) := by
  refine ⟨fun pins s σ H D I h => ?_⟩
  have okX := I.ok
  have frX : X.A.frames = some (X.env :: X.outer) := by rw [okX.frames, hs]
  refine wpAny_Try_except ?_
  refine wpAny_mono ((hb (wManyK X.K Wout D l) (X.pn ++ pins) (fun e s₁ => wpAny (model X.prog X.w) X.A (noteFrame e X.env) (fun _ s₂ => wpAny (model X.prog X.w) X.A (setFlight e none) (fun _ s₃ =>
    wpAny (model X.prog X.w) X.A (handleBy e X.env (h₀ :: hds)) (SP X pins D) X.xe s₃) X.xe s₂) X.xe s₁) (fun u s' air => ?_) PassesOwn.looking).run [] s σ H D (I.toTry _) h) (fun f s1 done => ?_) (fun e s1 he => he)
  · obtain ⟨a, B, s2, pins2, σ2, H2, cls, d, rfl, J0, nb, up, sky, na, os, ag, w⟩ := air
    have J : Inv X pins σ2 H2 s2 := J0.ofTry okX
    rw [show (X.tr (X.pn ++ pins) _).stack = X.env :: X.outer from hs] at sky
    show wpAny (model X.prog X.w) X.A (noteFrame (.ref a) X.env) _ _ _
    refine Sky.land Zc.steady frX hf sky fun h3 fl3 up3 => ?_
    have J3 : Inv X pins σ2 H2 { s' with heap := h3 } := J.landed nb fl3.1 (up.trans up3) os ag
    obtain ⟨oe3, vs3, he3, hz3, hd3⟩ := fl3.there
    have far : a ∉ frs (X.env :: X.outer) := fun hm => by
      obtain ⟨_, o', e', hnf⟩ := fl3.2.2.1.mem hm
      have e2 := he3.symm.trans e'
      cases e2
      exact hnf _ hd3
    have nL : a ≠ X.env.locals := fun z => far (List.mem_filterMap.mpr ⟨X.env, List.mem_cons_self, by rw [hf, z]⟩)
    have nF : a ∉ X.fs := fun hm => by
      obtain ⟨e, he, q⟩ := List.mem_filterMap.mp hm
      exact far (List.mem_filterMap.mpr ⟨e, List.mem_cons_of_mem _ he, q⟩)
    have ground : ∀ o, s2.heap.get? a = some o → False := fun o e => by
      have := nb a o e (by rw [show (X.tr (X.pn ++ pins) _).stack = X.env :: X.outer from hs]; exact far)
      rw [fl3.2.1] at this
      cases this
    have hnew : X.s_0.heap.get? a = none := by
      cases e : X.s_0.heap.get? a with
      | none => rfl
      | some o =>
        obtain ⟨o', e'⟩ := J.base.there a o e (by rw [hex]; exact fun z => nomatch z)
        exact (ground o' e').elim
    have hpn : ∀ p ∈ X.pn ++ pins, p.1 ≠ a := fun p hp z => by
      have e := (J.pin p hp).1
      rw [z] at e
      exact ground _ e
    have S3 := J3.suite he3 hd3 na nL nF
    have go : ∀ {hds' : List ExceptHandler} {l' : List (Value × Nat × (Addr → Value → Option Addr → TS))}, HdsK X hds' l' → wManyK X.K Wout D l' cls d σ2 H2 →
        wpAny (model X.prog X.w) X.A (handleBy (.ref a) X.env hds') (SP X pins D) X.xe { s' with heap := h3 } := by
      intro hds' l' hk
      induction hk with
      | nil =>
        intro w
        refine wpAny_handleBy_nil ?_
        obtain ⟨k1, k2, k3, oe, vs, T, oT, ts', he, hz, hd, h1, hr⟩ := id fl3
        unfold PySem.passOn
        refine wpAny_bind (wpAny_field he hd h1 ?_)
        rw [if_neg (show ¬ ((Value.ref T == Value.none) = true) from by simp)]
        have fin : wpAny (model X.prog X.w) X.A (setFlight (.ref a) X.env.frame) (fun _ s4 => wpAny (model X.prog X.w) X.A (throw (.ref a) : Sem Flow) (SP X pins D) X.xe s4) X.xe { s' with heap := h3 } := by
          rw [hf]
          refine HandSPX.setFlight_upZ fl3 fun h4 hh4 up4 => wpAny_throw (tk _ _ ?_)
          exact ⟨a, B, s2, pins, σ2, H2, cls, d, rfl, J, nb, (up.trans up3).trans up4, .inr (.inr (by rw [hs]; exact hh4)), na, os, ag, w⟩
        first
          | exact wpAny_bind (wpAny_pure (wpAny_bind fin))
          | exact wpAny_bind fin
      | @cons x n c i ts b₀ suite np pos' hds2 l2 hi hln hc hsu r ih =>
        intro w
        obtain ⟨b, hb1, hyes, hno⟩ := w
        refine wpAny_handleBy_cons (codeAny_handlers_test ?_) (by intro q; cases q)
        have LT : PySem.W.Looks (model X.prog X.w) h3 (typeOf (.ref a)) cls := fun A Q E s k q => wpAny_typeOf_ref (k _ _ he3) (by rw [hz3.1]; exact q)
        have LM := PySem.W.exm_one (M := model X.prog X.w) (J3.kIn) LT hb1
        have test : ∀ {Q : Value → Shared → Prop} {E : Value → Shared → Prop}, Q c { s' with heap := h3 } → wpAny (model X.prog X.w) (X.A.mark (some (.ref a))) (eval (.Name x np) X.env) Q E { s' with heap := h3 } := fun {Q E} q => by
          obtain ⟨hg, hdbg, hm | ⟨hm, hv, hnn⟩⟩ := hc
          · exact ld_glob (X := X.suite a ((a, oe3) :: (X.pn ++ pins))) S3 hg hm q hdbg
          · exact ld_blt (X := X.suite a ((a, oe3) :: (X.pn ++ pins))) S3 hg hm hv q hnn hdbg
        refine test (LM.here ?_)
        cases b with
        | true =>
          refine codeAny_handlers_suite_as (HandSPX.lands_againZ fl3 fun h4 fl4 up4 => ?_)
          have J4 : Inv X pins σ2 H2 { s' with heap := h4 } := J.landed nb fl4.1 ((up.trans up3).trans up4) os ag
          obtain ⟨oe4, vs4, he4, hz4, hd4⟩ := fl4.there
          have S4 := J4.suite he4 hd4 na nL nF
          refine store_ok (X := X.suite a ((a, oe4) :: (X.pn ++ pins))) (v := .ref a) S4 hN hi (.inl hln) rfl (fun s5 S5 => ?_) (.inr hln)
          refine wpAny_mono ((hsu a oe4 cls d (X.pn ++ pins) hz4 ⟨_, hd4⟩).run [] s5 _ H2 _ S5 (hyes rfl a na)) (fun f s6 hsp => ?_) (fun _ _ z => False.elim z)
          cases f with
          | next =>
            obtain ⟨σ6, H6, S6, q6⟩ := hsp
            have P6 : Inv X ((a, oe4) :: pins) σ6 H6 s6 := ⟨okX, S6.os, S6.bare, S6.base, S6.loc, S6.cell, S6.free, S6.freeC, fun p hp => S6.pin p (List.mem_append_left _ (by
              rcases List.mem_append.mp hp with z | z
              · exact List.mem_cons_of_mem _ (List.mem_append_left _ z)
              · rcases List.mem_cons.mp z with z | z
                · rw [z]; exact List.mem_cons_self
                · exact List.mem_cons_of_mem _ (List.mem_append_right _ z))), S6.hok, S6.len⟩
            exact gone_ok P6 hN hi hln fun s7 J7 => ⟨_, _, inv_track J7 hz4 ⟨_, hd4⟩ hnew hpn, q6⟩
          | brk => obtain ⟨_, _, _, q6⟩ := hsp; exact q6.elim
          | cont => obtain ⟨_, _, _, q6⟩ := hsp; exact q6.elim
          | ret u => obtain ⟨_, _, _, _, _, q6⟩ := hsp; exact q6.elim
        | false =>
          show wpAny _ X.A (handleBy (.ref a) X.env hds2) _ _ _
          exact ih (hno rfl)
    exact go hh w
  · cases f with
    | next => obtain ⟨σ1, H1, J, q⟩ := done; exact wpAny_execs_nil ⟨σ1, H1, J.ofTry okX, q⟩
    | brk => obtain ⟨σ1, H1, J, q⟩ := done; exact ⟨σ1, H1, J.ofTry okX, q⟩
    | cont => obtain ⟨σ1, H1, J, q⟩ := done; exact ⟨σ1, H1, J.ofTry okX, q⟩
    | ret u => obtain ⟨v, σ1, H1, J, r, q⟩ := done; exact ⟨v, σ1, H1, J.ofTry okX, r, q⟩
end
def tTryManyK (K : PySem.W.Frag) (l : List (Value × Nat × (Addr → Value → Option Addr → TS))) (tb : WX → TS) (Wout : WX) : TS := fun D σ H => tb (wManyK K Wout D l) D σ H
theorem q_tryMK {K : PySem.W.Frag} {l : List (Value × Nat × (Addr → Value → Option Addr → TS))} {tb : WX → TS} {Wout : WX} {D : Ends} {σ : L2.St} {H : Hp} {tz : TS} (h : tb (wManyK K Wout { D with nx := tz D } l) { D with nx := tz D } σ H) : tSeq (tTryManyK K l tb Wout) tz D σ H := h
end Kr
/-! the way back: what was read was a row; signs that are too few; more than a greatest number begins with -/
namespace Kr
open PySem PySem.Spec PyProof.Rows L2 Evl
theorem takeB_back {b : List Bool} {n w c : Bool} {t t' : Nat} (h : takeB b false n w t = .ok c t') : t' = t + 1 ∧ t < b.length ∧ b.drop t = (c != n) :: b.drop t' := by
  unfold takeB at h
  by_cases ht : t < b.length
  · rw [List.getElem?_eq_getElem ht] at h
    cases h
    refine ⟨rfl, ht, ?_⟩
    rw [List.drop_eq_getElem_cons ht]
    congr 1
    cases b[t] <;> cases n <;> rfl
  · rw [List.getElem?_eq_none (by omega)] at h
    cases h
theorem takeB_short {b : List Bool} {n w : Bool} {t : Nat} {c : Str} {p : Int} (h : takeB b false n w t = .bad c p) : c = "Short" ∧ p = b.length ∧ b.length ≤ t := by
  unfold takeB at h
  by_cases ht : t < b.length
  · rw [List.getElem?_eq_getElem ht] at h
    cases h
  · rw [List.getElem?_eq_none (by omega)] at h
    cases h
    exact ⟨rfl, rfl, by omega⟩
theorem takeB_full {b : List Bool} {f n w : Bool} {t : Nat} (h : t < b.length) : takeB b f n w t = .ok (b[t] != n) (t + 1) := by
  unfold takeB
  rw [List.getElem?_eq_getElem h]
theorem div_of_rng {x y : Int} {k : Nat} (h : y * 2 ^ k ≤ x ∧ x < (y + 1) * 2 ^ k) : x / 2 ^ k = y := by
  have hp : (0 : Int) < 2 ^ k := Int.pow_pos (by decide)
  have h1 := (Int.le_ediv_iff_mul_le hp).mpr h.1
  have h2 := (Int.ediv_lt_iff_lt_mul hp).mpr h.2
  omega
theorem one_mod (y : Int) (c : Bool) : decide ((y * 2 + (if c then 1 else 0)) % 2 = 1) = c := by
  cases c with
  | true => exact decide_eq_true (by simp)
  | false => exact decide_eq_false (by simp)
theorem tdig_back {b : List Bool} {n : Bool} : ∀ {k : Nat} {y x : Int} {t t' : Nat}, tdig b false n k y t = .ok x t' → t' = t + k ∧ x / 2 ^ k = y ∧ b.drop t = nz n (digs x k) ++ b.drop t'
  | 0, y, x, t, t', h => by
    cases h
    refine ⟨rfl, ?_, rfl⟩
    rw [Int.pow_zero, Int.ediv_one]
  | k + 1, y, x, t, t', h => by
    unfold tdig at h
    cases ht : takeB b false n false t with
    | bad c p => rw [ht] at h; cases h
    | ok c t1 =>
      rw [ht] at h
      have h : tdig b false n k (y * 2 + (if c then 1 else 0)) t1 = .ok x t' := h
      obtain ⟨rfl, h1, h2⟩ := takeB_back ht
      obtain ⟨rfl, h3, h4⟩ := tdig_back h
      refine ⟨by omega, ?_, ?_⟩
      · rw [Int.pow_succ, ← Int.ediv_ediv_of_nonneg (Int.le_of_lt (Int.pow_pos (by decide))), h3]
        cases c <;> simp <;> omega
      · rw [h2, h4, digs, h3, one_mod]
        rfl
theorem tones_back {b : List Bool} {n : Bool} : ∀ {k : Nat} {w : Bool} {o o' t t' : Nat}, tones b false n k w o t = .ok o' t' → ∃ j, j ≤ k ∧ o' = o + j ∧ b.drop t = nz n (List.replicate j true ++ (if j < k then [false] else [])) ++ b.drop t' ∧ t' = t + j + (if j < k then 1 else 0)
  | 0, w, o, o', t, t', h => by
    cases h
    exact ⟨0, Nat.le_refl _, rfl, rfl, rfl⟩
  | k + 1, w, o, o', t, t', h => by
    unfold tones at h
    cases ht : takeB b false n w t with
    | bad c p => rw [ht] at h; cases h
    | ok c t1 =>
      rw [ht] at h
      obtain ⟨rfl, h1, h2⟩ := takeB_back ht
      cases c with
      | false =>
        cases (show Res.ok o (t + 1) = .ok o' t' from h)
        refine ⟨0, Nat.zero_le _, rfl, ?_, ?_⟩
        · rw [if_pos (Nat.succ_pos k), h2]
          rfl
        · rw [if_pos (Nat.succ_pos k)]
      | true =>
        obtain ⟨j, hj, rfl, h3, h4⟩ := tones_back (show tones b false n k false (o + 1) (t + 1) = .ok o' t' from h)
        have e : (if j + 1 < k + 1 then [false] else []) = (if j < k then [false] else [] : List Bool) := by
          by_cases q : j < k
          · rw [if_pos q, if_pos (by omega)]
          · rw [if_neg q, if_neg (by omega)]
        have e2 : (if j + 1 < k + 1 then 1 else 0) = (if j < k then 1 else 0 : Nat) := by
          by_cases q : j < k
          · rw [if_pos q, if_pos (by omega)]
          · rw [if_neg q, if_neg (by omega)]
        refine ⟨j + 1, by omega, by omega, ?_, ?_⟩
        · rw [e, h2, h3]
          rfl
        · rw [e2]
          omega
theorem blen_of {m k : Nat} (h1 : 2 ^ k ≤ m) (h2 : m < 2 ^ (k + 1)) : blen m = k + 1 := by
  have := blen_gt h1
  have := blen_le h2 (by have := Nat.two_pow_pos k; omega)
  omega
theorem tcount_back {b : List Bool} {n w : Bool} {v : Int} {t t' : Nat} (h : tcount b false n w t = .ok v t') : countOk v ∧ b.drop t = nz n (countRow v.toNat) ++ b.drop t' ∧ t' = t + (countRow v.toNat).length := by
  unfold tcount at h
  cases h1 : tones b false n 7 w 0 t with
  | bad c p => rw [h1] at h; cases h
  | ok o t1 =>
    rw [h1] at h
    have h : (tdig b false n o 1 t1).bind _ = Res.ok v t' := h
    cases h2 : tdig b false n o 1 t1 with
    | bad c p => rw [h2] at h; cases h
    | ok s t2 =>
      rw [h2] at h
      have h : (tdig b false n (s - 1).toNat 1 t2).bind _ = Res.ok v t' := h
      cases h3 : tdig b false n (s - 1).toNat 1 t2 with
      | bad c p => rw [h3] at h; cases h
      | ok x t3 =>
        rw [h3] at h
        cases (show Res.ok (x - 1) t3 = Res.ok v t' from h)
        obtain ⟨j, hj, ho, d1, p1⟩ := tones_back h1
        rw [Nat.zero_add] at ho
        subst ho
        have r2 := tdig_rng h2
        have r3 := tdig_rng h3
        obtain ⟨p2, _, d2⟩ := tdig_back h2
        obtain ⟨p3, _, d3⟩ := tdig_back h3
        rw [Int.one_mul] at r2 r3
        have ho0 : (0 : Int) < 2 ^ o := Int.pow_pos (by decide)
        obtain ⟨sn, rfl⟩ := Int.eq_ofNat_of_zero_le (show 0 ≤ s by omega)
        have hs1 : 1 ≤ sn := by omega
        have e1 : ((sn : Int) - 1).toNat = sn - 1 := by omega
        rw [e1] at r3 p3 d3
        have hx0 : (0 : Int) < 2 ^ (sn - 1) := Int.pow_pos (by decide)
        obtain ⟨xn, rfl⟩ := Int.eq_ofNat_of_zero_le (show 0 ≤ x by omega)
        have bs : blen sn = o + 1 := blen_of (by
          have := r2.1
          have e : ((2 : Int) ^ o) = ((2 ^ o : Nat) : Int) := by simp
          rw [e] at this
          omega) (by
          have := r2.2
          have e : ((1 + 1 : Int) * 2 ^ o) = ((2 ^ (o + 1) : Nat) : Int) := by rw [Nat.pow_succ, Nat.mul_comm]; simp
          rw [e] at this
          omega)
        have bx : blen xn = sn - 1 + 1 := blen_of (by
          have := r3.1
          have e : ((2 : Int) ^ (sn - 1)) = ((2 ^ (sn - 1) : Nat) : Int) := by simp
          rw [e] at this
          omega) (by
          have := r3.2
          have e : ((1 + 1 : Int) * 2 ^ (sn - 1)) = ((2 ^ (sn - 1 + 1) : Nat) : Int) := by rw [Nat.pow_succ, Nat.mul_comm]; simp
          rw [e] at this
          omega)
        have hsn : sn ≤ 255 := by
          have h8 : (2 : Nat) ^ (o + 1) ≤ 2 ^ 8 := Nat.pow_le_pow_right (by decide) (by omega)
          have := r2.2
          have e : ((1 + 1 : Int) * 2 ^ o) = ((2 ^ (o + 1) : Nat) : Int) := by rw [Nat.pow_succ, Nat.mul_comm]; simp
          rw [e] at this
          omega
        have hxn : xn < 2 ^ 255 := by
          have h8 : (2 : Nat) ^ (sn - 1 + 1) ≤ 2 ^ 255 := Nat.pow_le_pow_right (by decide) (by omega)
          have := r3.2
          have e : ((1 + 1 : Int) * 2 ^ (sn - 1)) = ((2 ^ (sn - 1 + 1) : Nat) : Int) := by rw [Nat.pow_succ, Nat.mul_comm]; simp
          rw [e] at this
          omega
        have hx1 : 1 ≤ xn := by omega
        have ev : ((xn : Int) - 1).toNat = xn - 1 := by omega
        have row : countRow (xn - 1) = List.replicate o true ++ (if o < 7 then [false] else []) ++ digs (sn : Int) o ++ digs (xn : Int) (sn - 1) := by
          unfold countRow
          rw [show xn - 1 + 1 = xn by omega, bx, show sn - 1 + 1 = sn by omega, bs]
          simp
        rw [ev, row]
        refine ⟨⟨by omega, by omega⟩, ?_, ?_⟩
        · rw [nz_app, nz_app, List.append_assoc, List.append_assoc, ← d3, ← d2, ← d1]
        · simp only [List.length_append, List.length_replicate, digs_len]
          have : (if o < 7 then [false] else [] : List Bool).length = if o < 7 then 1 else 0 := by split <;> rfl
          rw [this]
          omega
theorem twhole_back {b : List Bool} {n : Bool} {v : Int} {t t' : Nat} (h : twhole b false n t = .ok v t') : wholeOk v ∧ b.drop t = nz n (wholeRow v) ++ b.drop t' ∧ t' = t + (wholeRow v).length := by
  unfold twhole at h
  cases h1 : takeB b false n true t with
  | bad c p => rw [h1] at h; cases h
  | ok c t1 =>
    rw [h1] at h
    obtain ⟨rfl, h2, h3⟩ := takeB_back h1
    cases c with
    | true =>
      obtain ⟨hv, h4, h5⟩ := tcount_back (show tcount b false n false (t + 1) = .ok v t' from h)
      have h0 : ¬ v < 0 := by have := hv.1; omega
      refine ⟨(wholeOk_pos h0).mpr hv, ?_, ?_⟩
      · unfold wholeRow
        rw [if_neg h0, h3, h4]
        rfl
      · unfold wholeRow
        rw [if_neg h0, List.length_cons]
        omega
    | false =>
      have h : (tcount b false (!n) false (t + 1)).bind (fun x t2 => Res.ok (-1 - x) t2) = Res.ok v t' := h
      cases h6 : tcount b false (!n) false (t + 1) with
      | bad c p => rw [h6] at h; cases h
      | ok x t2 =>
        rw [h6] at h
        cases (show Res.ok (-1 - x) t2 = Res.ok v t' from h)
        obtain ⟨hv, h4, h5⟩ := tcount_back h6
        have h0 : -1 - x < 0 := by have := hv.1; omega
        have e : -1 - (-1 - x) = x := by omega
        refine ⟨(wholeOk_neg h0).mpr (by rw [e]; exact hv), ?_, ?_⟩
        · unfold wholeRow
          rw [if_pos h0, e, h3, h4]
          show _ = nz n (false :: neg (countRow x.toNat)) ++ _
          rw [show nz n (false :: neg (countRow x.toNat)) = (false != n) :: nz n (neg (countRow x.toNat)) from rfl, nz_neg]
          rfl
        · unfold wholeRow
          rw [if_pos h0, e, List.length_cons, neg_len]
          omega
theorem tfix_back {b : List Bool} {n : Bool} {most : Int} : ∀ {k : Nat} {y x : Int} {t t' : Nat}, tfix b false n most k y t = .ok x t' → y ≤ most / 2 ^ k → t' = t + k ∧ x / 2 ^ k = y ∧ x ≤ most ∧ b.drop t = nz n (digs x k) ++ b.drop t'
  | 0, y, x, t, t', h, hy => by
    cases h
    rw [Int.pow_zero, Int.ediv_one] at hy
    refine ⟨rfl, ?_, hy, rfl⟩
    rw [Int.pow_zero, Int.ediv_one]
  | k + 1, y, x, t, t', h, hy => by
    unfold tfix at h
    cases ht : takeB b false n false t with
    | bad c p => rw [ht] at h; cases h
    | ok c t1 =>
      rw [ht] at h
      have h : (if y * 2 + (if c then 1 else 0) > most / 2 ^ k then .bad "Wrong" ((t1 : Int) - 1) else tfix b false n most k (y * 2 + (if c then 1 else 0)) t1) = Res.ok x t' := h
      by_cases hg : y * 2 + (if c then 1 else 0) > most / 2 ^ k
      · rw [if_pos hg] at h; cases h
      · rw [if_neg hg] at h
        obtain ⟨rfl, h1, h2⟩ := takeB_back ht
        obtain ⟨rfl, h3, h5, h4⟩ := tfix_back h (by omega)
        refine ⟨by omega, ?_, h5, ?_⟩
        · rw [Int.pow_succ, ← Int.ediv_ediv_of_nonneg (Int.le_of_lt (Int.pow_pos (by decide))), h3]
          cases c <;> simp <;> omega
        · rw [h2, h4, digs, h3, one_mod]
          rfl
/-! ### enough signs -/
theorem tdig_full {b : List Bool} {f n : Bool} : ∀ {k : Nat} {y : Int} {t : Nat}, t + k ≤ b.length → ∃ x, tdig b f n k y t = .ok x (t + k)
  | 0, y, t, h => ⟨y, rfl⟩
  | k + 1, y, t, h => by
    obtain ⟨x, hx⟩ := tdig_full (b := b) (f := f) (n := n) (k := k) (y := y * 2 + (if (b[t] != n) then 1 else 0)) (t := t + 1) (by omega)
    refine ⟨x, ?_⟩
    unfold tdig
    rw [takeB_full (by omega)]
    show tdig b f n k _ (t + 1) = _
    rw [hx]
    congr 1
    omega
theorem tones_full {b : List Bool} {f n : Bool} : ∀ {k : Nat} {w : Bool} {o t : Nat}, t + k ≤ b.length → ∃ o' t', tones b f n k w o t = .ok o' t' ∧ t' ≤ t + k
  | 0, w, o, t, h => ⟨o, t, rfl, Nat.le_refl _⟩
  | k + 1, w, o, t, h => by
    unfold tones
    rw [takeB_full (by omega)]
    cases (b[t] != n) with
    | false => exact ⟨o, t + 1, rfl, by omega⟩
    | true =>
      obtain ⟨o', t', h1, h2⟩ := tones_full (b := b) (f := f) (n := n) (k := k) (w := false) (o := o + 1) (t := t + 1) (by omega)
      exact ⟨o', t', h1, by omega⟩
theorem tcount_full {b : List Bool} {n w : Bool} {t : Nat} (h : t + 270 ≤ b.length) : ∃ v t', tcount b false n w t = .ok v t' := by
  obtain ⟨o, t1, h1, h2⟩ := tones_full (b := b) (f := false) (n := n) (k := 7) (w := w) (o := 0) (t := t) (by omega)
  have ho := tones_rng h1
  obtain ⟨s, h3⟩ := tdig_full (b := b) (f := false) (n := n) (k := o) (y := 1) (t := t1) (by omega)
  have hs := (tdig_rng h3).2
  have h8 : (2 : Nat) ^ (o + 1) ≤ 2 ^ 8 := Nat.pow_le_pow_right (by decide) (by omega)
  have e : ((1 + 1 : Int) * 2 ^ o) = ((2 ^ (o + 1) : Nat) : Int) := by rw [Nat.pow_succ, Nat.mul_comm]; simp
  rw [e] at hs
  obtain ⟨x, h4⟩ := tdig_full (b := b) (f := false) (n := n) (k := (s - 1).toNat) (y := 1) (t := t1 + o) (by omega)
  refine ⟨x - 1, t1 + o + (s - 1).toNat, ?_⟩
  unfold tcount
  rw [h1]
  show (tdig b false n o 1 t1).bind _ = _
  rw [h3]
  show (tdig b false n (s - 1).toNat 1 (t1 + o)).bind _ = _
  rw [h4]
  rfl
theorem twhole_full {b : List Bool} {n : Bool} {t : Nat} (h : t + 271 ≤ b.length) : ∃ v t', twhole b false n t = .ok v t' := by
  unfold twhole
  rw [takeB_full (by omega)]
  cases (b[t] != n) with
  | true => exact tcount_full (by omega)
  | false =>
    obtain ⟨v, t', h1⟩ := tcount_full (b := b) (n := !n) (w := false) (t := t + 1) (by omega)
    refine ⟨-1 - v, t', ?_⟩
    show (tcount b false (!n) false (t + 1)).bind _ = _
    rw [h1]
    rfl
theorem drop_pre {a b c : List Bool} {t t' : Nat} (h : (a ++ b).drop t = c ++ (a ++ b).drop t') (ht : t' ≤ a.length) (h0 : t' = t + c.length) : a.drop t = c ++ a.drop t' := by
  rw [List.drop_append_of_le_length (by omega), List.drop_append_of_le_length ht, ← List.append_assoc] at h
  exact List.append_cancel_right h
/-- where the signs are too few, more of them are read beyond the end -/
theorem tcount_more {b z : List Bool} {n w : Bool} {t : Nat} {c : Str} {p : Int} (h : tcount b false n w t = .bad c p) (ht : t ≤ b.length) (hz : 270 ≤ z.length) : ∃ v t', tcount (b ++ z) false n w t = .ok v t' ∧ b.length < t' := by
  obtain ⟨v, t', h1⟩ := tcount_full (b := b ++ z) (n := n) (w := w) (t := t) (by rw [List.length_append]; omega)
  refine ⟨v, t', h1, Classical.byContradiction fun hn => ?_⟩
  obtain ⟨hv, h2, h3⟩ := tcount_back h1
  have h4 := drop_pre h2 (by omega) (by rw [nz_len]; exact h3)
  obtain ⟨m, rfl⟩ := Int.eq_ofNat_of_zero_le hv.1
  have := (tcount_at (f := false) (w := w) hv h4).1
  rw [h] at this
  cases this
theorem twhole_more {b z : List Bool} {n : Bool} {t : Nat} {c : Str} {p : Int} (h : twhole b false n t = .bad c p) (ht : t ≤ b.length) (hz : 271 ≤ z.length) : ∃ v t', twhole (b ++ z) false n t = .ok v t' ∧ b.length < t' := by
  obtain ⟨v, t', h1⟩ := twhole_full (b := b ++ z) (n := n) (t := t) (by rw [List.length_append]; omega)
  refine ⟨v, t', h1, Classical.byContradiction fun hn => ?_⟩
  obtain ⟨hv, h2, h3⟩ := twhole_back h1
  have h4 := drop_pre h2 (by omega) (by rw [nz_len]; exact h3)
  have := (twhole_at (f := false) hv h4).1
  rw [h] at this
  cases this
theorem twhole_bad {b : List Bool} {n : Bool} {t : Nat} {c : Str} {p : Int} (h : twhole b false n t = .bad c p) : c = "Short" ∧ p = b.length := by
  unfold twhole at h
  cases h1 : takeB b false n true t with
  | bad c' p' =>
    rw [h1] at h
    cases (show Res.bad c' p' = Res.bad c p from h)
    obtain ⟨h2, h3, _⟩ := takeB_short h1
    exact ⟨h2, h3⟩
  | ok x t1 =>
    rw [h1] at h
    cases x with
    | true => exact tcount_bad (show tcount b false n false t1 = _ from h)
    | false =>
      have h : (tcount b false (!n) false t1).bind (fun x t2 => Res.ok (-1 - x) t2) = Res.bad c p := h
      cases h6 : tcount b false (!n) false t1 with
      | bad c' p' =>
        rw [h6] at h
        cases (show Res.bad c' p' = Res.bad c p from h)
        exact tcount_bad h6
      | ok x t2 => rw [h6] at h; cases h
theorem tfix_zeros {b : List Bool} {most : Int} : ∀ {k : Nat} {y : Int} {t : Nat}, 0 ≤ y → y ≤ most / 2 ^ k → t + k ≤ b.length → (∀ i, t ≤ i → i < t + k → b[i]? = some false) → ∃ x, tfix b false false most k y t = .ok x (t + k)
  | 0, y, t, _, _, _, _ => ⟨y, rfl⟩
  | k + 1, y, t, h0, hy, hl, hb => by
    have ht : takeB b false false false t = .ok false (t + 1) := by
      unfold takeB
      rw [hb t (Nat.le_refl _) (by omega)]
      rfl
    have h2 : most / 2 ^ (k + 1) = most / 2 ^ k / 2 := by rw [Int.pow_succ, Int.ediv_ediv_of_nonneg (Int.le_of_lt (Int.pow_pos (by decide)))]
    rw [h2] at hy
    obtain ⟨x, hx⟩ := tfix_zeros (b := b) (most := most) (k := k) (y := y * 2) (t := t + 1) (by omega) (by omega) (by omega) fun i h1 h3 => hb i (by omega) (by omega)
    refine ⟨x, ?_⟩
    unfold tfix
    rw [ht]
    show (if y * 2 + (if false = true then 1 else 0) > most / 2 ^ k then .bad "Wrong" _ else tfix b false false most k (y * 2 + (if false = true then 1 else 0)) (t + 1)) = _
    rw [if_neg (by simp; omega), show (if false = true then (1 : Int) else 0) = 0 from rfl, Int.add_zero, hx]
    congr 1
    omega
theorem tfix_more {b : List Bool} {most : Int} {m : Nat} : ∀ {k : Nat} {y : Int} {t : Nat} {p : Int}, k ≤ m → 0 ≤ y → y ≤ most / 2 ^ k → t ≤ b.length → tfix b false false most k y t = .bad "Short" p → p = b.length ∧ b.length < t + k ∧ ∃ x, tfix (b ++ List.replicate m false) false false most k y t = .ok x (t + k)
  | 0, y, t, p, _, _, _, _, h => by cases h
  | k + 1, y, t, p, hk, h0, hy, ht, h => by
    by_cases hlt : t < b.length
    · unfold tfix at h ⊢
      rw [takeB_full hlt] at h
      have hlt2 : t < (b ++ List.replicate m false).length := by rw [List.length_append]; omega
      rw [takeB_full hlt2]
      have eb : (b ++ List.replicate m false)[t] = b[t] := List.getElem_append_left hlt
      rw [eb]
      generalize (b[t] != false) = c at h ⊢
      have h : (if y * 2 + (if c then 1 else 0) > most / 2 ^ k then .bad "Wrong" _ else tfix b false false most k (y * 2 + (if c then 1 else 0)) (t + 1)) = Res.bad "Short" p := h
      by_cases hg : y * 2 + (if c then 1 else 0) > most / 2 ^ k
      · rw [if_pos hg] at h
        exact absurd (Res.bad.inj h).1 (by decide +kernel)
      · rw [if_neg hg] at h
        obtain ⟨h1, h2, x, h3⟩ := tfix_more (m := m) (by omega) (by cases c <;> simp <;> omega) (by omega) (by omega) h
        refine ⟨h1, by omega, x, ?_⟩
        show (if y * 2 + (if c then 1 else 0) > most / 2 ^ k then .bad "Wrong" _ else tfix _ false false most k (y * 2 + (if c then 1 else 0)) (t + 1)) = _
        rw [if_neg hg, h3]
        congr 1
        omega
    · obtain rfl : t = b.length := by omega
      refine ⟨?_, by omega, tfix_zeros h0 hy (by simp; omega) fun i h1 h2 => ?_⟩
      · unfold tfix at h
        unfold takeB at h
        rw [List.getElem?_eq_none (Nat.le_refl _)] at h
        have h : Res.bad "Short" (b.length : Int) = Res.bad "Short" p := h
        exact (Res.bad.inj h).2.symm
      · rw [List.getElem?_append_right h1, List.getElem?_replicate, if_pos (by omega)]
theorem tfix_bad {b : List Bool} {n : Bool} {most : Int} : ∀ {k : Nat} {y : Int} {t : Nat} {c : Str} {p : Int}, tfix b false n most k y t = .bad c p → (c = "Short" ∧ p = b.length) ∨ (c = "Wrong" ∧ (t : Int) ≤ p ∧ p < b.length)
  | 0, y, t, c, p, h => by cases h
  | k + 1, y, t, c, p, h => by
    unfold tfix at h
    cases ht : takeB b false n false t with
    | bad c' p' =>
      rw [ht] at h
      cases (show Res.bad c' p' = Res.bad c p from h)
      obtain ⟨h2, h3, _⟩ := takeB_short ht
      exact .inl ⟨h2, h3⟩
    | ok x t1 =>
      rw [ht] at h
      obtain ⟨rfl, hl, _⟩ := takeB_back ht
      have h : (if y * 2 + (if x then 1 else 0) > most / 2 ^ k then .bad "Wrong" (((t + 1 : Nat) : Int) - 1) else tfix b false n most k (y * 2 + (if x then 1 else 0)) (t + 1)) = Res.bad c p := h
      by_cases hg : y * 2 + (if x then 1 else 0) > most / 2 ^ k
      · rw [if_pos hg] at h
        cases h
        exact .inr ⟨rfl, by omega, by omega⟩
      · rw [if_neg hg] at h
        rcases tfix_bad h with h1 | ⟨h1, h2, h3⟩
        · exact .inl h1
        · exact .inr ⟨h1, by omega, h3⟩
/-! ### rows of like lengths stand as their worths do -/
def val : List Bool → Int
  | [] => 0
  | x :: l => (if x then 1 else 0) * 2 ^ l.length + val l
theorem val_rng : ∀ l : List Bool, 0 ≤ val l ∧ val l < 2 ^ l.length
  | [] => by simp [val]
  | x :: l => by
    have h := val_rng l
    have e : (2 : Int) ^ (l.length + 1) = 2 * 2 ^ l.length := by rw [Int.pow_succ, Int.mul_comm]
    rw [val, List.length_cons, e]
    cases x <;> simp <;> omega
theorem val_snoc : ∀ (l : List Bool) (c : Bool), val (l ++ [c]) = val l * 2 + (if c then 1 else 0)
  | [], c => by simp [val]
  | x :: l, c => by
    rw [List.cons_append, val, val_snoc l c, val, List.length_append, List.length_singleton, Int.pow_succ, Int.add_mul, ← Int.mul_assoc]
    omega
theorem val_lt : ∀ (a b : List Bool), a.length = b.length → (R a < R b ↔ val a < val b)
  | [], [], _ => by simp [R, val]
  | x :: a, y :: b, h => by
    have hl : a.length = b.length := by simpa using h
    have h1 := val_rng a
    have h2 := val_rng b
    have ih := val_lt a b hl
    show bc x :: R a < bc y :: R b ↔ _
    rw [List.cons_lt_cons_iff, ih, val, val, hl]
    rw [hl] at h1
    cases x <;> cases y <;> simp [bc] <;> omega
theorem val_digs (x : Int) : ∀ k : Nat, val (digs x k) = x % 2 ^ k
  | 0 => by simp [digs, val, Int.emod_one]
  | k + 1 => by
    rw [digs, val, digs_len, val_digs x k, mod_two_pow]
    have : x / 2 ^ k % 2 = 0 ∨ x / 2 ^ k % 2 = 1 := by omega
    rcases this with h | h <;> rw [h] <;> simp
theorem digs_take (x : Int) (k : Nat) : ∀ j : Nat, (digs x (j + k)).take j = digs (x / 2 ^ k) j
  | 0 => by simp [digs]
  | j + 1 => by
    rw [show j + 1 + k = (j + k) + 1 by omega, digs, List.take_succ_cons, digs_take x k j, digs]
    congr 2
    rw [Int.ediv_ediv_of_nonneg (Int.le_of_lt (Int.pow_pos (by decide))), ← Int.pow_add, Nat.add_comm]
theorem lt_flen (m : Nat) : m < 2 ^ flen m := by
  unfold flen
  split
  · rename_i h; subst h; decide
  · unfold blen; exact Nat.lt_log2_self
/-- the first j + 1 digits of m -/
theorem val_bin {m j : Nat} (h : j < flen m) : val ((bin m).take (j + 1)) = (m : Int) / 2 ^ (flen m - (j + 1)) := by
  unfold bin
  have e : flen m = (j + 1) + (flen m - (j + 1)) := by omega
  rw [show digs (m : Int) (flen m) = digs (m : Int) ((j + 1) + (flen m - (j + 1))) by rw [← e], digs_take, val_digs]
  have hp : (0 : Int) < 2 ^ (flen m - (j + 1)) := Int.pow_pos (by decide)
  refine Int.emod_eq_of_lt (Int.ediv_nonneg (by omega) (Int.le_of_lt hp)) ?_
  rw [Int.ediv_lt_iff_lt_mul hp, ← Int.pow_add, ← e]
  have := lt_flen m
  have e2 : ((2 : Int) ^ flen m) = ((2 ^ flen m : Nat) : Int) := by simp
  rw [e2]
  omega
theorem take_one {b : List Bool} {t j : Nat} (h : t + j < b.length) : (b.drop t).take (j + 1) = (b.drop t).take j ++ [b[t + j]] := by
  rw [List.take_add_one, List.getElem?_drop, List.getElem?_eq_getElem h]
  rfl
/-- more signs than the greatest number begins with -/
theorem too_step {b : List Bool} {m t j : Nat} (hj : j < flen m) (h : t + j < b.length) : decide (R ((bin m).take (j + 1)) < R ((b.drop t).take (j + 1))) = decide (val ((b.drop t).take j) * 2 + (if b[t + j] then 1 else 0) > (m : Int) / 2 ^ (flen m - (j + 1))) := by
  have hl : ((bin m).take (j + 1)).length = ((b.drop t).take (j + 1)).length := by
    rw [List.length_take, List.length_take, bin_len, List.length_drop]
    omega
  refine decide_eq_decide.mpr ?_
  rw [val_lt _ _ hl, val_bin hj, take_one h, val_snoc]
/-! ### a, b = f(..), f's promise met -/
theorem q_tupG {K : PySem.W.Frag} {σ : L2.St} {H : Hp} {sp : Sp} {E : XK} {t : TA} {vs : List V} {i j : Nat} {tz : TS} {D : Ends} (h : EvA t σ H vs) (k : ∀ H1, Ex H H1 → ∀ Q2 : VK, (∀ p x y H2, H2 p = some (.tup [x, y]) → tz D ((σ.set i (some x)).set j (some y)) H2 → Q2 (.ref p) H2) → sp vs H1 Q2 E) :
    tSeq (tAsg (tCall sp [] E t) (gTup K 2 (gCons (gName i) (gCons (gName j) gNil)))) tz D σ H :=
  h H (Ex.refl H) _ fun H1 e1 => by
    rw [List.append_nil]
    exact k H1 e1 _ fun p x y H2 h2 hk => ⟨p, [x, y], rfl, st_of h2, rfl, x, [y], rfl, y, [], rfl, rfl, hk⟩
end Kr
/-! signs read beyond the end as noughts; a, b = a new list of two; several small rules -/
namespace Kr
open PySem PySem.Spec PyProof.Rows L2 Evl
/-- the sign at a place, nought beyond the end -/
def sg (b : List Bool) (t : Nat) : Bool := b[t]?.getD false
theorem takeB_fill (b : List Bool) (t : Nat) : takeB b true false false t = .ok (sg b t) (t + 1) := by
  unfold takeB sg
  cases b[t]? with
  | none => rfl
  | some c => cases c <;> rfl
theorem takeB_strict {b : List Bool} {t : Nat} (h : t ≤ b.length) : takeB b false false false t = if t + 1 ≤ b.length then .ok (sg b t) (t + 1) else .bad "Short" b.length := by
  unfold takeB sg
  by_cases ht : t < b.length
  · rw [if_pos (show t + 1 ≤ b.length from ht), List.getElem?_eq_getElem ht]
    cases h2 : b[t] <;> simp
  · rw [if_neg (show ¬ t + 1 ≤ b.length from ht), List.getElem?_eq_none (by omega)]
    rfl
theorem tdig_fill (b : List Bool) : ∀ (k : Nat) (y : Int) (t : Nat), ∃ x, tdig b true false k y t = .ok x (t + k) ∧ (t ≤ b.length → tdig b false false k y t = if t + k ≤ b.length then .ok x (t + k) else .bad "Short" b.length)
  | 0, y, t => ⟨y, rfl, fun h => by rw [if_pos (by omega)]; rfl⟩
  | k + 1, y, t => by
    obtain ⟨x, h1, h2⟩ := tdig_fill b k (y * 2 + (if sg b t then 1 else 0)) (t + 1)
    refine ⟨x, ?_, fun h => ?_⟩
    · unfold tdig
      rw [takeB_fill]
      show tdig b true false k _ (t + 1) = _
      rw [h1]
      congr 1
      omega
    · unfold tdig
      rw [takeB_strict h]
      by_cases ht : t + 1 ≤ b.length
      · rw [if_pos ht]
        show tdig b false false k _ (t + 1) = _
        rw [h2 ht]
        by_cases h3 : t + 1 + k ≤ b.length
        · rw [if_pos h3, if_pos (by omega)]
          congr 1
          omega
        · rw [if_neg h3, if_neg (by omega)]
      · rw [if_neg ht, if_neg (by omega)]
        rfl
theorem tones_fill (b : List Bool) : ∀ (k o t : Nat), ∃ o' t', tones b true false k false o t = .ok o' t' ∧ t ≤ t' ∧ t' ≤ t + k ∧ (t ≤ b.length → tones b false false k false o t = if t' ≤ b.length then .ok o' t' else .bad "Short" b.length)
  | 0, o, t => ⟨o, t, rfl, Nat.le_refl _, Nat.le_refl _, fun h => by rw [if_pos h]; rfl⟩
  | k + 1, o, t => by
    cases hs : sg b t with
    | false =>
      refine ⟨o, t + 1, ?_, by omega, by omega, fun h => ?_⟩
      · unfold tones
        rw [takeB_fill, hs]
        rfl
      · unfold tones
        rw [takeB_strict h, hs]
        by_cases ht : t + 1 ≤ b.length
        · rw [if_pos ht, if_pos ht]
          rfl
        · rw [if_neg ht, if_neg ht]
          rfl
    | true =>
      obtain ⟨o', t', h1, h2, h4, h3⟩ := tones_fill b k (o + 1) (t + 1)
      refine ⟨o', t', ?_, by omega, by omega, fun h => ?_⟩
      · unfold tones
        rw [takeB_fill, hs]
        exact h1
      · unfold tones
        rw [takeB_strict h, hs]
        by_cases ht : t + 1 ≤ b.length
        · rw [if_pos ht]
          exact h3 ht
        · rw [if_neg ht, if_neg (by omega)]
          rfl
/-- the count that is read with noughts beyond the end, and the place behind it -/
theorem tcount_fill (b : List Bool) (t : Nat) : ∃ (o : Nat) (t1 : Nat) (s x : Int), tones b true false 7 false 0 t = .ok o t1 ∧ tdig b true false o 1 t1 = .ok s (t1 + o) ∧ tdig b true false (s - 1).toNat 1 (t1 + o) = .ok x (t1 + o + (s - 1).toNat) ∧
    tcount b true false false t = .ok (x - 1) (t1 + o + (s - 1).toNat) ∧ t ≤ t1 ∧ o ≤ 7 ∧ 1 ≤ s ∧ s ≤ 255 ∧ 1 ≤ x ∧ x < 2 ^ 255 ∧ t1 ≤ t + 7 ∧
    (t ≤ b.length → tcount b false false false t = if t1 + o + (s - 1).toNat ≤ b.length then .ok (x - 1) (t1 + o + (s - 1).toNat) else .bad "Short" b.length) := by
  obtain ⟨o, t1, h1, h2, h2b, h3⟩ := tones_fill b 7 0 t
  obtain ⟨s, h4, h5⟩ := tdig_fill b o 1 t1
  obtain ⟨x, h6, h7⟩ := tdig_fill b (s - 1).toNat 1 (t1 + o)
  have ho := tones_rng h1
  have hs := tdig_rng h4
  have hx := tdig_rng h6
  have p1 : (0 : Int) < 2 ^ o := Int.pow_pos (by decide)
  have p2 : (0 : Int) < 2 ^ (s - 1).toNat := Int.pow_pos (by decide)
  have hs255 : s ≤ 255 := by
    have h8 : (2 : Nat) ^ (o + 1) ≤ 2 ^ 8 := Nat.pow_le_pow_right (by decide) (by omega)
    have := hs.2
    have e : ((1 + 1 : Int) * 2 ^ o) = ((2 ^ (o + 1) : Nat) : Int) := by rw [Nat.pow_succ, Nat.mul_comm]; simp
    rw [e] at this
    omega
  have hx255 : x < 2 ^ 255 := by
    have h8 : (2 : Nat) ^ ((s - 1).toNat + 1) ≤ 2 ^ 255 := Nat.pow_le_pow_right (by decide) (by omega)
    have := hx.2
    have e : ((1 + 1 : Int) * 2 ^ (s - 1).toNat) = ((2 ^ ((s - 1).toNat + 1) : Nat) : Int) := by rw [Nat.pow_succ, Nat.mul_comm]; simp
    rw [e] at this
    have h9 : (((2 : Nat) ^ 255 : Nat) : Int) = (2 : Int) ^ 255 := by simp
    omega
  refine ⟨o, t1, s, x, h1, h4, h6, ?_, h2, by omega, by omega, hs255, by omega, hx255, h2b, fun ht => ?_⟩
  · unfold tcount
    rw [h1]
    show (tdig b true false o 1 t1).bind _ = _
    rw [h4]
    show (tdig b true false (s - 1).toNat 1 (t1 + o)).bind _ = _
    rw [h6]
    rfl
  · unfold tcount
    rw [h3 ht]
    by_cases ht1 : t1 ≤ b.length
    · rw [if_pos ht1]
      show (tdig b false false o 1 t1).bind _ = _
      rw [h5 ht1]
      by_cases ht2 : t1 + o ≤ b.length
      · rw [if_pos ht2]
        show (tdig b false false (s - 1).toNat 1 (t1 + o)).bind _ = _
        rw [h7 ht2]
        by_cases ht3 : t1 + o + (s - 1).toNat ≤ b.length
        · rw [if_pos ht3, if_pos ht3]
          rfl
        · rw [if_neg ht3, if_neg ht3]
          rfl
      · rw [if_neg ht2, if_neg (by omega)]
        rfl
    · rw [if_neg ht1, if_neg (by omega)]
      rfl
section
variable {K : PySem.W.Frag} {σ : L2.St} {H : Hp} {ta tb te : TE} {D : Ends} {tz : TS} {x y : V}
theorem q_lst2 {i j : Nat} (h : EvL te σ H [x, y]) (k : ∀ H1, Ex H H1 → tz D ((σ.set i (some x)).set j (some y)) H1) : tSeq (tAsg te (gLst K 2 (gCons (gName i) (gCons (gName j) gNil)))) tz D σ H :=
  h H (Ex.refl H) _ fun p H1 _ e1 h1 => ⟨p, [x, y], rfl, sq_of h1, rfl, x, [y], rfl, y, [], rfl, rfl, k H1 e1⟩
/-- page[at:at + 1] == '1' -/
theorem ev_sg {b : List Bool} {t i j : Nat} (hi : σ[i]? = some (some (.str (T (R b))))) (hj : σ[j]? = some (some (.int (t : Int)))) (hb : b.length ≤ 1000000) :
    Ev (tOp rEq (tSl rSlS (tVar i) (tPart (tVar j)) (tPart (tOp rAddI (tVar j) (tC (.int 1))))) (tC (.str (T [49])))) σ H (.bl (sg b t)) := by
  refine ev_is (ev_eqT (a := R ((b.drop t).take 1)) (ev_is (ev_slT (l := R b) (ev_var hi) (by rw [R_len]; omega) (eo_some (ev_var hj)) (eo_some (ev_is (ev_addI (ev_var hj) ev_c) (by rw [show (t : Int) + 1 = ((t + 1 : Nat) : Int) by omega])))) (by rw [R_mid, Nat.add_sub_cancel_left])) ev_c) ?_
  congr 1
  unfold sg
  by_cases ht : t < b.length
  · rw [List.drop_eq_getElem_cons ht, List.getElem?_eq_getElem ht]
    cases b[t] <;> rfl
  · rw [List.drop_eq_nil_of_le (by omega), List.getElem?_eq_none (by omega)]
    rfl
/-- [te for j in a new list] -/
theorem el_mapNL {tl : TE} {xs : List V} {j : Nat} {vs : List Nat} (g : V → V) (h : EvL tl σ H xs) (hz : xs.length ≤ 40000) (hw : ∀ x, wipe ((wipe σ vs).set j (some x)) vs = wipe σ vs)
    (he : ∀ x ∈ xs, ∀ H1, Ex H H1 → Ev te ((wipe σ vs).set j (some x)) H1 (g x)) : EvL (tLc (iList K tl) (gName j) tYes te vs) σ H (xs.map g) := by
  have key : given xs.length (fun _ => true) (fun i => g (xs.getD i .non)) = xs.map g := by
    rw [given_all]
    apply List.ext_getElem?
    intro i
    rw [List.getElem?_map, List.getElem?_map]
    by_cases hi : i < xs.length
    · rw [List.getElem?_range hi, List.getElem?_eq_getElem hi]
      simp [List.getD, List.getElem?_eq_getElem hi]
    · rw [List.getElem?_eq_none (by simpa using hi), List.getElem?_eq_none (by simpa using hi)]
      rfl
  rw [← key]
  refine el_lcNL (fun _ => true) _ h hz hw (fun i x H1 _ _ => fun H2 e2 Q q => q H2 (Ex.refl H2)) fun i x H1 e hi _ => ?_
  have e2 : xs.getD i .non = x := by simp [List.getD, hi]
  rw [e2]
  exact he x (List.mem_of_getElem? hi) H1 e
end
theorem cut_map (ns : List Int) (k : Nat) : cutV (ns.map V.int) none (some (k : Int)) = (ns.take k).map V.int := by
  unfold cutV
  rw [HT.sIx_none, HT.sIx_nat, List.drop_zero, Nat.sub_zero, List.length_map]
  by_cases h : k ≤ ns.length
  · rw [Nat.min_eq_left h, List.map_take]
  · rw [Nat.min_eq_right (by omega), List.take_of_length_le (by simp), List.take_of_length_le (by omega)]
theorem rep_bc (n : Nat) (c : Bool) : (List.replicate n [bc c]).flatten = R (List.replicate n c) := by
  induction n with
  | zero => rfl
  | succ n ih => rw [List.replicate_succ, List.flatten_cons, ih, List.replicate_succ]; rfl
theorem countRow_pos (n : Nat) : 0 < (countRow n).length := by
  unfold countRow
  by_cases h : blen (blen (n + 1)) - 1 < 7
  · rw [if_pos h]
    simp
    omega
  · rw [if_neg h]
    simp
    omega
theorem pageRow_pos (rs : List (List Bool)) : 0 < (pageRow rs).length := by
  unfold pageRow
  have := countRow_pos rs.length
  rw [List.length_append]
  omega
end Kr
/-! fractions and their steps; loops over reversed(..), divmod, items of a list or a tuple, names set by pairs -/
namespace Kr
open PySem PySem.Spec PyProof.Rows L2 Evl
/-! ### rules -/
def rDivmod : List V → Hp → VK → Prop := fun xs H Q => ∃ i j, xs = [.int i, .int j] ∧ CDivP i j ∧ ∀ p, H p = none → Q (.ref p) (upd H p (.tup [.int (i / j), .int (i % j)]))
def rIxA (K : PySem.W.Frag) : R2 := fun x y H Q => rIxL K x y H Q ∨ rIxT K x y H Q
section
variable {X : Cx}
theorem call_divmodN : CallR X (.builtin "divmod") rDivmod := call_divmodW
theorem ix_any : IxR X (rIxA X.K) := ix_list.or ix_tup
end
section
variable {K : PySem.W.Frag} {σ : L2.St} {H : Hp} {ta tb te tx : TE} {x y z v : V} {D : Ends} {tz tu : TS}
theorem eu_divmod {i j : Int} (ha : Ev ta σ H (.int i)) (hb : Ev tb σ H (.int j)) (h : CDivP i j) : EvU (tCB rDivmod (tCons ta (tCons tb tNil))) σ H [.int (i / j), .int (i % j)] := fun H1 e Q q =>
  ha H1 e _ fun H2 e2 => hb H2 (e.trans e2) _ fun H3 e3 => ⟨i, j, rfl, h, fun p hp => q p _ (fresh_back (e2.trans e3) hp) ((e2.trans e3).trans (Ex.new hp)) upd_same⟩
/-- a, b = a new tuple | one that stands -/
theorem q_tup2 {i j : Nat} (h : EvU te σ H [x, y]) (k : ∀ H1, Ex H H1 → tz D ((σ.set i (some x)).set j (some y)) H1) : tSeq (tAsg te (gTup K 2 (gCons (gName i) (gCons (gName j) gNil)))) tz D σ H :=
  h H (Ex.refl H) _ fun p H1 _ e1 h1 => ⟨p, [x, y], rfl, st_of h1, rfl, x, [y], rfl, y, [], rfl, rfl, k H1 e1⟩
theorem q_tupV {i j : Nat} {p : Addr} (h : Ev te σ H (.ref p)) (hp : SqT K H p [x, y]) (k : ∀ H1, Ex H H1 → tz D ((σ.set i (some x)).set j (some y)) H1) : tSeq (tAsg te (gTup K 2 (gCons (gName i) (gCons (gName j) gNil)))) tz D σ H :=
  h H (Ex.refl H) _ fun H1 e1 => ⟨p, [x, y], rfl, ex_t e1 hp, rfl, x, [y], rfl, y, [], rfl, rfl, k H1 e1⟩
/-- a, b = x, y -/
theorem s_par {i j : Nat} {t : TA} (h : EvA t σ H [x, y]) (k : ∀ H1, Ex H H1 → D.nx ((σ.set i (some x)).set j (some y)) H1) : tPar i j t D σ H := h H (Ex.refl H) _ fun H1 e1 => ⟨x, y, rfl, k H1 e1⟩
theorem q_par {i j : Nat} {t : TA} (h : EvA t σ H [x, y]) (k : ∀ H1, Ex H H1 → tz D ((σ.set i (some x)).set j (some y)) H1) : tSeq (tPar i j t) tz D σ H := s_par (D := { D with nx := tz D }) h k
/-- an item of a list or a tuple -/
theorem ev_ixA {p : Addr} {xs : List V} {i : Int} (ha : Ev ta σ H (.ref p)) (hp : SqL K H p xs ∨ SqT K H p xs) (hb : Ev tb σ H (.int i)) (hv : atI xs i = some v) : Ev (tOp (rIxA K) ta tb) σ H v := ev_op ha hb fun H1 e Q q => by
  rcases hp with hp | hp
  · exact .inl (rv_ixL hp hv H1 e Q q)
  · exact .inr (Evl.rv_ixT hp hv H1 e Q q)
/-- xs[-1] = e -/
theorem s_setLast {l : Addr} {xs : List V} (hl : H l = some (.lst xs)) (h : Ev te σ H v) (ho : Ev ta σ H (.ref l)) (hi : Ev tb σ H (.int (-1))) (hj : xs ≠ []) (k : ∀ H1, Ex H H1 → D.nx σ (upd H1 l (.lst (xs.dropLast ++ [v])))) : tAsg te (gSub ta tb rSetL) D σ H := h H (Ex.refl H) _ fun H1 e1 => ho H1 e1 _ fun H2 e2 => hi H2 (e1.trans e2) _ fun H3 e3 => by
  have hpos := List.length_pos_iff.mpr hj
  refine ⟨l, xs, -1, xs.length - 1, rfl, rfl, ((e1.trans e2).trans e3) l _ hl, ?_, ?_⟩
  · unfold ixN
    simp
    omega
  · have : xs.set (xs.length - 1) v = xs.dropLast ++ [v] := by
      obtain ⟨ys, y, rfl⟩ : ∃ ys y, xs = ys ++ [y] := ⟨xs.dropLast, xs.getLast hj, (List.dropLast_concat_getLast hj).symm⟩
      simp
    rw [this]
    exact k H3 ((e1.trans e2).trans e3)
/-- for x in reversed(a new list) -/
theorem s_forRevN {xs : List V} {tl : TE} {j : Nat} (h : EvL tl σ H xs) (Pv : Addr → Nat → L2.St → Hp → Prop) (h0 : ∀ p H1, H p = none → Ex H H1 → H1 p = some (.lst xs) → Pv p 0 σ H1) (hq : ∀ p i σ' H', Pv p i σ' H' → SqL K H' p xs)
    (hs : ∀ p (i : Nat) x σ' H', i < xs.length → xs[xs.length - 1 - i]? = some x → Pv p i σ' H' → tu { D with nx := Pv p (i + 1), ct := Pv p (i + 1), bk := D.nx } (σ'.set j (some x)) H') (hd : ∀ p σ' H', Pv p xs.length σ' H' → D.nx σ' H') : tFor (iRev K (tCons tl tNil)) (gName j) tu D σ H :=
  h H (Ex.refl H) _ fun p H1 hp e1 h1 => ⟨p, xs, rfl, sq_of h1, RT.for_Itv (Pv p) (h0 p H1 hp e1 h1) (hq p) (fun i x σ' H' hi hx hP => hs p i x σ' H' hi hx hP) (hd p)⟩
theorem q_forRevN {xs : List V} {tl : TE} {j : Nat} (h : EvL tl σ H xs) (Pv : Addr → Nat → L2.St → Hp → Prop) (h0 : ∀ p H1, H p = none → Ex H H1 → H1 p = some (.lst xs) → Pv p 0 σ H1) (hq : ∀ p i σ' H', Pv p i σ' H' → SqL K H' p xs)
    (hs : ∀ p (i : Nat) x σ' H', i < xs.length → xs[xs.length - 1 - i]? = some x → Pv p i σ' H' → tu { D with nx := Pv p (i + 1), ct := Pv p (i + 1), bk := tz D } (σ'.set j (some x)) H') (hd : ∀ p σ' H', Pv p xs.length σ' H' → tz D σ' H') : tSeq (tFor (iRev K (tCons tl tNil)) (gName j) tu) tz D σ H :=
  s_forRevN (D := { D with nx := tz D }) h Pv h0 hq hs hd
theorem ev_abs {i : Int} (h : Ev ta σ H (.int i)) : Ev (tCB rAbs (tCons ta tNil)) σ H (.int i.natAbs) := fun H1 e Q q =>
  h H1 e _ fun H2 e2 => ⟨i, rfl, by
    have : (if i < 0 then -i else i) = (i.natAbs : Int) := by split <;> omega
    rw [this]
    exact q H2 e2⟩
end
/-! ### fractions by their steps -/
def fracOf : List Int → Int × Int
  | [] => (1, 0)
  | a :: r => (a * (fracOf r).1 + (fracOf r).2, (fracOf r).1)
/-- all from one on, the last one from two on -/
def goodT : List Int → Prop
  | [] => False
  | [a] => 2 ≤ a
  | a :: b :: r => 1 ≤ a ∧ goodT (b :: r)
def goodS : List Int → Prop
  | [] => False
  | [_] => True
  | _ :: b :: r => goodT (b :: r)
theorem goodT_frac : ∀ {l : List Int}, goodT l → 0 < (fracOf l).2 ∧ (fracOf l).2 < (fracOf l).1
  | [a], h => by
    have h : 2 ≤ a := h
    show 0 < (1 : Int) ∧ (1 : Int) < a * 1 + 0
    omega
  | a :: b :: r, ⟨h1, h2⟩ => by
    obtain ⟨h3, h4⟩ := goodT_frac h2
    show 0 < (fracOf (b :: r)).1 ∧ (fracOf (b :: r)).1 < a * (fracOf (b :: r)).1 + (fracOf (b :: r)).2
    have : 1 * (fracOf (b :: r)).1 ≤ a * (fracOf (b :: r)).1 := Int.mul_le_mul_of_nonneg_right h1 (by omega)
    omega
/-- the rest behind the first step -/
theorem goodS_rest : ∀ {a : Int} {r : List Int}, goodS (a :: r) → 0 ≤ (fracOf r).2 ∧ (fracOf r).2 < (fracOf r).1
  | a, [], _ => by decide
  | a, b :: r, h => by
    have := goodT_frac (show goodT (b :: r) from h)
    omega
theorem goodS_tail {a b : Int} {r : List Int} (h : goodS (a :: b :: r)) : goodT (b :: r) := h
theorem goodT_S : ∀ {l : List Int}, goodT l → goodS l
  | [a], _ => trivial
  | a :: b :: r, h => h.2
theorem goodT_one : ∀ {l : List Int}, goodT l → ∀ s ∈ l, 1 ≤ s
  | [a], h, s, hs => by
    have h : 2 ≤ a := h
    rw [List.mem_singleton.mp hs]
    omega
  | a :: b :: r, h, s, hs => by
    rcases List.mem_cons.mp hs with rfl | hs
    · exact h.1
    · exact goodT_one h.2 s hs
theorem goodT_last : ∀ {l : List Int}, goodT l ↔ l ≠ [] ∧ (∀ s ∈ l, 1 ≤ s) ∧ l.getLast? ≠ some 1
  | [] => ⟨fun h => h.elim, fun h => absurd rfl h.1⟩
  | [a] => by
    show 2 ≤ a ↔ _
    simp
    omega
  | a :: b :: r => by
    show 1 ≤ a ∧ goodT (b :: r) ↔ _
    rw [goodT_last]
    simp only [List.getLast?_cons_cons, List.mem_cons, ne_eq, reduceCtorEq, not_false_eq_true, true_and, forall_eq_or_imp]
    constructor
    · rintro ⟨h1, h2, h3⟩
      exact ⟨⟨h1, h2⟩, h3⟩
    · rintro ⟨⟨h1, h2⟩, h3⟩
      exact ⟨h1, h2, h3⟩
/-- steps as the text asks for them -/
def endsOne (l : List Int) : Bool := decide (1 < l.length ∧ l.getLast? = some 1)
theorem goodS_iff {l : List Int} : goodS l ↔ l ≠ [] ∧ endsOne l = false ∧ ∀ s ∈ l.tail, 1 ≤ s := by
  cases l with
  | nil => exact ⟨fun h => h.elim, fun h => absurd rfl h.1⟩
  | cons a r => cases r with
    | nil => simp [goodS, endsOne]
    | cons b r =>
      show goodT (b :: r) ↔ _
      rw [goodT_last]
      simp [endsOne]
      exact ⟨fun h => ⟨h.2, h.1⟩, fun h => ⟨h.2, h.1⟩⟩
def stepsE (t b : Int) : List Int := if h : 0 < b then t / b :: stepsE b (t % b) else []
termination_by b.toNat
decreasing_by
  have := Int.emod_lt_of_pos t h
  have := Int.emod_nonneg t (show b ≠ 0 by omega)
  omega
def gcdE (a b : Int) : Nat := if h : 0 < b then gcdE b (a % b) else a.natAbs
termination_by b.toNat
decreasing_by
  have := Int.emod_lt_of_pos a h
  have := Int.emod_nonneg a (show b ≠ 0 by omega)
  omega
theorem stepsE_pos {t b : Int} (h : 0 < b) : stepsE t b = t / b :: stepsE b (t % b) := by rw [stepsE, dif_pos h]
theorem stepsE_zero (t : Int) : stepsE t 0 = [] := by rw [stepsE, dif_neg (by decide)]
theorem gcdE_pos {t b : Int} (h : 0 < b) : gcdE t b = gcdE b (t % b) := by rw [gcdE, dif_pos h]
theorem gcdE_zero (t : Int) : gcdE t 0 = t.natAbs := by rw [gcdE, dif_neg (by decide)]
theorem div_step {a p q : Int} (h0 : 0 ≤ q) (h : q < p) : (a * p + q) / p = a ∧ (a * p + q) % p = q := by
  constructor
  · rw [Int.add_comm, Int.add_mul_ediv_right _ _ (by omega), Int.ediv_eq_zero_of_lt h0 h, Int.zero_add]
  · rw [Int.add_comm, Int.add_mul_emod_self_right, Int.emod_eq_of_lt h0 h]
theorem steps_frac : ∀ {l : List Int}, goodS l → stepsE (fracOf l).1 (fracOf l).2 = l ∧ gcdE (fracOf l).1 (fracOf l).2 = 1
  | [a], h => by
    obtain ⟨h1, h2⟩ := goodS_rest h
    obtain ⟨e1, e2⟩ := div_step (a := a) h1 h2
    show stepsE (a * (fracOf []).1 + (fracOf []).2) (fracOf []).1 = [a] ∧ gcdE (a * (fracOf []).1 + (fracOf []).2) (fracOf []).1 = 1
    rw [stepsE_pos (by decide), gcdE_pos (by decide), e1, e2]
    show a :: stepsE 1 0 = [a] ∧ gcdE 1 0 = 1
    rw [stepsE_zero, gcdE_zero]
    exact ⟨rfl, rfl⟩
  | a :: b :: r, h => by
    obtain ⟨h1, h2⟩ := goodS_rest h
    obtain ⟨e1, e2⟩ := div_step (a := a) h1 h2
    obtain ⟨i1, i2⟩ := steps_frac (goodT_S (goodS_tail h))
    show stepsE (a * (fracOf (b :: r)).1 + (fracOf (b :: r)).2) (fracOf (b :: r)).1 = _ ∧ gcdE (a * (fracOf (b :: r)).1 + (fracOf (b :: r)).2) (fracOf (b :: r)).1 = 1
    rw [stepsE_pos (by omega), gcdE_pos (by omega), e1, e2, i1]
    exact ⟨rfl, i2⟩
theorem goodS_bottom : ∀ {l : List Int}, goodS l → 0 < (fracOf l).2
  | a :: r, h => by
    have := goodS_rest h
    show 0 < (fracOf r).1
    omega
theorem frac_lt {k : Nat} : ∀ {l : List Int}, (∀ s ∈ l, s.natAbs < 2 ^ k) → (fracOf l).1.natAbs < 2 ^ ((k + 1) * l.length + 1) ∧ (fracOf l).2.natAbs < 2 ^ ((k + 1) * l.length + 1)
  | [], _ => by simp [fracOf]
  | a :: r, h => by
    obtain ⟨h1, h2⟩ := frac_lt (l := r) fun s hs => h s (List.mem_cons_of_mem _ hs)
    have ha := h a (List.mem_cons_self ..)
    show (a * (fracOf r).1 + (fracOf r).2).natAbs < _ ∧ (fracOf r).1.natAbs < _
    have e : (k + 1) * (r.length + 1) + 1 = k + ((k + 1) * r.length + 1) + 1 := by rw [Nat.mul_succ]; omega
    rw [List.length_cons, e]
    generalize (k + 1) * r.length + 1 = m at h1 h2 ⊢
    have hm := wide_lt ha h1
    have h3 : (2 : Nat) ^ (k + m + 1) = 2 ^ (k + m) + 2 ^ (k + m) := by rw [Nat.pow_succ]; omega
    have h4 : (2 : Nat) ^ m ≤ 2 ^ (k + m) := Nat.pow_le_pow_right (by decide) (by omega)
    constructor
    · have := Int.natAbs_add_le (a * (fracOf r).1) (fracOf r).2
      omega
    · omega
theorem divp_of {t b : Int} (hb : 0 < b) (h : (t / b).natAbs < 2 ^ 2000) : CDivP t b := by
  refine divp_ok hb ?_
  -- t is below 2 ^ 2001 times b
  have e := Int.mul_ediv_add_emod t b
  have r0 := Int.emod_nonneg t (show b ≠ 0 by omega)
  have r1 := Int.emod_lt_of_pos t hb
  obtain ⟨n, rfl⟩ := Int.eq_ofNat_of_zero_le (Int.le_of_lt hb)
  have hn : 0 < n := by omega
  rw [bits_nat hn]
  have h1 : n < 2 ^ blen n := by unfold blen; exact Nat.lt_log2_self
  have ht : t.natAbs < 2 ^ (2001 + blen n) := by
    have h2 : t.natAbs ≤ n * (t / n).natAbs + n := by
      have h3 : t.natAbs ≤ ((n : Int) * (t / n)).natAbs + (t % n).natAbs := by
        rw [← e]
        have := Int.natAbs_add_le ((n : Int) * (t / n)) (t % n)
        rw [e]
        omega
      rw [Int.natAbs_mul, Int.natAbs_natCast] at h3
      omega
    have h5 : n * (t / (n : Int)).natAbs + n = n * ((t / (n : Int)).natAbs + 1) := by rw [Nat.mul_add, Nat.mul_one]
    have h6 : n * ((t / (n : Int)).natAbs + 1) ≤ n * 2 ^ 2000 := Nat.mul_le_mul_left _ h
    have h7 : n * 2 ^ 2000 < 2 ^ blen n * 2 ^ 2001 := Nat.lt_of_lt_of_le (Nat.mul_lt_mul_of_pos_right h1 (Nat.two_pow_pos _)) (Nat.mul_le_mul_left _ (Nat.pow_le_pow_right (by decide) (by decide)))
    rw [Nat.pow_add, Nat.mul_comm (2 ^ 2001)]
    omega
  have := PyProof.Rows.intBits_le ht
  omega
/-! ### rows of fractions -/
def tailRow (n : Bool) : List Int → List Bool
  | [] => nz n [false]
  | s :: r => nz n [true] ++ (nz (!n) (countRow (s - 1).toNat) ++ tailRow (!n) r)
def fracRow : List Int → List Bool
  | [] => []
  | a :: r => wholeRow a ++ tailRow false r
def rowOkS : List Int → Prop
  | [] => False
  | a :: r => wholeOk a ∧ ∀ s ∈ r, countOk (s - 1)
theorem tailRow_len : ∀ {n : Bool} {l : List Int}, (∀ s ∈ l, countOk (s - 1)) → (tailRow n l).length ≤ 301 * l.length + 1
  | n, [], _ => by simp [tailRow, nz]
  | n, s :: r, h => by
    have hc := h s (List.mem_cons_self ..)
    have h1 := countRow_len (n := (s - 1).toNat) (by rw [Int.toNat_of_nonneg hc.1]; exact hc)
    have h2 := tailRow_len (n := !n) (l := r) fun x hx => h x (List.mem_cons_of_mem _ hx)
    rw [tailRow, List.length_append, List.length_append, nz_len, nz_len, List.length_cons (as := r), Nat.mul_succ]
    simp only [List.length_singleton]
    omega
theorem exu_mut {a l : Addr} {H H' : Hp} {o : HO} (e : ExU a H H') (h : H l = none) : ExU a H (upd H' l o) := fun b u nb hb => by
  rw [upd_ne (ne_of_none hb h)]
  exact e b u nb hb
theorem s_asgZ {σ : L2.St} {H : Hp} {te : TE} {g : TG} {D : Ends} (h : Rz te σ H) : tAsg te g D σ H := h H (Ex.refl H) _
theorem q_asgZ {σ : L2.St} {H : Hp} {te : TE} {g : TG} {D : Ends} {tz : TS} (h : Rz te σ H) : tSeq (tAsg te g) tz D σ H := h H (Ex.refl H) _
/-- name = [f(..)], f's promise met -/
theorem q_asgLF {σ : L2.St} {H : Hp} {sp : Sp} {E : XK} {t : TA} {vs : List V} {i : Nat} {D : Ends} {tz : TS} (h : EvA t σ H vs) (k : ∀ H1, Ex H H1 → ∀ Q2 : VK, (∀ v H2, (∀ p, H2 p = none → tz D (σ.set i (some (.ref p))) (upd H2 p (.lst [v]))) → Q2 v H2) → sp vs H1 Q2 E) : tSeq (tAsg (tLst (tCons (tCall sp [] E t) tNil)) (gName i)) tz D σ H :=
  h H (Ex.refl H) _ fun H1 e1 => by
    rw [List.append_nil]
    exact k H1 e1 _ fun v H2 hk => ⟨sz_of (by simp), hk⟩
/-- xs.append(f(..) + c), f's promise met -/
theorem s_appF {K : PySem.W.Frag} {σ : L2.St} {H : Hp} {sp : Sp} {E : XK} {t : TA} {vs : List V} {ta tc : TE} {l : Addr} {xs : List V} {D : Ends} {c : Int} (hl : H l = some (.lst xs)) (ha : Ev ta σ H (.ref l)) (h : EvA t σ H vs)
    (k : ∀ H1, Ex H H1 → ∀ Q2 : VK, (∀ (i : Int) H2, H2 l = some (.lst xs) → xs.length < 100000 → Ev tc σ H2 (.int c) → (∀ H3, Ex H2 H3 → D.nx σ (upd H3 l (.lst (xs ++ [.int (i + c)])))) → Q2 (.int i) H2) → sp vs H1 Q2 E) :
    tDrop (tBM K "list" rAppend ta (tCons (tOp rAddI (tCall sp [] E t) tc) tNil)) D σ H := ha H (Ex.refl H) _ fun H1 e1 =>
  ⟨Or.inl ⟨rfl, xs, sq_of (e1 l _ hl)⟩, h H1 e1 _ fun H2 e2 => by
    rw [List.append_nil]
    exact k H2 (e1.trans e2) _ fun i H3 h3 hz hc hk => hc H3 (Ex.refl H3) _ fun H4 e4 => ⟨i, c, rfl, rfl, l, xs, _, rfl, rfl, e4 _ _ h3, sz_lt hz, hk H4 e4⟩⟩
/-! ### fractions as they are read -/
/-- the sign is exchanged at every second step -/
def lane (n : Bool) (k : Nat) : Bool := if k % 2 = 1 then !n else n
def tfracGo (b : List Bool) (f n : Bool) : Nat → List Int → Nat → Res (List Int)
  | 0, l, t => .ok l t
  | k + 1, l, t => (takeB b f (lane n (l.length - 1)) (endsOne l) t).bind fun c t1 => if c then (tcount b f (lane n l.length) true t1).bind fun v t2 => tfracGo b f n k (l ++ [v + 1]) t2 else if endsOne l then .bad "Wrong" ((t1 : Int) - 1) else .ok l t1
def tfrac (b : List Bool) (f n : Bool) (t : Nat) : Res (List Int) := (twhole b f n t).bind fun w t1 => tfracGo b f n (2 * (b.length - t1) + 3) [w] t1
def FinU (K : PySem.W.Frag) (a : Addr) (b : List Bool) (f : Bool) (H : Hp) (Q : VK) (E : XK) : Res (List Int) → Prop
  | .ok l t => ∀ p H', H p = none → ExU a H H' → H' p = some (.tup [.int (fracOf l).1, .int (fracOf l).2]) → SrcB K H' a b t f → Q (.ref p) H'
  | .bad c p => RaiseU a (.ref (He.ga K c)) p H E
theorem fresh_backU {a p : Addr} {H H' : Hp} (e : ExU a H H') (hp : p ≠ a) (h : H' p = none) : H p = none := by
  cases h1 : H p with
  | none => rfl
  | some o => rw [e p o hp h1] at h; cases h
theorem FinU.mono {K : PySem.W.Frag} {a : Addr} {b : List Bool} {f : Bool} {H H1 : Hp} {Q : VK} {E : XK} {r : Res (List Int)} (h : FinU K a b f H Q E r) (e : ExU a H H1) (ha : H1 a ≠ none) : FinU K a b f H1 Q E r := by
  cases r with
  | ok l t => exact fun p H' hp e2 h2 s => h p H' (fresh_backU e (fun z => ha (by rw [← z]; exact hp)) hp) (e.trans e2) h2 s
  | bad c p => exact RaiseU.mono e h
/-- a part of what is read, then the rest -/
theorem FinU.step {α : Type} {K : PySem.W.Frag} {val : α → V} {a : Addr} {b : List Bool} {f : Bool} {H : Hp} {Q Q2 : VK} {E : XK} {r : Res α} {g : α → Nat → Res (List Int)} (h : FinU K a b f H Q E (r.bind g))
    (k : ∀ v t H', r = .ok v t → ExU a H H' → SrcB K H' a b t f → FinU K a b f H' Q E (g v t) → Q2 (val v) H') : Fin K val a b f H Q2 E r := by
  cases r with
  | ok v t => exact fun H' e s => k v t H' rfl e s (FinU.mono (show FinU K a b f H Q E (g v t) from h) e s.some)
  | bad c p => exact h
/-- what the wished signs leave behind: a count of one -/
theorem tcount_wish {b : List Bool} {n : Bool} {t : Nat} (h : b.length ≤ t) : ∃ t', tcount b true n true t = .ok 1 t' := by
  have none : ∀ i, b.length ≤ i → b[i]? = none := fun i hi => List.getElem?_eq_none hi
  have t1 : ∀ (w : Bool) (i : Nat), b.length ≤ i → takeB b true n w i = .ok w (i + 1) := fun w i hi => by
    unfold takeB
    rw [none i hi]
    rfl
  refine ⟨t + 1 + 1 + 1 + 1, ?_⟩
  unfold tcount
  have ho : tones b true n 7 true 0 t = .ok 1 (t + 1 + 1) := by
    rw [tones, t1 true t h]
    show tones b true n 6 false 1 (t + 1) = _
    rw [tones, t1 false (t + 1) (by omega)]
    rfl
  have hd : ∀ i, b.length ≤ i → tdig b true n 1 1 i = .ok 2 (i + 1) := fun i hi => by
    rw [tdig, t1 false i hi]
    rfl
  rw [ho]
  show (tdig b true n 1 1 (t + 1 + 1)).bind _ = _
  rw [hd _ (by omega)]
  show (tdig b true n 1 1 (t + 1 + 1 + 1)).bind _ = _
  rw [hd _ (by omega)]
  rfl
theorem takeB_next {b : List Bool} {f n w c : Bool} {t t' : Nat} (h : takeB b f n w t = .ok c t') : t' = t + 1 := by
  unfold takeB at h
  cases e : b[t]? with
  | some x => rw [e] at h; cases h; rfl
  | none =>
    rw [e] at h
    cases f with
    | true => cases h; rfl
    | false => cases h
theorem tdig_next {b : List Bool} {f n : Bool} : ∀ {k : Nat} {x y : Int} {t t' : Nat}, tdig b f n k x t = .ok y t' → t' = t + k
  | 0, x, y, t, t', h => by cases h; rfl
  | k + 1, x, y, t, t', h => by
    unfold tdig at h
    cases e : takeB b f n false t with
    | bad c p => rw [e] at h; cases h
    | ok c t1 =>
      rw [e] at h
      have h1 := takeB_next e
      have h2 := tdig_next (show tdig b f n k _ t1 = .ok y t' from h)
      omega
theorem tones_next {b : List Bool} {f n : Bool} : ∀ {k : Nat} {w : Bool} {o o' t t' : Nat}, tones b f n k w o t = .ok o' t' → t ≤ t' ∧ (0 < k → t < t')
  | 0, w, o, o', t, t', h => by cases h; exact ⟨Nat.le_refl _, fun z => by omega⟩
  | k + 1, w, o, o', t, t', h => by
    unfold tones at h
    cases e : takeB b f n w t with
    | bad c p => rw [e] at h; cases h
    | ok c t1 =>
      rw [e] at h
      have h1 := takeB_next e
      cases c with
      | true =>
        have h2 := (tones_next (show tones b f n k false (o + 1) t1 = .ok o' t' from h)).1
        exact ⟨by omega, fun _ => by omega⟩
      | false =>
        cases (show Res.ok o t1 = .ok o' t' from h)
        exact ⟨by omega, fun _ => by omega⟩
theorem tcount_gen {b : List Bool} {f n w : Bool} {v : Int} {t t' : Nat} (h : tcount b f n w t = .ok v t') : countOk v ∧ t < t' := by
  unfold tcount at h
  cases h1 : tones b f n 7 w 0 t with
  | bad c p => rw [h1] at h; cases h
  | ok o t1 =>
    rw [h1] at h
    have h : (tdig b f n o 1 t1).bind _ = Res.ok v t' := h
    cases h2 : tdig b f n o 1 t1 with
    | bad c p => rw [h2] at h; cases h
    | ok s t2 =>
      rw [h2] at h
      have h : (tdig b f n (s - 1).toNat 1 t2).bind _ = Res.ok v t' := h
      cases h3 : tdig b f n (s - 1).toNat 1 t2 with
      | bad c p => rw [h3] at h; cases h
      | ok x t3 =>
        rw [h3] at h
        cases (show Res.ok (x - 1) t3 = Res.ok v t' from h)
        have ho := tones_rng h1
        have n1 := (tones_next h1).2 (by decide)
        have n2 := tdig_next h2
        have n3 := tdig_next h3
        have r2 := tdig_rng h2
        have r3 := tdig_rng h3
        have p1 : (0 : Int) < 2 ^ o := Int.pow_pos (by decide)
        have p2 : (0 : Int) < 2 ^ (s - 1).toNat := Int.pow_pos (by decide)
        have hs255 : s ≤ 255 := by
          have h8 : (2 : Nat) ^ (o + 1) ≤ 2 ^ 8 := Nat.pow_le_pow_right (by decide) (by omega)
          have := r2.2
          have e : ((1 + 1 : Int) * 2 ^ o) = ((2 ^ (o + 1) : Nat) : Int) := by rw [Nat.pow_succ, Nat.mul_comm]; simp
          rw [e] at this
          omega
        have hx255 : x < 2 ^ 255 := by
          have h8 : (2 : Nat) ^ ((s - 1).toNat + 1) ≤ 2 ^ 255 := Nat.pow_le_pow_right (by decide) (by omega)
          have := r3.2
          have e : ((1 + 1 : Int) * 2 ^ (s - 1).toNat) = ((2 ^ ((s - 1).toNat + 1) : Nat) : Int) := by rw [Nat.pow_succ, Nat.mul_comm]; simp
          rw [e] at this
          have h9 : (((2 : Nat) ^ 255 : Nat) : Int) = (2 : Int) ^ 255 := by simp
          omega
        exact ⟨⟨by omega, by omega⟩, by omega⟩
theorem twhole_gen {b : List Bool} {f n : Bool} {v : Int} {t t' : Nat} (h : twhole b f n t = .ok v t') : wholeOk v ∧ t < t' := by
  unfold twhole at h
  cases h1 : takeB b f n true t with
  | bad c p => rw [h1] at h; cases h
  | ok c t1 =>
    rw [h1] at h
    have h2 := takeB_next h1
    cases c with
    | true =>
      obtain ⟨hv, h4⟩ := tcount_gen (show tcount b f n false t1 = .ok v t' from h)
      exact ⟨(wholeOk_pos (by have := hv.1; omega)).mpr hv, by omega⟩
    | false =>
      have h : (tcount b f (!n) false t1).bind (fun x t2 => Res.ok (-1 - x) t2) = Res.ok v t' := h
      cases h6 : tcount b f (!n) false t1 with
      | bad c p => rw [h6] at h; cases h
      | ok x t2 =>
        rw [h6] at h
        cases (show Res.ok (-1 - x) t2 = Res.ok v t' from h)
        obtain ⟨hv, h4⟩ := tcount_gen h6
        have e : -1 - (-1 - x) = x := by omega
        exact ⟨(wholeOk_neg (by have := hv.1; omega)).mpr (by rw [e]; exact hv), by omega⟩
/-- the same, told from where the reading began -/
theorem FinU.stepB {α : Type} {K : PySem.W.Frag} {val : α → V} {a : Addr} {b : List Bool} {f : Bool} {H H1 : Hp} {Q Q2 : VK} {E : XK} {r : Res α} {g : α → Nat → Res (List Int)} (h : FinU K a b f H Q E (r.bind g)) (e : ExU a H H1)
    (k : ∀ v t H', r = .ok v t → ExU a H1 H' → SrcB K H' a b t f → FinU K a b f H Q E (g v t) → Q2 (val v) H') : Fin K val a b f H1 Q2 E r := by
  cases r with
  | ok v t => exact fun H' e s => k v t H' rfl e s h
  | bad c p => exact RaiseU.mono e h
theorem atI_last {α : Type} {xs : List α} (h : xs ≠ []) : atI xs (-1) = xs.getLast? := by
  have hp := List.length_pos_iff.mpr h
  unfold atI ixN
  rw [if_neg (by decide), if_pos (by omega), List.getLast?_eq_getElem?]
  show xs[((-1 : Int) + xs.length).toNat]? = _
  congr 1
  omega
theorem cut_tail (ns : List Int) : cutV (ns.map V.int) (some ((1 : Nat) : Int)) none = ns.tail.map V.int := by
  unfold cutV
  rw [HT.sIx_none, HT.sIx_nat, List.length_map]
  cases ns with
  | nil => rfl
  | cons a r =>
    simp
    rw [List.take_of_length_le (by simp)]
theorem cut_init (ns : List Int) : cutV (ns.map V.int) none (some (-1)) = ns.dropLast.map V.int := by
  unfold cutV
  rw [HT.sIx_none, List.drop_zero, Nat.sub_zero, List.length_map, List.dropLast_eq_take, List.map_take]
  congr 1
  show ((-1 : Int) + (ns.length : Int)).toNat = _
  omega
/-! ### a law's promise, the script's numbers within 2 ^ 20 bits -/
def bitsOk (ns : List Int) : Prop := ∀ k ∈ ns, k.natAbs < 2 ^ 1048576
def lawSpB (K : PySem.W.Frag) : Sp := fun vs H Q _ => ∃ (a : Addr) (ns : List Int), vs = [.ref a] ∧ SqL K H a (ns.map V.int) ∧ ns.length ≤ 63 ∧ bitsOk ns ∧ Only H ∧ ∀ H', Q (.bl true) H'
theorem lawSpB_len {K : PySem.W.Frag} {vs : List V} {H : Hp} {Q : VK} {E : XK} (h : lawSpB K vs H Q E) : vs.length = 1 := by
  obtain ⟨a, ns, rfl, _⟩ := h
  rfl
theorem bits_lt {k : Int} {n : Nat} (h : Builtin.Int.intBits k ≤ n) : k.natAbs < 2 ^ n := by
  unfold Builtin.Int.intBits at h
  by_cases h0 : k = 0
  · subst h0
    exact Nat.two_pow_pos n
  · rw [if_neg (by simpa using h0)] at h
    exact Nat.lt_of_lt_of_le Nat.lt_log2_self (Nat.pow_le_pow_right (by decide) h)
theorem law_inB {K : PySem.W.Frag} {H : Hp} {a : Addr} {ns : List Int} {E : XK} (hl : ns.length ≤ 63) (hb : ∀ k ∈ ns, Builtin.Int.intBits k ≤ 1048576) (hO : Only H) (hS : SqL K H a (ns.map V.int)) : lawSpB K [.ref a] H (fun v _ => v = .bl true) E :=
  ⟨a, ns, rfl, hS, hl, fun k hk => bits_lt (hb k hk), hO, fun _ => rfl⟩
theorem walk_wB {l : PySem.W.OpenLaw} {n k : Nat} {q : Program} {loose : List Str} {XP : (Str → Option Value) → Heap → Prop} {YP : World → Heap → Prop} {d : DefRec} {x : Str}
    (hn : l.most = some n) (hn2 : n ≤ sizeLine) (hdf : d.params.defaults = []) (hr : Room k callerA)
    (F : ∀ (w : World) (mg : Str → Option Value) (fa : Addr) (h : Heap), YP w h → h.Ns mainGlobals mg → mg d.name = some (.ref fa) →
      ∃ (K : PySem.W.Frag) (fd : FuncData), K.In h ∧ (∀ (s : Shared) (u : Value), BindsTo s fd ⟨[u], []⟩ [(x, u)]) ∧
        (∀ (H : Hp) (a : Addr) (ns : List Int), ns.length ≤ n → (∀ k ∈ ns, Builtin.Int.intBits k ≤ 1048576) → Only H → SqL K H a (ns.map V.int) → lawSpB K [.ref a] H (fun v _ => v = .bl true) fun _ _ _ => False) ∧
        ∀ base : Heap, K.In base → base.Ns mainGlobals mg → FnOk l.prog w K mg base (L2.CX l.prog w) k fa fd [x] (lawSpB K)) :
    PySem.W.WalkO q loose XP YP l.row.toRowW d [] (fun f vs => PySem.call f vs) := by
  refine Att.attach_callB hn hdf fun w s₀ s₁ mg mb fa o pm cd doc a vs ns G Y ho hd hcd hmg hobj hints hlen hbits hg => ?_
  have Z := F w mg fa s₁.heap Y G.T.g hmg
  obtain ⟨K, fd, KX, hb, hsp, hF⟩ := Z
  exact law_call KX G.T.g G.T.b G.T.builtins G.T.nolimit hg hobj hints (Nat.le_trans hlen hn2) hr hF hb (fun H hO hS => hsp H a ns hlen hbits hO hS)
    (fun H e s' z => cx_none z)
theorem cell_bits {ns : List Int} (h : bitsOk ns) (k : Int) : (cellAt ns k).natAbs < 2 ^ 1048576 := by
  unfold cellAt
  cases e : ns[k.toNat]? with
  | none => exact Nat.two_pow_pos _
  | some x => exact h x (List.mem_of_getElem? e)
theorem cut_intsN (ns : List Int) (lo hi : Option Int) : ∃ ms : List Int, cutV (ns.map V.int) lo hi = ms.map V.int ∧ ms.length ≤ ns.length ∧ ∀ m ∈ ms, m ∈ ns := by
  unfold cutV
  rw [← List.map_drop, ← List.map_take]
  exact ⟨_, rfl, by rw [List.length_take, List.length_drop]; omega, fun m hm => List.mem_of_mem_drop (List.mem_of_mem_take hm)⟩
/-! ### a fraction's row is read as its steps -/
theorem nz_nz (n m : Bool) (l : List Bool) : nz n (nz m l) = nz (n != m) l := by
  unfold nz
  rw [List.map_map]
  refine List.map_congr_left fun c _ => ?_
  cases c <;> cases n <;> cases m <;> rfl
theorem nz_tail : ∀ (n m : Bool) (l : List Int), nz n (tailRow m l) = tailRow (n != m) l
  | n, m, [] => by rw [tailRow, nz_nz, tailRow]
  | n, m, s :: r => by
    rw [tailRow, nz_app, nz_app, nz_nz, nz_nz, nz_tail n (!m) r, tailRow]
    have : (n != !m) = !(n != m) := by cases n <;> cases m <;> rfl
    rw [this]
theorem tailRow_pos : ∀ (n : Bool) (l : List Int), l.length + 1 ≤ (tailRow n l).length
  | n, [] => by simp [tailRow, nz]
  | n, s :: r => by
    have := tailRow_pos (!n) r
    rw [tailRow, List.length_append, List.length_append, nz_len, List.length_cons (as := r)]
    simp only [List.length_singleton]
    omega
theorem lane_next (n : Bool) {k : Nat} (h : 0 < k) : lane n k = !lane n (k - 1) := by
  unfold lane
  by_cases h1 : k % 2 = 1
  · rw [if_pos h1, if_neg (by omega)]
  · rw [if_neg h1, if_pos (by omega), Bool.not_not]
theorem tfracGo_at {b : List Bool} {f n : Bool} : ∀ {rest : List Int} {fuel : Nat} {dn : List Int} {t : Nat} {post : List Bool}, b.drop t = tailRow (lane n (dn.length - 1)) rest ++ post → rest.length < fuel → dn ≠ [] → goodS (dn ++ rest) → (∀ s ∈ rest, countOk (s - 1)) →
    tfracGo b f n fuel dn t = .ok (dn ++ rest) (t + (tailRow (lane n (dn.length - 1)) rest).length) ∧ b.drop (t + (tailRow (lane n (dn.length - 1)) rest).length) = post
  | [], fuel, dn, t, post, h, hf, hne, hg, hc => by
    obtain ⟨k, rfl⟩ : ∃ k, fuel = k + 1 := ⟨fuel - 1, by simp at hf; omega⟩
    rw [List.append_nil] at hg ⊢
    have he := (goodS_iff.mp hg).2.1
    obtain ⟨h1, h2⟩ := takeB_at (f := f) (w := endsOne dn) (c := false) (show b.drop t = (false != lane n (dn.length - 1)) :: post from h)
    refine ⟨?_, h2⟩
    rw [tfracGo, h1]
    unfold Res.bind
    dsimp only
    rw [if_neg (by decide), he, if_neg (by decide)]
    rfl
  | s :: r, fuel, dn, t, post, h, hf, hne, hg, hc => by
    obtain ⟨k, rfl⟩ : ∃ k, fuel = k + 1 := ⟨fuel - 1, by simp at hf; omega⟩
    have hpos := List.length_pos_iff.mpr hne
    have hcs := hc s (List.mem_cons_self ..)
    obtain ⟨m, hm⟩ := Int.eq_ofNat_of_zero_le hcs.1
    rw [hm] at hcs
    rw [tailRow, hm, Int.toNat_natCast] at h ⊢
    have hl2 : (!lane n (dn.length - 1)) = lane n dn.length := (lane_next n hpos).symm
    rw [hl2] at h ⊢
    obtain ⟨h1, h2⟩ := takeB_at (f := f) (w := endsOne dn) (c := true) (show b.drop t = (true != lane n (dn.length - 1)) :: ((nz (lane n dn.length) (countRow m) ++ tailRow (lane n dn.length) r) ++ post) from h)
    rw [List.append_assoc] at h2
    obtain ⟨h3, h4⟩ := tcount_at (f := f) (w := true) hcs h2
    have e1 : (dn ++ [s]).length - 1 = dn.length := by simp
    obtain ⟨h5, h6⟩ := tfracGo_at (f := f) (n := n) (rest := r) (fuel := k) (dn := dn ++ [s]) (t := t + 1 + (countRow m).length) (post := post) (by rw [e1]; exact h4) (by rw [List.length_cons] at hf; omega) (by simp) (by rw [List.append_assoc]; exact hg) fun x hx => hc x (List.mem_cons_of_mem _ hx)
    rw [e1] at h5 h6
    have el : t + (nz (lane n (dn.length - 1)) [true] ++ (nz (lane n dn.length) (countRow m) ++ tailRow (lane n dn.length) r)).length = t + 1 + (countRow m).length + (tailRow (lane n dn.length) r).length := by
      rw [List.length_append, List.length_append, nz_len, nz_len]
      simp only [List.length_singleton]
      omega
    rw [el]
    refine ⟨?_, h6⟩
    rw [tfracGo, h1]
    unfold Res.bind
    dsimp only
    rw [if_pos rfl, h3]
    dsimp only
    rw [show (m : Int) + 1 = s by omega, h5, List.append_assoc]
    rfl
theorem tfrac_at {b : List Bool} {f n : Bool} {l : List Int} {t : Nat} {post : List Bool} (hg : goodS l) (hr : rowOkS l) (h : b.drop t = nz n (fracRow l) ++ post) : tfrac b f n t = .ok l (t + (fracRow l).length) ∧ b.drop (t + (fracRow l).length) = post := by
  obtain ⟨a, r, rfl⟩ : ∃ a r, l = a :: r := List.exists_cons_of_ne_nil (goodS_iff.mp hg).1
  obtain ⟨hw, hc⟩ := hr
  have h : b.drop t = nz n (wholeRow a ++ tailRow false r) ++ post := h
  rw [nz_app, nz_tail, List.append_assoc, show (n != false) = n by cases n <;> rfl] at h
  obtain ⟨h1, h2⟩ := twhole_at (f := f) hw h
  have hl := congrArg List.length h2
  rw [List.length_append, List.length_drop] at hl
  have hp := tailRow_pos n r
  have hlane : lane n ([a].length - 1) = n := rfl
  obtain ⟨h3, h4⟩ := tfracGo_at (f := f) (n := n) (rest := r) (fuel := 2 * (b.length - (t + (wholeRow a).length)) + 3) (dn := [a]) (t := t + (wholeRow a).length) (post := post) (by rw [hlane]; exact h2) (by omega) (by simp) hg hc
  rw [hlane] at h3 h4
  have el : t + (fracRow (a :: r)).length = t + (wholeRow a).length + (tailRow n r).length := by
    show t + (wholeRow a ++ tailRow false r).length = _
    have := congrArg List.length (nz_tail n false r)
    rw [nz_len, show (n != false) = n by cases n <;> rfl] at this
    rw [List.length_append]
    omega
  rw [el]
  refine ⟨?_, h4⟩
  unfold tfrac
  rw [h1]
  exact h3
/-- f(g(..), ..), g's promise met -/
theorem go_callF {sp sp2 : Sp} {E E2 : XK} {t tr : TA} {vs : List V} {σ : L2.St} {H : Hp} {Q : VK} (h : EvA t σ H vs) (k : ∀ H1, Ex H H1 → ∀ Q2 : VK, (∀ x H2 us, EvA tr σ H2 us → (∀ H3, Ex H2 H3 → sp (x :: us) H3 Q E) → Q2 x H2) → sp2 vs H1 Q2 E2) :
    tCall sp [] E (tCons (tCall sp2 [] E2 t) tr) σ H Q :=
  h H (Ex.refl H) _ fun H1 e1 => by
    rw [List.append_nil]
    exact k H1 e1 _ fun x H2 us hu hs => hu H2 (Ex.refl H2) _ fun H3 e3 => by
      show sp ((x :: us) ++ []) H3 Q E
      rw [List.append_nil]
      exact hs H3 e3
end Kr
/-! lists of numbers compared, filtered -/
namespace Kr
open PySem PySem.Spec PyProof.Rows L2 Evl
abbrev IL (l : List Int) : List V := l.map V.int
theorem IL_plain (l : List Int) : (IL l).all plainV = true := by
  rw [List.all_eq_true]
  intro v hv
  obtain ⟨n, _, rfl⟩ := List.mem_map.mp hv
  rfl
theorem IL_app (l m : List Int) : IL (l ++ m) = IL l ++ IL m := List.map_append
theorem IL_set (l : List Int) (j : Nat) (s : Int) : (IL l).set j (.int s) = IL (l.set j s) := (List.map_set ..).symm
theorem eqvAll_IL : ∀ (a b : List Int), PyData.eqvAll ((IL a).map toD) ((IL b).map toD) = decide (a = b)
  | [], [] => by simp [IL, PyData.eqvAll]
  | [], y :: b => by simp [IL, PyData.eqvAll]
  | x :: a, [] => by simp [IL, PyData.eqvAll]
  | x :: a, y :: b => by
    show (PyData.eqv (.int x) (.int y) && PyData.eqvAll ((IL a).map toD) ((IL b).map toD)) = _
    rw [eqvAll_IL a b, PyData.eqv]
    by_cases h : x = y
    · subst h
      by_cases h2 : a = b
      · subst h2; simp
      · simp [h2]
    · simp [h]
theorem eqv_IL (a b : List Int) : PyData.eqv (.list ((IL a).map toD)) (.list ((IL b).map toD)) = decide (a = b) := by
  rw [PyData.eqv]
  exact eqvAll_IL a b
section
variable {K : PySem.W.Frag} {σ : L2.St} {H : Hp} {ta tb tl te : TE}
theorem ev_eqIL {p q : Addr} {a b : List Int} (ha : Ev ta σ H (.ref p)) (hp : SqL K H p (IL a)) (hb : Ev tb σ H (.ref q)) (hq : SqL K H q (IL b)) : Ev (tOp (rEqD K) ta tb) σ H (.bl (decide (a = b))) := fun H1 e Q k =>
  ha H1 e _ fun H2 e2 => hb H2 (e.trans e2) _ fun H3 e3 => ⟨.list ((IL a).map toD), .list ((IL b).map toD), .lst (ex_l ((e.trans e2).trans e3) hp) (dpAll_plain (IL_plain a)), .lst (ex_l ((e.trans e2).trans e3) hq) (dpAll_plain (IL_plain b)), shaped_list (IL_plain a), shaped_list (IL_plain b), by
    rw [eqv_IL]
    exact k H3 (e2.trans e3)⟩
theorem ev_neIL {p q : Addr} {a b : List Int} (ha : Ev ta σ H (.ref p)) (hp : SqL K H p (IL a)) (hb : Ev tb σ H (.ref q)) (hq : SqL K H q (IL b)) : Ev (tOp (rNeD K) ta tb) σ H (.bl (!decide (a = b))) := fun H1 e Q k =>
  ha H1 e _ fun H2 e2 => hb H2 (e.trans e2) _ fun H3 e3 => ⟨.list ((IL a).map toD), .list ((IL b).map toD), .lst (ex_l ((e.trans e2).trans e3) hp) (dpAll_plain (IL_plain a)), .lst (ex_l ((e.trans e2).trans e3) hq) (dpAll_plain (IL_plain b)), shaped_list (IL_plain a), shaped_list (IL_plain b), by
    rw [eqv_IL]
    exact k H3 (e2.trans e3)⟩
theorem ev_eqI0 {p : Addr} {a : List Int} (ha : Ev ta σ H (.ref p)) (hp : SqL K H p (IL a)) : Ev (tOp (rEqD K) ta (tLst tNil)) σ H (.bl (decide (a = []))) := fun H1 e Q k =>
  ha H1 e _ fun H2 e2 => (el_lst ea_nil (by simp) : EvL (tLst tNil) σ H2 []) H2 (Ex.refl H2) _ fun r H3 _ e3 hr => ⟨.list ((IL a).map toD), .list ((IL []).map toD), .lst (ex_l ((e.trans e2).trans e3) hp) (dpAll_plain (IL_plain a)), .lst (sq_of hr) (dpAll_plain (IL_plain [])), shaped_list (IL_plain a), shaped_list (IL_plain []), by
    rw [eqv_IL]
    exact k H3 (e2.trans e3)⟩
/-- a call of three, the second a new tuple -/
theorem ev_callVU {tc : TE} {sp : Sp} {E : XK} {xs : List V} {x y z : V} (ha : Ev ta σ H x) (hb : EvU tb σ H xs) (hc : ∀ H1, Ex H H1 → Ev tc σ H1 y) (hs : ∀ r H1, Ex H H1 → H1 r = some (.tup xs) → SpV sp [x, .ref r, y] H1 z) : Ev (tCall sp [] E (tCons ta (tCons tb (tCons tc tNil)))) σ H z := fun H1 e Q q =>
  ha H1 e _ fun H2 e2 => hb H2 (e.trans e2) _ fun r H3 _ e3 h3 => hc H3 ((e.trans e2).trans e3) H3 (Ex.refl H3) _ fun H4 e4 => hs r H4 (((e.trans e2).trans e3).trans e4) (e4 _ _ h3) H4 (Ex.refl H4) Q (fun H5 e5 => q H5 (((e2.trans e3).trans e4).trans e5)) E
/-- [x for x in a new list of numbers if ..] -/
theorem el_filtI {l : List Int} {t : TT} {j : Nat} {vs : List Nat} (p : Int → Bool) (h : EvL tl σ H (IL l)) (hz : l.length ≤ 40000) (hw : ∀ x, wipe ((wipe σ vs).set j (some x)) vs = wipe σ vs) (hj : ∀ x : V, ((wipe σ vs).set j (some x))[j]? = some (some x))
    (ht : ∀ r ∈ l, ∀ H1, Ex H H1 → EvT t ((wipe σ vs).set j (some (.int r))) H1 (p r)) : EvL (tLc (iList K tl) (gName j) t (tVar j) vs) σ H (IL (l.filter p)) := by
  have key : given (IL l).length (fun i => p (l.getD i 0)) (fun i => V.int (l.getD i 0)) = IL (l.filter p) := by
    unfold given
    rw [List.length_map]
    exact range_filter l 0 p fun r => V.int r
  rw [← key]
  have at_ : ∀ {i : Nat} {x : V}, (IL l)[i]? = some x → ∃ h : i < l.length, x = .int l[i] ∧ l.getD i 0 = l[i] := fun {i x} hi => by
    have h := (List.getElem?_eq_some_iff.mp hi).1
    rw [List.length_map] at h
    rw [List.getElem?_map, List.getElem?_eq_getElem h] at hi
    exact ⟨h, (Option.some.inj hi).symm, by simp [List.getD, h]⟩
  refine el_lcNL _ _ h (by rw [List.length_map]; exact hz) hw (fun i x H1 e hi => ?_) (fun i x H1 e hi _ => ?_)
  · obtain ⟨hl, rfl, e2⟩ := at_ hi
    rw [e2]
    exact ht _ (List.getElem_mem hl) H1 e
  · obtain ⟨hl, rfl, e2⟩ := at_ hi
    rw [e2]
    exact ev_var (hj _)
end
/-! ### how many steps a fraction has, and how great they are -/
theorem steps_few : ∀ (k : Nat) (t b : Int), b < 2 ^ k → (stepsE t b).length ≤ 2 * k + 1
  | 0, t, b, h => by
    have : ¬ 0 < b := by simp at h; omega
    rw [stepsE, dif_neg this]
    simp
  | k + 1, t, b, h => by
    by_cases hb : 0 < b
    · have m0 := Int.emod_nonneg t (show b ≠ 0 by omega)
      have m1 := Int.emod_lt_of_pos t hb
      rw [stepsE_pos hb]
      generalize t % b = r at m0 m1 ⊢
      by_cases hr : 0 < r
      · rw [stepsE_pos hr]
        have n0 := Int.emod_nonneg b (show r ≠ 0 by omega)
        have n1 := Int.emod_lt_of_pos b hr
        have e := Int.mul_ediv_add_emod b r
        have q1 : 1 ≤ b / r := (Int.le_ediv_iff_mul_le hr).mpr (by omega)
        have q2 : r * 1 ≤ r * (b / r) := Int.mul_le_mul_of_nonneg_left q1 (by omega)
        have hp : (2 : Int) ^ (k + 1) = 2 * 2 ^ k := by rw [Int.pow_succ, Int.mul_comm]
        have := steps_few k r (b % r) (by omega)
        simp only [List.length_cons]
        omega
      · rw [stepsE, dif_neg hr]
        simp
    · rw [stepsE, dif_neg hb]
      simp
theorem steps_small {k : Nat} : ∀ (n : Nat) (t b : Int), b.toNat ≤ n → t.natAbs < 2 ^ k → b < 2 ^ k → ∀ s ∈ stepsE t b, s.natAbs < 2 ^ k
  | n, t, b, hn, ht, hb, s, hs => by
    by_cases h0 : 0 < b
    · rw [stepsE_pos h0] at hs
      rcases List.mem_cons.mp hs with rfl | hs
      · have := Int.natAbs_ediv_le_natAbs t b
        omega
      · have m0 := Int.emod_nonneg t (show b ≠ 0 by omega)
        have m1 := Int.emod_lt_of_pos t h0
        have hk : ((2 : Int) ^ k) = ((2 ^ k : Nat) : Int) := by simp
        cases n with
        | zero => omega
        | succ n => exact steps_small n b (t % b) (by omega) (by rw [hk] at hb; omega) (by omega) s hs
    · rw [stepsE, dif_neg h0] at hs
      cases hs
/-! ### values drawn, in operations, tuples, tests -/
def Sm (x : Int) : Prop := x.natAbs < 2 ^ 1000
section
variable {K : PySem.W.Frag} {σ : L2.St} {H : Hp} {ta tb te : TE} {D : Ends} {tu tw : TS} {x y : V} {P P' : V → Prop} {r : R2}
theorem ew_op (ha : Ev ta σ H x) (hb : EvW tb σ H P) (hr : ∀ y, P y → ∃ z, P' z ∧ ∀ H1, RV r x y H1 z) : EvW (tOp r ta tb) σ H P' := fun H1 e Q q =>
  ha H1 e _ fun H2 e2 => hb H2 (e.trans e2) _ fun y H3 hy e3 => by
    obtain ⟨z, hz, h⟩ := hr y hy
    exact h H3 H3 (Ex.refl H3) Q fun H4 e4 => q z H4 hz ((e2.trans e3).trans e4)
theorem ew_op1 (ha : EvW ta σ H P) (hb : ∀ H1, Ex H H1 → Ev tb σ H1 y) (hr : ∀ x, P x → ∃ z, P' z ∧ ∀ H1, RV r x y H1 z) : EvW (tOp r ta tb) σ H P' := fun H1 e Q q =>
  ha H1 e _ fun x H2 hx e2 => hb H2 (e.trans e2) H2 (Ex.refl H2) _ fun H3 e3 => by
    obtain ⟨z, hz, h⟩ := hr x hx
    exact h H3 H3 (Ex.refl H3) Q fun H4 e4 => q z H4 hz ((e2.trans e3).trans e4)
theorem ew_of (h : Ev te σ H x) (hx : P x) : EvW te σ H P := fun H1 e Q q => h H1 e Q fun H2 e2 => q x H2 hx e2
/-- return (a, b), both drawn -/
theorem s_retTW2 (h1 : EvW ta σ H P) (h2 : ∀ H1, Ex H H1 → EvW tb σ H1 P') (k : ∀ v w H1, P v → P' w → Ex H H1 → RetU [v, w] H1 D.rt) : tRet (tTup (tCons ta (tCons tb tNil))) D σ H :=
  h1 H (Ex.refl H) _ fun v H1 hv e1 => h2 H1 e1 H1 (Ex.refl H1) _ fun w H2 hw e2 => ⟨sz_of (by simp), fun p hp => k v w H2 hv hw (e1.trans e2) p _ hp (Ex.new hp) upd_same⟩
/-- if f(..), f's promise met -/
theorem s_ifF {sp : Sp} {E : XK} {t : TA} {vs : List V} (h : EvA t σ H vs) (k : ∀ H1, Ex H H1 → ∀ Q2 : VK, (∀ (G : Bool) H2, (G = true → tu D σ H2) → (G = false → tw D σ H2) → Q2 (.bl G) H2) → sp vs H1 Q2 E) : tIfS (tB (tCall sp [] E t)) tu tw D σ H :=
  h H (Ex.refl H) _ fun H1 e1 => by
    rw [List.append_nil]
    exact k H1 e1 _ fun G H2 h1 h2 => ⟨G, rfl, by
      cases G with
      | true => exact h1 rfl
      | false => exact h2 rfl⟩
/-- name = f((..)), the one argument a new tuple, in a try -/
theorem s_asgXU {sp : Sp} {E : L2.St → XK} {xs : List V} {i : Nat} (h : EvU te σ H xs) (k : ∀ p H1, H p = none → Ex H H1 → H1 p = some (.tup xs) → sp [.ref p] H1 (fun v H2 => D.nx (σ.set i (some v)) H2) (E σ)) : tAsg (tCallS sp E (tCons te tNil)) (gName i) D σ H :=
  h H (Ex.refl H) _ fun p H1 hp e1 h1 => k p H1 hp e1 h1
end
end Kr
/-! fractions in order: their rows stand as they do; lists of lists of numbers -/
namespace Kr
open PySem PySem.Spec PyProof.Rows L2 Evl
/-! ### the order -/
def crs (l m : List Int) : Int := (fracOf l).1 * (fracOf m).2
theorem crs_head {a b : Int} {r s : List Int} (hr : goodS (a :: r)) (hs : goodS (b :: s)) (h : a < b) : crs (a :: r) (b :: s) < crs (b :: s) (a :: r) := by
  obtain ⟨q0, q1⟩ := goodS_rest hr
  obtain ⟨p0, p1⟩ := goodS_rest hs
  show (a * (fracOf r).1 + (fracOf r).2) * (fracOf s).1 < (b * (fracOf s).1 + (fracOf s).2) * (fracOf r).1
  generalize (fracOf r).1 = P at *
  generalize (fracOf r).2 = Q at *
  generalize (fracOf s).1 = P' at *
  generalize (fracOf s).2 = Q' at *
  have h1 : Q * P' < P * P' := Int.mul_lt_mul_of_pos_right q1 (by omega)
  have h2 : 0 ≤ Q' * P := Int.mul_nonneg p0 (by omega)
  have h3 : 0 < P * P' := Int.mul_pos (by omega) (by omega)
  have h4 : (a + 1) * (P * P') ≤ b * (P * P') := Int.mul_le_mul_of_nonneg_right (by omega) (by omega)
  have e1 : (a * P + Q) * P' = a * (P * P') + Q * P' := by rw [Int.add_mul, Int.mul_assoc]
  have e2 : (b * P' + Q') * P = b * (P * P') + Q' * P := by rw [Int.add_mul, Int.mul_assoc, Int.mul_comm P' P]
  rw [Int.add_mul] at h4
  rw [e1, e2]
  omega
theorem crs_same {a : Int} {r s : List Int} : crs (a :: r) (a :: s) - crs (a :: s) (a :: r) = crs s r - crs r s := by
  show (a * (fracOf r).1 + (fracOf r).2) * (fracOf s).1 - (a * (fracOf s).1 + (fracOf s).2) * (fracOf r).1 = (fracOf s).1 * (fracOf r).2 - (fracOf r).1 * (fracOf s).2
  grind
theorem goodS_down {a : Int} {r : List Int} (h : goodS (a :: r)) : r = [] ∨ goodS r := by
  cases r with
  | nil => exact .inl rfl
  | cons b r => exact .inr (goodT_S (goodS_tail h))
theorem crs_eq : ∀ {l m : List Int}, l = [] ∨ goodS l → m = [] ∨ goodS m → crs l m = crs m l → l = m
  | [], [], _, _, _ => rfl
  | [], b :: s, _, hm, h => by
    have h2 := goodS_rest (hm.resolve_left (by simp))
    have : (1 : Int) * (fracOf s).1 = (b * (fracOf s).1 + (fracOf s).2) * 0 := h
    omega
  | a :: r, [], hl, _, h => by
    have h2 := goodS_rest (hl.resolve_left (by simp))
    have : (a * (fracOf r).1 + (fracOf r).2) * 0 = (1 : Int) * (fracOf r).1 := h
    omega
  | a :: r, b :: s, hl, hm, h => by
    have hl := hl.resolve_left (by simp)
    have hm := hm.resolve_left (by simp)
    rcases Int.lt_trichotomy a b with h1 | rfl | h1
    · have := crs_head hl hm h1; omega
    · have e := crs_same (a := a) (r := r) (s := s)
      rw [crs_eq (goodS_down hl) (goodS_down hm) (by omega)]
    · have := crs_head hm hl h1; omega
def tailOk (l : List Int) : Prop := ∀ s ∈ l, countOk (s - 1)
theorem tail_split : ∀ {r s : List Int}, r = [] ∨ goodS r → s = [] ∨ goodS s → tailOk r → tailOk s → crs s r < crs r s → Split (tailRow false r) (tailRow false s)
  | [], [], _, _, _, _, h => absurd h (Int.lt_irrefl _)
  | [], b :: s, _, hm, _, _, h => ⟨[], [], _, rfl, rfl⟩
  | a :: r, [], hl, _, _, _, h => by
    have h2 := goodS_rest (hl.resolve_left (by simp))
    have : (1 : Int) * (fracOf r).1 < (a * (fracOf r).1 + (fracOf r).2) * 0 := h
    omega
  | a :: r, b :: s, hl, hm, cl, cm, h => by
    have hl := hl.resolve_left (by simp)
    have hm := hm.resolve_left (by simp)
    have ca := cl a (List.mem_cons_self ..)
    have cb := cm b (List.mem_cons_self ..)
    have key : ∀ (x : Int) (u : List Int), tailRow false (x :: u) = [true] ++ (neg (countRow (x - 1).toNat) ++ neg (tailRow false u)) := fun x u => by
      have e : ∀ c : List Bool, nz true c = neg c := fun c => nz_true c
      rw [tailRow, ← e (tailRow false u), nz_tail, ← e (countRow _)]
      rfl
    rw [key, key]
    rcases Int.lt_trichotomy a b with h1 | rfl | h1
    · have := crs_head hl hm h1; omega
    · have e := crs_same (a := a) (r := r) (s := s)
      exact ((tail_split (goodS_down hm) (goodS_down hl) (fun x hx => cm x (List.mem_cons_of_mem _ hx)) (fun x hx => cl x (List.mem_cons_of_mem _ hx)) (by omega)).neg.pre _).pre _
    · refine Split.pre (Split.post (Split.neg (countRow_split ?_ ?_ (by have := ca.1; have := cb.1; omega))) _ _) _
      · rw [Int.toNat_of_nonneg cb.1]; exact cb
      · rw [Int.toNat_of_nonneg ca.1]; exact ca
termination_by r s => r.length + s.length
theorem frac_split {l m : List Int} (hl : goodS l) (hm : goodS m) (rl : rowOkS l) (rm : rowOkS m) (h : crs l m < crs m l) : Split (fracRow l) (fracRow m) := by
  obtain ⟨a, r, rfl⟩ : ∃ a r, l = a :: r := List.exists_cons_of_ne_nil (goodS_iff.mp hl).1
  obtain ⟨b, s, rfl⟩ : ∃ a r, m = a :: r := List.exists_cons_of_ne_nil (goodS_iff.mp hm).1
  show Split (wholeRow a ++ tailRow false r) (wholeRow b ++ tailRow false s)
  rcases Int.lt_trichotomy a b with h1 | rfl | h1
  · exact (wholeRow_split rl.1 rm.1 h1).post _ _
  · have e := crs_same (a := a) (r := r) (s := s)
    exact (tail_split (goodS_down hl) (goodS_down hm) rl.2 rm.2 (by omega)).pre _
  · have := crs_head hm hl h1; omega
/-! ### lists made of what is drawn; lists of new tuples -/
/-- a new list and what is known of it when it is made -/
def EvR (te : TE) (σ : L2.St) (H : Hp) (P : List V → Hp → Prop) : Prop := ∀ H1, Ex H H1 → ∀ Q : VK, (∀ p xs H2, H1 p = none → Ex H1 H2 → H2 p = some (.lst xs) → P xs H2 → Q (.ref p) H2) → te σ H1 Q
section
variable {K : PySem.W.Frag} {σ : L2.St} {H : Hp} {ta tb te tl : TE} {D : Ends} {tz : TS}
theorem q_asgR {i : Nat} {P : List V → Hp → Prop} (h : EvR te σ H P) (k : ∀ xs p H1, P xs H1 → H p = none → Ex H H1 → H1 p = some (.lst xs) → tz D (σ.set i (some (.ref p))) H1) : tSeq (tAsg te (gName i)) tz D σ H := h H (Ex.refl H) _ fun p xs H1 hp e1 h1 hP => k xs p H1 hP hp e1 h1
theorem em_cat1 {P : V → Prop} {xs : List V} (ha : EvL ta σ H xs) (hb : ∀ H1, Ex H H1 → EvW tb σ H1 P) (hz : xs.length + 1 ≤ 100000) : EvM (tOp rCat ta (tLst (tCons tb tNil))) σ H (fun zs => ∃ v, zs = xs ++ [v] ∧ P v) := fun H1 e Q q =>
  ha H1 e _ fun p H2 _ e2 hp => hb H2 (e.trans e2) H2 (Ex.refl H2) _ fun v H3 hv e3 => ⟨sz_of (by simp), fun r hr =>
    ⟨p, r, xs, [v], rfl, rfl, (Ex.new (o := .lst [v]) hr) _ _ (e3 _ _ hp), upd_same, sz_of (by simpa using hz), fun l hl => q _ l _ ⟨v, rfl, hv⟩ (fresh_back ((e2.trans e3).trans (Ex.new hr)) hl) (((e2.trans e3).trans (Ex.new hr)).trans (Ex.new hl)) upd_same⟩⟩
theorem s_appW {P : V → Prop} {l : Addr} {xs : List V} (hl : H l = some (.lst xs)) (ha : Ev ta σ H (.ref l)) (h : EvW te σ H P) (hz : xs.length < 100000) (k : ∀ v H1, P v → Ex H H1 → D.nx σ (upd H1 l (.lst (xs ++ [v])))) : tDrop (tBM K "list" rAppend ta (tCons te tNil)) D σ H :=
  ha H (Ex.refl H) _ fun H1 e1 => ⟨Or.inl ⟨rfl, xs, sq_of (e1 l _ hl)⟩, h H1 e1 _ fun v H2 hv e2 => ⟨l, xs, _, rfl, rfl, e2 _ _ (e1 l _ hl), sz_lt hz, k v H2 hv (e1.trans e2)⟩⟩
theorem el_mapEL {α : Type} {as : List α} {f g : α → V} {a : Addr} {j : Nat} {vs : List Nat} (h : Ev tl σ H (.ref a)) (hs : SqL K H a (as.map f)) (hz : as.length ≤ 40000) (hw : ∀ x, wipe ((wipe σ vs).set j (some x)) vs = wipe σ vs)
    (he : ∀ x ∈ as, ∀ H1, Ex H H1 → Ev te ((wipe σ vs).set j (some (f x))) H1 (g x)) : EvL (tLc (iList K tl) (gName j) tYes te vs) σ H (as.map g) := by
  have key : given (as.map f).length (fun _ => true) (fun i => (as.map g).getD i .non) = as.map g := by
    rw [given_all, List.length_map]
    apply List.ext_getElem?
    intro i
    rw [List.getElem?_map]
    by_cases hi : i < as.length
    · simp [hi, List.getD]
    · simp [hi]
  rw [← key]
  refine el_lcL (fun _ => true) _ h hs (by rw [List.length_map]; exact hz) hw (fun i x H1 _ _ => fun H2 e2 Q q => q H2 (Ex.refl H2)) fun i x H1 e hi _ => ?_
  rw [List.getElem?_map] at hi
  cases hx : as[i]? with
  | none => rw [hx] at hi; cases hi
  | some y =>
    rw [hx] at hi
    obtain rfl := Option.some.inj hi
    have e2 : (as.map g).getD i .non = g y := by simp [List.getD, hx]
    rw [e2]
    exact he y (List.mem_of_getElem? hx) H1 e
/-- [a new tuple for x in what is drawn] -/
theorem er_lcU {P : List V → Hp → Prop} {n j : Nat} {vs : List Nat} (B : List V → Prop) (h : EvR tl σ H P) (hz : ∀ us H1, P us H1 → us.length ≤ n) (hn : n ≤ 40000) (hw : ∀ x, wipe ((wipe σ vs).set j (some x)) vs = wipe σ vs)
    (he : ∀ us x H1 H2, P us H1 → x ∈ us → Ex H H1 → Ex H1 H2 → ∃ ys, B ys ∧ EvU te ((wipe σ vs).set j (some x)) H2 ys) :
    EvR (tLc (iList K tl) (gName j) tYes te vs) σ H (fun ws H1 => ws.length ≤ n ∧ ∃ qs : List (Addr × List V), ws = qs.map (fun q => V.ref q.1) ∧ ∀ q ∈ qs, H1 q.1 = some (.tup q.2) ∧ B q.2) := fun H1 e Q q =>
  h H1 e _ fun p us H2 hp e2 h2 hP => ⟨p, rfl, ⟨us, sq_of h2⟩, fun D hD => lc_list (xs := us)
    (fun i H' => Ex H2 H' ∧ ∃ qs : List (Addr × List V), H' D = some (.lst (qs.map fun q => V.ref q.1)) ∧ qs.length = i ∧ ∀ q ∈ qs, q.1 ≠ D ∧ H' q.1 = some (.tup q.2) ∧ B q.2)
    ⟨Ex.new hD, [], upd_same, rfl, (fun q hq => by cases hq)⟩ (fun i H' _ hI => ex_l hI.1 (sq_of h2)) (fun i x H' hx hI => by
      obtain ⟨eH, qs, hqs, hl, hq⟩ := hI
      obtain ⟨ys, hB, hu⟩ := he us x H2 H' hP (List.mem_of_getElem? hx) (e.trans e2) eH
      refine ⟨hw x, ?_⟩
      unfold tYes
      simp only [if_true]
      have hi := (List.getElem?_eq_some_iff.mp hx).1
      have hzn := hz us H2 hP
      refine hu H' (Ex.refl H') _ fun a H4 ha e4 h4 => ⟨_, e4 _ _ hqs, sz_lt (by rw [List.length_map]; omega), (eH.trans e4).mut hD, qs ++ [(a, ys)], (by rw [upd_same, List.map_append]; rfl), (by rw [List.length_append, hl]; rfl), fun r hr => ?_⟩
      have haD : a ≠ D := fun z => by rw [z, hqs] at ha; cases ha
      rcases List.mem_append.mp hr with hr | hr
      · obtain ⟨n1, n2, n3⟩ := hq r hr
        exact ⟨n1, by rw [upd_ne n1]; exact e4 _ _ n2, n3⟩
      · rw [List.mem_singleton.mp hr]
        exact ⟨haD, by rw [upd_ne haD]; exact h4, hB⟩) fun H' hI => by
      obtain ⟨eH, qs, hqs, hl, hq⟩ := hI
      exact q D _ H' (fresh_back e2 hD) (e2.trans eH) hqs ⟨by rw [List.length_map, hl]; exact hz us H2 hP, qs, rfl, fun r hr => (hq r hr).2⟩⟩
/-- a call of three, the third a new list -/
theorem ev_call2L {sp : Sp} {E : XK} {xs : List V} {x y z : V} (ha : Ev ta σ H x) (hb : Ev tb σ H y) (hc : EvL te σ H xs) (hs : ∀ r H1, Ex H H1 → H1 r = some (.lst xs) → SpV sp [x, y, .ref r] H1 z) : Ev (tCall sp [] E (tCons ta (tCons tb (tCons te tNil)))) σ H z := fun H1 e Q q =>
  ha H1 e _ fun H2 e2 => hb H2 (e.trans e2) _ fun H3 e3 => hc H3 ((e.trans e2).trans e3) _ fun r H4 _ e4 h4 => hs r H4 (((e.trans e2).trans e3).trans e4) h4 H4 (Ex.refl H4) Q (fun H5 e5 => q H5 (((e2.trans e3).trans e4).trans e5)) E
end
/-! ### steps that a law draws -/
/-- steps that a law draws -/
def StepsOk (l : List Int) : Prop := goodS l ∧ l.length ≤ 201 ∧ ∀ s ∈ l, -(10 ^ 60) ≤ s ∧ s ≤ 10 ^ 70
theorem good_fix {l : List Int} (hne : l ≠ []) (h : ∀ s ∈ l.tail, 1 ≤ s) : (endsOne l = false → goodS l) ∧ (endsOne l = true → goodS (l.dropLast ++ [2])) := by
  refine ⟨fun he => goodS_iff.mpr ⟨hne, he, h⟩, fun he => goodS_iff.mpr ⟨by simp, by simp [endsOne], ?_⟩⟩
  cases l with
  | nil => exact absurd rfl hne
  | cons a r =>
    have hl := (of_decide_eq_true he).1
    cases r with
    | nil => simp at hl
    | cons b r =>
      intro s hs
      rw [List.dropLast_cons_cons, List.cons_append, List.tail_cons] at hs
      rcases List.mem_append.mp hs with hs | hs
      · exact h s (List.dropLast_subset _ hs)
      · rw [List.mem_singleton.mp hs]; decide
/-- the last step, if it is a one behind another, is made a two -/
theorem s_fixLast {K : PySem.W.Frag} {σ : L2.St} {H : Hp} {i : Nat} {p : Addr} {l : List Int} {D : Ends} {tz : TS} (hi : σ[i]? = some (some (.ref p))) (hp : H p = some (.lst (l.map V.int))) (hne : l ≠ []) (h1 : ∀ s ∈ l.tail, 1 ≤ s) (hlen : l.length ≤ 201) (hb : ∀ s ∈ l, -(10 ^ 60) ≤ s ∧ s ≤ 10 ^ 70)
    (k : ∀ H1 l', StepsOk l' → (∀ o a, H a = some o → a ≠ p → H1 a = some o) → H1 p = some (.lst (l'.map V.int)) → tz D σ H1) :
    tSeq (tIfS (tAnd (tTest (tOp rGtI (tCB (rLenK K) (tCons (tVar i) tNil)) (tC (.int 1)))) (tTest (tOp rEq (tOp (rIxL K) (tVar i) (tUn (rU fun i => .int (-i)) (tC (.int 1)))) (tC (.int 1))))) (tAsg (tC (.int 2)) (gSub (tVar i) (tUn (rU fun i => .int (-i)) (tC (.int 1))) rSetL)) tNext) tz D σ H := by
  have hg : l.getLast? = some (l.getLast hne) := List.getLast?_eq_some_getLast hne
  obtain ⟨g1, g2⟩ := good_fix hne h1
  refine q_when (b := endsOne l) (et_is (et_and (et_test (ev_gtI (ev_is (ev_lenS (ev_var hi) (.inl (sq_of hp))) (by rw [List.length_map])) ev_c)) fun _ => et_test (ev_eqI (ev_op (ev_var hi) (ev_neg ev_c) (rv_ixL (v := .int (l.getLast hne)) (sq_of hp) (by rw [atI_last (by simpa using hne), List.getLast?_map, hg]; rfl))) ev_c)) ?_) (fun he H1 e1 => ?_) (fun he H1 e1 => ?_)
  · unfold endsOne
    rw [hg, Bool.decide_and]
    congr 1
    · exact decide_eq_decide.mpr ⟨fun h => by omega, fun h => by omega⟩
    · exact decide_eq_decide.mpr ⟨fun h => by rw [h], fun h => Option.some.inj h⟩
  · refine s_setLast (D := { D with nx := tz D }) (e1 _ _ hp) ev_c (ev_var hi) (ev_neg ev_c) (by simpa using hne) fun H2 e2 => ?_
    refine k _ (l.dropLast ++ [2]) ⟨g2 he, by have := List.length_pos_iff.mpr hne; rw [List.length_append, List.length_dropLast]; simp; omega, fun s hs => ?_⟩ (fun o a ha hap => by rw [upd_ne hap]; exact (e1.trans e2) _ _ ha) (by rw [upd_same, List.map_append, List.map_dropLast]; rfl)
    rcases List.mem_append.mp hs with hs | hs
    · exact hb s (List.dropLast_subset _ hs)
    · rw [List.mem_singleton.mp hs]; decide
  · exact k H1 l ⟨g1 he, hlen, hb⟩ (fun o a ha _ => e1 _ _ ha) (e1 _ _ hp)
theorem atI_snoc {xs : List V} {v : V} : atI (xs ++ [v]) (-1) = some v := by
  rw [atI_last (by simp)]
  simp
theorem stepsOk_row {a : Int} {r : List Int} (h : StepsOk (a :: r)) : wholeOk a ∧ (∀ s ∈ r, countOk (s - 1)) ∧ ∀ s ∈ r, 1 ≤ s := by
  have ha := h.2.2 a (List.mem_cons_self ..)
  have h60 : (10 : Int) ^ 60 < 2 ^ 254 := by decide
  have h70 : (10 : Int) ^ 70 < 2 ^ 254 := by decide
  have h1 := (goodS_iff.mp h.1).2.2
  rw [List.tail_cons] at h1
  refine ⟨⟨by omega, by omega⟩, fun s hs => ?_, h1⟩
  have := h.2.2 s (List.mem_cons_of_mem _ hs)
  have := h1 s hs
  exact ⟨by omega, by omega⟩
theorem stepsOk_abs {l : List Int} (h : StepsOk l) : ∀ s ∈ l, s.natAbs < 2 ^ 2000 := fun s hs => by
  have := h.2.2 s hs
  exact Nat.lt_of_le_of_lt (show s.natAbs ≤ 10 ^ 70 by omega) (by decide)
theorem stepsOk_rows {l : List Int} (h : StepsOk l) : rowOkS l ∧ (fracRow l).length ≤ 301 * 202 ∧ (l.length ≤ 30 → (fracRow l).length ≤ 9400) := by
  obtain ⟨a, r, rfl⟩ : ∃ a r, l = a :: r := List.exists_cons_of_ne_nil (goodS_iff.mp h.1).1
  obtain ⟨hw, hc, _⟩ := stepsOk_row h
  have h1 := wholeRow_len hw
  have h2 := tailRow_len (n := false) hc
  have h3 := h.2.1
  rw [List.length_cons] at h3
  refine ⟨⟨hw, hc⟩, ?_, fun h4 => ?_⟩
  · show (wholeRow a ++ tailRow false r).length ≤ _
    rw [List.length_append]
    omega
  · show (wholeRow a ++ tailRow false r).length ≤ _
    rw [List.length_cons] at h4
    rw [List.length_append]
    omega
end Kr
/-! a law's own reader of signs: a list of the signs and the place; xor; texts and lists that are drawn, in calls -/
namespace Kr
open PySem PySem.Spec PyProof.Rows L2 Evl
abbrev rXorI : R2 := rI0 fun i j => .int (Builtin.bitXor i j)
def bi (c : Bool) : Int := if c then 1 else 0
theorem bi_xor (c n : Bool) : Builtin.bitXor (bi c) (bi n) = bi (c != n) := by cases c <;> cases n <;> decide
theorem bi_not (c : Bool) : 1 - bi c = bi (!c) := by cases c <;> rfl
theorem bi_nn (c : Bool) : 0 ≤ bi c := by cases c <;> decide
theorem bi_one (c : Bool) : decide (bi c = 1) = c := by cases c <;> decide
theorem bi_nul (c : Bool) : decide (bi c = 0) = !c := by cases c <;> decide
theorem lane_int (j : Nat) : (j : Int) % 2 = bi (lane false j) := by
  unfold lane bi
  by_cases h : j % 2 = 1
  · rw [if_pos h]; simp; omega
  · rw [if_neg h]; simp; omega
/-- the list of the signs and the place -/
def StP (H : Hp) (s : Addr) (b : List Bool) (t : Nat) : Prop := H s = some (.lst [.str (T (R b)), .int (t : Int)])
theorem StP.mono {H H1 : Hp} {s : Addr} {b : List Bool} {t : Nat} (e : Ex H H1) (h : StP H s b t) : StP H1 s b t := e _ _ h
/-- how a promise of such a reader ends -/
def FinT {α : Type} (val : α → Int) (m : Int) (s : Addr) (b : List Bool) (H : Hp) (Q : VK) : Res α → Prop
  | .ok v t => ∀ H', ExU s H H' → StP H' s b t → Q (.int (val v)) H'
  | .bad _ _ => ∀ (x : Int) (t : Nat) H', m ≤ x → x < 0 → ExU s H H' → StP H' s b t → Q (.int x) H'
theorem FinT.mono {α : Type} {val : α → Int} {m : Int} {s : Addr} {b : List Bool} {H H1 : Hp} {Q : VK} {r : Res α} (h : FinT val m s b H Q r) (e : ExU s H H1) : FinT val m s b H1 Q r := by
  cases r with
  | ok v t => exact fun H' e2 s => h H' (e.trans e2) s
  | bad c p => exact fun x t H' hm hx e2 s => h x t H' hm hx (e.trans e2) s
theorem takeB_w {b : List Bool} {n w w' : Bool} {t : Nat} : takeB b false n w t = takeB b false n w' t := by
  unfold takeB
  cases b[t]? <;> rfl
theorem tones_w {b : List Bool} {n w w' : Bool} : ∀ {k o t : Nat}, tones b false n k w o t = tones b false n k w' o t
  | 0, o, t => rfl
  | k + 1, o, t => by rw [tones, tones, takeB_w (w' := w')]
theorem tcount_w {b : List Bool} {n w w' : Bool} {t : Nat} : tcount b false n w t = tcount b false n w' t := by
  unfold tcount
  rw [tones_w (w' := w')]
theorem takeB_len {b : List Bool} {n w c : Bool} {t t' : Nat} (h : takeB b false n w t = .ok c t') : t' = t + 1 ∧ t < b.length ∧ b[t]? = some (c != n) := by
  obtain ⟨h1, h2, h3⟩ := takeB_back h
  refine ⟨h1, h2, ?_⟩
  have := congrArg (fun l => l[0]?) h3
  simpa using this
/-- what is told of a fraction that is read -/
theorem tfracGo_fine {b : List Bool} {n : Bool} : ∀ {k : Nat} {l l' : List Int} {t t' : Nat}, tfracGo b false n k l t = .ok l' t' → l ≠ [] → l.length ≤ t + 1 → t ≤ b.length → (∀ s ∈ l, s.natAbs < 2 ^ 257) → l' ≠ [] ∧ l'.length ≤ b.length + 1 ∧ ∀ s ∈ l', s.natAbs < 2 ^ 257
  | 0, l, l', t, t', h, h0, h1, h2, h3 => by
    obtain ⟨rfl, rfl⟩ : l = l' ∧ t = t' := by
      have : (Res.ok l t : Res (List Int)) = .ok l' t' := h
      exact ⟨by injection this, by injection this⟩
    exact ⟨h0, by omega, h3⟩
  | k + 1, l, l', t, t', h, h0, h1, h2, h3 => by
    rw [tfracGo] at h
    cases hr : takeB b false (lane n (l.length - 1)) (endsOne l) t with
    | bad c p => rw [hr] at h; cases h
    | ok c t1 =>
      obtain ⟨rfl, ht1, _⟩ := takeB_len hr
      rw [hr] at h
      have h : (if c then (tcount b false (lane n l.length) true (t + 1)).bind fun v t2 => tfracGo b false n k (l ++ [v + 1]) t2 else if endsOne l then .bad "Wrong" (((t + 1 : Nat) : Int) - 1) else .ok l (t + 1)) = Res.ok l' t' := h
      cases c with
      | false =>
        rw [if_neg (by decide)] at h
        split at h
        · cases h
        · have : (Res.ok l (t + 1) : Res (List Int)) = .ok l' t' := h
          obtain rfl : l = l' := by injection this
          exact ⟨h0, by omega, h3⟩
      | true =>
        rw [if_pos rfl] at h
        cases hc : tcount b false (lane n l.length) true (t + 1) with
        | bad c p => rw [hc] at h; cases h
        | ok v t2 =>
          rw [hc] at h
          obtain ⟨hok, hdr, hend⟩ := tcount_back hc
          have hdl := congrArg List.length hdr
          rw [List.length_append, List.length_drop, List.length_drop, nz_len] at hdl
          have hrp := countRow_pos v.toNat
          have g0 := hok.1
          have g2 := hok.2
          refine tfracGo_fine (show tfracGo b false n k (l ++ [v + 1]) t2 = _ from h) (by simp) (by simp; omega) (by omega) fun x hx => ?_
          rcases List.mem_append.mp hx with hx | hx
          · exact h3 x hx
          · rw [List.mem_singleton.mp hx]
            have : (2 : Int) ^ 255 < 2 ^ 256 := by decide
            have : (2 : Nat) ^ 256 < 2 ^ 257 := by decide
            omega
theorem tfracGo_bad {b : List Bool} {n : Bool} : ∀ {k : Nat} {l : List Int} {t : Nat} {c : Str} {p : Int}, tfracGo b false n k l t = .bad c p → (c = "Short" ∧ p = b.length) ∨ c = "Wrong"
  | 0, l, t, c, p, h => by cases h
  | k + 1, l, t, c, p, h => by
    rw [tfracGo] at h
    cases hr : takeB b false (lane n (l.length - 1)) (endsOne l) t with
    | bad c2 p2 =>
      rw [hr] at h
      have h : (Res.bad c2 p2 : Res (List Int)) = .bad c p := h
      obtain ⟨rfl, rfl⟩ : c2 = c ∧ p2 = p := ⟨by injection h, by injection h⟩
      obtain ⟨h1, h2, _⟩ := takeB_short hr
      exact .inl ⟨h1, h2⟩
    | ok c2 t1 =>
      rw [hr] at h
      have h : (if c2 then (tcount b false (lane n l.length) true t1).bind fun v t2 => tfracGo b false n k (l ++ [v + 1]) t2 else if endsOne l then .bad "Wrong" ((t1 : Int) - 1) else .ok l t1) = Res.bad c p := h
      split at h
      · cases hc : tcount b false (lane n l.length) true t1 with
        | bad c3 p3 =>
          rw [hc] at h
          have h : (Res.bad c3 p3 : Res (List Int)) = .bad c p := h
          obtain ⟨rfl, rfl⟩ : c3 = c ∧ p3 = p := ⟨by injection h, by injection h⟩
          exact .inl (tcount_bad hc)
        | ok v t2 =>
          rw [hc] at h
          exact tfracGo_bad (show tfracGo b false n k (l ++ [v + 1]) t2 = _ from h)
      · split at h
        · have h : (Res.bad "Wrong" ((t1 : Int) - 1) : Res (List Int)) = .bad c p := h
          exact .inr (by injection h with h1 h2; exact h1.symm)
        · cases h
theorem tfrac_bad {b : List Bool} {n : Bool} {t : Nat} {c : Str} {p : Int} (h : tfrac b false n t = .bad c p) : (c = "Short" ∧ p = b.length) ∨ c = "Wrong" := by
  unfold tfrac at h
  cases hw : twhole b false n t with
  | bad c2 p2 =>
    rw [hw] at h
    have h : (Res.bad c2 p2 : Res (List Int)) = .bad c p := h
    obtain ⟨rfl, rfl⟩ : c2 = c ∧ p2 = p := ⟨by injection h, by injection h⟩
    exact .inl (twhole_bad hw)
  | ok w t1 =>
    rw [hw] at h
    exact tfracGo_bad (show tfracGo b false n (2 * (b.length - t1) + 3) [w] t1 = _ from h)
theorem tfrac_fine {b : List Bool} {n : Bool} {t t' : Nat} {l : List Int} (ht : t ≤ b.length) (h : tfrac b false n t = .ok l t') : l ≠ [] ∧ l.length ≤ b.length + 1 ∧ ∀ s ∈ l, s.natAbs < 2 ^ 257 := by
  unfold tfrac at h
  cases hw : twhole b false n t with
  | bad c2 p2 => rw [hw] at h; cases h
  | ok w t1 =>
    rw [hw] at h
    obtain ⟨hok, hdr, hend⟩ := twhole_back hw
    have hdl := congrArg List.length hdr
    rw [List.length_append, List.length_drop, List.length_drop, nz_len] at hdl
    refine tfracGo_fine (show tfracGo b false n (2 * (b.length - t1) + 3) [w] t1 = _ from h) (by simp) (by simp) (by omega) fun x hx => ?_
    rw [List.mem_singleton.mp hx]
    have h1 := hok.1
    have h2 := hok.2
    have : (2 : Int) ^ 255 < 2 ^ 256 := by decide
    have : (2 : Nat) ^ 256 < 2 ^ 257 := by decide
    omega
section
variable {K : PySem.W.Frag} {σ : L2.St} {H : Hp} {ta tb te : TE} {D : Ends} {tz : TS}
theorem ev_xorI {i j : Int} (ha : Ev ta σ H (.int i)) (hb : Ev tb σ H (.int j)) : Ev (tOp rXorI ta tb) σ H (.int (Builtin.bitXor i j)) := ev_op ha hb rv_I0
theorem s_asgF {sp : Sp} {E : XK} {t : TA} {vs : List V} {i : Nat} (h : EvA t σ H vs) (k : ∀ H1, Ex H H1 → sp vs H1 (fun v H2 => D.nx (σ.set i (some v)) H2) E) : tAsg (tCall sp [] E t) (gName i) D σ H :=
  h H (Ex.refl H) _ fun H1 e1 => by rw [List.append_nil]; exact k H1 e1
/-- f(a list that is drawn) -/
theorem ew_callM {sp : Sp} {E : XK} {P : List V → Prop} {P' : V → Prop} (h : EvM te σ H P) (k : ∀ xs p H1, P xs → Ex H H1 → H1 p = some (.lst xs) → ∃ z, P' z ∧ SpV sp [.ref p] H1 z) : EvW (tCall sp [] E (tCons te tNil)) σ H P' := fun H1 e Q q =>
  h H1 e _ fun xs p H2 hP _ e2 h2 => by
    obtain ⟨z, hz, hs⟩ := k xs p H2 hP (e.trans e2) h2
    exact hs H2 (Ex.refl H2) Q (fun H3 e3 => q z H3 hz (e2.trans e3)) E
/-- a text that is drawn -/
def RowV (n : Nat) (v : V) : Prop := ∃ r : List Bool, v = .str (T (R r)) ∧ r.length ≤ n
theorem ew_cut {n k : Nat} (h : EvW te σ H (RowV n)) (hn : n ≤ 16000000) : EvW (tSl rSlS te tNoPart (tPart (tC (.int (k : Int))))) σ H (RowV k) := fun H1 e Q q =>
  h H1 e _ fun v H2 hv e2 => by
    obtain ⟨r, rfl, hr⟩ := hv
    exact (ev_slT (te := tC (.str (T (R r)))) (σ := σ) (H := H2) ev_c (by rw [R_len]; omega) eo_none (eo_some (ev_c (v := .int (k : Int))))) H2 (Ex.refl H2) Q fun H3 e3 => q _ H3 ⟨r.take k, by rw [cutL_pre, R_take], by rw [List.length_take]; omega⟩ (e2.trans e3)
end
end Kr
/-! sorted() of any number of texts -/
namespace L2
open PySem PySem.Spec PyProof.Rows
def rSortedA (K : PySem.W.Frag) : List V → Hp → VK → Prop := fun vs H Q => ∃ (a : Addr) (xs : List Str), vs = [V.ref a] ∧ SqL K H a (xs.map V.str) ∧ xs.length ≤ sizeLine ∧
  ∀ (ys : List Str) (p : Addr), ys.Perm xs → sortedS ys = true → H p = none → Q (.ref p) (upd H p (.lst (ys.map V.str)))
section
variable {X : Cx}
theorem cr_sortedA : CallR X (.builtin "sorted") (rSortedA X.K) := by
  intro pins s σ H vs us Q I r h
  obtain ⟨a, xs, rfl, hs, h64, q⟩ := h
  obtain ⟨its, rv, hl, _⟩ := I.list hs
  rw [Vals.ref1 r]
  have hlen0 := rv.length
  rw [List.length_map] at hlen0
  refine PyProof.Rows.sorted_strsAny hl.isList rv.strs (by rw [← hlen0]; exact h64) fun out ys h1 h2 h3 => ?_
  obtain ⟨ep, he'⟩ := PyProof.Rows.sortedAll_at s.heap its out
  have hlen : (ys.map V.str).length ≤ sizeLine := by rw [List.length_map, h2.length_eq]; exact h64
  exact ⟨.ref _, upd H (s.heap.objs.size + 1) (.lst (ys.map V.str)), I.laid (t' := s.toks) (fun _ _ => PyProof.Rows.sortedAll_old) (Nat.le_succ _) ⟨hlen, out.toList, ep, vals_of_strs h1, he'⟩, rfl, q ys _ h2 h3 (I.hok.fresh (Nat.le_succ _))⟩
end
end L2
namespace Kr
open PySem PySem.Spec PyProof.Rows L2 Evl
theorem el_sortedA {K : PySem.W.Frag} {σ : L2.St} {H : Hp} {te : TE} {l : List (List Bool)} (h : EvL te σ H (RL l)) (hn : l.length ≤ 40000) : EvL (tCB (rSortedA K) (tCons te tNil)) σ H (RL (sortR l)) := fun H1 e Q q =>
  h H1 e _ fun p H2 hp e2 h2 => ⟨p, l.map TRw, rfl, by rw [← RL_TRw]; exact sq_of h2, by rw [List.length_map]; exact sz_of (by omega), fun ys r hperm hs hr => by
    rw [sorted_TRw hperm hs, ← RL_TRw]
    exact q r _ (fresh_back e2 hr) (e2.trans (Ex.new hr)) upd_same⟩
theorem el_sortedV {K : PySem.W.Frag} {σ : L2.St} {H : Hp} {te : TE} {p : Addr} {l : List (List Bool)} (h : Ev te σ H (.ref p)) (hp : H p = some (.lst (RL l))) (hn : l.length ≤ 40000) : EvL (tCB (rSortedA K) (tCons te tNil)) σ H (RL (sortR l)) := fun H1 e Q q =>
  h H1 e _ fun H2 e2 => ⟨p, l.map TRw, rfl, by rw [← RL_TRw]; exact sq_of ((e.trans e2) _ _ hp), by rw [List.length_map]; exact sz_of (by omega), fun ys r hperm hs hr => by
    rw [sorted_TRw hperm hs, ← RL_TRw]
    exact q r _ (fresh_back e2 hr) (e2.trans (Ex.new hr)) upd_same⟩
theorem strOk_R (b : List Bool) : PyData.strOk (T (R b)) = true := lay_plain (x := .str (T (R b))) (List.all_eq_true.mp (RL_plain [b]) _ (List.mem_singleton.mpr rfl))
theorem q_asgG {σ : L2.St} {H : Hp} {te : TE} {i : Nat} {D : Ends} {tz : TS} {P : V → Hp → Prop} (h : ∀ Q2 : VK, (∀ x H1, Ex H H1 → P x H1 → Q2 x H1) → te σ H Q2) (k : ∀ x H1, Ex H H1 → P x H1 → tz D (σ.set i (some x)) H1) : tSeq (tAsg te (gName i)) tz D σ H := h _ k
/-- name = (c, f(..)), f's promise met -/
theorem q_asgTF {σ : L2.St} {H : Hp} {sp : Sp} {E : XK} {t : TA} {vs : List V} {c : V} {i : Nat} {D : Ends} {tz : TS} (h : EvA t σ H vs) (k : ∀ H1, Ex H H1 → ∀ Q2 : VK, (∀ y H2, (∀ p, H2 p = none → tz D (σ.set i (some (.ref p))) (upd H2 p (.tup [c, y]))) → Q2 y H2) → sp vs H1 Q2 E) : tSeq (tAsg (tTup (tCons (tC c) (tCons (tCall sp [] E t) tNil))) (gName i)) tz D σ H :=
  h H (Ex.refl H) _ fun H1 e1 => by
    rw [List.append_nil]
    exact k H1 e1 _ fun y H2 hk => ⟨sz_of (by simp), hk⟩
/-- f(..) op b, f's promise met -/
theorem ev_opF {σ : L2.St} {H : Hp} {r : R2} {sp : Sp} {E : XK} {t : TA} {tb : TE} {vs : List V} {z : V} (P : V → Hp → Prop) (h : EvA t σ H vs) (hp : ∀ H1, Ex H H1 → ∀ Q2 : VK, (∀ x H2, Ex H1 H2 → P x H2 → Q2 x H2) → sp vs H1 Q2 E)
    (hr : ∀ x H2 (Qf : VK), Ex H H2 → P x H2 → (∀ H3, Ex H2 H3 → Qf z H3) → tb σ H2 (fun y H3 => r x y H3 Qf)) : Ev (tOp r (tCall sp [] E t) tb) σ H z := fun H1 e Q q =>
  h H1 e _ fun H2 e2 => by
    rw [List.append_nil]
    exact hp H2 (e.trans e2) _ fun x H3 e3 hP => hr x H3 Q ((e.trans e2).trans e3) hP fun H4 e4 => q H4 ((e2.trans e3).trans e4)
theorem page_fine {rs : List (List Bool)} (hn : rs.length ≤ 20) (hl : ∀ r ∈ rs, r.length ≤ 60) : (pageRow rs).length ≤ 2900 := by
  have h1 := pageBody_len (m := 60) (by decide) (last := []) hl
  have h2 := small_len (n := rs.length) (by omega)
  have h3 : rs.length * (80 + 60) ≤ 20 * 140 := Nat.mul_le_mul_right _ hn
  unfold pageRow
  rw [List.length_append]
  omega
end Kr
namespace Kr
open PySem PySem.Spec PyProof.Rows L2 Evl
local macro_rules | `(tactic| k_subL) => `(tactic| first
  | with_reducible exact ev_c
  | ((with_reducible apply ev_var); exact rfl)
  | with_reducible apply ev_addI
  | with_reducible apply ev_subI
  | with_reducible apply ev_modI
  | with_reducible apply ev_divI
  | with_reducible apply ev_mulI
  | with_reducible apply ev_shrI
  | with_reducible apply ev_shlI
  | with_reducible apply ev_powI
  | with_reducible apply ev_andI
  | with_reducible apply ev_ltI
  | with_reducible apply ev_leI
  | with_reducible apply ev_gtI
  | with_reducible apply ev_geI
  | with_reducible apply ev_addT
  | with_reducible apply ev_ltT
  | with_reducible apply ev_leT
  | with_reducible apply ev_mulT
  | with_reducible apply ev_ixT
  | with_reducible apply ev_isN
  | with_reducible apply ev_notN
  | with_reducible apply ev_neg
  | with_reducible apply ev_bits
  | with_reducible apply ev_slT
  | with_reducible apply eo_none
  | with_reducible apply eo_some
  | with_reducible apply ev_call
  | with_reducible apply ea_nil
  | with_reducible apply ea_cons
  | with_reducible apply et_test
  | with_reducible apply et_B
  | with_reducible apply et_not
  | with_reducible apply ev_notV)
local macro_rules | `(tactic| k_clsL) => `(tactic| repeat' k_subL)
def exL : List Str := ["NoFit", "NoForm", "NoText", "NotAhead", "BadPage", "Twice", "Lacking", "Short", "Wrong", "Left"]
abbrev Kx (K : PySem.W.Frag) : Prop := KxL exL K
def srcD : Nat := 0
def ownL : List Str := ["Short"]
abbrev Ko (K : PySem.W.Frag) : Prop := KoL ownL K
def N__law_cell_at : List Str := ["_law_script", "_law_k"]
def t__law_cell_at (K : PySem.W.Frag) : TS :=
  (tSeq (tIfS (tTest (tOp rLtI (tVar 1) (tCB (rLenK K) (tCons (tVar 0) tNil)))) (tRet (tOp (rIxL K) (tVar 0) (tVar 1))) tNext)
    (tRet (tC (.int 0))))
def sp__law_cell_at (K : PySem.W.Frag) : Sp := fun vs H Q _ => ∃ (a : Addr) (ns : List Int) (k : Int), vs = [.ref a, .int k] ∧ SqL K H a (ns.map V.int) ∧ 0 ≤ k ∧ RetV (.int (cellAt ns k)) H Q
theorem len__law_cell_at {K : PySem.W.Frag} {vs H Q E} (h : sp__law_cell_at K vs H Q E) : vs.length = 2 := by
  obtain ⟨a, ns, k, rfl, _⟩ := h
  rfl
theorem u__law_cell_at {K : PySem.W.Frag} {H : Hp} {a : Addr} {ns : List Int} {k : Int} (hs : SqL K H a (ns.map V.int)) (h : 0 ≤ k) : SpV (sp__law_cell_at K) [.ref a, .int k] H (.int (cellAt ns k)) := fun H1 e Q q E => ⟨a, ns, k, rfl, ex_l e hs, h, q⟩
theorem rd__law_cell_at {K : PySem.W.Frag} (vs : List V) (H : Hp) (Q : VK) (E : XK) (h : sp__law_cell_at K vs H Q E) : t__law_cell_at K { nx := fun _ H' => Q .non H', rt := Q } (start N__law_cell_at vs) H := by
  obtain ⟨a, ns, k, rfl, hs, hk, q⟩ := h
  refine q_when (b := decide (k < ((ns.map V.int).length : Int))) (et_test (ev_op (ev_var rfl) (ev_lenS (ev_var rfl) (.inl hs)) rv_ltI)) (fun hb H1 e1 => ?_) (fun hb H1 e1 => ?_)
  · have hlt : k < ((ns.map V.int).length : Int) := of_decide_eq_true hb
    rw [List.length_map] at hlt
    obtain ⟨j, rfl⟩ := Int.eq_ofNat_of_zero_le hk
    have hj : j < ns.length := by omega
    refine s_ret (v := .int (cellAt ns j)) (ev_op (ev_var rfl) (ev_var rfl) (rv_ixL (ex_l e1 hs) ?_)) fun H2 e2 => q H2 (e1.trans e2)
    exact at_int hj
  · have hlt : ¬ k < ((ns.map V.int).length : Int) := of_decide_eq_false hb
    rw [List.length_map] at hlt
    have e0 : cellAt ns k = 0 := by
      unfold cellAt
      rw [List.getElem?_eq_none (by omega)]
      rfl
    refine s_ret (v := .int 0) ev_c fun H2 e2 => ?_
    have := q H2 (e1.trans e2)
    rw [e0] at this
    exact this
def N__law_mixed : List Str := ["_law_cell", "_law_k", "_law_number"]
def t__law_mixed (K : PySem.W.Frag) : TS :=
  (tSeq (tAsg (tOp rModI (tOp rAddI (tOp rAddI (tOp rMulI (tOp rModI (tVar 0) (tC (.int 2147483647))) (tC (.int 48271))) (tOp rMulI (tVar 1) (tC (.int 69621)))) (tC (.int 11))) (tC (.int 2147483647))) (gName 2))
    (tSeq (tAsg (tOp rModI (tOp rMulI (tVar 2) (tVar 2)) (tC (.int 2147483629))) (gName 2))
    (tRet (tOp rModI (tOp rMulI (tVar 2) (tVar 2)) (tC (.int 2147483587))))))
def mixed (c k : Int) : Int :=
  let n := (c % 2147483647 * 48271 + k * 69621 + 11) % 2147483647
  let m := n * n % 2147483629
  m * m % 2147483587
theorem mixed_lo (c k : Int) : 0 ≤ mixed c k := Int.emod_nonneg _ (by decide)
theorem mixed_hi (c k : Int) : mixed c k < 2147483587 := Int.emod_lt_of_pos _ (by decide)
def sp__law_mixed (_ : PySem.W.Frag) : Sp := fun vs H Q _ => ∃ c k : Int, vs = [.int c, .int k] ∧ k.natAbs < 2 ^ 40 ∧ RetV (.int (mixed c k)) H Q
theorem len__law_mixed {K : PySem.W.Frag} {vs H Q E} (h : sp__law_mixed K vs H Q E) : vs.length = 2 := by
  obtain ⟨c, k, rfl, _⟩ := h
  rfl
theorem u__law_mixed {K : PySem.W.Frag} {H : Hp} {c k : Int} (h : k.natAbs < 2 ^ 40) : SpV (sp__law_mixed K) [.int c, .int k] H (.int (mixed c k)) := fun H1 e Q q E => ⟨c, k, rfl, h, q⟩
theorem rd__law_mixed {K : PySem.W.Frag} (vs : List V) (H : Hp) (Q : VK) (E : XK) (h : sp__law_mixed K vs H Q E) : t__law_mixed K { nx := fun _ H' => Q .non H', rt := Q } (start N__law_mixed vs) H := by
  obtain ⟨c, k, rfl, hk, q⟩ := h
  have hm : ∀ x m : Int, 0 < m → m < 2 ^ 40 → (x % m).natAbs < 2 ^ 40 := fun x m h1 h2 => by
    have := Int.emod_nonneg x (show m ≠ 0 by omega)
    have := Int.emod_lt_of_pos x h1
    omega
  refine q_asg (by
    k_clsL
    all_goals first
      | decide
      | exact mulx_ok (a := 40) (b := 40) (hm _ _ (by decide) (by decide)) (by decide) (by decide)
      | exact mulx_ok (a := 40) (b := 40) hk (by decide) (by decide)) fun H1 e1 => ?_
  refine q_asg (by
    k_clsL
    all_goals first
      | decide
      | exact mulx_ok (a := 40) (b := 40) (hm _ _ (by decide) (by decide)) (hm _ _ (by decide) (by decide)) (by decide)) fun H2 e2 => ?_
  refine s_ret (by
    k_clsL
    all_goals first
      | decide
      | exact mulx_ok (a := 40) (b := 40) (hm _ _ (by decide) (by decide)) (hm _ _ (by decide) (by decide)) (by decide)) fun H3 e3 => ?_
  exact q H3 ((e1.trans e2).trans e3)
def N__law_free_row : List Str := ["_law_rest", "_law_most", "_law_row", "_law_size", "_law_j"]
def t__law_free_row (K : PySem.W.Frag) : TS :=
  (tSeq (tAsg (tC (.str (Kr.T []))) (gName 2))
    (tSeq (tAsg (tOp rModI (tVar 0) (tOp rAddI (tVar 1) (tC (.int 1)))) (gName 3))
    (tSeq (tAsg (tOp rDivI (tVar 0) (tOp rAddI (tVar 1) (tC (.int 1)))) (gName 0))
    (tSeq (tFor (iRng1 (tCons (tVar 3) tNil)) (gName 4)
    (tAsg (tOp rAddT (tVar 2) (tOp rIxS (tC (.str (Kr.T [48, 49]))) (tOp rAndI (tOp rShrI (tVar 0) (tVar 4)) (tC (.int 1))))) (gName 2)))
    (tRet (tVar 2))))))
/-- the lower digits of a number, the lower ones first -/
def lowBits (x : Int) : Nat → List Bool
  | 0 => []
  | i + 1 => lowBits x i ++ [decide (x / 2 ^ i % 2 = 1)]
theorem lowBits_len (x : Int) (i : Nat) : (lowBits x i).length = i := by
  induction i with
  | zero => rfl
  | succ i ih => rw [lowBits, List.length_append, ih]; rfl
def freeRow (x m : Int) : List Bool := lowBits (x / (m + 1)) (x % (m + 1)).toNat
def sp__law_free_row (_ : PySem.W.Frag) : Sp := fun vs H Q _ => ∃ (x m : Int), vs = [.int x, .int m] ∧ 0 ≤ m ∧ m ≤ 1000 ∧ RetV (.str (T (R (freeRow x m)))) H Q
theorem len__law_free_row {K : PySem.W.Frag} {vs H Q E} (h : sp__law_free_row K vs H Q E) : vs.length = 2 := by
  obtain ⟨x, m, rfl, _⟩ := h
  rfl
theorem u__law_free_row {K : PySem.W.Frag} {H : Hp} {x m : Int} (h0 : 0 ≤ m) (h1 : m ≤ 1000) : SpV (sp__law_free_row K) [.int x, .int m] H (.str (T (R (freeRow x m)))) := fun H1 e Q q E => ⟨x, m, rfl, h0, h1, q⟩
theorem freeRow_len {x m : Int} (h0 : 0 ≤ m) : ((freeRow x m).length : Int) ≤ m := by
  unfold freeRow
  rw [lowBits_len]
  have := Int.emod_nonneg x (show m + 1 ≠ 0 by omega)
  have := Int.emod_lt_of_pos x (show 0 < m + 1 by omega)
  omega
theorem rd__law_free_row {K : PySem.W.Frag} (vs : List V) (H : Hp) (Q : VK) (E : XK) (h : sp__law_free_row K vs H Q E) : t__law_free_row K { nx := fun _ H' => Q .non H', rt := Q } (start N__law_free_row vs) H := by
  obtain ⟨x, m, rfl, h0, h1, q⟩ := h
  have hm := Int.emod_nonneg x (show m + 1 ≠ 0 by omega)
  have hm2 := Int.emod_lt_of_pos x (show 0 < m + 1 by omega)
  refine q_asg ev_c fun H1 e1 => ?_
  refine q_asg (v := .int (x % (m + 1))) (by
    k_clsL
    omega) fun H2 e2 => ?_
  refine q_asg (v := .int (x / (m + 1))) (by
    k_clsL
    exact wide_div (b := 20) (by omega) (by omega) (by decide) (by decide)) fun H3 e3 => ?_
  refine q_forR1 (n := x % (m + 1)) (ea_cons (ev_var rfl) ea_nil) (by omega)
    (fun i σ' H' => Ex H H' ∧ ∃ z, σ' = [some (.int (x / (m + 1))), some (.int m), some (.str (T (R (lowBits (x / (m + 1)) i)))), some (.int (x % (m + 1))), z]) (fun H4 e4 => ⟨((e1.trans e2).trans e3).trans e4, none, rfl⟩) (fun i σ' H' hi hP => ?_) (fun σ' H' hP => ?_)
  · obtain ⟨eH, z, rfl⟩ := hP
    refine s_asg (ev_op (ev_var rfl) (ev_op ev_c (ev_op (ev_op (ev_var rfl) (ev_var rfl) (rv_shrI (by omega))) ev_c rv_andI) (rv_ixT (by decide) (bit_at _ i))) (rv_addT (by rw [R_len, lowBits_len]; simp; omega))) fun H4 e4 => ?_
    refine ⟨eH.trans e4, some (.int i), ?_⟩
    rw [lowBits, R_app]
    rfl
  · obtain ⟨eH, z, rfl⟩ := hP
    exact s_ret (ev_var rfl) fun H2 e2 => q H2 (eH.trans e2)
def N__law_rows : List Str := ["_law_script", "_law_most", "_law_free", "_law_base", "_law_rows_here", "_law_k", "_law_number", "_law_row", "_law_j", "_law_at"]
def t__law_rows (K : PySem.W.Frag) : TS :=
  (tSeq (tAsg (tOp rEq (tOp rModI (tCall (sp__law_cell_at K) [] E0 (tCons (tVar 0) (tCons (tC (.int 0)) tNil))) (tC (.int 2))) (tC (.int 1))) (gName 2))
    (tSeq (tAsg (tC (.str (Kr.T []))) (gName 3))
    (tSeq (tAsg (tLst tNil) (gName 4))
    (tSeq (tFor (iRng1 (tCons (tCB (rLenK K) (tCons (tSl (rSlL K) (tVar 0) tNoPart (tPart (tVar 1))) tNil)) tNil)) (gName 5)
    (tSeq (tAsg (tCall (sp__law_mixed K) [] E0 (tCons (tOp (rIxL K) (tVar 0) (tVar 5)) (tCons (tVar 5) tNil))) (gName 6))
    (tSeq (tAsg (tOp rAddT (tVar 3) (tOp (rIxL K) (tLst (tCons (tC (.str (Kr.T [48]))) (tCons (tC (.str (Kr.T [49]))) (tCons (tC (.str (Kr.T [48, 49]))) (tCons (tC (.str (Kr.T [49, 48]))) (tCons (tC (.str (Kr.T [49, 49]))) tNil)))))) (tOp rModI (tVar 6) (tC (.int 5))))) (gName 3))
    (tSeq (tAsg (tSl rSlS (tVar 3) tNoPart (tPart (tOp rModI (tOp rDivI (tVar 6) (tC (.int 5))) (tOp rAddI (tC (.int 1)) (tCB rMin2 (tCons (tCB (rLenK K) (tCons (tVar 3) tNil)) (tCons (tC (.int 40)) tNil))))))) (gName 7))
    (tSeq (tFor (iRng1 (tCons (tOp rModI (tOp rDivI (tVar 6) (tC (.int 1000))) (tC (.int 4))) tNil)) (gName 8)
    (tAsg (tOp rAddT (tVar 7) (tOp (rIxL K) (tLst (tCons (tC (.str (Kr.T [48, 48]))) (tCons (tC (.str (Kr.T [48, 49]))) (tCons (tC (.str (Kr.T [49, 48]))) (tCons (tC (.str (Kr.T [49, 49]))) (tCons (tC (.str (Kr.T []))) tNil)))))) (tOp rModI (tCall (sp__law_mixed K) [] E0 (tCons (tOp (rIxL K) (tVar 0) (tVar 5)) (tCons (tOp rAddI (tOp rAddI (tVar 5) (tOp rMulI (tC (.int 100)) (tVar 8))) (tC (.int 100))) tNil))) (tC (.int 5))))) (gName 7)))
    (tSeq (tIfS (tTest (tOp rEq (tOp rModI (tOp rDivI (tVar 6) (tC (.int 4000))) (tC (.int 5))) (tC (.int 0)))) (tAsg (tSl rSlS (tOp rAddT (tVar 7) (tOp rMulT (tOp (rIxL K) (tLst (tCons (tC (.str (Kr.T [48]))) (tCons (tC (.str (Kr.T [49]))) tNil))) (tOp rModI (tVar 6) (tC (.int 2)))) (tC (.int 60)))) tNoPart (tPart (tC (.int 60)))) (gName 7)) tNext)
    (tSeq (tIfS (tB (tVar 2)) (tAsg (tCall (sp__law_free_row K) [] E0 (tCons (tOp rDivI (tOp (rIxL K) (tVar 0) (tVar 5)) (tC (.int 2))) (tCons (tC (.int 60)) tNil))) (gName 7)) tNext)
    (tSeq (tAsg (tC (.int 0)) (gName 9))
    (tSeq (tWhile (tAnd (tTest (tOp rLtI (tVar 9) (tCB (rLenK K) (tCons (tVar 4) tNil)))) (tTest (tOp rLtT (tOp (rIxL K) (tVar 4) (tVar 9)) (tVar 7))))
    (tAsg (tOp rAddI (tVar 9) (tC (.int 1))) (gName 9)))
    (tIfS (tOr (tTest (tOp rEq (tVar 9) (tCB (rLenK K) (tCons (tVar 4) tNil)))) (tTest (tOp rNe (tOp (rIxL K) (tVar 4) (tVar 9)) (tVar 7)))) (tDrop (tBM K "list" rInsertK (tVar 4) (tCons (tVar 9) (tCons (tVar 7) tNil)))) tNext))))))))))
    (tRet (tVar 4))))))
def sp__law_rows (K : PySem.W.Frag) : Sp := fun vs H Q _ => ∃ (a : Addr) (ns : List Int) (m : Nat), vs = [.ref a, .int (m : Int)] ∧ SqL K H a (ns.map V.int) ∧ ns.length ≤ 63 ∧ m ≤ 63 ∧ ∀ rs, Asc none rs → (∀ r ∈ rs, r.length ≤ 60) → rs.length ≤ m → RetL (RL rs) H Q
theorem len__law_rows {K : PySem.W.Frag} {vs H Q E} (h : sp__law_rows K vs H Q E) : vs.length = 2 := by
  obtain ⟨a, ns, m, rfl, _⟩ := h
  rfl
/-- a list of rows that ascend -/
def AscRows (m : Nat) (xs : List V) : Prop := ∃ rs, xs = RL rs ∧ Asc none rs ∧ (∀ r ∈ rs, r.length ≤ 60) ∧ rs.length ≤ m
theorem em_rows {K : PySem.W.Frag} {σ : L2.St} {H : Hp} {t1 t2 : TE} {a : Addr} {ns : List Int} {m : Nat} (h1 : Ev t1 σ H (.ref a)) (h2 : Ev t2 σ H (.int (m : Int))) (hs : SqL K H a (ns.map V.int)) (hl : ns.length ≤ 63) (hm : m ≤ 63) :
    EvM (tCall (sp__law_rows K) [] E0 (tCons t1 (tCons t2 tNil))) σ H (AscRows m) := fun H1 e Q q =>
  (ea_cons h1 (ea_cons h2 ea_nil) : EvA _ σ H _) H1 e _ fun H2 e2 => ⟨a, ns, m, rfl, ex_l (e.trans e2) hs, hl, hm, fun rs h1 h2 h3 p H3 hp e3 h4 => q (RL rs) p H3 ⟨rs, rfl, h1, h2, h3⟩ (fresh_back e2 hp) (e2.trans e3) h4⟩
theorem rep_R (n : Nat) (b : Bool) : (List.replicate n (R [b])).flatten = R (List.replicate n b) := by
  induction n with
  | zero => rfl
  | succ n ih => rw [List.replicate_succ, List.flatten_cons, ih, List.replicate_succ]; rfl
theorem tab5 (m : Int) : ∃ x : List Bool, x.length ≤ 2 ∧ atI ([.str (T [48]), .str (T [49]), .str (T [48, 49]), .str (T [49, 48]), .str (T [49, 49])] : List V) (m % 5) = some (.str (T (R x))) := by
  have : m % 5 = 0 ∨ m % 5 = 1 ∨ m % 5 = 2 ∨ m % 5 = 3 ∨ m % 5 = 4 := by omega
  rcases this with h | h | h | h | h <;> rw [h]
  · exact ⟨[false], by decide, rfl⟩
  · exact ⟨[true], by decide, rfl⟩
  · exact ⟨[false, true], by decide, rfl⟩
  · exact ⟨[true, false], by decide, rfl⟩
  · exact ⟨[true, true], by decide, rfl⟩
theorem tab5b (m : Int) : ∃ x : List Bool, x.length ≤ 2 ∧ atI ([.str (T [48, 48]), .str (T [48, 49]), .str (T [49, 48]), .str (T [49, 49]), .str (T [])] : List V) (m % 5) = some (.str (T (R x))) := by
  have : m % 5 = 0 ∨ m % 5 = 1 ∨ m % 5 = 2 ∨ m % 5 = 3 ∨ m % 5 = 4 := by omega
  rcases this with h | h | h | h | h <;> rw [h]
  · exact ⟨[false, false], by decide, rfl⟩
  · exact ⟨[false, true], by decide, rfl⟩
  · exact ⟨[true, false], by decide, rfl⟩
  · exact ⟨[true, true], by decide, rfl⟩
  · exact ⟨[], by decide, rfl⟩
theorem rd__law_rows {K : PySem.W.Frag} (vs : List V) (H : Hp) (Q : VK) (E : XK) (h : sp__law_rows K vs H Q E) : t__law_rows K { nx := fun _ H' => Q .non H', rt := Q } (start N__law_rows vs) H := by
  obtain ⟨a, ns, m, rfl, hs, hl, hm, q⟩ := h
  have hcl := cut_lenN (ns := ns) m
  refine q_asg (ev_eqI (ev_modI (ev_call (ea_cons (ev_var rfl) (ea_cons ev_c ea_nil)) (u__law_cell_at hs (by decide))) ev_c (by decide)) ev_c) fun H1 e1 => ?_
  generalize decide (cellAt ns 0 % 2 = 1) = fr
  refine q_asg (v := .str (T (R []))) ev_c fun H2 e2 => ?_
  refine q_asgL (el_lst ea_nil (by simp)) fun p H3 hp e3 h3 => ?_
  have hpH : H p = none := fresh_back (e1.trans e2) hp
  have e03 := (e1.trans e2).trans e3
  refine q_forR1 (n := ((min m ns.length : Nat) : Int)) (ea_cons (ev_is (ev_lenNL (el_sl (K := K) (ev_var rfl) eo_none (eo_some (ev_var (i := 1) rfl)) (ex_l e03 hs))) (by rw [hcl])) ea_nil) (by omega)
    (fun i σ' H' => Ex H H' ∧ ∃ (base : List Bool) (rs : List (List Bool)) (x5 x6 x7 x8 x9 : Option V), σ' = [some (.ref a), some (.int (m : Int)), some (.bl fr), some (.str (T (R base))), some (.ref p), x5, x6, x7, x8, x9] ∧ H' p = some (.lst (RL rs)) ∧ Asc none rs ∧ (∀ r ∈ rs, r.length ≤ 60) ∧ rs.length ≤ i ∧ base.length ≤ 2 * i)
    (fun H4 e4 => ⟨e03.trans e4, [], [], none, none, none, none, none, rfl, e4 _ _ h3, trivial, fun r hr => (by cases hr), Nat.le_refl _, Nat.le_refl _⟩) (fun i σ' H' hi hP => ?_) (fun σ' H' hP => ?_)
  · obtain ⟨eH, base, rs, x5, x6, x7, x8, x9, rfl, hpr, hasc, hlen, hrl, hbl⟩ := hP
    have hi2 : i < ns.length := by omega
    have cell : ∀ (σ : L2.St) (H0 : Hp), Ex H H0 → σ[0]? = some (some (.ref a)) → σ[5]? = some (some (.int (i : Int))) → Ev (tOp (rIxL K) (tVar 0) (tVar 5)) σ H0 (.int (cellAt ns i)) := fun σ H0 e h0 h5 => ev_op (ev_var h0) (ev_var h5) (rv_ixL (ex_l e hs) (at_int hi2))
    refine q_asg (ev_call (ea_cons (cell _ _ eH rfl rfl) (ea_cons (ev_var rfl) ea_nil)) (u__law_mixed (by omega))) fun H4 e4 => ?_
    generalize mixed (cellAt ns i) (i : Int) = num
    obtain ⟨x, hx, hat⟩ := tab5 num
    refine q_asg (v := .str (T (R (base ++ x)))) (ev_addR (ev_var rfl) (ev_ixNL (el_lst (ea_cons ev_c (ea_cons ev_c (ea_cons ev_c (ea_cons ev_c (ea_cons ev_c ea_nil))))) (by simp)) (fun H9 e9 => ev_modI (ev_var rfl) ev_c (by decide)) hat) (by omega)) fun H5 e5 => ?_
    have hb2 : (base ++ x).length ≤ 2 * (i + 1) := by rw [List.length_append]; omega
    generalize base ++ x = bs at hb2 ⊢
    have hpos : 0 < 1 + (if (40 : Int) < (bs.length : Int) then 40 else (bs.length : Int)) := by split <;> omega
    have hd0 := Int.emod_nonneg (num / 5) (show 1 + (if (40 : Int) < (bs.length : Int) then 40 else (bs.length : Int)) ≠ 0 by omega)
    have hd1 := Int.emod_lt_of_pos (num / 5) hpos
    obtain ⟨j, hj⟩ := Int.eq_ofNat_of_zero_le hd0
    refine q_asg (v := .str (T (R (bs.take j)))) (ev_is (ev_slT (ev_var rfl) (by rw [R_len]; omega) eo_none (eo_some (ev_modI (ev_divI (ev_var rfl) ev_c (wide_div (b := 20) (by decide) (by decide) (by decide) (by decide))) (ev_addI ev_c (ev_min2 (ev_lenR (ev_var rfl) (by omega)) ev_c)) hpos))) (by rw [hj, cutL_pre, R_take])) fun H6 e6 => ?_
    have hrow : (bs.take j).length ≤ 40 := by
      rw [List.length_take]
      have : (j : Int) < 41 := by
        rw [← hj]
        refine Int.lt_of_lt_of_le hd1 ?_
        split <;> omega
      omega
    generalize bs.take j = row0 at hrow ⊢
    clear hj hd0 hd1 hpos
    have e06 := ((eH.trans e4).trans e5).trans e6
    have hp6 := (e4.trans (e5.trans e6)) _ _ hpr
    have hn4 := Int.emod_nonneg (num / 1000) (show (4 : Int) ≠ 0 by decide)
    have hn5 := Int.emod_lt_of_pos (num / 1000) (show (0 : Int) < 4 by decide)
    refine q_forR1 (n := num / 1000 % 4) (ea_cons (ev_modI (ev_divI (ev_var rfl) ev_c (wide_div (b := 20) (by decide) (by decide) (by decide) (by decide))) ev_c (by decide)) ea_nil) (by omega)
      (fun j σ' H' => Ex H6 H' ∧ ∃ (row : List Bool) (x8 : Option V), σ' = [some (.ref a), some (.int (m : Int)), some (.bl fr), some (.str (T (R bs))), some (.ref p), some (.int (i : Int)), some (.int num), some (.str (T (R row))), x8, x9] ∧ row.length ≤ 40 + 2 * j)
      (fun H7 e7 => ⟨e7, row0, x8, rfl, by omega⟩) (fun j σ' H' hj hP => ?_) (fun σ' H' hP => ?_)
    · obtain ⟨e7, row, x8, rfl, hr⟩ := hP
      obtain ⟨y, hy, hat2⟩ := tab5b (mixed (cellAt ns i) ((i : Int) + 100 * (j : Int) + 100))
      refine s_asg (v := .str (T (R (row ++ y)))) (ev_addR (ev_var rfl) (ev_ixNL (el_lst (ea_cons ev_c (ea_cons ev_c (ea_cons ev_c (ea_cons ev_c (ea_cons ev_c ea_nil))))) (by simp)) (fun H9 e9 => ev_modI (ev_call (ea_cons (cell _ _ ((e06.trans e7).trans e9) rfl rfl) (ea_cons (ev_addI (ev_addI (ev_var rfl) (ev_mulI ev_c (ev_var rfl) (mulx_ok (a := 10) (b := 40) (by decide) (by omega) (by decide)))) ev_c) ea_nil)) (u__law_mixed (by omega))) ev_c (by decide)) hat2) (by omega)) fun H8 e8 => ⟨e7.trans e8, _, _, rfl, by rw [List.length_append]; omega⟩
    · obtain ⟨e7, row, x8, rfl, hr⟩ := hP
      have hr2 : row.length ≤ 50 := by omega
      have e07 := e06.trans e7
      -- the row, sixty signs at most
      refine q_cond (fun σ' H'' => Ex H' H'' ∧ ∃ row : List Bool, row.length ≤ 60 ∧ σ' = [some (.ref a), some (.int (m : Int)), some (.bl fr), some (.str (T (R bs))), some (.ref p), some (.int (i : Int)), some (.int num), some (.str (T (R row))), x8, x9]) (fun M hM => ?_) (fun σ' H8 hP => ?_)
      · refine s_when (et_test (ev_eqI (ev_modI (ev_divI (ev_var rfl) ev_c (wide_div (b := 20) (by decide) (by decide) (by decide) (by decide))) ev_c (by decide)) ev_c)) (fun _ H8 e8 => ?_) (fun _ H8 e8 => hM _ _ ⟨e8, row, by omega, rfl⟩)
        have h01 : num % 2 = 0 ∨ num % 2 = 1 := by omega
        refine s_asg (v := .str (T (R ((row ++ List.replicate 60 (decide (num % 2 = 1))).take 60)))) (ev_is (ev_slT (ev_addR (ev_var rfl) (ev_is (ev_mulT (a := R [decide (num % 2 = 1)]) (n := 60) (ev_ixNL (el_lst (ea_cons ev_c (ea_cons ev_c ea_nil)) (by simp)) (fun H9 e9 => ev_modI (ev_var rfl) ev_c (by decide)) (by rcases h01 with h | h <;> rw [h] <;> rfl)) ev_c (by decide) (by decide) (by simp [R])) (by rw [rep_R])) (by rw [List.length_replicate]; omega)) (by rw [R_len, List.length_append, List.length_replicate]; omega) eo_none (eo_some (ev_c (v := .int ((60 : Nat) : Int))))) (by rw [cutL_pre, R_take]; rfl)) fun H9 e9 => hM _ _ ⟨e8.trans e9, _, by rw [List.length_take]; omega, rfl⟩
      · obtain ⟨e8, row, hr3, rfl⟩ := hP
        refine q_cond (fun σ' H'' => Ex H' H'' ∧ ∃ row : List Bool, row.length ≤ 60 ∧ σ' = [some (.ref a), some (.int (m : Int)), some (.bl fr), some (.str (T (R bs))), some (.ref p), some (.int (i : Int)), some (.int num), some (.str (T (R row))), x8, x9]) (fun M hM => ?_) (fun σ' H9 hP => ?_)
        · refine s_when (et_B (ev_var rfl)) (fun _ H9 e9 => ?_) (fun _ H9 e9 => hM _ _ ⟨e8.trans e9, row, hr3, rfl⟩)
          have := freeRow_len (x := cellAt ns i / 2) (m := 60) (by decide)
          exact s_asg (ev_call (ea_cons (ev_divI (cell _ _ ((e07.trans e8).trans e9) rfl rfl) ev_c (wide_div (b := 20) (by decide) (by decide) (by decide) (by decide))) (ea_cons ev_c ea_nil)) (u__law_free_row (by decide) (by decide))) fun H10 e10 => hM _ _ ⟨(e8.trans e9).trans e10, _, by omega, rfl⟩
        · obtain ⟨e9, row, hr3, rfl⟩ := hP
          have e09 := e07.trans e9
          have hp9 := (e7.trans e9) _ _ hp6
          refine q_asg ev_c fun H10 e10 => ?_
          have hp10 := e10 _ _ hp9
          -- where the row stands
          refine q_while (fun w σ' H' => Ex H10 H' ∧ ∃ t : Nat, w = rs.length - t ∧ t ≤ rs.length ∧ σ' = [some (.ref a), some (.int (m : Int)), some (.bl fr), some (.str (T (R bs))), some (.ref p), some (.int (i : Int)), some (.int num), some (.str (T (R row))), x8, some (.int (t : Int))] ∧ ∀ x ∈ rs.take t, R x < R row) rs.length ⟨Ex.refl _, 0, rfl, Nat.zero_le _, rfl, fun x hx => by simp at hx⟩ ?_
          rintro w σ' H' ⟨e11, t, rfl, ht, rfl, hbef⟩
          have hp11 := e11 _ _ hp10
          have lenT : EvT (tTest (tOp rLtI (tVar 9) (tCB (rLenK K) (tCons (tVar 4) tNil)))) [some (.ref a), some (.int (m : Int)), some (.bl fr), some (.str (T (R bs))), some (.ref p), some (.int (i : Int)), some (.int num), some (.str (T (R row))), x8, some (.int (t : Int))] H' (decide ((t : Int) < (rs.length : Int))) :=
            et_test (ev_ltI (ev_var rfl) (ev_is (ev_lenS (ev_var rfl) (.inl (sq_of hp11))) (by rw [RL_len])))
          have item : ∀ (h : t < rs.length) (H0 : Hp), Ex H' H0 → Ev (tOp (rIxL K) (tVar 4) (tVar 9)) [some (.ref a), some (.int (m : Int)), some (.bl fr), some (.str (T (R bs))), some (.ref p), some (.int (i : Int)), some (.int num), some (.str (T (R row))), x8, some (.int (t : Int))] H0 (.str (T (R rs[t]))) := fun h H0 e => ev_op (ev_var rfl) (ev_var rfl) (rv_ixL (sq_of (e _ _ hp11)) (atI_nat (RL_at h)))
          by_cases hgo : ∃ h : t < rs.length, R rs[t] < R row
          · obtain ⟨h1, h2⟩ := hgo
            refine ⟨true, et_and (a := true) (b := true) (et_is lenT (decide_eq_true (by omega))) fun _ => et_test (ev_is (ev_ltT (item h1 H' (Ex.refl H')) (ev_var rfl)) (by rw [decide_eq_true h2])), fun _ H12 e12 => ⟨_, fun _ _ h => h, s_asg (ev_is (ev_addI (ev_var rfl) ev_c) (by rw [show ((t : Int) + 1) = ((t + 1 : Nat) : Int) by simp])) fun H13 e13 => ⟨rs.length - (t + 1), by omega, (e11.trans e12).trans e13, t + 1, rfl, h1, rfl, ?_⟩⟩, fun hf => nomatch hf⟩
            intro x hx
            rw [List.take_add_one, List.getElem?_eq_getElem h1] at hx
            rcases List.mem_append.mp hx with hx | hx
            · exact hbef x hx
            · simp at hx
              rw [hx]
              exact h2
          · refine ⟨false, ?_, (fun hf => nomatch hf), fun _ H12 e12 => ?_⟩
            · by_cases h1 : t < rs.length
              · have h2 : ¬ R rs[t] < R row := fun z => hgo ⟨h1, z⟩
                exact et_and (a := true) (b := false) (et_is lenT (decide_eq_true (by omega))) fun _ => et_test (ev_is (ev_ltT (item h1 H' (Ex.refl H')) (ev_var rfl)) (by rw [decide_eq_false h2]))
              · exact et_and (a := false) (b := false) (et_is lenT (decide_eq_false (by omega))) fun z => nomatch z
            · have e012 := ((e09.trans e10).trans e11).trans e12
              have hp12 := e12 _ _ hp11
              have t2 : EvT (tOr (tTest (tOp rEq (tVar 9) (tCB (rLenK K) (tCons (tVar 4) tNil)))) (tTest (tOp rNe (tOp (rIxL K) (tVar 4) (tVar 9)) (tVar 7)))) [some (.ref a), some (.int (m : Int)), some (.bl fr), some (.str (T (R bs))), some (.ref p), some (.int (i : Int)), some (.int num), some (.str (T (R row))), x8, some (.int (t : Int))] H12 (decide ((t : Int) = (rs.length : Int)) || (if h : t < rs.length then !decide (R rs[t] = R row) else true)) :=
                et_or (et_test (ev_eqI (ev_var rfl) (ev_is (ev_lenS (ev_var rfl) (.inl (sq_of hp12))) (by rw [RL_len])))) fun hne => by
                  have h1 : t < rs.length := by
                    have := of_decide_eq_false hne
                    omega
                  rw [dif_pos h1]
                  exact et_test (ev_neT (item h1 H12 e12) (ev_var rfl))
              refine s_when t2 (fun hb H13 e13 => ?_) (fun hb H13 e13 => ⟨e012.trans e13, bs, rs, _, _, _, _, _, rfl, e13 _ _ hp12, hasc, hlen, by omega, hb2⟩)
              refine s_insert (i := t) (e13 _ _ hp12) (ev_var rfl) (ev_var rfl) (ev_var rfl) (by rw [RL_len]; omega) (by omega) fun H14 e14 => ⟨((e012.trans e13).trans e14).mut hpH, bs, rs.take t ++ [row] ++ rs.drop t, _, _, _, _, _, rfl, ?_, ?_, ?_, ?_, hb2⟩
              · rw [upd_same]
                unfold RL
                simp [List.map_take, List.map_drop]
              · refine asc_ins (by rw [List.take_append_drop]; exact hasc) hbef (fun x z => nomatch z) fun y ys hy => ?_
                have h1 : t < rs.length := by
                  have := congrArg List.length hy
                  rw [List.length_drop, List.length_cons] at this
                  omega
                rw [List.drop_eq_getElem_cons h1] at hy
                have hyt : rs[t] = y := (List.cons.inj hy).1
                have h2 : ¬ R rs[t] < R row := fun z => hgo ⟨h1, z⟩
                rw [decide_eq_false (show ¬ (t : Int) = (rs.length : Int) by omega), Bool.false_or, dif_pos h1] at hb
                have h3 : R rs[t] ≠ R row := by simpa using hb
                rw [← hyt]
                exact R_lt_or _ _ h2 h3
              · intro r hr
                rcases List.mem_append.mp hr with hr | hr
                · rcases List.mem_append.mp hr with hr | hr
                  · exact hlen r (List.mem_of_mem_take hr)
                  · rw [List.mem_singleton.mp hr]; exact hr3
                · exact hlen r (List.mem_of_mem_drop hr)
              · simp only [List.length_append, List.length_take, List.length_drop, List.length_singleton]
                omega
  · obtain ⟨eH, base, rs, x5, x6, x7, x8, x9, rfl, hpr, hasc, hlen, hrl, hbl⟩ := hP
    refine s_ret (ev_var rfl) fun H4 e4 => q rs hasc hlen ?_ p H4 hpH (eH.trans e4) (e4 _ _ hpr)
    rw [Int.toNat_natCast] at hrl
    omega
def N__law_digits : List Str := ["_law_number", "_law_found"]
def t__law_digits (K : PySem.W.Frag) : TS :=
  (tSeq (tAsg (tC (.str (Kr.T []))) (gName 1))
    (tSeq (tWhile (tTest (tOp rGtI (tVar 0) (tC (.int 0))))
    (tSeq (tAsg (tOp rAddT (tOp (rIxL K) (tLst (tCons (tC (.str (Kr.T [48]))) (tCons (tC (.str (Kr.T [49]))) tNil))) (tOp rModI (tVar 0) (tC (.int 2)))) (tVar 1)) (gName 1))
    (tAsg (tOp rDivI (tVar 0) (tC (.int 2))) (gName 0))))
    (tRet (tVar 1))))
def sp__law_digits (_ : PySem.W.Frag) : Sp := fun vs H Q _ => ∃ m : Nat, vs = [.int (m : Int)] ∧ m < 2 ^ 2000 ∧ RetV (.str (T (R (bin m)))) H Q
theorem len__law_digits {K : PySem.W.Frag} {vs H Q E} (h : sp__law_digits K vs H Q E) : vs.length = 1 := by
  obtain ⟨m, rfl, _⟩ := h
  rfl
theorem u__law_digits {K : PySem.W.Frag} {H : Hp} {m : Nat} (h : m < 2 ^ 2000) : SpV (sp__law_digits K) [.int (m : Int)] H (.str (T (R (bin m)))) := fun H1 e Q q E => ⟨m, rfl, h, q⟩
theorem rd__law_digits {K : PySem.W.Frag} (vs : List V) (H : Hp) (Q : VK) (E : XK) (h : sp__law_digits K vs H Q E) : t__law_digits K { nx := fun _ H' => Q .non H', rt := Q } (start N__law_digits vs) H := by
  obtain ⟨m, rfl, hm, q⟩ := h
  have hlen : (bin m).length ≤ 2000 := by rw [bin_len]; exact flen_le hm
  refine q_asg (v := .str (T (R []))) ev_c fun H1 e1 => ?_
  refine q_while (fun w σ' H' => Ex H H' ∧ ∃ (c : Nat) (acc : List Bool), w = c ∧ σ' = [some (.int (c : Int)), some (.str (T (R acc)))] ∧ bin m = bin c ++ acc) m ⟨e1, m, [], rfl, rfl, (List.append_nil _).symm⟩ ?_
  rintro w σ' H' ⟨eH, c, acc, rfl, rfl, hb⟩
  have test : EvT (tTest (tOp rGtI (tVar 0) (tC (.int 0)))) [some (.int (w : Int)), some (.str (T (R acc)))] H' (decide ((0 : Int) < (w : Int))) := et_test (ev_gtI (ev_var rfl) ev_c)
  refine ⟨_, test, fun hc H2 e2 => ?_, fun hc H2 e2 => ?_⟩
  · have hc2 : 0 < w := by simpa using hc
    have hacc : acc.length ≤ 2000 := by
      have := congrArg List.length hb
      rw [List.length_append] at this
      omega
    refine ⟨_, fun σ2 H2 h => h, ?_⟩
    have h01 : (w : Int) % 2 = 0 ∨ (w : Int) % 2 = 1 := by omega
    refine q_asg (v := .str (T (R ([decide ((w : Int) % 2 = 1)] ++ acc)))) (ev_addR (a := [decide ((w : Int) % 2 = 1)]) (ev_ixNL (el_lst (ea_cons ev_c (ea_cons ev_c ea_nil)) (by simp)) (fun H9 e9 => ev_modI (ev_var rfl) ev_c (by decide)) (by rcases h01 with h | h <;> rw [h] <;> rfl)) (ev_var rfl) (by simp; omega)) fun H3 e3 => ?_
    refine s_asg (v := .int ((w / 2 : Nat) : Int)) (ev_is (ev_divI (ev_var rfl) ev_c (wide_div (b := 20) (by decide) (by decide) (by decide) (by decide))) (by simp)) fun H4 e4 => ?_
    refine ⟨w / 2, by omega, ((eH.trans e2).trans e3).trans e4, w / 2, _, rfl, rfl, ?_⟩
    rw [hb, bin_step hc2, List.append_assoc]
  · have hc2 : w = 0 := by
      have : ¬ (0 : Int) < (w : Int) := by simpa using hc
      omega
    subst hc2
    refine s_ret (ev_var rfl) fun H3 e3 => ?_
    rw [bin_zero, List.nil_append] at hb
    rw [hb] at q
    exact q H3 ((eH.trans e2).trans e3)
def N__law_count : List Str := ["_law_n", "_law_more", "_law_size", "_law_head"]
def t__law_count (K : PySem.W.Frag) : TS :=
  (tSeq (tAsg (tCall (sp__law_digits K) [] E0 (tCons (tOp rAddI (tVar 0) (tC (.int 1))) tNil)) (gName 1))
    (tSeq (tAsg (tCall (sp__law_digits K) [] E0 (tCons (tCB (rLenK K) (tCons (tVar 1) tNil)) tNil)) (gName 2))
    (tSeq (tAsg (tOp rMulT (tC (.str (Kr.T [49]))) (tOp rSubI (tCB (rLenK K) (tCons (tVar 2) tNil)) (tC (.int 1)))) (gName 3))
    (tSeq (tIfS (tTest (tOp rLtI (tCB (rLenK K) (tCons (tVar 2) tNil)) (tC (.int 8)))) (tAsg (tOp rAddT (tVar 3) (tC (.str (Kr.T [48])))) (gName 3)) tNext)
    (tRet (tOp rAddT (tOp rAddT (tVar 3) (tSl rSlS (tVar 2) (tPart (tC (.int 1))) tNoPart)) (tSl rSlS (tVar 1) (tPart (tC (.int 1))) tNoPart)))))))
def sp__law_count (_ : PySem.W.Frag) : Sp := fun vs H Q _ => ∃ n : Nat, vs = [.int (n : Int)] ∧ countOk n ∧ RetV (.str (T (R (countRow n)))) H Q
theorem len__law_count {K : PySem.W.Frag} {vs H Q E} (h : sp__law_count K vs H Q E) : vs.length = 1 := by
  obtain ⟨n, rfl, _⟩ := h
  rfl
theorem u__law_count {K : PySem.W.Frag} {H : Hp} {n : Nat} (h : countOk n) : SpV (sp__law_count K) [.int (n : Int)] H (.str (T (R (countRow n)))) := fun H1 e Q q E => ⟨n, rfl, h, q⟩
theorem bin_pos {m : Nat} (h : 0 < m) : bin m = decide ((m : Int) / 2 ^ (blen m - 1) % 2 = 1) :: digs (m : Int) (blen m - 1) := by
  unfold bin flen
  rw [if_neg (by omega)]
  have := blen_pos m
  obtain ⟨k, hk⟩ : ∃ k, blen m = k + 1 := ⟨blen m - 1, by omega⟩
  rw [hk]
  rfl
theorem rd__law_count {K : PySem.W.Frag} (vs : List V) (H : Hp) (Q : VK) (E : XK) (h : sp__law_count K vs H Q E) : t__law_count K { nx := fun _ H' => Q .non H', rt := Q } (start N__law_count vs) H := by
  obtain ⟨n, rfl, hn, q⟩ := h
  obtain ⟨hs1, hs2⟩ := countRow_size hn
  have hlt : n + 1 < 2 ^ 255 := by have := hn.2; omega
  refine q_asg (ev_call (ea_cons (ev_is (ev_addI (ev_var rfl) ev_c) (by rw [show ((n : Int) + 1) = ((n + 1 : Nat) : Int) by simp])) ea_nil) (u__law_digits (Nat.lt_of_lt_of_le hlt (Nat.pow_le_pow_right (by decide) (by decide))))) fun H1 e1 => ?_
  have hb1 := bin_pos (Nat.succ_pos n)
  have hbl : (bin (n + 1)).length = blen (n + 1) := by rw [bin_len]; unfold flen; rw [if_neg (by omega)]
  refine q_asg (ev_call (ea_cons (ev_is (ev_lenR (ev_var rfl) (by omega)) (by rw [hbl])) ea_nil) (u__law_digits (m := blen (n + 1)) (Nat.lt_of_le_of_lt hs1 (Nat.lt_of_lt_of_le (show 255 < 2 ^ 8 by decide) (Nat.pow_le_pow_right (by decide) (by decide)))))) fun H2 e2 => ?_
  have hp := blen_pos (n + 1)
  have hb2 := bin_pos hp
  have hbl2 : (bin (blen (n + 1))).length = blen (blen (n + 1)) := by rw [bin_len]; unfold flen; rw [if_neg (by omega)]
  have hp2 := blen_pos (blen (n + 1))
  have hone : ((blen (blen (n + 1)) : Int) - 1).toNat = blen (blen (n + 1)) - 1 := by omega
  refine q_asg (v := .str (T (R (List.replicate (blen (blen (n + 1)) - 1) true)))) (ev_is (ev_ones (ev_subI (ev_lenR (ev_var rfl) (by omega)) ev_c) (by omega) (by omega)) (by rw [hbl2, hone])) fun H3 e3 => ?_
  have c1 : cutL (R (bin (blen (n + 1)))) (some 1) none = R (digs (blen (n + 1) : Nat) (blen (blen (n + 1)) - 1)) := by
    rw [show (1 : Int) = ((1 : Nat) : Int) from rfl, cutL_suf, R_drop, hb2]
    rfl
  have c2 : cutL (R (bin (n + 1))) (some 1) none = R (digs ((n + 1 : Nat) : Int) (blen (n + 1) - 1)) := by
    rw [show (1 : Int) = ((1 : Nat) : Int) from rfl, cutL_suf, R_drop, hb1]
    rfl
  have fin : ∀ (hd : List Bool) (H4 : Hp), Ex H H4 → hd.length ≤ 100 → (hd ++ digs (blen (n + 1) : Nat) (blen (blen (n + 1)) - 1) ++ digs ((n + 1 : Nat) : Int) (blen (n + 1) - 1) = countRow n) → tRet (tOp rAddT (tOp rAddT (tVar 3) (tSl rSlS (tVar 2) (tPart (tC (.int 1))) tNoPart)) (tSl rSlS (tVar 1) (tPart (tC (.int 1))) tNoPart)) { nx := fun _ H' => Q .non H', rt := Q } [some (.int (n : Int)), some (.str (T (R (bin (n + 1))))), some (.str (T (R (bin (blen (n + 1)))))), some (.str (T (R hd)))] H4 := fun hd H4 e4 hl he => by
    refine s_ret (v := .str (T (R (countRow n)))) ?_ fun H5 e5 => q H5 (e4.trans e5)
    rw [← he]
    refine ev_addR (ev_addR (ev_var rfl) (ev_is (ev_slT (ev_var rfl) (by rw [R_len]; omega) (eo_some ev_c) eo_none) (by rw [c1])) (by rw [digs_len]; omega)) (ev_is (ev_slT (ev_var rfl) (by rw [R_len]; omega) (eo_some ev_c) eo_none) (by rw [c2])) ?_
    rw [List.length_append, digs_len, digs_len]
    omega
  refine q_when (b := decide ((blen (blen (n + 1)) : Int) < 8)) (et_is (et_test (ev_ltI (ev_lenR (ev_var rfl) (by omega)) ev_c)) (by rw [hbl2])) (fun h8 H4 e4 => ?_) (fun h8 H4 e4 => ?_)
  · have h8 : blen (blen (n + 1)) < 8 := by have := of_decide_eq_true h8; omega
    refine s_asg (v := .str (T (R (List.replicate (blen (blen (n + 1)) - 1) true ++ [false])))) (ev_addR (b := [false]) (ev_var rfl) ev_c (by simp; omega)) fun H5 e5 => ?_
    refine fin _ H5 ((((e1.trans e2).trans e3).trans e4).trans e5) (by simp; omega) ?_
    unfold countRow
    rw [if_pos (by omega)]
  · have h8 : ¬ blen (blen (n + 1)) < 8 := by have := of_decide_eq_false h8; omega
    refine fin _ H4 (((e1.trans e2).trans e3).trans e4) (by simp; omega) ?_
    unfold countRow
    rw [if_neg (by omega), List.append_nil]
def N__law_common : List Str := ["_law_one", "_law_other", "_law_many"]
def t__law_common (K : PySem.W.Frag) : TS :=
  (tSeq (tAsg (tC (.int 0)) (gName 2))
    (tSeq (tWhile (tAnd (tTest (tOp rEq (tSl rSlS (tVar 0) (tPart (tVar 2)) (tPart (tOp rAddI (tVar 2) (tC (.int 1))))) (tSl rSlS (tVar 1) (tPart (tVar 2)) (tPart (tOp rAddI (tVar 2) (tC (.int 1))))))) (tTest (tOp rLtI (tVar 2) (tCB (rLenK K) (tCons (tVar 0) tNil)))))
    (tAsg (tOp rAddI (tVar 2) (tC (.int 1))) (gName 2)))
    (tRet (tVar 2))))
def sp__law_common (_ : PySem.W.Frag) : Sp := fun vs H Q _ => ∃ a b : List Bool, vs = [.str (T (R a)), .str (T (R b))] ∧ a.length ≤ 1000000 ∧ b.length ≤ 1000000 ∧ RetV (.int (com a b : Nat)) H Q
theorem len__law_common {K : PySem.W.Frag} {vs H Q E} (h : sp__law_common K vs H Q E) : vs.length = 2 := by
  obtain ⟨a, b, rfl, _⟩ := h
  rfl
theorem u__law_common {K : PySem.W.Frag} {H : Hp} {a b : List Bool} (h : a.length ≤ 1000000) (h2 : b.length ≤ 1000000) : SpV (sp__law_common K) [.str (T (R a)), .str (T (R b))] H (.int (com a b : Nat)) := fun H1 e Q q E => ⟨a, b, rfl, h, h2, q⟩
theorem rd__law_common {K : PySem.W.Frag} (vs : List V) (H : Hp) (Q : VK) (E : XK) (h : sp__law_common K vs H Q E) : t__law_common K { nx := fun _ H' => Q .non H', rt := Q } (start N__law_common vs) H := by
  obtain ⟨a, b, rfl, ha, hb, q⟩ := h
  refine q_asg ev_c fun H1 e1 => ?_
  refine q_while (fun m σ' H' => Ex H H' ∧ ∃ i : Nat, m = a.length - i ∧ i ≤ a.length ∧ σ' = [some (.str (T (R a))), some (.str (T (R b))), some (.int (i : Int))] ∧ com a b = i + com (a.drop i) (b.drop i)) a.length ⟨e1, 0, rfl, Nat.zero_le _, rfl, (Nat.zero_add _).symm⟩ ?_
  rintro m σ' H' ⟨eH, i, rfl, hi, rfl, hc⟩
  have cut : ∀ (k : Nat) (x : List Bool) (H0 : Hp), [some (.str (T (R a))), some (.str (T (R b))), some (.int (i : Int))][k]? = some (some (V.str (T (R x)))) → x.length ≤ 1000000 → Ev (tSl rSlS (tVar k) (tPart (tVar 2)) (tPart (tOp rAddI (tVar 2) (tC (.int 1))))) [some (.str (T (R a))), some (.str (T (R b))), some (.int (i : Int))] H0 (.str (T (R ((x.drop i).take 1)))) := fun k x H0 hk hx => by
    have e : cutL (R x) (some (i : Int)) (some ((i : Int) + 1)) = R ((x.drop i).take 1) := by
      rw [show ((i : Int) + 1) = ((i + 1 : Nat) : Int) by simp, R_mid, Nat.add_sub_cancel_left]
    rw [← e]
    exact ev_slT (ev_var hk) (by rw [R_len]; omega) (eo_some (ev_var rfl)) (eo_some (ev_addI (ev_var rfl) ev_c))
  have la : ∀ (σ : L2.St) (H : Hp), σ[0]? = some (some (.str (T (R a)))) → Ev (tCB (rLenK K) (tCons (tVar 0) tNil)) σ H (.int (a.length : Int)) := fun σ H h => by
    rw [← R_len a]; exact ev_lenT (ev_var h) (by rw [R_len]; omega)
  have test := et_and (a := decide (R ((a.drop i).take 1) = R ((b.drop i).take 1))) (b := decide (i < a.length)) (et_test (ev_eqT (cut 0 a H' rfl ha) (cut 1 b H' rfl hb))) fun _ => et_test (ev_is (ev_ltI (i := (i : Int)) (show Ev (tVar 2) _ _ _ from ev_var rfl) (la _ H' rfl)) (by simp))
  by_cases hh : i < a.length ∧ i < b.length ∧ a[i]? = b[i]?
  · obtain ⟨h1, h2, h3⟩ := hh
    have hab : a[i] = b[i] := by
      rw [List.getElem?_eq_getElem h1, List.getElem?_eq_getElem h2] at h3
      exact Option.some.inj h3
    have e3 := com_at h1 h2
    rw [if_pos hab] at e3
    refine ⟨true, et_is test ?_, fun _ H2 e2 => ⟨_, fun σ2 H2 h => h, s_asg (ev_addI (ev_var rfl) ev_c) fun H3 e4 => ⟨a.length - (i + 1), by omega, (eH.trans e2).trans e4, i + 1, rfl, h1, rfl, by omega⟩⟩, fun hf => nomatch hf⟩
    rw [(cut1_eq h1).mpr ⟨h2, hab⟩]
    simp [h1]
  · refine ⟨false, et_is test ?_, (fun hf => nomatch hf), fun _ H2 e2 => s_ret (ev_var rfl) fun H3 e4 => ?_⟩
    · by_cases h1 : i < a.length
      · rw [decide_eq_false (p := R ((a.drop i).take 1) = R ((b.drop i).take 1))]
        · rfl
        · intro z
          obtain ⟨h2, h3⟩ := (cut1_eq h1).mp (R_inj z)
          exact hh ⟨h1, h2, by rw [List.getElem?_eq_getElem h1, List.getElem?_eq_getElem h2, h3]⟩
      · rw [decide_eq_false h1, Bool.and_false]
    · have : com a b = i := by
        by_cases h12 : i < a.length ∧ i < b.length
        · have e3 := com_at h12.1 h12.2
          rw [if_neg (fun z => hh ⟨h12.1, h12.2, by rw [List.getElem?_eq_getElem h12.1, List.getElem?_eq_getElem h12.2, z]⟩)] at e3
          omega
        · have e3 := com_end h12
          omega
      rw [this] at q
      exact q H3 ((eH.trans e2).trans e4)
def N__law_page : List Str := ["_law_rows_here", "_law_told_here", "_law_last", "_law_row", "_law_many"]
def t__law_page (K : PySem.W.Frag) : TS :=
  (tSeq (tAsg (tCall (sp__law_count K) [] E0 (tCons (tCB (rLenK K) (tCons (tVar 0) tNil)) tNil)) (gName 1))
    (tSeq (tAsg (tC (.str (Kr.T []))) (gName 2))
    (tSeq (tFor (iList K (tVar 0)) (gName 3)
    (tSeq (tAsg (tCall (sp__law_common K) [] E0 (tCons (tVar 2) (tCons (tVar 3) tNil))) (gName 4))
    (tSeq (tAsg (tOp rAddT (tOp rAddT (tVar 1) (tCall (sp__law_count K) [] E0 (tCons (tVar 4) tNil))) (tCall (sp__law_count K) [] E0 (tCons (tOp rSubI (tCB (rLenK K) (tCons (tVar 3) tNil)) (tVar 4)) tNil))) (gName 1))
    (tSeq (tAsg (tOp rAddT (tVar 1) (tSl rSlS (tVar 3) (tPart (tVar 4)) tNoPart)) (gName 1))
    (tAsg (tVar 3) (gName 2))))))
    (tRet (tVar 1)))))
def sp__law_page (K : PySem.W.Frag) : Sp := fun vs H Q _ => ∃ (p : Addr) (rs : List (List Bool)), vs = [.ref p] ∧ SqL K H p (RL rs) ∧ rs.length ≤ 3600 ∧ (∀ r ∈ rs, r.length ≤ 4000) ∧ RetV (.str (T (R (pageRow rs)))) H Q
theorem len__law_page {K : PySem.W.Frag} {vs H Q E} (h : sp__law_page K vs H Q E) : vs.length = 1 := by
  obtain ⟨p, rs, rfl, _⟩ := h
  rfl
theorem u__law_page {K : PySem.W.Frag} {H : Hp} {p : Addr} {rs : List (List Bool)} (hs : SqL K H p (RL rs)) (h : rs.length ≤ 3600) (h2 : ∀ r ∈ rs, r.length ≤ 4000) : SpV (sp__law_page K) [.ref p] H (.str (T (R (pageRow rs)))) := fun H1 e Q q E => ⟨p, rs, rfl, ex_l e hs, h, h2, q⟩
theorem rd__law_page {K : PySem.W.Frag} (vs : List V) (H : Hp) (Q : VK) (E : XK) (h : sp__law_page K vs H Q E) : t__law_page K { nx := fun _ H' => Q .non H', rt := Q } (start N__law_page vs) H := by
  obtain ⟨p, rs, rfl, hs, hn, hl, q⟩ := h
  have l1 := small_len (n := rs.length) (by omega)
  refine q_asg (ev_call (ea_cons (ev_is (ev_lenS (ev_var rfl) (.inl hs)) (by rw [RL_len])) ea_nil) (u__law_count (small_count (by omega)))) fun H1 e1 => ?_
  refine q_asg (v := .str (T (R []))) ev_c fun H2 e2 => ?_
  have e02 := e1.trans e2
  refine q_forLn (a := p) (xs := RL rs) (ev_var rfl) (ex_l e02 hs)
    (fun i σ' H' => Ex H H' ∧ i ≤ rs.length ∧ ∃ (done last : List Bool) (y z : Option V), σ' = [some (.ref p), some (.str (T (R done))), some (.str (T (R last))), y, z] ∧ last.length ≤ 4000 ∧ done.length ≤ 40 + i * 4100 ∧ done ++ pageBody last (rs.drop i) = pageRow rs)
    (fun H3 e3 => ⟨e02.trans e3, Nat.zero_le _, countRow rs.length, [], none, none, rfl, by decide, by omega, rfl⟩) (fun k σ' H' _ hP => ex_l hP.1 hs) (fun i v σ' H' hv hP => ?_) (fun σ' H' hP => ?_)
  · obtain ⟨eH, hi, done, last, y, z, rfl, hll, hdl, hpage⟩ := hP
    have hi2 : i < rs.length := by
      have := (List.getElem?_eq_some_iff.mp hv).1
      rwa [RL_len] at this
    have hv2 : v = .str (T (R rs[i])) := by
      rw [RL_at hi2] at hv
      exact (Option.some.inj hv).symm
    subst hv2
    have hri := hl rs[i] (List.getElem_mem hi2)
    have hdrop : rs.drop i = rs[i] :: rs.drop (i + 1) := List.drop_eq_getElem_cons hi2
    rw [hdrop, pageBody] at hpage
    have c1 := com_le last rs[i]
    have c2 := com_le2 last rs[i]
    have hel := entryRow_len (last := last) (row := rs[i]) (by omega)
    have k1 := small_len (n := com last rs[i]) (by omega)
    have k2 := small_len (n := rs[i].length - com last rs[i]) (by omega)
    have hbig : i * 4100 ≤ 3600 * 4100 := Nat.mul_le_mul_right _ (by omega)
    refine q_asg (ev_call (ea_cons (ev_var rfl) (ea_cons (ev_var rfl) ea_nil)) (u__law_common (by omega) (by omega))) fun H3 e3 => ?_
    refine q_asg (v := .str (T (R (done ++ countRow (com last rs[i]) ++ countRow (rs[i].length - com last rs[i]))))) (ev_addR (ev_addR (ev_var rfl) (ev_call (ea_cons (ev_var rfl) ea_nil) (u__law_count (small_count (by omega)))) (by omega)) (ev_call (ea_cons (ev_is (ev_subI (ev_lenR (ev_var rfl) (by omega)) (ev_var rfl)) (by rw [Int.ofNat_sub c2])) ea_nil) (u__law_count (small_count (by omega)))) (by rw [List.length_append]; omega)) fun H4 e4 => ?_
    refine q_asg (v := .str (T (R (done ++ countRow (com last rs[i]) ++ countRow (rs[i].length - com last rs[i]) ++ rs[i].drop (com last rs[i]))))) (ev_addR (ev_var rfl) (ev_is (ev_slT (ev_var rfl) (by rw [R_len]; omega) (eo_some (ev_var rfl)) eo_none) (by rw [cutL_suf, R_drop])) (by simp only [List.length_append, List.length_drop]; omega)) fun H5 e5 => ?_
    refine s_asg (ev_var rfl) fun H6 e6 => ⟨(((eH.trans e3).trans e4).trans e5).trans e6, hi2, _, rs[i], _, _, rfl, hri, ?_, ?_⟩
    · simp only [List.length_append, List.length_drop, Nat.succ_mul]
      omega
    · rw [← hpage]
      unfold entryRow
      simp [List.append_assoc]
  · obtain ⟨eH, hi, done, last, y, z, rfl, hll, hdl, hpage⟩ := hP
    rw [RL_len, List.drop_eq_nil_of_le (Nat.le_refl _), pageBody, List.append_nil] at hpage
    subst hpage
    exact s_ret (ev_var rfl) fun H3 e3 => q H3 (eH.trans e3)
def N__law_counted : List Str := ["_law_way", "_law_far", "_law_page_here", "_law_at"]
def t__law_counted (K : PySem.W.Frag) : TS :=
  (tSeq (tIfS (tTest (tOp rEq (tVar 0) (tC (.int 0)))) (tRet (tOp rAddT (tCall (sp__law_count K) [] E0 (tCons (tVar 1) tNil)) (tVar 2))) tNext)
    (tSeq (tIfS (tTest (tOp rEq (tVar 0) (tC (.int 1)))) (tRet (tOp rAddT (tOp rAddT (tCall (sp__law_count K) [] E0 (tCons (tOp rAddI (tC (.int 1)) (tOp rModI (tVar 1) (tC (.int 2)))) tNil)) (tCall (sp__law_count K) [] E0 (tCons (tOp rDivI (tVar 1) (tC (.int 2))) tNil))) (tVar 2))) tNext)
    (tRet (tOp rAddT (tOp rAddT (tOp rAddT (tCall (sp__law_count K) [] E0 (tCons (tC (.int 1)) tNil)) (tCall (sp__law_count K) [] E0 (tCons (tC (.int 0)) tNil))) (tCall (sp__law_count K) [] E0 (tCons (tVar 1) tNil))) (tSl rSlS (tVar 2) tNoPart (tPart (tVar 3)))))))
def sp__law_counted (_ : PySem.W.Frag) : Sp := fun vs H Q _ => ∃ (w : Int) (n : Nat) (b : List Bool) (t : Nat), vs = [.int w, .int (n : Int), .str (T (R b)), .int (t : Int)] ∧ (n : Int) < 10 ^ 60 ∧ b.length ≤ 2900 ∧ ∀ r : List Bool, r.length ≤ 3900 → RetV (.str (T (R r))) H Q
theorem len__law_counted {K : PySem.W.Frag} {vs H Q E} (h : sp__law_counted K vs H Q E) : vs.length = 4 := by
  obtain ⟨w, n, b, t, rfl, _⟩ := h
  rfl
theorem small_ok {n : Nat} (h : (n : Int) < 10 ^ 60) : countOk (n : Int) := by
  have : (10 : Int) ^ 60 < 2 ^ 255 - 1 := by decide
  exact ⟨by omega, by omega⟩
theorem rd__law_counted {K : PySem.W.Frag} (vs : List V) (H : Hp) (Q : VK) (E : XK) (h : sp__law_counted K vs H Q E) : t__law_counted K { nx := fun _ H' => Q .non H', rt := Q } (start N__law_counted vs) H := by
  obtain ⟨w, n, b, t, rfl, hn, hb, q⟩ := h
  have c1 := countRow_len (small_ok hn)
  refine q_when (et_test (ev_eqI (ev_var rfl) ev_c)) (fun _ H1 e1 => ?_) (fun _ H1 e1 => ?_)
  · exact s_ret (ev_addR (ev_call (ea_cons (ev_var rfl) ea_nil) (u__law_count (small_ok hn))) (ev_var rfl) (by omega)) fun H2 e2 => q _ (by rw [List.length_append]; omega) H2 (e1.trans e2)
  refine q_when (et_test (ev_eqI (ev_var rfl) ev_c)) (fun _ H2 e2 => ?_) (fun _ H2 e2 => ?_)
  · have o1 : countOk ((1 + n % 2 : Nat) : Int) := ⟨by omega, by omega⟩
    have o2 : countOk ((n / 2 : Nat) : Int) := small_ok (by omega)
    have d1 := countRow_len o1
    have d2 := countRow_len o2
    exact s_ret (ev_addR (ev_addR (ev_call (ea_cons (ev_is (ev_addI ev_c (ev_modI (ev_var rfl) ev_c (by decide))) (by rw [show (1 : Int) + (n : Int) % 2 = ((1 + n % 2 : Nat) : Int) by omega])) ea_nil) (u__law_count o1)) (ev_call (ea_cons (ev_is (ev_divI (ev_var rfl) ev_c (wide_div (b := 20) (by decide) (by decide) (by decide) (by decide))) (by rw [show (n : Int) / 2 = ((n / 2 : Nat) : Int) by omega])) ea_nil) (u__law_count o2)) (by omega)) (ev_var rfl) (by rw [List.length_append]; omega)) fun H3 e3 => q _ (by simp only [List.length_append]; omega) H3 ((e1.trans e2).trans e3)
  · have o1 : countOk ((1 : Nat) : Int) := ⟨by decide, by decide⟩
    have o2 : countOk ((0 : Nat) : Int) := ⟨by decide, by decide⟩
    have d1 := countRow_len o1
    have d2 := countRow_len o2
    refine s_ret (ev_addR (ev_addR (ev_addR (ev_call (ea_cons (ev_c (v := .int ((1 : Nat) : Int))) ea_nil) (u__law_count o1)) (ev_call (ea_cons (ev_c (v := .int ((0 : Nat) : Int))) ea_nil) (u__law_count o2)) (by omega)) (ev_call (ea_cons (ev_var rfl) ea_nil) (u__law_count (small_ok hn))) (by rw [List.length_append]; omega)) (ev_is (ev_slT (l := R b) (ev_var rfl) (by rw [R_len]; omega) eo_none (eo_some (ev_var rfl))) (by rw [cutL_pre, R_take])) (by simp only [List.length_append, List.length_take]; omega)) fun H3 e3 => q _ (by simp only [List.length_append, List.length_take]; omega) H3 ((e1.trans e2).trans e3)
theorem ew_counted {K : PySem.W.Frag} {σ : L2.St} {H : Hp} {t1 t2 t3 t4 : TE} {w : Int} {n t : Nat} {b : List Bool} (h1 : Ev t1 σ H (.int w)) (h2 : Ev t2 σ H (.int (n : Int))) (h3 : Ev t3 σ H (.str (T (R b)))) (h4 : Ev t4 σ H (.int (t : Int))) (hn : (n : Int) < 10 ^ 60) (hb : b.length ≤ 2900) :
    EvW (tCall (sp__law_counted K) [] E0 (tCons t1 (tCons t2 (tCons t3 (tCons t4 tNil))))) σ H (fun v => ∃ row : List Bool, v = .str (T (R row)) ∧ row.length ≤ 3900) := fun H1 e Q q =>
  (ea_cons h1 (ea_cons h2 (ea_cons h3 (ea_cons h4 ea_nil))) : EvA _ σ H _) H1 e _ fun H2 e2 => ⟨w, n, b, t, rfl, hn, hb, fun row hr H3 e3 => q _ H3 ⟨row, rfl, by omega⟩ (e2.trans e3)⟩
def N__law_loose : List Str := ["_law_rows_here", "_law_number", "_law_told_here", "_law_last", "_law_k", "_law_many"]
def t__law_loose (K : PySem.W.Frag) : TS :=
  (tSeq (tAsg (tCall (sp__law_count K) [] E0 (tCons (tCB (rLenK K) (tCons (tVar 0) tNil)) tNil)) (gName 2))
    (tSeq (tAsg (tC (.str (Kr.T []))) (gName 3))
    (tSeq (tFor (iRng1 (tCons (tCB (rLenK K) (tCons (tVar 0) tNil)) tNil)) (gName 4)
    (tSeq (tAsg (tCall (sp__law_common K) [] E0 (tCons (tVar 3) (tCons (tOp (rIxL K) (tVar 0) (tVar 4)) tNil))) (gName 5))
    (tSeq (tIfS (tTest (tOp rEq (tVar 4) (tOp rModI (tVar 1) (tCB rMax2 (tCons (tCB (rLenK K) (tCons (tVar 0) tNil)) (tCons (tC (.int 1)) tNil)))))) (tAsg (tCB rMax2 (tCons (tOp rSubI (tVar 5) (tC (.int 1))) (tCons (tC (.int 0)) tNil))) (gName 5)) tNext)
    (tSeq (tAsg (tOp rAddT (tOp rAddT (tVar 2) (tCall (sp__law_count K) [] E0 (tCons (tVar 5) tNil))) (tCall (sp__law_count K) [] E0 (tCons (tOp rSubI (tCB (rLenK K) (tCons (tOp (rIxL K) (tVar 0) (tVar 4)) tNil)) (tVar 5)) tNil))) (gName 2))
    (tSeq (tAsg (tOp rAddT (tVar 2) (tSl rSlS (tOp (rIxL K) (tVar 0) (tVar 4)) (tPart (tVar 5)) tNoPart)) (gName 2))
    (tAsg (tOp (rIxL K) (tVar 0) (tVar 4)) (gName 3)))))))
    (tRet (tVar 2)))))
def sp__law_loose (K : PySem.W.Frag) : Sp := fun vs H Q _ => ∃ (p : Addr) (rs : List (List Bool)) (n : Nat), vs = [.ref p, .int (n : Int)] ∧ SqL K H p (RL rs) ∧ rs.length ≤ 20 ∧ (∀ r ∈ rs, r.length ≤ 60) ∧ ∀ r : List Bool, r.length ≤ 3900 → RetV (.str (T (R r))) H Q
theorem len__law_loose {K : PySem.W.Frag} {vs H Q E} (h : sp__law_loose K vs H Q E) : vs.length = 2 := by
  obtain ⟨p, rs, n, rfl, _⟩ := h
  rfl
theorem ew_loose {K : PySem.W.Frag} {σ : L2.St} {H : Hp} {t1 t2 : TE} {p : Addr} {rs : List (List Bool)} {n : Nat} (h1 : Ev t1 σ H (.ref p)) (h2 : Ev t2 σ H (.int (n : Int))) (hp : SqL K H p (RL rs)) (hn : rs.length ≤ 20) (hl : ∀ r ∈ rs, r.length ≤ 60) :
    EvW (tCall (sp__law_loose K) [] E0 (tCons t1 (tCons t2 tNil))) σ H (fun v => ∃ row : List Bool, v = .str (T (R row)) ∧ row.length ≤ 3900) := fun H1 e Q q =>
  (ea_cons h1 (ea_cons h2 ea_nil) : EvA _ σ H _) H1 e _ fun H2 e2 => ⟨p, rs, n, rfl, ex_l (e.trans e2) hp, hn, hl, fun row hr H3 e3 => q _ H3 ⟨row, rfl, by omega⟩ (e2.trans e3)⟩
theorem rd__law_loose {K : PySem.W.Frag} (vs : List V) (H : Hp) (Q : VK) (E : XK) (h : sp__law_loose K vs H Q E) : t__law_loose K { nx := fun _ H' => Q .non H', rt := Q } (start N__law_loose vs) H := by
  obtain ⟨p, rs, n, rfl, hp, hn, hl, q⟩ := h
  have ok100 : ∀ m : Nat, m ≤ 100 → countOk (m : Int) := fun m hm => ⟨by omega, by omega⟩
  have d0 := small_len (n := rs.length) (by omega)
  refine q_asg (ev_call (ea_cons (ev_is (ev_lenS (ev_var rfl) (.inl hp)) (by rw [RL_len])) ea_nil) (u__law_count (ok100 _ (by omega)))) fun H1 e1 => ?_
  refine q_asg (v := .str (T (R []))) ev_c fun H2 e2 => ?_
  have e02 := e1.trans e2
  refine q_forR1 (n := (rs.length : Int)) (ea_cons (ev_is (ev_lenS (ev_var rfl) (.inl (ex_l e02 hp))) (by rw [RL_len])) ea_nil) (by omega)
    (fun k σ' H' => Ex H H' ∧ ∃ (told last : List Bool) (x y : Option V), σ' = [some (.ref p), some (.int (n : Int)), some (.str (T (R told))), some (.str (T (R last))), x, y] ∧ told.length ≤ 40 + k * 160 ∧ last.length ≤ 60) (fun H3 e3 => ⟨e02.trans e3, _, [], none, none, rfl, by omega, by simp⟩) (fun k σ' H' hk hP => ?_) (fun σ' H' hP => ?_)
  · obtain ⟨e3, told, last, x, y, rfl, htold, hlast⟩ := hP
    have hk2 : k < rs.length := by omega
    have hrow := hl _ (List.getElem_mem hk2)
    have hkk : k * 160 ≤ 20 * 160 := Nat.mul_le_mul_right _ (by omega)
    have row : ∀ (σ : L2.St) (H0 : Hp), Ex H H0 → σ[0]? = some (some (.ref p)) → σ[4]? = some (some (.int (k : Int))) → Ev (tOp (rIxL K) (tVar 0) (tVar 4)) σ H0 (.str (T (R rs[k]))) := fun σ H0 e h0 h4 => ev_op (ev_var h0) (ev_var h4) (rv_ixL (ex_l e hp) (atI_nat (RL_at hk2)))
    generalize rs[k] = r at hrow row
    have hcm := com_le2 last r
    refine q_asg (ev_call (ea_cons (ev_var rfl) (ea_cons (row _ _ e3 rfl rfl) ea_nil)) (u__law_common (by omega) (by omega))) fun H3 e4 => ?_
    refine q_cond (fun σ' H' => Ex H H' ∧ ∃ c : Nat, c ≤ r.length ∧ σ' = [some (.ref p), some (.int (n : Int)), some (.str (T (R told))), some (.str (T (R last))), some (.int (k : Int)), some (.int (c : Int))]) (fun M hM => ?_) (fun σ' H4 hP => ?_)
    · have hpos : (0 : Int) < (if (1 : Int) > (rs.length : Int) then 1 else (rs.length : Int)) := by split <;> omega
      refine s_when (et_test (ev_eqI (ev_var rfl) (ev_modI (ev_var rfl) (ev_max2 (ev_is (ev_lenS (ev_var rfl) (.inl (ex_l (e3.trans e4) hp))) (by rw [RL_len])) ev_c) hpos))) (fun _ H4 e5 => ?_) (fun _ H4 e5 => hM _ _ ⟨(e3.trans e4).trans e5, com last r, hcm, rfl⟩)
      refine s_asg (ev_max2 (ev_subI (ev_var rfl) ev_c) ev_c) fun H5 e6 => hM _ _ ⟨((e3.trans e4).trans e5).trans e6, com last r - 1, by omega, ?_⟩
      have : (if (0 : Int) > ((com last r : Nat) : Int) - 1 then 0 else ((com last r : Nat) : Int) - 1) = ((com last r - 1 : Nat) : Int) := by split <;> omega
      rw [this]
      rfl
    · obtain ⟨e5, c, hc, rfl⟩ := hP
      have d1 := small_len (n := c) (by omega)
      have d2 := small_len (n := r.length - c) (by omega)
      refine q_asg (ev_addR (ev_addR (ev_var rfl) (ev_call (ea_cons (ev_var rfl) ea_nil) (u__law_count (ok100 c (by omega)))) (by omega)) (ev_call (ea_cons (ev_is (ev_subI (ev_lenR (row _ _ e5 rfl rfl) (by omega)) (ev_var rfl)) (by rw [show (r.length : Int) - (c : Int) = ((r.length - c : Nat) : Int) by omega])) ea_nil) (u__law_count (ok100 (r.length - c) (by omega)))) (by rw [List.length_append]; omega)) fun H5 e6 => ?_
      refine q_asg (ev_addR (b := r.drop c) (ev_var rfl) (ev_is (ev_slT (l := R r) (row _ _ (e5.trans e6) rfl rfl) (by rw [R_len]; omega) (eo_some (ev_var rfl)) eo_none) (by rw [cutL_suf, R_drop])) (by simp only [List.length_append, List.length_drop]; omega)) fun H6 e7 => ?_
      refine s_asg (row _ _ ((e5.trans e6).trans e7) rfl rfl) fun H7 e8 => ⟨((e5.trans e6).trans e7).trans e8, _, r, _, _, rfl, ?_, hrow⟩
      simp only [List.length_append, List.length_drop]
      rw [Nat.succ_mul]
      omega
  · obtain ⟨e3, told, last, x, y, rfl, htold, hlast⟩ := hP
    rw [Int.toNat_natCast] at htold
    have hkk : rs.length * 160 ≤ 20 * 160 := Nat.mul_le_mul_right _ hn
    exact s_ret (ev_var rfl) fun H4 e4 => q told (by omega) H4 (e3.trans e4)
def N__law_bent : List Str := ["_law_script", "_law_rows_here", "_law_number", "_law_far", "_law_page_here", "_law_at", "_law_sign", "_law_way", "_law_next_sign", "_law_cell"]
def t__law_bent (K : PySem.W.Frag) : TS :=
  (tSeq (tAsg (tCall (sp__law_mixed K) [] E0 (tCons (tCall (sp__law_cell_at K) [] E0 (tCons (tVar 0) (tCons (tC (.int 0)) tNil))) (tCons (tC (.int 700)) tNil))) (gName 2))
    (tSeq (tAsg (tOp rModI (tCall (sp__law_cell_at K) [] E0 (tCons (tVar 0) (tCons (tC (.int 1)) tNil))) (tOp rPowI (tC (.int 10)) (tC (.int 60)))) (gName 3))
    (tSeq (tAsg (tCall (sp__law_page K) [] E0 (tCons (tVar 1) tNil)) (gName 4))
    (tSeq (tAsg (tOp rModI (tOp rDivI (tVar 2) (tC (.int 13))) (tCB (rLenK K) (tCons (tVar 4) tNil))) (gName 5))
    (tSeq (tAsg (tOp rIxS (tC (.str (Kr.T [48, 49]))) (tOp rModI (tOp rDivI (tVar 2) (tC (.int 5000))) (tC (.int 2)))) (gName 6))
    (tSeq (tAsg (tOp rModI (tVar 2) (tC (.int 13))) (gName 7))
    (tSeq (tIfS (tTest (tOp rLtI (tVar 7) (tC (.int 3)))) (tRet (tCall (sp__law_counted K) [] E0 (tCons (tVar 7) (tCons (tVar 3) (tCons (tVar 4) (tCons (tVar 5) tNil)))))) tNext)
    (tSeq (tIfS (tTest (tOp rEq (tVar 7) (tC (.int 3)))) (tRet (tOp rAddT (tOp rAddT (tSl rSlS (tVar 4) tNoPart (tPart (tVar 5))) (tOp (rIxL K) (tLst (tCons (tC (.str (Kr.T [49]))) (tCons (tC (.str (Kr.T [48]))) tNil))) (tCB rIntB (tCons (tOp rEq (tOp rIxS (tVar 4) (tVar 5)) (tC (.str (Kr.T [49])))) tNil)))) (tSl rSlS (tVar 4) (tPart (tOp rAddI (tVar 5) (tC (.int 1)))) tNoPart))) tNext)
    (tSeq (tIfS (tTest (tOp rEq (tVar 7) (tC (.int 4)))) (tRet (tOp rAddT (tOp rAddT (tSl rSlS (tVar 4) tNoPart (tPart (tVar 5))) (tVar 6)) (tSl rSlS (tVar 4) (tPart (tVar 5)) tNoPart))) tNext)
    (tSeq (tIfS (tTest (tOp rEq (tVar 7) (tC (.int 5)))) (tRet (tOp rAddT (tSl rSlS (tVar 4) tNoPart (tPart (tVar 5))) (tSl rSlS (tVar 4) (tPart (tOp rAddI (tVar 5) (tC (.int 1)))) tNoPart))) tNext)
    (tSeq (tIfS (tTest (tOp rEq (tVar 7) (tC (.int 6)))) (tSeq (tAsg (tSl rSlS (tVar 4) (tPart (tOp rAddI (tVar 5) (tC (.int 1)))) (tPart (tOp rAddI (tVar 5) (tC (.int 2))))) (gName 8))
    (tRet (tOp rAddT (tOp rAddT (tOp rAddT (tSl rSlS (tVar 4) tNoPart (tPart (tVar 5))) (tVar 8)) (tOp rIxS (tVar 4) (tVar 5))) (tSl rSlS (tVar 4) (tPart (tOp rAddI (tVar 5) (tC (.int 2)))) tNoPart)))) tNext)
    (tSeq (tIfS (tTest (tOp rEq (tVar 7) (tC (.int 7)))) (tRet (tSl rSlS (tVar 4) tNoPart (tPart (tVar 5)))) tNext)
    (tSeq (tIfS (tTest (tOp rEq (tVar 7) (tC (.int 8)))) (tRet (tOp rAddT (tVar 4) (tOp rMulT (tVar 6) (tOp rAddI (tC (.int 1)) (tOp rModI (tVar 5) (tC (.int 9))))))) tNext)
    (tSeq (tIfS (tTest (tOp rEq (tVar 7) (tC (.int 9)))) (tRet (tCall (sp__law_page K) [] E0 (tCons (tSl3 (rSlL3 K) (tVar 1) tNoPart tNoPart (tPart (tUn (rU fun i => .int (-i)) (tC (.int 1))))) tNil))) tNext)
    (tSeq (tIfS (tTest (tOp rEq (tVar 7) (tC (.int 10)))) (tRet (tCall (sp__law_loose K) [] E0 (tCons (tVar 1) (tCons (tVar 5) tNil)))) tNext)
    (tSeq (tIfS (tTest (tOp rEq (tVar 7) (tC (.int 11)))) (tRet (tBM K "str" (rJoin K) (tC (.str (Kr.T []))) (tCons (tLc (iList K (tSl (rSlL K) (tVar 0) tNoPart (tPart (tC (.int 63))))) (gName 9) tYes (tOp rIxS (tC (.str (Kr.T [48, 49]))) (tOp rModI (tOp rDivI (tVar 9) (tC (.int 2))) (tC (.int 2)))) [9]) tNil))) tNext)
    (tRet (tVar 4))))))))))))))))))
def sp__law_bent (K : PySem.W.Frag) : Sp := fun vs H Q _ => ∃ (a p : Addr) (ns : List Int) (rs : List (List Bool)), vs = [.ref a, .ref p] ∧ SqL K H a (ns.map V.int) ∧ ns.length ≤ 63 ∧ SqL K H p (RL rs) ∧ rs.length ≤ 20 ∧ (∀ r ∈ rs, r.length ≤ 60) ∧ ∀ r : List Bool, r.length ≤ 3900 → RetV (.str (T (R r))) H Q
theorem len__law_bent {K : PySem.W.Frag} {vs H Q E} (h : sp__law_bent K vs H Q E) : vs.length = 2 := by
  obtain ⟨a, p, ns, rs, rfl, _⟩ := h
  rfl
theorem rd__law_bent {K : PySem.W.Frag} (vs : List V) (H : Hp) (Q : VK) (E : XK) (h : sp__law_bent K vs H Q E) : t__law_bent K { nx := fun _ H' => Q .non H', rt := Q } (start N__law_bent vs) H := by
  obtain ⟨a, p, ns, rs, rfl, hs, hns, hp, hn, hl, q⟩ := h
  have cell : ∀ (σ : L2.St) (H0 : Hp) (te : TE) (j : Int), Ex H H0 → σ[0]? = some (some (.ref a)) → Ev te σ H0 (.int j) → 0 ≤ j → Ev (tCall (sp__law_cell_at K) [] E0 (tCons (tVar 0) (tCons te tNil))) σ H0 (.int (cellAt ns j)) := fun σ H0 te j e h0 hj h => ev_call (ea_cons (ev_var h0) (ea_cons hj ea_nil)) (u__law_cell_at (ex_l e hs) h)
  refine q_asg (ev_call (ea_cons (cell _ _ _ 0 (Ex.refl H) rfl ev_c (by decide)) (ea_cons ev_c ea_nil)) (u__law_mixed (by decide))) fun H1 e1 => ?_
  generalize mixed (cellAt ns 0) 700 = num
  have ten : ((10 : Int) ^ (60 : Int).toNat) = 10 ^ 60 := by decide
  have f0 := Int.emod_nonneg (cellAt ns 1) (show (10 : Int) ^ 60 ≠ 0 by decide)
  have f1 := Int.emod_lt_of_pos (cellAt ns 1) (show (0 : Int) < 10 ^ 60 by decide)
  obtain ⟨far, hfar⟩ := Int.eq_ofNat_of_zero_le f0
  rw [hfar] at f1
  refine q_asg (v := .int (far : Int)) (ev_is (ev_modI (cell _ _ _ 1 e1 rfl ev_c (by decide)) (ev_powI ev_c ev_c (by unfold CPow; decide)) (by decide)) (by rw [ten, hfar])) fun H2 e2 => ?_
  have e02 := e1.trans e2
  refine q_asg (ev_call (ea_cons (ev_var rfl) ea_nil) (u__law_page (ex_l e02 hp) (by omega) fun x hx => by have := hl x hx; omega)) fun H3 e3 => ?_
  have hpl := page_fine hn hl
  have hpp := pageRow_pos rs
  generalize pageRow rs = b at hpl hpp ⊢
  have m0 := Int.emod_nonneg (num / 13) (show (b.length : Int) ≠ 0 by omega)
  have m1 := Int.emod_lt_of_pos (num / 13) (show (0 : Int) < (b.length : Int) by omega)
  obtain ⟨t, ht⟩ := Int.eq_ofNat_of_zero_le m0
  refine q_asg (v := .int (t : Int)) (ev_is (ev_modI (ev_divI (ev_var rfl) ev_c (wide_div (b := 20) (by decide) (by decide) (by decide) (by decide))) (ev_lenR (ev_var rfl) (by omega)) (by omega)) (by rw [ht])) fun H4 e4 => ?_
  have ht2 : t < b.length := by omega
  clear ht m0 m1
  have h01 : num / 5000 % 2 = 0 ∨ num / 5000 % 2 = 1 := by omega
  refine q_asg (v := .str (T (R [decide (num / 5000 % 2 = 1)]))) (ev_ixT (l := [48, 49]) (c := bc (decide (num / 5000 % 2 = 1))) ev_c (ev_modI (ev_divI (ev_var rfl) ev_c (wide_div (b := 20) (by decide) (by decide) (by decide) (by decide))) ev_c (by decide)) (by simp) (by rcases h01 with h | h <;> rw [h] <;> rfl)) fun H5 e5 => ?_
  generalize decide (num / 5000 % 2 = 1) = c
  refine q_asg (ev_modI (ev_var rfl) ev_c (by decide)) fun H6 e6 => ?_
  generalize num % 13 = w
  have e06 := (((e02.trans e3).trans e4).trans e5).trans e6
  show tSeq _ _ _ [some (.ref a), some (.ref p), some (.int num), some (.int (far : Int)), some (.str (T (R b))), some (.int (t : Int)), some (.str (T (R [c]))), some (.int w), none, none] H6
  -- the parts of the page
  have pre : ∀ (x : Option V) (H0 : Hp), Ev (tSl rSlS (tVar 4) tNoPart (tPart (tVar 5))) [some (.ref a), some (.ref p), some (.int num), some (.int (far : Int)), some (.str (T (R b))), some (.int (t : Int)), some (.str (T (R [c]))), some (.int w), x, none] H0 (.str (T (R (b.take t)))) := fun x H0 => ev_is (ev_slT (l := R b) (ev_var rfl) (by rw [R_len]; omega) eo_none (eo_some (ev_var rfl))) (by rw [cutL_pre, R_take])
  have suf0 : ∀ (H0 : Hp), Ev (tSl rSlS (tVar 4) (tPart (tVar 5)) tNoPart) [some (.ref a), some (.ref p), some (.int num), some (.int (far : Int)), some (.str (T (R b))), some (.int (t : Int)), some (.str (T (R [c]))), some (.int w), none, none] H0 (.str (T (R (b.drop t)))) := fun H0 => ev_is (ev_slT (l := R b) (ev_var rfl) (by rw [R_len]; omega) (eo_some (ev_var rfl)) eo_none) (by rw [cutL_suf, R_drop])
  have suf : ∀ (k : Nat) (x : Option V) (H0 : Hp), Ev (tSl rSlS (tVar 4) (tPart (tOp rAddI (tVar 5) (tC (.int (k : Int))))) tNoPart) [some (.ref a), some (.ref p), some (.int num), some (.int (far : Int)), some (.str (T (R b))), some (.int (t : Int)), some (.str (T (R [c]))), some (.int w), x, none] H0 (.str (T (R (b.drop (t + k))))) := fun k x H0 => ev_is (ev_slT (l := R b) (ev_var rfl) (by rw [R_len]; omega) (eo_some (ev_is (ev_addI (ev_var rfl) ev_c) (by rw [← Int.natCast_add]))) eo_none) (by rw [cutL_suf, R_drop])
  have sign : ∀ (x : Option V) (H0 : Hp), Ev (tOp rIxS (tVar 4) (tVar 5)) [some (.ref a), some (.ref p), some (.int num), some (.int (far : Int)), some (.str (T (R b))), some (.int (t : Int)), some (.str (T (R [c]))), some (.int w), x, none] H0 (.str (T (R [b[t]]))) := fun x H0 => ev_ixT (l := R b) (ev_var rfl) (ev_var rfl) (by rw [R_len]; omega) (R_at ht2)
  have l1 : (b.take t).length ≤ 2900 := by rw [List.length_take]; omega
  have l2 : ∀ k, (b.drop k).length ≤ 2900 := fun k => by rw [List.length_drop]; omega
  refine q_when (et_test (ev_ltI (ev_var rfl) ev_c)) (fun _ H7 e7 => s_retW (ew_counted (ev_var rfl) (ev_var rfl) (ev_var rfl) (ev_var rfl) f1 (by omega)) fun v H8 hv e8 => ?_) (fun _ H7 e7 => ?_)
  · obtain ⟨r, rfl, hr⟩ := hv
    exact q r hr H8 ((e06.trans e7).trans e8)
  have e07 := e06.trans e7
  refine q_when (et_test (ev_eqI (ev_var rfl) ev_c)) (fun _ H8 e8 => ?_) (fun _ H8 e8 => ?_)
  · have pick : Ev (tOp (rIxL K) (tLst (tCons (tC (.str (T [49]))) (tCons (tC (.str (T [48]))) tNil))) (tCB rIntB (tCons (tOp rEq (tOp rIxS (tVar 4) (tVar 5)) (tC (.str (T [49])))) tNil))) [some (.ref a), some (.ref p), some (.int num), some (.int (far : Int)), some (.str (T (R b))), some (.int (t : Int)), some (.str (T (R [c]))), some (.int w), none, none] H8 (.str (T (R [!b[t]]))) :=
      ev_ixNL (el_lst (ea_cons ev_c (ea_cons ev_c ea_nil)) (by simp)) (fun H9 e9 => ev_intB (ev_is (ev_eqT (sign none H9) ev_c) (by rw [show decide (R [b[t]] = [49]) = b[t] from bc_one _]))) (by cases b[t] <;> rfl)
    refine s_ret (ev_addR (ev_addR (pre none _) pick (by simp; omega)) (suf 1 none _) (by have := l2 (t + 1); simp only [List.length_append, List.length_cons, List.length_nil]; omega)) fun H9 e9 => q _ (by have := l2 (t + 1); simp only [List.length_append, List.length_cons, List.length_nil, List.length_take, List.length_drop] at *; omega) H9 ((e07.trans e8).trans e9)
  have e08 := e07.trans e8
  refine q_when (et_test (ev_eqI (ev_var rfl) ev_c)) (fun _ H9 e9 => ?_) (fun _ H9 e9 => ?_)
  · exact s_ret (ev_addR (ev_addR (pre none _) (ev_var rfl) (by simp; omega)) (suf0 _) (by have := l2 t; simp only [List.length_append, List.length_cons, List.length_nil]; omega)) fun H10 e10 => q _ (by simp only [List.length_append, List.length_cons, List.length_nil, List.length_take, List.length_drop] at *; omega) H10 ((e08.trans e9).trans e10)
  have e09 := e08.trans e9
  refine q_when (et_test (ev_eqI (ev_var rfl) ev_c)) (fun _ H10 e10 => ?_) (fun _ H10 e10 => ?_)
  · exact s_ret (ev_addR (pre none _) (suf 1 none _) (by have := l2 (t + 1); omega)) fun H11 e11 => q _ (by simp only [List.length_append, List.length_cons, List.length_nil, List.length_take, List.length_drop] at *; omega) H11 ((e09.trans e10).trans e11)
  have e010 := e09.trans e10
  refine q_when (et_test (ev_eqI (ev_var rfl) ev_c)) (fun _ H11 e11 => ?_) (fun _ H11 e11 => ?_)
  · refine q_asg (v := .str (T (R ((b.drop (t + 1)).take 1)))) (ev_is (ev_slT (l := R b) (ev_var rfl) (by rw [R_len]; omega) (eo_some (ev_is (ev_addI (ev_var rfl) ev_c) (by rw [show (t : Int) + 1 = ((t + 1 : Nat) : Int) by omega]))) (eo_some (ev_is (ev_addI (ev_var rfl) ev_c) (by rw [show (t : Int) + 2 = ((t + 1 + 1 : Nat) : Int) by omega])))) (by rw [R_mid, Nat.add_sub_cancel_left])) fun H12 e12 => ?_
    have l3 : ((b.drop (t + 1)).take 1).length ≤ 1 := by rw [List.length_take]; omega
    exact s_ret (ev_addR (ev_addR (ev_addR (pre _ _) (ev_var rfl) (by omega)) (sign _ _) (by simp only [List.length_append, List.length_cons, List.length_nil]; omega)) (suf 2 _ _) (by have := l2 (t + 2); simp only [List.length_append, List.length_cons, List.length_nil]; omega)) fun H13 e13 => q _ (by simp only [List.length_append, List.length_cons, List.length_nil, List.length_take, List.length_drop] at *; omega) H13 (((e010.trans e11).trans e12).trans e13)
  have e011 := e010.trans e11
  refine q_when (et_test (ev_eqI (ev_var rfl) ev_c)) (fun _ H12 e12 => s_ret (pre none _) fun H13 e13 => q _ (by omega) H13 ((e011.trans e12).trans e13)) (fun _ H12 e12 => ?_)
  have e012 := e011.trans e12
  refine q_when (et_test (ev_eqI (ev_var rfl) ev_c)) (fun _ H13 e13 => ?_) (fun _ H13 e13 => ?_)
  · have n0 := Int.emod_nonneg (t : Int) (show (9 : Int) ≠ 0 by decide)
    have n1 := Int.emod_lt_of_pos (t : Int) (show (0 : Int) < 9 by decide)
    exact s_ret (ev_addR (b := List.replicate (1 + (t : Int) % 9).toNat c) (ev_var rfl) (ev_is (ev_mulT (a := [bc c]) (ev_var rfl) (ev_addI ev_c (ev_modI (ev_var rfl) ev_c (by decide))) (by omega) (by omega) (by simp; omega)) (by rw [rep_bc])) (by simp; omega)) fun H14 e14 => q _ (by simp; omega) H14 ((e012.trans e13).trans e14)
  have e013 := e012.trans e13
  refine q_when (et_test (ev_eqI (ev_var rfl) ev_c)) (fun _ H14 e14 => ?_) (fun _ H14 e14 => ?_)
  · obtain ⟨ms, hms, hin, hle, _⟩ := el_slRL (K := K) (te := tVar 1) (σ := [some (.ref a), some (.ref p), some (.int num), some (.int (far : Int)), some (.str (T (R b))), some (.int (t : Int)), some (.str (T (R [c]))), some (.int w), none, none]) (H := H14) (rs := rs) (ev_var rfl) eo_none eo_none (eo_some (ev_neg (ev_c (v := .int 1)))) (by decide) (ex_l (e013.trans e14) hp)
    have hpl2 := page_fine (rs := ms) (by omega) fun x hx => hl x (hin x hx)
    exact s_ret (ev_callL hms fun l H15 e15 hl15 => u__law_page (sq_of hl15) (by omega) fun x hx => by have := hl x (hin x hx); omega) fun H15 e15 => q _ (by omega) H15 ((e013.trans e14).trans e15)
  have e014 := e013.trans e14
  refine q_when (et_test (ev_eqI (ev_var rfl) ev_c)) (fun _ H15 e15 => s_retW (ew_loose (ev_var rfl) (ev_var rfl) (ex_l (e014.trans e15) hp) hn hl) fun v H16 hv e16 => ?_) (fun _ H15 e15 => ?_)
  · obtain ⟨r, rfl, hr⟩ := hv
    exact q r hr H16 ((e014.trans e15).trans e16)
  have e015 := e014.trans e15
  refine q_when (et_test (ev_eqI (ev_var rfl) ev_c)) (fun _ H16 e16 => ?_) (fun _ H16 e16 => s_ret (ev_var rfl) fun H17 e17 => q b (by omega) H17 ((e015.trans e16).trans e17))
  have hsl := el_sl (K := K) (te := tVar 0) (σ := [some (.ref a), some (.ref p), some (.int num), some (.int (far : Int)), some (.str (T (R b))), some (.int (t : Int)), some (.str (T (R [c]))), some (.int w), none, none]) (ev_var rfl) eo_none (eo_some (ev_c (v := .int ((63 : Nat) : Int)))) (ex_l (e015.trans e16) hs)
  rw [cut_map, List.take_of_length_le hns] at hsl
  have hcomp := el_mapNL (K := K) (te := tOp rIxS (tC (.str (T [48, 49]))) (tOp rModI (tOp rDivI (tVar 9) (tC (.int 2))) (tC (.int 2)))) (j := 9) (vs := [9]) (fun v => match v with | .int n => .str (T [bc (decide (n / 2 % 2 = 1))]) | _ => .non) hsl (by simp; omega) (fun x => rfl) (fun x hx H1 e1 => by
    obtain ⟨n, _, rfl⟩ := List.mem_map.mp hx
    have h2 : n / 2 % 2 = 0 ∨ n / 2 % 2 = 1 := by omega
    exact ev_ixT (l := [48, 49]) (c := bc (decide (n / 2 % 2 = 1))) ev_c (ev_modI (ev_divI (ev_var rfl) ev_c (wide_div (b := 20) (by decide) (by decide) (by decide) (by decide))) ev_c (by decide)) (by simp) (by rcases h2 with h | h <;> rw [h] <;> rfl))
  rw [List.map_map] at hcomp
  have hcomp2 : EvL (tLc (iList K (tSl (rSlL K) (tVar 0) tNoPart (tPart (tC (.int ((63 : Nat) : Int)))))) (gName 9) tYes (tOp rIxS (tC (.str (T [48, 49]))) (tOp rModI (tOp rDivI (tVar 9) (tC (.int 2))) (tC (.int 2)))) [9]) [some (.ref a), some (.ref p), some (.int num), some (.int (far : Int)), some (.str (T (R b))), some (.int (t : Int)), some (.str (T (R [c]))), some (.int w), none, none] H16 (((ns.map fun n => decide (n / 2 % 2 = 1)).map fun x => [bc x]).map fun p => V.str (T p)) := by
    rw [List.map_map, List.map_map]
    exact hcomp
  exact s_ret (v := .str (T (R (ns.map fun n => decide (n / 2 % 2 = 1))))) (by
    rw [← R_flat (ns.map fun n => decide (n / 2 % 2 = 1))]
    exact ev_join hcomp2 (by rw [R_flat, R_len]; simp; omega) (by simp; omega)) fun H17 e17 => q _ (by simp; omega) H17 ((e015.trans e16).trans e17)
def N__law_count_at : List Str := ["_law_page_here", "_law_at", "_law_ones", "_law_size", "_law_k", "_law_number"]
def t__law_count_at (K : PySem.W.Frag) : TS :=
  (tSeq (tAsg (tC (.int 0)) (gName 2))
    (tSeq (tWhile (tAnd (tTest (tOp rLtI (tVar 2) (tC (.int 7)))) (tTest (tOp rEq (tSl rSlS (tVar 0) (tPart (tVar 1)) (tPart (tOp rAddI (tVar 1) (tC (.int 1))))) (tC (.str (Kr.T [49]))))))
    (tSeq (tAsg (tOp rAddI (tVar 2) (tC (.int 1))) (gName 2))
    (tAsg (tOp rAddI (tVar 1) (tC (.int 1))) (gName 1))))
    (tSeq (tIfS (tTest (tOp rLtI (tVar 2) (tC (.int 7)))) (tAsg (tOp rAddI (tVar 1) (tC (.int 1))) (gName 1)) tNext)
    (tSeq (tAsg (tC (.int 1)) (gName 3))
    (tSeq (tFor (iRng1 (tCons (tVar 2) tNil)) (gName 4)
    (tSeq (tAsg (tOp rAddI (tOp rMulI (tVar 3) (tC (.int 2))) (tCB rIntB (tCons (tOp rEq (tSl rSlS (tVar 0) (tPart (tVar 1)) (tPart (tOp rAddI (tVar 1) (tC (.int 1))))) (tC (.str (Kr.T [49])))) tNil))) (gName 3))
    (tAsg (tOp rAddI (tVar 1) (tC (.int 1))) (gName 1))))
    (tSeq (tAsg (tC (.int 1)) (gName 5))
    (tSeq (tFor (iRng1 (tCons (tOp rSubI (tVar 3) (tC (.int 1))) tNil)) (gName 4)
    (tSeq (tAsg (tOp rAddI (tOp rMulI (tVar 5) (tC (.int 2))) (tCB rIntB (tCons (tOp rEq (tSl rSlS (tVar 0) (tPart (tVar 1)) (tPart (tOp rAddI (tVar 1) (tC (.int 1))))) (tC (.str (Kr.T [49])))) tNil))) (gName 5))
    (tAsg (tOp rAddI (tVar 1) (tC (.int 1))) (gName 1))))
    (tRet (tLst (tCons (tOp rSubI (tVar 5) (tC (.int 1))) (tCons (tVar 1) tNil)))))))))))
/-- the count at t, noughts beyond the end, and the place behind it -/
def cntV (b : List Bool) (t : Nat) : Int := match tcount b true false false t with
  | .ok v _ => v
  | .bad _ _ => 0
def cntT (b : List Bool) (t : Nat) : Nat := match tcount b true false false t with
  | .ok _ t' => t'
  | .bad _ _ => 0
theorem cnt_spec (b : List Bool) (t : Nat) : 0 ≤ cntV b t ∧ cntV b t < 2 ^ 255 ∧ t ≤ cntT b t ∧ cntT b t ≤ t + 270 ∧ (t ≤ b.length → tcount b false false false t = if cntT b t ≤ b.length then .ok (cntV b t) (cntT b t) else .bad "Short" b.length) := by
  obtain ⟨o, t1, s, x, _, _, _, h4, h5, h6, h7, h8, h9, h10, h12, h11⟩ := tcount_fill b t
  have e1 : cntV b t = x - 1 := by unfold cntV; rw [h4]
  have e2 : cntT b t = t1 + o + (s - 1).toNat := by unfold cntT; rw [h4]
  rw [e1, e2]
  exact ⟨by omega, by omega, by omega, by omega, h11⟩
def sp__law_count_at (_ : PySem.W.Frag) : Sp := fun vs H Q _ => ∃ (b : List Bool) (t : Nat), vs = [.str (T (R b)), .int (t : Int)] ∧ b.length ≤ 1000000 ∧ RetL [.int (cntV b t), .int (cntT b t : Int)] H Q
theorem len__law_count_at {K : PySem.W.Frag} {vs H Q E} (h : sp__law_count_at K vs H Q E) : vs.length = 2 := by
  obtain ⟨b, t, rfl, _⟩ := h
  rfl
theorem u__law_count_at {K : PySem.W.Frag} {H : Hp} {b : List Bool} {t : Nat} (hb : b.length ≤ 1000000) : SpL (sp__law_count_at K) [.str (T (R b)), .int (t : Int)] H [.int (cntV b t), .int (cntT b t : Int)] := fun H1 e Q q E => ⟨b, t, rfl, hb, q⟩
theorem rd__law_count_at {K : PySem.W.Frag} (vs : List V) (H : Hp) (Q : VK) (E : XK) (h : sp__law_count_at K vs H Q E) : t__law_count_at K { nx := fun _ H' => Q .non H', rt := Q } (start N__law_count_at vs) H := by
  obtain ⟨b, t, rfl, hb, q⟩ := h
  obtain ⟨o, t1, s, x, ho, hs, hx, htc, h5, h6, h7, h8, h9, h10, _, _⟩ := tcount_fill b t
  have ev : cntV b t = x - 1 := by unfold cntV; rw [htc]
  have et : cntT b t = t1 + o + (s - 1).toNat := by unfold cntT; rw [htc]
  rw [ev, et] at q
  refine q_asg (v := .int ((0 : Nat) : Int)) ev_c fun H1 e1 => ?_
  refine q_while (fun m σ' H' => Ex H1 H' ∧ ∃ (k oo tt : Nat), m = k ∧ k + oo = 7 ∧ σ' = [some (.str (T (R b))), some (.int (tt : Int)), some (.int (oo : Int)), none, none, none] ∧ tones b true false k false oo tt = .ok o t1) 7 ⟨Ex.refl H1, 7, 0, t, rfl, rfl, rfl, ho⟩ ?_
  rintro m σ' H' ⟨e2, k, oo, tt, hmk, hk, rfl, hto⟩
  subst hmk
  refine ⟨_, et_and (et_test (ev_ltI (ev_var rfl) ev_c)) fun _ => et_test (ev_sg rfl rfl hb), fun hb2 H2 e3 => ?_, fun hb2 H2 e3 => ?_⟩
  · rw [Bool.and_eq_true, decide_eq_true_eq] at hb2
    obtain ⟨hlt, hsg⟩ := hb2
    obtain ⟨m', rfl⟩ : ∃ m', m = m' + 1 := ⟨m - 1, by omega⟩
    rw [tones, takeB_fill, hsg] at hto
    refine ⟨_, fun _ _ h => h, q_asg (v := .int ((oo + 1 : Nat) : Int)) (ev_is (ev_addI (ev_var rfl) ev_c) (by congr 1)) fun H3 e4 => s_asg (v := .int ((tt + 1 : Nat) : Int)) (ev_is (ev_addI (ev_var rfl) ev_c) (by congr 1)) fun H4 e5 => ⟨m', Nat.lt_succ_self _, ((e2.trans e3).trans e4).trans e5, m', oo + 1, tt + 1, rfl, by omega, rfl, hto⟩⟩
  · have hfin : oo = o ∧ (if oo < 7 then tt + 1 else tt) = t1 := by
      cases m with
      | zero =>
        cases (show Res.ok oo tt = .ok o t1 from hto)
        exact ⟨rfl, if_neg (by omega)⟩
      | succ m' =>
        have hsg : sg b tt = false := by
          cases h : sg b tt with
          | false => rfl
          | true =>
            rw [h] at hb2
            have : decide ((oo : Int) < 7) = true := decide_eq_true (by omega)
            rw [this] at hb2
            cases hb2
        rw [tones, takeB_fill, hsg] at hto
        cases (show Res.ok oo (tt + 1) = .ok o t1 from hto)
        exact ⟨rfl, if_pos (by omega)⟩
    obtain ⟨rfl, ht1⟩ := hfin
    refine q_cond (fun σ' H' => Ex H2 H' ∧ σ' = [some (.str (T (R b))), some (.int (t1 : Int)), some (.int (oo : Int)), none, none, none]) (fun M hM => ?_) (fun σ' H3 hP => ?_)
    · refine s_when (et_test (ev_ltI (ev_var rfl) ev_c)) (fun h7 H3 e4 => ?_) (fun h7 H3 e4 => hM _ _ ⟨e4, ?_⟩)
      · have : oo < 7 := by have := of_decide_eq_true h7; omega
        rw [if_pos this] at ht1
        exact s_asg (v := .int ((tt + 1 : Nat) : Int)) (ev_is (ev_addI (ev_var rfl) ev_c) (by congr 1)) fun H4 e5 => hM _ _ ⟨e4.trans e5, by rw [ht1]; rfl⟩
      · have : ¬ oo < 7 := by have := of_decide_eq_false h7; omega
        rw [if_neg this] at ht1
        rw [ht1]
    obtain ⟨e4, rfl⟩ := hP
    have e04 := ((e1.trans e2).trans e3).trans e4
    refine q_asg ev_c fun H4 e5 => ?_
    -- the digits of the size
    refine q_forR1 (n := (oo : Int)) (ea_cons (ev_var rfl) ea_nil) (by omega) (fun j σ' H' => Ex H4 H' ∧ ∃ (y : Int) (u : Option V), σ' = [some (.str (T (R b))), some (.int ((t1 + j : Nat) : Int)), some (.int (oo : Int)), some (.int y), u, none] ∧ y.natAbs < 2 ^ (j + 1) ∧ tdig b true false (oo - j) y (t1 + j) = .ok s (t1 + oo)) (fun H5 e6 => ⟨e6, 1, none, rfl, by decide, hs⟩) (fun j σ' H' hj hP => ?_) (fun σ' H5 hP => ?_)
    · obtain ⟨e6, y, u, rfl, hy, htd⟩ := hP
      have hj2 : j < oo := by omega
      rw [show oo - j = (oo - (j + 1)) + 1 by omega, tdig, takeB_fill] at htd
      have hp : (2 : Nat) ^ (j + 1 + 1) ≤ 2 ^ 20 := Nat.pow_le_pow_right (by decide) (by omega)
      have hp2 : (2 : Nat) ^ (j + 1 + 1) = 2 ^ (j + 1) * 2 := Nat.pow_succ ..
      refine q_asg (v := .int (y * 2 + (if sg b (t1 + j) then 1 else 0))) (ev_addI (ev_mulI (ev_var rfl) ev_c (mulx_ok (a := 20) (b := 2) (by omega) (by decide) (by decide))) (ev_intB (ev_sg rfl rfl hb))) fun H5 e7 => ?_
      refine s_asg (v := .int ((t1 + (j + 1) : Nat) : Int)) (ev_is (ev_addI (ev_var rfl) ev_c) (by rw [show ((t1 + j : Nat) : Int) + 1 = ((t1 + (j + 1) : Nat) : Int) by omega])) fun H6 e8 => ⟨(e6.trans e7).trans e8, _, _, rfl, ?_, htd⟩
      have : (y * 2 + (if sg b (t1 + j) then 1 else 0)).natAbs ≤ y.natAbs * 2 + 1 := by split <;> omega
      omega
    · obtain ⟨e6, y, u, rfl, _, htd⟩ := hP
      rw [Int.toNat_natCast, Nat.sub_self] at htd
      cases (show Res.ok y _ = .ok s _ from htd)
      rw [Int.toNat_natCast]
      refine q_asg ev_c fun H6 e7 => ?_
      refine q_forR1 (n := s - 1) (ea_cons (ev_subI (ev_var rfl) ev_c) ea_nil) (by omega) (fun j σ' H' => Ex H6 H' ∧ ∃ (z : Int) (u : Option V), σ' = [some (.str (T (R b))), some (.int ((t1 + oo + j : Nat) : Int)), some (.int (oo : Int)), some (.int s), u, some (.int z)] ∧ z.natAbs < 2 ^ (j + 1) ∧ tdig b true false ((s - 1).toNat - j) z (t1 + oo + j) = .ok x (t1 + oo + (s - 1).toNat)) (fun H7 e8 => ⟨e8, 1, u, rfl, by decide, hx⟩) (fun j σ' H' hj hP => ?_) (fun σ' H7 hP => ?_)
      · obtain ⟨e8, z, u, rfl, hz, htd⟩ := hP
        have hj2 : j < (s - 1).toNat := by omega
        rw [show (s - 1).toNat - j = ((s - 1).toNat - (j + 1)) + 1 by omega, tdig, takeB_fill] at htd
        have hp : (2 : Nat) ^ (j + 1 + 1) ≤ 2 ^ 300 := Nat.pow_le_pow_right (by decide) (by omega)
        have hp2 : (2 : Nat) ^ (j + 1 + 1) = 2 ^ (j + 1) * 2 := Nat.pow_succ ..
        refine q_asg (v := .int (z * 2 + (if sg b (t1 + oo + j) then 1 else 0))) (ev_addI (ev_mulI (ev_var rfl) ev_c (mulx_ok (a := 300) (b := 2) (by omega) (by decide) (by decide))) (ev_intB (ev_sg rfl rfl hb))) fun H8 e9 => ?_
        refine s_asg (v := .int ((t1 + oo + (j + 1) : Nat) : Int)) (ev_is (ev_addI (ev_var rfl) ev_c) (by rw [show ((t1 + oo + j : Nat) : Int) + 1 = ((t1 + oo + (j + 1) : Nat) : Int) by omega])) fun H9 e10 => ⟨(e8.trans e9).trans e10, _, _, rfl, ?_, htd⟩
        have : (z * 2 + (if sg b (t1 + oo + j) then 1 else 0)).natAbs ≤ z.natAbs * 2 + 1 := by split <;> omega
        omega
      · obtain ⟨e8, z, u, rfl, _, htd⟩ := hP
        rw [Nat.sub_self] at htd
        cases (show Res.ok z _ = .ok x _ from htd)
        exact s_retL (el_lst (ea_cons (ev_subI (ev_var rfl) ev_c) (ea_cons (ev_var rfl) ea_nil)) (by simp)) (RetL.mono q ((((e04.trans e5).trans e6).trans e7).trans e8))
def N__law_reader : List Str := ["_law_page_here", "_law_many", "_law_at", "_law_rows_here", "_law_last", "_law_common_here", "_law_more", "_law_row"]
def t__law_reader (K : PySem.W.Frag) : TS :=
  (tSeq (tAsg (tCall (sp__law_count_at K) [] E0 (tCons (tVar 0) (tCons (tC (.int 0)) tNil))) (gLst K 2 (gCons (gName 1) (gCons (gName 2) gNil))))
    (tSeq (tAsg (tLst tNil) (gName 3))
    (tSeq (tAsg (tC (.str (Kr.T []))) (gName 4))
    (tSeq (tWhile (tAnd (tTest (tOp rLeI (tVar 2) (tCB (rLenK K) (tCons (tVar 0) tNil)))) (tTest (tOp rLtI (tCB (rLenK K) (tCons (tVar 3) tNil)) (tVar 1))))
    (tSeq (tAsg (tCall (sp__law_count_at K) [] E0 (tCons (tVar 0) (tCons (tVar 2) tNil))) (gLst K 2 (gCons (gName 5) (gCons (gName 2) gNil))))
    (tSeq (tAsg (tCall (sp__law_count_at K) [] E0 (tCons (tVar 0) (tCons (tVar 2) tNil))) (gLst K 2 (gCons (gName 6) (gCons (gName 2) gNil))))
    (tSeq (tIfS (tOr (tTest (tOp rGtI (tVar 5) (tCB (rLenK K) (tCons (tVar 4) tNil)))) (tTest (tOp rGtI (tVar 6) (tOp rSubI (tCB (rLenK K) (tCons (tVar 0) tNil)) (tVar 2))))) (tRet (tC .non)) tNext)
    (tSeq (tAsg (tOp rAddT (tSl rSlS (tVar 4) tNoPart (tPart (tVar 5))) (tSl rSlS (tVar 0) (tPart (tVar 2)) (tPart (tOp rAddI (tVar 2) (tVar 6))))) (gName 7))
    (tSeq (tIfS (tOr (tTest (tOp rNe (tCall (sp__law_common K) [] E0 (tCons (tVar 4) (tCons (tVar 7) tNil))) (tVar 5))) (tAnd (tTest (tOp (rNeD K) (tVar 3) (tLst tNil))) (tTest (tOp rLeT (tVar 7) (tVar 4))))) (tRet (tC .non)) tNext)
    (tSeq (tDrop (tBM K "list" rAppend (tVar 3) (tCons (tVar 7) tNil)))
    (tSeq (tAsg (tVar 7) (gName 4))
    (tAsg (tOp rAddI (tVar 2) (tVar 6)) (gName 2))))))))))
    (tSeq (tIfS (tTest (tOp rNe (tVar 2) (tCB (rLenK K) (tCons (tVar 0) tNil)))) (tRet (tC .non)) tNext)
    (tRet (tVar 3)))))))
def sp__law_reader (_ : PySem.W.Frag) : Sp := fun vs H Q _ => ∃ b : List Bool, vs = [.str (T (R b))] ∧ b.length ≤ 90000 ∧ match rowsOf b with
  | some rs => RetL (RL rs) H Q
  | none => RetV .non H Q
theorem len__law_reader {K : PySem.W.Frag} {vs H Q E} (h : sp__law_reader K vs H Q E) : vs.length = 1 := by
  obtain ⟨b, rfl, _⟩ := h
  rfl
theorem entryAt_cnt {b last : List Bool} {t : Nat} (ht : t ≤ b.length) : entryAt b t last = if (last.length : Int) < cntV b t ∨ (b.length : Int) - (cntT b (cntT b t) : Int) < cntV b (cntT b t) then none else
    if com last (last.take (cntV b t).toNat ++ (b.drop (cntT b (cntT b t))).take (cntV b (cntT b t)).toNat) ≠ (cntV b t).toNat then none else some (last.take (cntV b t).toNat ++ (b.drop (cntT b (cntT b t))).take (cntV b (cntT b t)).toNat, cntT b (cntT b t) + (cntV b (cntT b t)).toNat) := by
  obtain ⟨a1, a2, a3, a4, a5⟩ := cnt_spec b t
  obtain ⟨b1, b2, b3, b4, b5⟩ := cnt_spec b (cntT b t)
  unfold entryAt
  rw [a5 ht]
  by_cases h1 : cntT b t ≤ b.length
  · rw [if_pos h1]
    dsimp only
    rw [b5 h1]
    by_cases h2 : cntT b (cntT b t) ≤ b.length
    · rw [if_pos h2]
    · rw [if_neg h2, if_pos (.inr (by omega))]
  · rw [if_neg h1, if_pos (.inr (by omega))]
theorem rd__law_reader {K : PySem.W.Frag} (vs : List V) (H : Hp) (Q : VK) (E : XK) (h : sp__law_reader K vs H Q E) : t__law_reader K { nx := fun _ H' => Q .non H', rt := Q } (start N__law_reader vs) H := by
  obtain ⟨b, rfl, hb, q⟩ := h
  obtain ⟨hm0, hm1, _, _, hstrict⟩ := cnt_spec b 0
  have hstrict := hstrict (Nat.zero_le _)
  unfold rowsOf at q
  rw [hstrict] at q
  refine q_lst2 (el_call (ea_cons (ev_var rfl) (ea_cons (ev_c (v := .int ((0 : Nat) : Int))) ea_nil)) (u__law_count_at (by omega))) fun H1 e1 => ?_
  generalize cntV b 0 = many at *
  generalize cntT b 0 = t0 at *
  obtain ⟨mn, rfl⟩ := Int.eq_ofNat_of_zero_le hm0
  refine q_asgL (el_lst ea_nil (by simp)) fun p H3 hp e3 h3 => ?_
  refine q_asg (v := .str (T (R []))) ev_c fun H4 e4 => ?_
  have hpH : H p = none := fresh_back e1 hp
  have e04 := (e1.trans e3).trans e4
  by_cases ht0 : t0 ≤ b.length
  · rw [if_pos ht0] at q
    dsimp only at q
    rw [Int.toNat_natCast] at q
    refine q_while (fun w σ' H' => ∃ (dn : List (List Bool)) (l : Option (List Bool)) (t f : Nat) (x y z : Option V), w = b.length - t ∧ Ex H H' ∧ H' p = some (.lst (RL dn)) ∧ σ' = [some (.str (T (R b))), some (.int (mn : Int)), some (.int (t : Int)), some (.ref p), some (.str (T (R (l.getD [])))), x, y, z] ∧
      t ≤ b.length ∧ b.length - t < f ∧ dn.length ≤ mn ∧ (l = none ↔ dn = []) ∧ dn.length ≤ t ∧ (l.getD []).length ≤ t ∧
      (rowsGo b (b.length + 1) none mn t0 = (rowsGo b f l (mn - dn.length) t).map fun p => (dn ++ p.1, p.2))) (b.length - t0)
      ⟨[], none, t0, b.length + 1, none, none, none, rfl, e04, e4 _ _ h3, rfl, ht0, by omega, Nat.zero_le _, ⟨fun _ => rfl, fun _ => rfl⟩, Nat.zero_le _, Nat.zero_le _, by
        show rowsGo b (b.length + 1) none mn t0 = (rowsGo b (b.length + 1) none mn t0).map _
        cases rowsGo b (b.length + 1) none mn t0 with
        | none => rfl
        | some z => rfl⟩ ?_
    rintro w σ' H' ⟨dn, l, t, f, x, y, z, rfl, eH, hdn, rfl, ht, hf, hlen, hl0, hdt, hlt, hgo⟩
    refine ⟨_, et_and (a := true) (et_test (ev_is (ev_leI (ev_var rfl) (ev_lenR (ev_var rfl) (by omega))) (by simp; omega))) fun _ => et_test (ev_ltI (ev_is (ev_lenS (ev_var rfl) (.inl (sq_of hdn))) (by rw [RL_len])) (ev_var rfl)), fun hb2 H5 e5 => ?_, fun hb2 H5 e5 => ?_⟩
    · have hlt2 : dn.length < mn := by
        rw [Bool.true_and] at hb2
        have := of_decide_eq_true hb2
        omega
      obtain ⟨f', rfl⟩ : ∃ f', f = f' + 1 := ⟨f - 1, by omega⟩
      have ek : mn - dn.length = (mn - (dn.length + 1)) + 1 := by omega
      rw [ek, rowsGo, entryAt_cnt ht] at hgo
      obtain ⟨a1, a2, a3, a4, a5⟩ := cnt_spec b t
      obtain ⟨b1, b2, b3, b4, b5⟩ := cnt_spec b (cntT b t)
      refine ⟨_, fun _ _ h => h, q_lst2 (el_call (ea_cons (ev_var rfl) (ea_cons (ev_var rfl) ea_nil)) (u__law_count_at (by omega))) fun H6 e6 => ?_⟩
      refine q_lst2 (el_call (ea_cons (ev_var rfl) (ea_cons (ev_var rfl) ea_nil)) (u__law_count_at (by omega))) fun H7 e7 => ?_
      have e07 := ((eH.trans e5).trans e6).trans e7
      have hent := entryAt_cnt (last := l.getD []) ht
      generalize cntV b t = c at *
      generalize cntT b t = t1 at *
      generalize cntV b t1 = m at *
      generalize cntT b t1 = t2 at *
      have test : EvT (tOr (tTest (tOp rGtI (tVar 5) (tCB (rLenK K) (tCons (tVar 4) tNil)))) (tTest (tOp rGtI (tVar 6) (tOp rSubI (tCB (rLenK K) (tCons (tVar 0) tNil)) (tVar 2))))) [some (.str (T (R b))), some (.int (mn : Int)), some (.int (t2 : Int)), some (.ref p), some (.str (T (R (l.getD [])))), some (.int c), some (.int m), z] H7
          (decide (((l.getD []).length : Int) < c) || decide ((b.length : Int) - (t2 : Int) < m)) :=
        et_or (et_test (ev_gtI (ev_var rfl) (ev_lenR (ev_var rfl) (by omega)))) fun _ => et_test (ev_gtI (ev_var rfl) (ev_subI (ev_lenR (ev_var rfl) (by omega)) (ev_var rfl)))
      have out : ∀ H9, Ex H H9 → rowsGo b (b.length + 1) none mn t0 = none → tRet (tC .non) { nx := fun _ _ => False, rt := Q } [] H9 := fun H9 e9 hn => by
        rw [hn] at q
        exact s_ret ev_c fun H10 e10 => q H10 (e9.trans e10)
      by_cases hbig : ((l.getD []).length : Int) < c ∨ (b.length : Int) - (t2 : Int) < m
      · rw [if_pos hbig] at hgo
        exact q_when (b := true) (et_is test (by rw [← Bool.decide_or, decide_eq_true hbig])) (fun _ H8 e8 => out H8 (e07.trans e8) hgo) (fun hf => nomatch hf)
      · rw [if_neg hbig] at hgo hent
        refine q_when (b := false) (et_is test (by rw [← Bool.decide_or, decide_eq_false hbig])) (fun hf => nomatch hf) (fun _ H8 e8 => ?_)
        obtain ⟨cn, hcn⟩ := Int.eq_ofNat_of_zero_le a1
        obtain ⟨mm, hmm⟩ := Int.eq_ofNat_of_zero_le b1
        subst hcn hmm
        rw [Int.toNat_natCast, Int.toNat_natCast] at hgo hent
        refine q_asg (v := .str (T (R ((l.getD []).take cn ++ (b.drop t2).take mm)))) (ev_addR (ev_is (ev_slT (l := R (l.getD [])) (ev_var rfl) (by rw [R_len]; omega) eo_none (eo_some (ev_var rfl))) (by rw [cutL_pre, R_take])) (ev_is (ev_slT (l := R b) (ev_var rfl) (by rw [R_len]; omega) (eo_some (ev_var rfl)) (eo_some (ev_is (ev_addI (ev_var rfl) (ev_var rfl)) (by rw [← Int.natCast_add])))) (by rw [R_mid, Nat.add_sub_cancel_left])) (by rw [List.length_take, List.length_take, List.length_drop]; omega)) fun H9 e9 => ?_
        have l3 : ((l.getD []).take cn ++ (b.drop t2).take mm).length ≤ 300000 := by rw [List.length_append, List.length_take, List.length_take, List.length_drop]; omega
        have e09 := (e07.trans e8).trans e9
        have hdn9 := ((e5.trans e6).trans ((e7.trans e8).trans e9)) _ _ hdn
        generalize (l.getD []).take cn ++ (b.drop t2).take mm = row at l3 hgo hent ⊢
        have tcm : EvT (tTest (tOp rNe (tCall (sp__law_common K) [] E0 (tCons (tVar 4) (tCons (tVar 7) tNil))) (tVar 5))) [some (.str (T (R b))), some (.int (mn : Int)), some (.int (t2 : Int)), some (.ref p), some (.str (T (R (l.getD [])))), some (.int (cn : Int)), some (.int (mm : Int)), some (.str (T (R row)))] H9 (!decide ((com (l.getD []) row : Int) = (cn : Int))) :=
          et_test (ev_neI (ev_call (ea_cons (ev_var rfl) (ea_cons (ev_var rfl) ea_nil)) (u__law_common (by omega) (by omega))) (ev_var rfl))
        have t2' := et_or tcm fun _ => et_and (et_test (ev_neE (K := K) (ev_var (i := 3) rfl) (sq_of hdn9))) fun _ => et_test (ev_leT (ev_var (i := 7) (v := .str (T (R row))) rfl) (ev_var (i := 4) (v := .str (T (R (l.getD [])))) rfl))
        by_cases hcm : com (l.getD []) row = cn
        · rw [if_neg (by simpa using hcm)] at hgo hent
          dsimp only at hgo
          by_cases hasc : ∃ x, l = some x ∧ ¬ R x < R row
          · rw [if_pos hasc] at hgo
            obtain ⟨x1, rfl, hx1⟩ := hasc
            have hne : dn ≠ [] := fun z => by have := hl0.mpr z; cases this
            exact q_when (b := true) (et_is t2' (by
              rw [Bool.or_eq_true, Bool.and_eq_true]
              exact .inr ⟨by simp [hne], by rw [Bool.not_eq_true', decide_eq_false_iff_not]; exact hx1⟩)) (fun _ H10 e10 => out H10 (e09.trans e10) hgo) (fun hf => nomatch hf)
          · rw [if_neg hasc] at hgo
            refine q_when (b := false) (et_is t2' ?_) (fun hf => nomatch hf) (fun _ H10 e10 => ?_)
            · rw [Bool.or_eq_false_iff, Bool.and_eq_false_iff]
              refine ⟨by simp [hcm], ?_⟩
              by_cases hd : dn = []
              · exact .inl (by simp [hd])
              · refine .inr ?_
                cases l with
                | none => exact absurd (hl0.mp rfl) hd
                | some x1 =>
                  have : R x1 < R row := Classical.byContradiction fun hn => hasc ⟨x1, rfl, hn⟩
                  rw [decide_eq_true (show R ((some x1).getD []) < R row from this)]
                  rfl
            obtain ⟨g1, g2, g3⟩ := entryAt_le hent ht
            refine q_app (e10 _ _ hdn9) (ev_var rfl) (ev_var rfl) (by rw [RL_len]; omega) fun H11 e11 => ?_
            refine q_asg (ev_var rfl) fun H12 e12 => ?_
            refine s_asg (v := .int ((t2 + mm : Nat) : Int)) (ev_is (ev_addI (ev_var rfl) (ev_var rfl)) (by rw [← Int.natCast_add])) fun H13 e13 => ⟨b.length - (t2 + mm), by omega, dn ++ [row], some row, t2 + mm, f', _, _, _, rfl, ((((e09.trans e10).trans e11).mut hpH).trans e12).trans e13, (e12.trans e13) _ _ (by rw [upd_same, RL_app]; rfl), rfl, g2, by omega, by rw [List.length_append]; simp; omega, ⟨(fun z => nomatch z), fun z => by simp at z⟩, by rw [List.length_append]; simp; omega, by show row.length ≤ _; omega, ?_⟩
            rw [hgo, List.length_append]
            show (Option.map _ (rowsGo b f' (some row) (mn - (dn.length + 1)) (t2 + mm))).map _ = (rowsGo b f' (some row) (mn - (dn.length + 1)) (t2 + mm)).map _
            cases rowsGo b f' (some row) (mn - (dn.length + 1)) (t2 + mm) with
            | none => rfl
            | some z => simp
        · rw [if_pos hcm] at hgo
          exact q_when (b := true) (et_is t2' (by rw [Bool.or_eq_true]; exact .inl (by simp; omega))) (fun _ H10 e10 => out H10 (e09.trans e10) hgo) (fun hf => nomatch hf)
    · have hge : dn.length = mn := by
        rw [Bool.true_and] at hb2
        have := of_decide_eq_false hb2
        omega
      rw [hge, Nat.sub_self] at hgo
      have hgo2 : rowsGo b (b.length + 1) none mn t0 = some (dn, t) := by
        rw [hgo]
        cases f <;> simp [rowsGo]
      rw [hgo2] at q
      dsimp only at q
      have t2 : EvT (tTest (tOp rNe (tVar 2) (tCB (rLenK K) (tCons (tVar 0) tNil)))) [some (.str (T (R b))), some (.int (mn : Int)), some (.int (t : Int)), some (.ref p), some (.str (T (R (l.getD [])))), x, y, z] H5 (!decide ((t : Int) = (b.length : Int))) := et_test (ev_neI (ev_var rfl) (ev_lenR (ev_var rfl) (by omega)))
      by_cases htl : t < b.length
      · rw [if_pos htl] at q
        exact q_when (b := true) (et_is t2 (by simp; omega)) (fun _ H6 e6 => s_ret ev_c fun H7 e7 => q H7 (((eH.trans e5).trans e6).trans e7)) (fun hf => nomatch hf)
      · rw [if_neg htl] at q
        refine q_when (b := false) (et_is t2 (by simp; omega)) (fun hf => nomatch hf) (fun _ H6 e6 => ?_)
        exact s_ret (ev_var rfl) fun H7 e7 => q p H7 hpH (((eH.trans e5).trans e6).trans e7) ((e5.trans (e6.trans e7)) _ _ hdn)
  · rw [if_neg ht0] at q
    refine q_while (fun w σ' H' => Ex H H' ∧ σ' = [some (.str (T (R b))), some (.int (mn : Int)), some (.int (t0 : Int)), some (.ref p), some (.str (T (R []))), none, none, none]) 0 ⟨e04, rfl⟩ ?_
    rintro w σ' H' ⟨eH, rfl⟩
    refine ⟨false, et_is (et_and (a := false) (b := false) (et_test (ev_is (ev_leI (ev_var rfl) (ev_lenR (ev_var rfl) (by omega))) (by simp; omega))) fun hf => nomatch hf) rfl, (fun hf => nomatch hf), fun _ H5 e5 => ?_⟩
    exact q_when (b := true) (et_test (ev_is (ev_neI (ev_var rfl) (ev_lenR (ev_var rfl) (by omega))) (by simp; omega))) (fun _ H6 e6 => s_ret ev_c fun H7 e7 => q H7 (((eH.trans e5).trans e6).trans e7)) (fun hf => nomatch hf)
def N__law_due : List Str := ["_law_word", "_law_rows_here", "_law_row", "_law_one"]
def t__law_due (K : PySem.W.Frag) : TS :=
  (tSeq (tIfS (tTest (tOp rEq (tVar 0) (tC (.int 0)))) (tRet (tTup (tCons (tCB (rLenK K) (tCons (tLc (iList K (tVar 1)) (gName 3) (tTest (tOp rLtT (tVar 3) (tVar 2))) (tVar 3) [3]) tNil)) (tCons (tOp (rIn K false) (tVar 2) (tVar 1)) tNil)))) tNext)
    (tSeq (tIfS (tTest (tOp rEq (tVar 0) (tC (.int 2)))) (tRet (tCall (sp__law_page K) [] E0 (tCons (tLc (iList K (tVar 1)) (gName 3) (tTest (tOp rNe (tVar 3) (tVar 2))) (tVar 3) [3]) tNil))) tNext)
    (tSeq (tIfS (tTest (tOp (rIn K true) (tVar 2) (tVar 1))) (tAsg (tOp rCat (tVar 1) (tLst (tCons (tVar 2) tNil))) (gName 1)) tNext)
    (tRet (tCall (sp__law_page K) [] E0 (tCons (tCB (rSortedA K) (tCons (tVar 1) tNil)) tNil))))))
/-- the rows of the page that is due -/
def pgOf (w : Int) (rs : List (List Bool)) (row : List Bool) : List (List Bool) := if w = 2 then rs.filter fun r => !decide (R r = R row) else sortR (if row ∈ rs then rs else rs ++ [row])
/-- what is due: a place, or a page -/
def DV (H : Hp) (w : Int) (rs : List (List Bool)) (row : List Bool) (x : V) : Prop := if w = 0 then ∃ r, x = .ref r ∧ H r = some (.tup [.int ((before rs row).length : Nat), .bl (decide (row ∈ rs))]) else x = .str (T (R (pageRow (pgOf w rs row))))
theorem DV.mono {H H1 : Hp} {w : Int} {rs : List (List Bool)} {row : List Bool} {x : V} (e : Ex H H1) (h : DV H w rs row x) : DV H1 w rs row x := by
  unfold DV at h ⊢
  split at h
  · obtain ⟨r, h1, h2⟩ := h
    rename_i h0
    rw [if_pos h0]
    exact ⟨r, h1, e _ _ h2⟩
  · rename_i h0
    rw [if_neg h0]
    exact h
def dd (w : Int) (rs : List (List Bool)) (row : List Bool) : PyData := if w = 0 then .tuple [.int ((before rs row).length : Nat), .bool (decide (row ∈ rs))] else .str (T (R (pageRow (pgOf w rs row))))
theorem DV.dp {K : PySem.W.Frag} {H : Hp} {w : Int} {rs : List (List Bool)} {row : List Bool} {x : V} (h : DV H w rs row x) : Dp K H x (dd w rs row) := by
  unfold DV at h
  unfold dd
  split at h
  · obtain ⟨r, rfl, h2⟩ := h
    rename_i h0
    rw [if_pos h0]
    exact .tup (st_of h2) (.cons (.int _) (.cons (.bl _) .nil))
  · rename_i h0
    rw [if_neg h0, h]
    exact .str _
theorem dd_shaped (w : Int) (rs : List (List Bool)) (row : List Bool) (s : Str) (hs : PyData.strOk s = true) : SeqAt.shaped (.tuple [.str s, dd w rs row]) = true := by
  unfold dd
  split
  · simp [SeqAt.shaped, PyData.canLay0, PyData.canLayAll0, PyData.depth, PyData.depthAll, hs]
  · simp [SeqAt.shaped, PyData.canLay0, PyData.canLayAll0, PyData.depth, PyData.depthAll, hs, strOk_R]
def sp__law_due (K : PySem.W.Frag) : Sp := fun vs H Q _ => ∃ (w : Int) (p : Addr) (rs : List (List Bool)) (row : List Bool), vs = [.int w, .ref p, .str (T (R row))] ∧ H p = some (.lst (RL rs)) ∧ Asc none rs ∧ rs.length ≤ 3500 ∧ (∀ r ∈ rs, r.length ≤ 4000) ∧ row.length ≤ 4000 ∧ ∀ x H2, Ex H H2 → DV H2 w rs row x → Q x H2
theorem len__law_due {K : PySem.W.Frag} {vs H Q E} (h : sp__law_due K vs H Q E) : vs.length = 3 := by
  obtain ⟨w, p, rs, row, rfl, _⟩ := h
  rfl
theorem rd__law_due {K : PySem.W.Frag} (vs : List V) (H : Hp) (Q : VK) (E : XK) (h : sp__law_due K vs H Q E) : t__law_due K { nx := fun _ H' => Q .non H', rt := Q } (start N__law_due vs) H := by
  obtain ⟨w, p, rs, row, rfl, hp, hasc, hn, hl, hr, q⟩ := h
  refine q_when (et_test (ev_eqI (ev_var rfl) ev_c)) (fun hb H1 e1 => ?_) (fun hb H1 e1 => ?_)
  · have h0 : w = 0 := of_decide_eq_true hb
    refine s_retU (eu_tup (ea_cons (ev_is (ev_lenNL (el_filt (fun r => decide (R r < R row)) (ev_var rfl) (sq_of (e1 _ _ hp)) (by omega) (fun x => rfl) (fun x => rfl) fun r hr H3 e3 => et_test (ev_ltT (ev_var rfl) (ev_var rfl)))) (by rw [RL_len])) (ea_cons (ev_inRL (ev_var rfl) (ev_var rfl) (sq_of (e1 _ _ hp))) ea_nil)) (by simp)) fun r H2 hr2 e2 h2 => q _ H2 (e1.trans e2) ?_
    unfold DV
    rw [if_pos h0]
    exact ⟨r, rfl, h2⟩
  have h0 : ¬ w = 0 := of_decide_eq_false hb
  have fin : ∀ H2, Ex H H2 → Q (.str (T (R (pageRow (pgOf w rs row))))) H2 := fun H2 e => q _ H2 e (by unfold DV; rw [if_neg h0])
  refine q_when (et_test (ev_eqI (ev_var rfl) ev_c)) (fun hb2 H2 e2 => ?_) (fun hb2 H2 e2 => ?_)
  · have h2 : w = 2 := of_decide_eq_true hb2
    have epg : pgOf w rs row = rs.filter fun r => !decide (R r = R row) := by unfold pgOf; rw [if_pos h2]
    rw [epg] at fin
    refine s_ret (ev_callL (el_filt (fun r => !decide (R r = R row)) (ev_var rfl) (sq_of ((e1.trans e2) _ _ hp)) (by omega) (fun x => rfl) (fun x => rfl) fun r hr H3 e3 => et_test (ev_neT (ev_var rfl) (ev_var rfl))) fun r H3 e3 h3 => u__law_page (sq_of h3) (by have := List.length_filter_le (fun r => !decide (R r = R row)) rs; omega) fun y hy => hl y (List.mem_filter.mp hy).1) fun H3 e3 => fin H3 ((e1.trans e2).trans e3)
  have h2 : ¬ w = 2 := of_decide_eq_false hb2
  have epg : pgOf w rs row = sortR (if row ∈ rs then rs else rs ++ [row]) := by unfold pgOf; rw [if_neg h2]
  rw [epg] at fin
  have e02 := e1.trans e2
  refine q_cond (fun σ' H' => Ex H H' ∧ ∃ r, σ' = [some (.int w), some (.ref r), some (.str (T (R row))), none] ∧ H' r = some (.lst (RL (if row ∈ rs then rs else rs ++ [row])))) (fun M hM => ?_) (fun σ' H3 hP => ?_)
  · refine s_when (et_test (ev_niRL (ev_var rfl) (ev_var rfl) (sq_of (e02 _ _ hp)))) (fun hb3 H3 e3 => ?_) (fun hb3 H3 e3 => ?_)
    · have hin : row ∉ rs := by simpa using hb3
      rw [if_neg hin] at hM
      exact s_asgL (el_catRL (ev_var rfl) ((e02.trans e3) _ _ hp) (el_one (ev_var rfl)) (by simp; omega)) fun r H4 hr4 e4 h4 => hM _ _ ⟨(e02.trans e3).trans e4, r, rfl, h4⟩
    · have hin : row ∈ rs := by simpa using hb3
      rw [if_pos hin] at hM
      exact hM _ _ ⟨e02.trans e3, p, rfl, (e02.trans e3) _ _ hp⟩
  obtain ⟨e3, r, rfl, h3⟩ := hP
  have hlen : (if row ∈ rs then rs else rs ++ [row]).length ≤ 3501 := by
    split
    · omega
    · rw [List.length_append, List.length_singleton]; omega
  have hmem : ∀ y ∈ (if row ∈ rs then rs else rs ++ [row]), y.length ≤ 4000 := fun y hy => by
    split at hy
    · exact hl y hy
    · rcases List.mem_append.mp hy with hy | hy
      · exact hl y hy
      · rw [List.mem_singleton.mp hy]; exact hr
  generalize (if row ∈ rs then rs else rs ++ [row]) = ss at *
  refine s_ret (ev_callL (el_sortedV (ev_var rfl) h3 (by omega)) fun r H4 e4 h4 => u__law_page (sq_of h4) (by rw [len_sortR]; omega) fun y hy => hmem y (mem_sortR.mp hy)) fun H4 e4 => fin H4 (e3.trans e4)
def N_Source___init__ : List Str := ["self", "signs", "at", "fills"]
def t_Source___init__ (K : PySem.W.Frag) : TS :=
  (tSeq (sFldC (He.ga K "Source") (tVar 0) (tVar 1) "signs")
    (tSeq (sFldC (He.ga K "Source") (tVar 0) (tVar 2) "at")
    (sFldC (He.ga K "Source") (tVar 0) (tVar 3) "fills")))
def sp_Source___init__ (K : PySem.W.Frag) : Sp := fun vs H Q _ => ∃ (a dx : Addr) (b : List Bool) (t : Nat) (f : Bool), vs = [.ref a, .str (T (R b)), .int (t : Int), .bl f] ∧ H a = some (.ins (He.ga K "Source") dx []) ∧ ∀ H', ExU a H H' → SrcB K H' a b t f → Q .non H'
theorem len_Source___init__ {K : PySem.W.Frag} {vs H Q E} (h : sp_Source___init__ K vs H Q E) : vs.length = 4 := by
  obtain ⟨a, dx, b, t, f, rfl, _⟩ := h
  rfl
theorem rd_Source___init__ {K : PySem.W.Frag} (vs : List V) (H : Hp) (Q : VK) (E : XK) (h : sp_Source___init__ K vs H Q E) : t_Source___init__ K { nx := fun _ H' => Q .non H', rt := Q } (start N_Source___init__ vs) H := by
  obtain ⟨a, dx, b, t, f, rfl, ha, q⟩ := h
  refine q_fldC (ev_var rfl) (ev_var rfl) ha (by simp) fun H1 e1 h1 => ?_
  refine q_fldC (ev_var rfl) (ev_var rfl) h1 (Nat.lt_of_le_of_lt (putF_len _ _ _) (by simp)) fun H2 e2 h2 => ?_
  refine s_fldC (ev_var rfl) (ev_var rfl) h2 (Nat.lt_of_le_of_lt (putF_len _ _ _) (Nat.lt_of_le_of_lt (Nat.succ_le_succ (putF_len _ _ _)) (by simp))) fun H3 e3 h3 => q H3 ((e1.trans e2).trans e3) ⟨dx, h3⟩
theorem go_source {K : PySem.W.Frag} {σ : L2.St} {H : Hp} {ta : TA} {Q : VK} {b : List Bool} {t : Nat} {f : Bool} (h : EvA ta σ H [.str (T (R b)), .int (t : Int), .bl f]) (k : ∀ x H', Ex H H' → H x = none → SrcB K H' x b t f → Q (.ref x) H') : tMake (He.ga K "Source") (sp_Source___init__ K) [] E0 ta σ H Q :=
  go_make h fun x dx H1 e1 hx hd hne => ⟨x, dx, b, t, f, rfl, upd_same, fun H' e' s' => ⟨rfl, k x H' (fun c o hc => by
    have h1 := e1 _ _ hc
    have n1 : c ≠ x := fun z => by rw [z, hx] at h1; cases h1
    have n2 : c ≠ dx := fun z => by rw [z, hd] at h1; cases h1
    exact e' c o n1 (by rw [upd_ne n1, upd_ne n2]; exact h1)) (fresh_back e1 hx) s'⟩⟩
theorem q_source {K : PySem.W.Frag} {σ : L2.St} {H : Hp} {ta : TA} {D : Ends} {tz : TS} {i : Nat} {b : List Bool} {t : Nat} {f : Bool} (h : EvA ta σ H [.str (T (R b)), .int (t : Int), .bl f]) (k : ∀ x H', Ex H H' → H x = none → SrcB K H' x b t f → tz D (σ.set i (some (.ref x))) H') :
    tSeq (tAsg (tMake (He.ga K "Source") (sp_Source___init__ K) [] E0 ta) (gName i)) tz D σ H :=
  show tMake (He.ga K "Source") (sp_Source___init__ K) [] E0 ta σ H (fun v H' => tz D (σ.set i (some v)) H') from go_source (Q := fun v H' => tz D (σ.set i (some v)) H') h k
/-- what is read of an object made here, told with the place behind it -/
theorem fin_new {K : PySem.W.Frag} {H H1 : Hp} {Q Q2 : VK} {E : XK} {x : Addr} {b : List Bool} {f : Bool} {r : Res Int} (q : FinR K H Q E r) (e : Ex H H1) (hx : H x = none) (h1 : H1 x ≠ none)
    (k : ∀ (v : Int) (t : Nat) H', r = .ok v t → Ex H H' → SrcB K H' x b t f → RetU [.int v, .int (t : Int)] H' Q → Q2 (.int v) H') : Fin K V.int x b f H1 Q2 E r := by
  cases r with
  | ok v t =>
    intro H' e' s'
    have e2 : Ex H H' := ((exu e).trans e').ex hx
    exact k v t H' rfl e2 s' (RetU.mono q e2)
  | bad c p => exact fun d H' hn hd e' h' => q d H' (fresh_back e hd) (((exu e).trans e').ex hx) h'
def N_Short___init__ : List Str := ["self", "place"]
def t_Short___init__ (K : PySem.W.Frag) : TS :=
  (tSeq (tDrop (tRinit (He.ga K "Short") (tCons (tVar 0) (tCons (tC (.str (Kr.T [116, 111, 111, 32, 115, 104, 111, 114, 116]))) tNil))))
    (tOstC (He.ga K "Short") "place" (tVar 0) (tVar 1)))
abbrev sp_Short___init__ (K : PySem.W.Frag) : Sp := placeSp (He.ga K "Short")
theorem len_Short___init__ {K : PySem.W.Frag} {vs H Q E} (h : sp_Short___init__ K vs H Q E) : vs.length = 2 := placeSp_len h
theorem rd_Short___init__ {K : PySem.W.Frag} (vs : List V) (H : Hp) (Q : VK) (E : XK) (h : sp_Short___init__ K vs H Q E) : t_Short___init__ K { nx := fun _ H' => Q .non H', rt := Q } (start N_Short___init__ vs) H := rd_place vs H Q E h
def N_Source_take : List Str := ["self", "wish", "sign"]
def t_Source_take (K : PySem.W.Frag) (E : XK) : TS :=
  (tSeq (tIfS (tTest (tOp rLtI (tFldC (He.ga K "Source") (tVar 0) "at") (tCB (rLenK K) (tCons (tFldC (He.ga K "Source") (tVar 0) "signs") tNil)))) (tAsg (tOp rIxS (tFldC (He.ga K "Source") (tVar 0) "signs") (tFldC (He.ga K "Source") (tVar 0) "at")) (gName 2)) (tIfS (tB (tFldC (He.ga K "Source") (tVar 0) "fills")) (tAsg (tVar 1) (gName 2)) (tRaiseO (He.ga K "Short") (sp_Short___init__ K) (tCons (tCB (rLenK K) (tCons (tFldC (He.ga K "Source") (tVar 0) "signs") tNil)) tNil) E)))
    (tSeq (sFldAugC (He.ga K "Source") (tVar 0) (tC (.int 1)) rAdd "at")
    (tRet (tVar 2))))
def sp_Source_take (K : PySem.W.Frag) : Sp := fun vs H Q E => ∃ (a : Addr) (b : List Bool) (t : Nat) (f w : Bool), vs = [.ref a, .str (T [bc w])] ∧ SrcB K H a b t f ∧ b.length ≤ 1000000 ∧ Fin K vB a b f H Q E (takeB b f false w t)
theorem len_Source_take {K : PySem.W.Frag} {vs H Q E} (h : sp_Source_take K vs H Q E) : vs.length = 2 := by
  obtain ⟨a, b, t, f, w, rfl, _⟩ := h
  rfl
theorem go_take0 {K : PySem.W.Frag} {σ : L2.St} {H : Hp} {o tw : TE} {E : XK} {Q : VK} {a : Addr} {b : List Bool} {t : Nat} {f w : Bool} (h : Ev o σ H (.ref a)) (hw : Ev tw σ H (.str (T [bc w]))) (s : SrcB K H a b t f) (hb : b.length ≤ 1000000) (k : Fin K vB a b f H Q E (takeB b f false w t)) :
    tMeth (He.ga K "Source") "take" (sp_Source_take K) [] E o (tCons tw tNil) σ H Q := by
  obtain ⟨dx, ha⟩ := s
  exact go_meth h ha rfl (fun H1 e => ea_cons (hw.mono e) ea_nil) fun H1 e => ⟨a, b, t, f, w, rfl, ⟨dx, e _ _ ha⟩, hb, k.mono (exu e)⟩
theorem rd_Source_take {K : PySem.W.Frag} (vs : List V) (H : Hp) (Q : VK) (E : XK) (h : sp_Source_take K vs H Q E) : t_Source_take K E { nx := fun _ H' => Q .non H', rt := Q } (start N_Source_take vs) H := by
  obtain ⟨a, b, t, f, w, rfl, ⟨dx, ha⟩, hb, k⟩ := h
  have sg : ∀ (σ : L2.St) (H1 : Hp), Ex H H1 → σ[0]? = some (some (.ref a)) → Ev (tFldC (He.ga K "Source") (tVar 0) "signs") σ H1 (.str (T (R b))) := fun σ H1 e h0 => ev_fldC (ev_var h0) (e _ _ ha) rfl
  have ln : ∀ (σ : L2.St) (H1 : Hp), Ex H H1 → σ[0]? = some (some (.ref a)) → Ev (tCB (rLenK K) (tCons (tFldC (He.ga K "Source") (tVar 0) "signs") tNil)) σ H1 (.int (b.length : Int)) := fun σ H1 e h0 => by
    have := ev_lenT (K := K) (sg σ H1 e h0) (by rw [R_len]; omega)
    rwa [R_len] at this
  have tst : EvT (tTest (tOp rLtI (tFldC (He.ga K "Source") (tVar 0) "at") (tCB (rLenK K) (tCons (tFldC (He.ga K "Source") (tVar 0) "signs") tNil)))) (start N_Source_take [.ref a, .str (T [bc w])]) H (decide ((t : Int) < (b.length : Int))) :=
    et_test (ev_ltI (ev_fldC (ev_var rfl) ha rfl) (ln _ H (Ex.refl H) rfl))
  -- a sign taken, the place goes on
  have fin : ∀ (c : Bool) (H1 : Hp), Ex H H1 → (∀ H', ExU a H H' → SrcB K H' a b (t + 1) f → Q (vB c) H') → tSeq (sFldAugC (He.ga K "Source") (tVar 0) (tC (.int 1)) rAdd "at") (tRet (tVar 2)) { nx := fun _ H' => Q .non H', rt := Q } [some (.ref a), some (.str (T [bc w])), some (vB c)] H1 := fun c H1 e1 q =>
    q_augC (i := (t : Int)) (j := 1) (ev_var rfl) (e1 _ _ ha) rfl ev_c (by simp) fun H2 e2 h2 => s_ret (ev_var rfl) fun H3 e3 => q H3 ((exu e1).trans (e2.trans (exu e3))) ⟨dx, e3 _ _ h2⟩
  unfold takeB at k
  by_cases ht : t < b.length
  · rw [List.getElem?_eq_getElem ht] at k
    refine q_if (b := true) (et_is tst (by simpa using ht)) (fun _ H1 e1 => ?_) (fun hf => nomatch hf)
    refine s_asg (v := vB b[t]) (ev_ixT (sg _ H1 e1 rfl) (ev_fldC (ev_var rfl) (e1 _ _ ha) rfl) (by rw [R_len]; omega) (R_at ht)) fun H2 e2 => ?_
    refine fin b[t] H2 (e1.trans e2) fun H' e' s' => ?_
    have := k H' e' s'
    rwa [show (b[t] != false) = b[t] by cases b[t] <;> rfl] at this
  · rw [List.getElem?_eq_none (by omega)] at k
    refine q_if (b := false) (et_is tst (by simpa using ht)) (fun hf => nomatch hf) (fun _ H1 e1 => ?_)
    cases f with
    | true =>
      refine s_if (b := true) (et_B (ev_fldC (ev_var rfl) (e1 _ _ ha) rfl)) (fun _ H2 e2 => ?_) (fun hf => nomatch hf)
      exact s_asg (v := vB w) (ev_var rfl) fun H3 e3 => fin w H3 ((e1.trans e2).trans e3) k
    | false =>
      refine s_if (b := false) (et_B (ev_fldC (ev_var rfl) (e1 _ _ ha) rfl)) (fun hf => nomatch hf) (fun _ H2 e2 => ?_)
      refine s_raiseO (ea_cons (ln _ H2 (e1.trans e2) rfl) ea_nil) (RaiseU.d (RaiseU.mono (exu (e1.trans e2)) k) ?_)
      rw [(e1.trans e2) _ _ ha]
      exact fun z => nomatch z
abbrev tm_take (K : PySem.W.Frag) (E : XK) (o : TE) (t : TA) : TE := (tMeth (He.ga K "Source") "take" (sp_Source_take K) [] E o t)
theorem go_take {K : PySem.W.Frag} {σ : L2.St} {H : Hp} {o tw : TE} {E : XK} {Q : VK} {x : V} {a : Addr} {b : List Bool} {t j : Nat} {f n w : Bool} (h : Ev o σ H x) (hw : Ev tw σ H (.str (T [bc w]))) (hx : Src K H a x n j) (hj : j ≤ srcD) (s : SrcB K H a b t f)
    (hb : b.length ≤ 1000000) (q : Fin K vB a b f H Q E (takeB b f n w t)) : tm_take K E o (tCons tw tNil) σ H Q := by
  cases hx with
  | base => exact go_take0 h hw s hb q
  | @turn c dx y n2 i hc ne r => exact absurd hj (by unfold srcD; omega)
theorem go_takeS {K : PySem.W.Frag} {σ : L2.St} {H : Hp} {o tw : TE} {E : XK} {Q : VK} {x : V} {a : Addr} {b : List Bool} {t : Nat} {f n w : Bool} {α : Type} {wal : α → V} {g : Bool → Nat → Res α} (h : Ev o σ H x) (hw : Ev tw σ H (.str (T [bc w]))) (r : Rdr srcD K H x a b f n t)
    (q : Fin K wal a b f H Q E ((takeB b f n w t).bind g)) : GoS (tm_take K E o (tCons tw tNil)) σ H fun c H' => ∃ t', takeB b f n w t = .ok c t' ∧ ExU a H H' ∧ Rdr srcD K H' x a b f n t' ∧ Fin K wal a b f H' Q E (g c t') := fun H1 e1 Q' k => by
  obtain ⟨⟨j, hj, hx⟩, s, l⟩ := r
  exact go_take (h.mono e1) (hw.mono e1) (hx.mono (exu e1)) hj (s.mono e1) l (Fin.step (q.mono (exu e1)) fun c t' H' et e' s' q' => k c H' ⟨t', et, (exu e1).trans e', ⟨⟨j, hj, hx.mono ((exu e1).trans e')⟩, s', l⟩, q'⟩)
def N_take_digits : List Str := ["source", "number", "many", "k"]
def t_take_digits (K : PySem.W.Frag) (E : XK) : TS :=
  (tSeq (tFor (iRng1 (tCons (tVar 2) tNil)) (gName 3)
    (tAsg (tOp rAddI (tOp rMulI (tVar 1) (tC (.int 2))) (tCB rIntB (tCons (tOp rEq (tm_take K E (tVar 0) (tCons (tC (.str (Kr.T [48]))) tNil)) (tC (.str (Kr.T [49])))) tNil))) (gName 1)))
    (tRet (tVar 1)))
def sp_take_digits (K : PySem.W.Frag) : Sp := fun vs H Q E => ∃ (x : V) (a : Addr) (b : List Bool) (f n : Bool) (t : Nat) (num : Int) (many : Nat), vs = [x, .int num, .int (many : Int)] ∧ Rdr srcD K H x a b f n t ∧ many ≤ 600 ∧ num.natAbs < 2 ^ 600 ∧ Fin K V.int a b f H Q E (tdig b f n many num t)
theorem len_take_digits {K : PySem.W.Frag} {vs H Q E} (h : sp_take_digits K vs H Q E) : vs.length = 3 := by
  obtain ⟨x, a, b, f, n, t, num, many, rfl, _⟩ := h
  rfl
theorem rd_take_digits {K : PySem.W.Frag} (vs : List V) (H : Hp) (Q : VK) (E : XK) (h : sp_take_digits K vs H Q E) : t_take_digits K E { nx := fun _ H' => Q .non H', rt := Q } (start N_take_digits vs) H := by
  obtain ⟨x, a, b, f, n, t, num, many, rfl, r, hm, hn, q⟩ := h
  refine q_forR1 (n := (many : Int)) (ea_cons (ev_var rfl) ea_nil) (by omega)
    (fun i σ' H' => ∃ (y : Int) (t' : Nat) (z : Option V), σ' = [some x, some (.int y), some (.int (many : Int)), z] ∧ ExU a H H' ∧ Rdr srcD K H' x a b f n t' ∧ y.natAbs < 2 ^ (600 + i) ∧ Fin K V.int a b f H' Q E (tdig b f n (many - i) y t'))
    (fun H1 e1 => ⟨num, t, none, rfl, exu e1, r.mono e1, hn, q.mono (exu e1)⟩) (fun i σ' H' hi hP => ?_) (fun σ' H' hP => ?_)
  · obtain ⟨y, t', z, rfl, e', r', hy, q'⟩ := hP
    have ek : many - i = (many - (i + 1)) + 1 := by omega
    rw [ek] at q'
    refine s_num rfl (mulx_ok (a := 600 + i) (b := 2) hy (by decide) (by omega)) (go_takeS (w := false) (ev_var rfl) ev_c r' q') fun c H2 H3 hp e3 => ?_
    obtain ⟨t2, _, e2, r2, q2⟩ := hp
    exact ⟨_, t2, _, rfl, e'.trans (e2.trans (exu e3)), r2.mono e3, two_step c hy, q2.mono (exu e3)⟩
  · obtain ⟨y, t', z, rfl, e', r', hy, q'⟩ := hP
    rw [Int.toNat_natCast, Nat.sub_self] at q'
    exact s_ret (ev_var rfl) fun H2 e2 => q' H2 (exu e2) (r'.s.mono e2)
def N_take_count : List Str := ["source", "wish", "ones", "size"]
def t_take_count (K : PySem.W.Frag) (E : XK) : TS :=
  (tSeq (tAsg (tC (.int 0)) (gName 2))
    (tSeq (tWhile (tAnd (tTest (tOp rLtI (tVar 2) (tC (.int 7)))) (tTest (tOp rEq (tm_take K E (tVar 0) (tCons (tVar 1) tNil)) (tC (.str (Kr.T [49]))))))
    (tSeq (tAug 2 (tC (.int 1)) (ipI fun i j => i + j))
    (tAsg (tC (.str (Kr.T [48]))) (gName 1))))
    (tSeq (tAsg (tCall (sp_take_digits K) [] E (tCons (tVar 0) (tCons (tC (.int 1)) (tCons (tVar 2) tNil)))) (gName 3))
    (tRet (tOp rSubI (tCall (sp_take_digits K) [] E (tCons (tVar 0) (tCons (tC (.int 1)) (tCons (tOp rSubI (tVar 3) (tC (.int 1))) tNil)))) (tC (.int 1)))))))
def sp_take_count (K : PySem.W.Frag) : Sp := fun vs H Q E => ∃ (x : V) (a : Addr) (b : List Bool) (f n w : Bool) (t : Nat), vs = [x, .str (T [bc w])] ∧ Rdr srcD K H x a b f n t ∧ Fin K V.int a b f H Q E (tcount b f n w t)
theorem len_take_count {K : PySem.W.Frag} {vs H Q E} (h : sp_take_count K vs H Q E) : vs.length = 2 := by
  obtain ⟨x, a, b, f, n, w, t, rfl, _⟩ := h
  rfl
theorem rd_take_count {K : PySem.W.Frag} (vs : List V) (H : Hp) (Q : VK) (E : XK) (h : sp_take_count K vs H Q E) : t_take_count K E { nx := fun _ H' => Q .non H', rt := Q } (start N_take_count vs) H := by
  obtain ⟨x, a, b, f, n, w, t, rfl, r, q⟩ := h
  refine q_asg ev_c fun H1 e1 => ?_
  refine (⟨fun m σ' H' => ∃ (o : Nat) (w' : Bool) (t' : Nat), m = 7 - o ∧ o ≤ 7 ∧ σ' = [some x, some (.str (T [bc w'])), some (.int (o : Int)), none] ∧ ExU a H H' ∧ Rdr srcD K H' x a b f n t' ∧
      Fin K V.int a b f H' Q E ((tones b f n (7 - o) w' o t').bind fun o t1 => (tdig b f n o 1 t1).bind fun s t2 => (tdig b f n (s - 1).toNat 1 t2).bind fun x t3 => .ok (x - 1) t3),
    ⟨7, 0, w, t, rfl, by omega, rfl, exu e1, r.mono e1, q.mono (exu e1)⟩, ?_⟩ : tSeq (tWhile _ _) _ _ _ _)
  rintro m σ' H' ⟨o, w', t', rfl, ho, rfl, e', r', q'⟩
  -- what follows the loop
  have rest : ∀ (w2 : Bool) (t2 : Nat) (H2 : Hp), ExU a H H2 → Rdr srcD K H2 x a b f n t2 → Fin K V.int a b f H2 Q E ((tdig b f n o 1 t2).bind fun s t2 => (tdig b f n (s - 1).toNat 1 t2).bind fun x t3 => .ok (x - 1) t3) →
      tSeq (tAsg (tCall (sp_take_digits K) [] E (tCons (tVar 0) (tCons (tC (.int 1)) (tCons (tVar 2) tNil)))) (gName 3))
        (tRet (tOp rSubI (tCall (sp_take_digits K) [] E (tCons (tVar 0) (tCons (tC (.int 1)) (tCons (tOp rSubI (tVar 3) (tC (.int 1))) tNil)))) (tC (.int 1)))) { nx := fun _ H' => Q .non H', rt := Q } [some x, some (.str (T [bc w2])), some (.int (o : Int)), none] H2 := fun w2 t2 H2 e2 r2 q2 => by
    refine q_asgF (vs := [x, .int 1, .int (o : Int)]) (ea_cons (ev_var rfl) (ea_cons ev_c (ea_cons (ev_var rfl) ea_nil))) fun H3 e3 => ⟨x, a, b, f, n, t2, 1, o, rfl, r2.mono e3, by omega, by decide, Fin.step (q2.mono (exu e3)) fun s t3 H4 es e4 s4 q4 => ?_⟩
    have hs := tdig_rng es
    have hp : (2 : Int) ^ o ≤ 2 ^ 7 := by
      have : o = 0 ∨ o = 1 ∨ o = 2 ∨ o = 3 ∨ o = 4 ∨ o = 5 ∨ o = 6 ∨ o = 7 := by omega
      rcases this with rfl | rfl | rfl | rfl | rfl | rfl | rfl | rfl <;> decide
    have hp0 : (0 : Int) < 2 ^ o := Int.pow_pos (by decide)
    have hs1 : 1 ≤ s ∧ s < 256 := by omega
    obtain ⟨k, hk⟩ := Int.eq_ofNat_of_zero_le (show 0 ≤ s - 1 by omega)
    refine s_retSubF (vs := [x, .int 1, .int (k : Int)]) (ea_cons (ev_var rfl) (ea_cons ev_c (ea_cons (ev_is (ev_subI (ev_var rfl) ev_c) (by rw [hk])) ea_nil))) fun H5 e5 => ?_
    rw [hk, Int.toNat_natCast] at q4
    refine ⟨x, a, b, f, n, t3, 1, k, rfl, (r2.mono e3).after (e4.trans (exu e5)) (s4.mono e5), by omega, by decide, Fin.step (q4.mono (exu e5)) fun y t4 H6 _ e6 s6 q6 => ?_⟩
    exact rv_subI (i := y) (j := 1) H6 (Ex.refl H6) _ fun H7 e7 => q6 H7 (exu e7) (s6.mono e7)
  by_cases h7 : o < 7
  · have ek : 7 - o = (7 - (o + 1)) + 1 := by omega
    rw [ek] at q'
    have q2 : Fin K V.int a b f H' Q E ((takeB b f n w' t').bind fun c t' => (if c then tones b f n (7 - (o + 1)) false (o + 1) t' else .ok o t').bind fun o t1 => (tdig b f n o 1 t1).bind fun s t2 => (tdig b f n (s - 1).toNat 1 t2).bind fun x t3 => .ok (x - 1) t3) := by
      rw [← Res.bind_assoc]; exact q'
    refine (et_test (ev_is (ev_ltI (ev_var rfl) ev_c) (by rw [decide_eq_true (show (o : Int) < 7 by omega)])) : EvT (tTest (tOp rLtI (tVar 2) (tC (.int 7)))) [some x, some (.str (T [bc w'])), some (.int (o : Int)), none] H' true) H' (Ex.refl H') _ fun H2 e2 => ?_
    refine t_one (go_takeS (ev_var rfl) (ev_var rfl) (r'.mono e2) (q2.mono (exu e2))) fun c H3 H4 hp e4 => ?_
    obtain ⟨t3, _, e3, r3, q3⟩ := hp
    have e04 := e'.trans ((exu e2).trans (e3.trans (exu e4)))
    cases c with
    | true =>
      refine ⟨_, fun _ _ h => h, q_aug rfl ev_c fun H5 e5 => s_asg (v := .str (T [bc false])) ev_c fun H6 e6 => ⟨7 - (o + 1), by omega, o + 1, false, t3, rfl, by omega, rfl, e04.trans (exu (e5.trans e6)), (r3.mono e4).mono (e5.trans e6), ?_⟩⟩
      exact q3.mono (exu (e4.trans (e5.trans e6)))
    | false => exact rest w' t3 H4 e04 (r3.mono e4) (q3.mono (exu e4))
  · have ho7 : o = 7 := by omega
    rw [show 7 - o = 0 by omega] at q'
    refine (et_test (ev_is (ev_ltI (ev_var rfl) ev_c) (by rw [decide_eq_false (show ¬ (o : Int) < 7 by omega)])) : EvT (tTest (tOp rLtI (tVar 2) (tC (.int 7)))) [some x, some (.str (T [bc w'])), some (.int (o : Int)), none] H' false) H' (Ex.refl H') _ fun H2 e2 => ?_
    exact rest w' t' H2 (e'.trans (exu e2)) (r'.mono e2) (q'.mono (exu e2))
def N_Source_spot : List Str := ["self"]
def t_Source_spot (K : PySem.W.Frag) : TS :=
  (tRet (tFldC (He.ga K "Source") (tVar 0) "at"))
def sp_Source_spot (K : PySem.W.Frag) : Sp := fun vs H Q _ => ∃ (a : Addr) (b : List Bool) (t : Nat) (f : Bool), vs = [.ref a] ∧ SrcB K H a b t f ∧ RetV (.int (t : Int)) H Q
theorem len_Source_spot {K : PySem.W.Frag} {vs H Q E} (h : sp_Source_spot K vs H Q E) : vs.length = 1 := by
  obtain ⟨a, b, t, f, rfl, _⟩ := h
  rfl
theorem ev_spot {K : PySem.W.Frag} {σ : L2.St} {H : Hp} {o : TE} {a : Addr} {b : List Bool} {t : Nat} {f : Bool} (h : Ev o σ H (.ref a)) (s : SrcB K H a b t f) : Ev (tMeth (He.ga K "Source") "spot" (sp_Source_spot K) [] E0 o tNil) σ H (.int (t : Int)) := by
  obtain ⟨dx, ha⟩ := s
  exact ev_meth h ha rfl ea_nil fun H1 e Q q E => ⟨a, b, t, f, rfl, ⟨dx, e _ _ ha⟩, q⟩
theorem rd_Source_spot {K : PySem.W.Frag} (vs : List V) (H : Hp) (Q : VK) (E : XK) (h : sp_Source_spot K vs H Q E) : t_Source_spot K { nx := fun _ H' => Q .non H', rt := Q } (start N_Source_spot vs) H := by
  obtain ⟨a, b, t, f, rfl, ⟨dx, ha⟩, q⟩ := h
  exact s_ret (ev_fldC (ev_var rfl) ha rfl) q
def N_read_count : List Str := ["signs", "at", "source", "number"]
def t_read_count (K : PySem.W.Frag) (E : XK) : TS :=
  (tSeq (tAsg (tMake (He.ga K "Source") (sp_Source___init__ K) [] E0 (tCons (tVar 0) (tCons (tVar 1) (tCons (tC (.bl false)) tNil)))) (gName 2))
    (tSeq (tAsg (tCall (sp_take_count K) [] E (tCons (tVar 2) (tCons (tC (.str (Kr.T [48]))) tNil))) (gName 3))
    (tRet (tTup (tCons (tVar 3) (tCons (tMeth (He.ga K "Source") "spot" (sp_Source_spot K) [] E0 (tVar 2) tNil) tNil))))))
def sp_read_count (K : PySem.W.Frag) : Sp := fun vs H Q E => ∃ (b : List Bool) (t : Nat), vs = [.str (T (R b)), .int (t : Int)] ∧ b.length ≤ 1000000 ∧ FinR K H Q E (tcount b false false false t)
theorem len_read_count {K : PySem.W.Frag} {vs H Q E} (h : sp_read_count K vs H Q E) : vs.length = 2 := by
  obtain ⟨b, t, rfl, _⟩ := h
  rfl
theorem rd_read_count {K : PySem.W.Frag} (vs : List V) (H : Hp) (Q : VK) (E : XK) (h : sp_read_count K vs H Q E) : t_read_count K E { nx := fun _ H' => Q .non H', rt := Q } (start N_read_count vs) H := by
  obtain ⟨b, t, rfl, hb, q⟩ := h
  refine q_source (b := b) (t := t) (f := false) (ea_cons (ev_var rfl) (ea_cons (ev_var rfl) (ea_cons ev_c ea_nil))) fun x H1 e1 hx s1 => ?_
  refine q_asgF (vs := [.ref x, .str (T [bc false])]) (ea_cons (ev_var rfl) (ea_cons ev_c ea_nil)) fun H2 e2 => ⟨.ref x, x, b, false, false, false, t, rfl, ⟨⟨0, Nat.zero_le _, .base⟩, s1.mono e2, hb⟩, fin_new q (e1.trans e2) hx (s1.mono e2).some fun v t' H3 _ e3 s3 q3 => ?_⟩
  exact s_retU (eu_tup (ea_cons (ev_var rfl) (ea_cons (ev_spot (ev_var rfl) s3) ea_nil)) (by simp)) q3
def N_count_at : List Str := ["page", "at"]
def t_count_at (K : PySem.W.Frag) (E : XK) : TS :=
  (tTryRaise K (.ref (He.ga K "Short")) (fun W => (tRet (tCallS (sp_read_count K) (WE W) (tCons (tVar 0) (tCons (tVar 1) tNil))))) (.ref (He.ga K "BadPage")) E)
def sp_count_at (K : PySem.W.Frag) : Sp := fun vs H Q E => ∃ (b : List Bool) (t : Nat), vs = [.str (T (R b)), .int (t : Int)] ∧ b.length ≤ 1000000 ∧ match tcount b false false false t with
  | .ok v t' => RetU [.int v, .int (t' : Int)] H Q
  | .bad _ _ => RaiseX (.ref (He.ga K "BadPage")) H E
theorem len_count_at {K : PySem.W.Frag} {vs H Q E} (h : sp_count_at K vs H Q E) : vs.length = 2 := by
  obtain ⟨b, t, rfl, _⟩ := h
  rfl
theorem rd_count_at {K : PySem.W.Frag} (kx : Kx K) (vs : List V) (H : Hp) (Q : VK) (E : XK) (h : sp_count_at K vs H Q E) : t_count_at K E { nx := fun _ H' => Q .non H', rt := Q } (start N_count_at vs) H := by
  obtain ⟨b, t, rfl, hb, q⟩ := h
  have sh : ("Short" : Str) ∈ exL := by decide +kernel
  refine s_tryR ?_
  refine s_retX (vs := [.str (T (R b)), .int (t : Int)]) (ea_cons (ev_var rfl) (ea_cons (ev_var rfl) ea_nil)) fun H1 e1 => ⟨b, t, rfl, hb, ?_⟩
  cases e : tcount b false false false t with
  | ok v t' =>
    rw [e] at q
    exact RetU.mono q e1
  | bad c p =>
    rw [e] at q
    obtain ⟨rfl, rfl⟩ := tcount_bad e
    exact fun d H2 hd e2 h2 => ⟨true, by rw [kx.exm sh sh]; rfl, fun _ a ha => q H2 (e1.trans e2), fun z => nomatch z⟩
def N_shared_signs : List Str := ["one", "other", "many"]
def t_shared_signs (K : PySem.W.Frag) : TS :=
  (tSeq (tAsg (tC (.int 0)) (gName 2))
    (tSeq (tWhile (tAnd (tTest (tOp rLtI (tVar 2) (tCB (rLenK K) (tCons (tVar 0) tNil)))) (tAnd (tTest (tOp rLtI (tVar 2) (tCB (rLenK K) (tCons (tVar 1) tNil)))) (tTest (tOp rEq (tOp rIxS (tVar 0) (tVar 2)) (tOp rIxS (tVar 1) (tVar 2))))))
    (tAug 2 (tC (.int 1)) (ipI fun i j => i + j)))
    (tRet (tVar 2))))
def sp_shared_signs (_ : PySem.W.Frag) : Sp := fun vs H Q _ => ∃ a b : List Bool, vs = [.str (T (R a)), .str (T (R b))] ∧ a.length ≤ 1000000 ∧ b.length ≤ 1000000 ∧ RetV (.int (com a b : Nat)) H Q
theorem len_shared_signs {K : PySem.W.Frag} {vs H Q E} (h : sp_shared_signs K vs H Q E) : vs.length = 2 := by
  obtain ⟨a, b, rfl, _⟩ := h
  rfl
theorem u_shared_signs {K : PySem.W.Frag} {H : Hp} {a b : List Bool} (h : a.length ≤ 1000000) (h2 : b.length ≤ 1000000) : SpV (sp_shared_signs K) [.str (T (R a)), .str (T (R b))] H (.int (com a b : Nat)) := fun H1 e Q q E => ⟨a, b, rfl, h, h2, q⟩
theorem rd_shared_signs {K : PySem.W.Frag} (vs : List V) (H : Hp) (Q : VK) (E : XK) (h : sp_shared_signs K vs H Q E) : t_shared_signs K { nx := fun _ H' => Q .non H', rt := Q } (start N_shared_signs vs) H := by
  obtain ⟨a, b, rfl, ha, hb, q⟩ := h
  have la : ∀ (σ : L2.St) (H : Hp), σ[0]? = some (some (.str (T (R a)))) → Ev (tCB (rLenK K) (tCons (tVar 0) tNil)) σ H (.int (a.length : Int)) := fun σ H h => by
    rw [← R_len a]; exact ev_lenT (ev_var h) (by rw [R_len]; omega)
  have lb : ∀ (σ : L2.St) (H : Hp), σ[1]? = some (some (.str (T (R b)))) → Ev (tCB (rLenK K) (tCons (tVar 1) tNil)) σ H (.int (b.length : Int)) := fun σ H h => by
    rw [← R_len b]; exact ev_lenT (ev_var h) (by rw [R_len]; omega)
  refine q_asg ev_c fun H1 e1 => ?_
  refine q_while (fun m σ' H' => Ex H H' ∧ ∃ i : Nat, m = a.length - i ∧ i ≤ a.length ∧ σ' = [some (.str (T (R a))), some (.str (T (R b))), some (.int (i : Int))] ∧ com a b = i + com (a.drop i) (b.drop i)) a.length ⟨e1, 0, rfl, Nat.zero_le _, rfl, (Nat.zero_add _).symm⟩ ?_
  rintro m σ' H' ⟨eH, i, rfl, hi, rfl, hc⟩
  by_cases hh : i < a.length ∧ i < b.length
  · have h1 := hh.1
    have h2 := hh.2
    have e3 := com_at h1 h2
    refine ⟨decide (a[i] = b[i]), ?_, fun hb2 H2 e2 => ?_, fun hb2 H2 e2 => ?_⟩
    · refine et_is (et_and (a := true) (et_test (ev_is (ev_ltI (ev_var rfl) (la _ _ rfl)) (by simpa using h1))) fun _ => et_and (a := true) (et_test (ev_is (ev_ltI (ev_var rfl) (lb _ _ rfl)) (by simpa using h2))) fun _ =>
        et_test (ev_eqT (ev_ixT (ev_var rfl) (ev_var rfl) (by rw [R_len]; omega) (R_at h1)) (ev_ixT (ev_var rfl) (ev_var rfl) (by rw [R_len]; omega) (R_at h2)))) ?_
      cases a[i] <;> cases b[i] <;> rfl
    · have hab : a[i] = b[i] := of_decide_eq_true hb2
      rw [if_pos hab] at e3
      refine ⟨_, fun σ2 H2 h => h, s_aug rfl ev_c fun H3 e4 => ⟨a.length - (i + 1), by omega, (eH.trans e2).trans e4, i + 1, rfl, h1, rfl, by omega⟩⟩
    · have hab : ¬ a[i] = b[i] := of_decide_eq_false hb2
      rw [if_neg hab] at e3
      refine s_ret (ev_var rfl) fun H3 e4 => ?_
      have : com a b = i := by omega
      rw [this] at q
      exact q H3 ((eH.trans e2).trans e4)
  · have e3 := com_end hh
    refine ⟨false, ?_, (fun hb2 => nomatch hb2), fun hb2 H2 e2 => ?_⟩
    · by_cases h1 : i < a.length
      · exact et_and (a := true) (b := false) (et_test (ev_is (ev_ltI (ev_var rfl) (la _ _ rfl)) (by simpa using h1))) fun _ => et_and (a := false) (b := false) (et_test (ev_is (ev_ltI (ev_var rfl) (lb _ _ rfl)) (by simpa using (show ¬ i < b.length by omega)))) fun z => nomatch z
      · exact et_and (a := false) (b := false) (et_test (ev_is (ev_ltI (ev_var rfl) (la _ _ rfl)) (by simpa using h1))) fun z => nomatch z
    · refine s_ret (ev_var rfl) fun H3 e4 => ?_
      have : com a b = i := by omega
      rw [this] at q
      exact q H3 ((eH.trans e2).trans e4)
def N_entry_at : List Str := ["page", "at", "last", "common", "more", "row"]
def t_entry_at (K : PySem.W.Frag) (E : XK) : TS :=
  (tSeq (tAsg (tCall (sp_count_at K) [] E (tCons (tVar 0) (tCons (tVar 1) tNil))) (gTup K 2 (gCons (gName 3) (gCons (gName 1) gNil))))
    (tSeq (tAsg (tCall (sp_count_at K) [] E (tCons (tVar 0) (tCons (tVar 1) tNil))) (gTup K 2 (gCons (gName 4) (gCons (gName 1) gNil))))
    (tSeq (tIfS (tOr (tTest (tOp rGtI (tVar 3) (tCB (rLenK K) (tCons (tVar 2) tNil)))) (tTest (tOp rGtI (tVar 4) (tOp rSubI (tCB (rLenK K) (tCons (tVar 0) tNil)) (tVar 1))))) (tRaiseX (.ref (He.ga K "BadPage")) E) tNext)
    (tSeq (tAsg (tOp rAddT (tSl rSlS (tVar 2) tNoPart (tPart (tVar 3))) (tSl rSlS (tVar 0) (tPart (tVar 1)) (tPart (tOp rAddI (tVar 1) (tVar 4))))) (gName 5))
    (tSeq (tIfS (tTest (tOp rNe (tCall (sp_shared_signs K) [] E0 (tCons (tVar 2) (tCons (tVar 5) tNil))) (tVar 3))) (tRaiseX (.ref (He.ga K "BadPage")) E) tNext)
    (tRet (tTup (tCons (tVar 5) (tCons (tOp rAddI (tVar 1) (tVar 4)) tNil)))))))))
def sp_entry_at (K : PySem.W.Frag) : Sp := fun vs H Q E => ∃ (b last : List Bool) (t : Nat), vs = [.str (T (R b)), .int (t : Int), .str (T (R last))] ∧ b.length ≤ 100000 ∧ last.length ≤ 200000 ∧ t ≤ b.length ∧ match entryAt b t last with
  | some (row, t') => RetU [.str (T (R row)), .int (t' : Int)] H Q
  | none => RaiseX (.ref (He.ga K "BadPage")) H E
theorem len_entry_at {K : PySem.W.Frag} {vs H Q E} (h : sp_entry_at K vs H Q E) : vs.length = 3 := by
  obtain ⟨b, last, t, rfl, _⟩ := h
  rfl
theorem rd_entry_at {K : PySem.W.Frag} (vs : List V) (H : Hp) (Q : VK) (E : XK) (h : sp_entry_at K vs H Q E) : t_entry_at K E { nx := fun _ H' => Q .non H', rt := Q } (start N_entry_at vs) H := by
  obtain ⟨b, last, t, rfl, hb, hl, ht, q⟩ := h
  unfold entryAt at q
  refine q_tupF (vs := [.str (T (R b)), .int (t : Int)]) (ea_cons (ev_var rfl) (ea_cons (ev_var rfl) ea_nil)) fun H1 e1 Q2 hk => ⟨b, t, rfl, by omega, ?_⟩
  cases e : tcount b false false false t with
  | bad c p =>
    rw [e] at q
    exact fun H2 e2 => q H2 (e1.trans e2)
  | ok c t1 =>
    rw [e] at q
    dsimp only at q ⊢
    obtain ⟨hc0, _, ht1⟩ := tcount_ok e
    have ht1 := ht1 ht
    refine hk _ _ fun H2 e2 => ?_
    refine q_tupF (vs := [.str (T (R b)), .int (t1 : Int)]) (ea_cons (ev_var rfl) (ea_cons (ev_var rfl) ea_nil)) fun H3 e3 Q3 hk3 => ⟨b, t1, rfl, by omega, ?_⟩
    have e03 := (e1.trans e2).trans e3
    cases e' : tcount b false false false t1 with
    | bad c' p =>
      rw [e'] at q
      exact fun H4 e4 => q H4 (e03.trans e4)
    | ok m t2 =>
      rw [e'] at q
      dsimp only at q ⊢
      obtain ⟨hm0, _, ht2⟩ := tcount_ok e'
      have ht2 := ht2 ht1
      refine hk3 _ _ fun H4 e4 => ?_
      have e04 := e03.trans e4
      have test : EvT (tOr (tTest (tOp rGtI (tVar 3) (tCB (rLenK K) (tCons (tVar 2) tNil)))) (tTest (tOp rGtI (tVar 4) (tOp rSubI (tCB (rLenK K) (tCons (tVar 0) tNil)) (tVar 1))))) [some (.str (T (R b))), some (.int (t2 : Int)), some (.str (T (R last))), some (.int c), some (.int m), none] H4
          (decide ((last.length : Int) < c) || decide ((b.length : Int) - (t2 : Int) < m)) :=
        et_or (et_test (ev_gtI (ev_var rfl) (ev_lenR (ev_var rfl) (by omega)))) fun _ => et_test (ev_gtI (ev_var rfl) (ev_subI (ev_lenR (ev_var rfl) (by omega)) (ev_var rfl)))
      by_cases hbig : (last.length : Int) < c ∨ (b.length : Int) - (t2 : Int) < m
      · rw [if_pos hbig] at q
        refine q_when (b := true) (et_is test (by rw [← Bool.decide_or, decide_eq_true hbig])) (fun _ H5 e5 => q H5 (e04.trans e5)) (fun hf => nomatch hf)
      · rw [if_neg hbig] at q
        refine q_when (b := false) (et_is test (by rw [← Bool.decide_or, decide_eq_false hbig])) (fun hf => nomatch hf) (fun _ H5 e5 => ?_)
        obtain ⟨cn, hcn⟩ := Int.eq_ofNat_of_zero_le hc0
        obtain ⟨mn, hmn⟩ := Int.eq_ofNat_of_zero_le hm0
        subst hcn hmn
        rw [Int.toNat_natCast, Int.toNat_natCast] at q
        have l1 : (last.take cn).length ≤ 200000 := by rw [List.length_take]; omega
        have l2 : ((b.drop t2).take mn).length ≤ 100000 := by rw [List.length_take, List.length_drop]; omega
        refine q_asg (v := .str (T (R (last.take cn ++ (b.drop t2).take mn)))) (ev_addR (ev_is (ev_slT (ev_var rfl) (by rw [R_len]; omega) eo_none (eo_some (ev_var rfl))) (by rw [cutL_pre, R_take])) (ev_is (ev_slT (ev_var rfl) (by rw [R_len]; omega) (eo_some (ev_var rfl)) (eo_some (ev_is (ev_addI (ev_var rfl) (ev_var rfl)) (by rw [← Int.natCast_add])))) (by rw [R_mid, Nat.add_sub_cancel_left])) (by omega)) fun H6 e6 => ?_
        have l3 : (last.take cn ++ (b.drop t2).take mn).length ≤ 300000 := by rw [List.length_append]; omega
        generalize last.take cn ++ (b.drop t2).take mn = row at l3 q ⊢
        have t2 : EvT (tTest (tOp rNe (tCall (sp_shared_signs K) [] E0 (tCons (tVar 2) (tCons (tVar 5) tNil))) (tVar 3))) [some (.str (T (R b))), some (.int (t2 : Int)), some (.str (T (R last))), some (.int (cn : Int)), some (.int (mn : Int)), some (.str (T (R row)))] H6 (!decide ((com last row : Int) = (cn : Int))) :=
          et_test (ev_neI (ev_call (ea_cons (ev_var rfl) (ea_cons (ev_var rfl) ea_nil)) (u_shared_signs (by omega) (by omega))) (ev_var rfl))
        have e06 := (e04.trans e5).trans e6
        by_cases hcm : com last row = cn
        · rw [if_neg (by simpa using hcm)] at q
          refine q_when (b := false) (et_is t2 (by simp [hcm])) (fun hf => nomatch hf) (fun _ H7 e7 => ?_)
          exact s_retU (eu_tup (ea_cons (ev_var rfl) (ea_cons (ev_is (ev_addI (ev_var rfl) (ev_var rfl)) (by rw [← Int.natCast_add])) ea_nil)) (by simp)) (RetU.mono q (e06.trans e7))
        · rw [if_pos hcm] at q
          refine q_when (b := true) (et_is t2 (by simp; omega)) (fun _ H7 e7 => q H7 (e06.trans e7)) (fun hf => nomatch hf)
def N_rows_of : List Str := ["page", "many", "at", "rows", "last", "row"]
def t_rows_of (K : PySem.W.Frag) (E : XK) : TS :=
  (tSeq (tAsg (tCall (sp_count_at K) [] E (tCons (tVar 0) (tCons (tC (.int 0)) tNil))) (gTup K 2 (gCons (gName 1) (gCons (gName 2) gNil))))
    (tSeq (tAsg (tLst tNil) (gName 3))
    (tSeq (tAsg (tC (.str (Kr.T []))) (gName 4))
    (tSeq (tWhile (tTest (tOp rLtI (tCB (rLenK K) (tCons (tVar 3) tNil)) (tVar 1)))
    (tSeq (tAsg (tCall (sp_entry_at K) [] E (tCons (tVar 0) (tCons (tVar 2) (tCons (tVar 4) tNil)))) (gTup K 2 (gCons (gName 5) (gCons (gName 2) gNil))))
    (tSeq (tIfS (tAnd (tTest (tOp rGtI (tCB (rLenK K) (tCons (tVar 3) tNil)) (tC (.int 0)))) (tNot (tTest (tOp rLtT (tVar 4) (tVar 5))))) (tRaiseX (.ref (He.ga K "BadPage")) E) tNext)
    (tSeq (tDrop (tBM K "list" rAppend (tVar 3) (tCons (tVar 5) tNil)))
    (tAsg (tVar 5) (gName 4))))))
    (tSeq (tIfS (tTest (tOp rLtI (tVar 2) (tCB (rLenK K) (tCons (tVar 0) tNil)))) (tRaiseX (.ref (He.ga K "BadPage")) E) tNext)
    (tRet (tVar 3)))))))
def sp_rows_of (K : PySem.W.Frag) : Sp := fun vs H Q E => ∃ b : List Bool, vs = [.str (T (R b))] ∧ b.length ≤ 90000 ∧ match rowsOf b with
  | some rs => RetL (RL rs) H Q
  | none => RaiseX (.ref (He.ga K "BadPage")) H E
theorem len_rows_of {K : PySem.W.Frag} {vs H Q E} (h : sp_rows_of K vs H Q E) : vs.length = 1 := by
  obtain ⟨b, rfl, _⟩ := h
  rfl
theorem u_rows_of {K : PySem.W.Frag} {H : Hp} {b : List Bool} {rs : List (List Bool)} (hl : b.length ≤ 90000) (h : rowsOf b = some rs) : SpL (sp_rows_of K) [.str (T (R b))] H (RL rs) := fun H1 e Q q E => ⟨b, rfl, hl, by rw [h]; exact q⟩
theorem rd_rows_of {K : PySem.W.Frag} (vs : List V) (H : Hp) (Q : VK) (E : XK) (h : sp_rows_of K vs H Q E) : t_rows_of K E { nx := fun _ H' => Q .non H', rt := Q } (start N_rows_of vs) H := by
  obtain ⟨b, rfl, hb, q⟩ := h
  unfold rowsOf at q
  refine q_tupF (vs := [.str (T (R b)), .int ((0 : Nat) : Int)]) (ea_cons (ev_var rfl) (ea_cons ev_c ea_nil)) fun H1 e1 Q2 hk => ⟨b, 0, rfl, by omega, ?_⟩
  cases e : tcount b false false false 0 with
  | bad c p =>
    rw [e] at q
    exact fun H2 e2 => q H2 (e1.trans e2)
  | ok many t0 =>
    rw [e] at q
    dsimp only at q ⊢
    obtain ⟨hm0, _, ht0⟩ := tcount_ok e
    have ht0 := ht0 (Nat.zero_le _)
    obtain ⟨mn, rfl⟩ := Int.eq_ofNat_of_zero_le hm0
    rw [Int.toNat_natCast] at q
    refine hk _ _ fun H2 e2 => ?_
    refine q_asgL (el_lst ea_nil (by simp)) fun p H3 hp e3 h3 => ?_
    refine q_asg (v := .str (T (R []))) ev_c fun H4 e4 => ?_
    have hpH : H p = none := fresh_back (e1.trans e2) hp
    refine q_while (fun w σ' H' => ∃ (dn : List (List Bool)) (l : Option (List Bool)) (t f : Nat) (z : Option V), w = b.length - t ∧ Ex H H' ∧ H' p = some (.lst (RL dn)) ∧ σ' = [some (.str (T (R b))), some (.int (mn : Int)), some (.int (t : Int)), some (.ref p), some (.str (T (R (l.getD [])))), z] ∧
      t ≤ b.length ∧ b.length - t < f ∧ dn.length ≤ mn ∧ (l = none ↔ dn = []) ∧ dn.length ≤ t ∧ (l.getD []).length ≤ t ∧
      (rowsGo b (b.length + 1) none mn t0 = (rowsGo b f l (mn - dn.length) t).map fun p => (dn ++ p.1, p.2))) (b.length - t0)
      ⟨[], none, t0, b.length + 1, none, rfl, ((e1.trans e2).trans e3).trans e4, e4 _ _ h3, rfl, ht0, by omega, Nat.zero_le _, ⟨fun _ => rfl, fun _ => rfl⟩, Nat.zero_le _, Nat.zero_le _, by
        show rowsGo b (b.length + 1) none mn t0 = (rowsGo b (b.length + 1) none mn t0).map _
        cases rowsGo b (b.length + 1) none mn t0 with
        | none => rfl
        | some z => rfl⟩ ?_
    rintro w σ' H' ⟨dn, l, t, f, z, rfl, eH, hdn, rfl, ht, hf, hlen, hl0, hdt, hlt, hgo⟩
    have test : EvT (tTest (tOp rLtI (tCB (rLenK K) (tCons (tVar 3) tNil)) (tVar 1))) [some (.str (T (R b))), some (.int (mn : Int)), some (.int (t : Int)), some (.ref p), some (.str (T (R (l.getD [])))), z] H' (decide ((dn.length : Int) < (mn : Int))) :=
      et_test (ev_ltI (ev_is (ev_lenS (ev_var rfl) (.inl (sq_of hdn))) (by rw [RL_len])) (ev_var rfl))
    refine ⟨_, test, fun hb2 H5 e5 => ?_, fun hb2 H5 e5 => ?_⟩
    · have hlt2 : dn.length < mn := by have := of_decide_eq_true hb2; omega
      obtain ⟨f', rfl⟩ : ∃ f', f = f' + 1 := ⟨f - 1, by omega⟩
      have ek : mn - dn.length = (mn - (dn.length + 1)) + 1 := by omega
      rw [ek, rowsGo] at hgo
      refine ⟨_, fun _ _ h => h, q_tupF (vs := [.str (T (R b)), .int (t : Int), .str (T (R (l.getD [])))]) (ea_cons (ev_var rfl) (ea_cons (ev_var rfl) (ea_cons (ev_var rfl) ea_nil))) fun H6 e6 Q3 hk3 => ⟨b, l.getD [], t, rfl, by omega, by omega, ht, ?_⟩⟩
      have e06 := (eH.trans e5).trans e6
      cases he : entryAt b t (l.getD []) with
      | none =>
        rw [he] at hgo
        have hgo2 : rowsGo b (b.length + 1) none mn t0 = none := hgo
        rw [hgo2] at q
        exact fun H7 e7 => q H7 (e06.trans e7)
      | some rt =>
        obtain ⟨row, t'⟩ := rt
        rw [he] at hgo
        dsimp only at hgo ⊢
        obtain ⟨g1, g2, g3⟩ := entryAt_le he ht
        refine hk3 _ _ fun H7 e7 => ?_
        have e07 := e06.trans e7
        have hdn7 := (e5.trans (e6.trans e7)) _ _ hdn
        have hbad : (decide (0 < (dn.length : Int)) && !decide (R (l.getD []) < R row)) = true ↔ ∃ x, l = some x ∧ ¬ R x < R row := by
          rw [Bool.and_eq_true, decide_eq_true_eq, Bool.not_eq_true', decide_eq_false_iff_not]
          constructor
          · rintro ⟨h0, h1⟩
            cases l with
            | none => rw [hl0.mp rfl] at h0; simp at h0
            | some x => exact ⟨x, rfl, h1⟩
          · rintro ⟨x, rfl, h1⟩
            refine ⟨?_, h1⟩
            have : dn ≠ [] := fun z => by have := hl0.mpr z; cases this
            have := List.length_pos_iff.mpr this
            omega
        refine q_when (b := decide (0 < (dn.length : Int)) && !decide (R (l.getD []) < R row)) (et_and (et_test (ev_gtI (ev_is (ev_lenS (ev_var rfl) (.inl (sq_of hdn7))) (by rw [RL_len])) ev_c)) fun _ => et_not (et_test (ev_ltT (ev_var rfl) (ev_var rfl)))) (fun hb3 H8 e8 => ?_) (fun hb3 H8 e8 => ?_)
        · rw [if_pos (hbad.mp hb3)] at hgo
          have hgo2 : rowsGo b (b.length + 1) none mn t0 = none := hgo
          rw [hgo2] at q
          exact q H8 (e07.trans e8)
        · have hok : ¬ ∃ x, l = some x ∧ ¬ R x < R row := fun hn => by
            have := hbad.mpr hn
            rw [hb3] at this
            cases this
          rw [if_neg hok] at hgo
          refine q_app (e8 _ _ hdn7) (ev_var rfl) (ev_var rfl) (by rw [RL_len]; omega) fun H9 e9 => ?_
          refine s_asg (ev_var rfl) fun H10 e10 => ⟨b.length - t', by omega, dn ++ [row], some row, t', f', _, rfl, (((e07.trans e8).trans e9).mut hpH).trans e10, e10 _ _ (by rw [upd_same, RL_app]; rfl), rfl, g2, by omega, by rw [List.length_append]; simp; omega, ⟨(fun z => nomatch z), fun z => by simp at z⟩, by rw [List.length_append]; simp; omega, by show row.length ≤ t'; omega, ?_⟩
          rw [hgo, List.length_append]
          show (Option.map _ (rowsGo b f' (some row) (mn - (dn.length + 1)) t')).map _ = (rowsGo b f' (some row) (mn - (dn.length + 1)) t').map _
          cases rowsGo b f' (some row) (mn - (dn.length + 1)) t' with
          | none => rfl
          | some z => simp
    · have hge : dn.length = mn := by have := of_decide_eq_false hb2; omega
      rw [hge, Nat.sub_self] at hgo
      have hgo2 : rowsGo b (b.length + 1) none mn t0 = some (dn, t) := by
        rw [hgo]
        cases f <;> simp [rowsGo]
      rw [hgo2] at q
      dsimp only at q
      have t2 : EvT (tTest (tOp rLtI (tVar 2) (tCB (rLenK K) (tCons (tVar 0) tNil)))) [some (.str (T (R b))), some (.int (mn : Int)), some (.int (t : Int)), some (.ref p), some (.str (T (R (l.getD [])))), z] H5 (decide ((t : Int) < (b.length : Int))) := et_test (ev_ltI (ev_var rfl) (ev_lenR (ev_var rfl) (by omega)))
      by_cases htl : t < b.length
      · rw [if_pos htl] at q
        exact q_when (b := true) (et_is t2 (decide_eq_true (by omega))) (fun _ H6 e6 => q H6 ((eH.trans e5).trans e6)) (fun hf => nomatch hf)
      · rw [if_neg htl] at q
        refine q_when (b := false) (et_is t2 (decide_eq_false (by omega))) (fun hf => nomatch hf) (fun _ H6 e6 => ?_)
        exact s_ret (ev_var rfl) fun H7 e7 => q p H7 hpH (((eH.trans e5).trans e6).trans e7) ((e5.trans (e6.trans e7)) _ _ hdn)
def N_place_in : List Str := ["page", "row", "rows", "one"]
def t_place_in (K : PySem.W.Frag) (E : XK) : TS :=
  (tSeq (tAsg (tCall (sp_rows_of K) [] E (tCons (tVar 0) tNil)) (gName 2))
    (tRet (tTup (tCons (tCB (rLenK K) (tCons (tLc (iList K (tVar 2)) (gName 3) (tTest (tOp rLtT (tVar 3) (tVar 1))) (tVar 3) [3]) tNil)) (tCons (tOp (rIn K false) (tVar 1) (tVar 2)) tNil)))))
def sp_place_in (K : PySem.W.Frag) : Sp := fun vs H Q E => ∃ b row : List Bool, vs = [.str (T (R b)), .str (T (R row))] ∧ b.length ≤ 90000 ∧ match rowsOf b with
  | some rs => rs.length ≤ 40000 ∧ RetU [.int ((before rs row).length : Nat), .bl (decide (row ∈ rs))] H Q
  | none => RaiseX (.ref (He.ga K "BadPage")) H E
theorem len_place_in {K : PySem.W.Frag} {vs H Q E} (h : sp_place_in K vs H Q E) : vs.length = 2 := by
  obtain ⟨b, row, rfl, _⟩ := h
  rfl
theorem u_place_in {K : PySem.W.Frag} {H : Hp} {b row : List Bool} {rs : List (List Bool)} (hl : b.length ≤ 90000) (h : rowsOf b = some rs) (hn : rs.length ≤ 40000) : SpU (sp_place_in K) [.str (T (R b)), .str (T (R row))] H [.int ((before rs row).length : Nat), .bl (decide (row ∈ rs))] := fun H1 e Q q E => ⟨b, row, rfl, hl, by rw [h]; exact ⟨hn, q⟩⟩
theorem rd_place_in {K : PySem.W.Frag} (vs : List V) (H : Hp) (Q : VK) (E : XK) (h : sp_place_in K vs H Q E) : t_place_in K E { nx := fun _ H' => Q .non H', rt := Q } (start N_place_in vs) H := by
  obtain ⟨b, row, rfl, hb, q⟩ := h
  refine q_asgF (vs := [.str (T (R b))]) (ea_cons (ev_var rfl) ea_nil) fun H1 e1 => ⟨b, rfl, hb, ?_⟩
  cases hr : rowsOf b with
  | none =>
    rw [hr] at q
    exact fun H2 e2 => q H2 (e1.trans e2)
  | some rs =>
    rw [hr] at q
    obtain ⟨hn, q⟩ := q
    intro p H2 hp e2 h2
    refine s_retU (eu_tup (ea_cons (ev_is (ev_lenNL (el_filt (fun r => decide (R r < R row)) (ev_var rfl) (sq_of h2) hn (fun x => rfl) (fun x => rfl) fun r hr H3 e3 => et_test (ev_ltT (ev_var rfl) (ev_var rfl)))) (by rw [RL_len]; rfl)) (ea_cons (ev_inRL (ev_var rfl) (ev_var rfl) (sq_of h2)) ea_nil)) (by simp)) (RetU.mono q (e1.trans e2))
def N_digits_of : List Str := ["number", "many", "k"]
def t_digits_of (K : PySem.W.Frag) : TS :=
  (tRet (tBM K "str" (rJoin K) (tC (.str (Kr.T []))) (tCons (tLc (iRng1 (tCons (tVar 1) tNil)) (gName 2) tYes (tOp rIxS (tC (.str (Kr.T [48, 49]))) (tOp rAndI (tOp rShrI (tVar 0) (tOp rSubI (tOp rSubI (tVar 1) (tC (.int 1))) (tVar 2))) (tC (.int 1)))) [2]) tNil)))
def sp_digits_of (_ : PySem.W.Frag) : Sp := fun vs H Q _ => ∃ (x : Int) (k : Nat), vs = [.int x, .int k] ∧ k ≤ 30000 ∧ RetV (.str (T (R (digs x k)))) H Q
theorem len_digits_of {K : PySem.W.Frag} {vs H Q E} (h : sp_digits_of K vs H Q E) : vs.length = 2 := by
  obtain ⟨x, k, rfl, _⟩ := h
  rfl
theorem u_digits_of {K : PySem.W.Frag} {H : Hp} {x : Int} {k : Nat} (hk : k ≤ 30000) : SpV (sp_digits_of K) [.int x, .int k] H (.str (T (R (digs x k)))) := fun H1 e Q q E => ⟨x, k, rfl, hk, q⟩
theorem rd_digits_of {K : PySem.W.Frag} (vs : List V) (H : Hp) (Q : VK) (E : XK) (h : sp_digits_of K vs H Q E) : t_digits_of K { nx := fun _ H' => Q .non H', rt := Q } (start N_digits_of vs) H := by
  obtain ⟨x, k, rfl, hk, q⟩ := h
  refine s_ret (v := .str (T (R (digs x k)))) ?_ fun H1 e1 => q H1 e1
  rw [← R_flat (digs x k)]
  refine ev_join ?_ (by rw [R_flat, R_len, digs_len]; omega) (by rw [List.length_map, digs_len]; omega)
  have e : ((digs x k).map fun b => [bc b]).map (fun p => V.str (T p)) = (List.range ((k : Int)).toNat).map fun i => V.str (T [bc (decide (x / 2 ^ (k - 1 - i) % 2 = 1))]) := by
    rw [digs_map, List.map_map, List.map_map, Int.toNat_natCast]
    rfl
  rw [e]
  refine el_mapR (n := k) _ (ea_cons (ev_var rfl) ea_nil) (by omega) (fun x => rfl) fun i H1 e1 hi => ?_
  have hb := bit_at x (k - 1 - i)
  refine ev_ixT ev_c (ev_andI (ev_shrI (ev_var rfl) (j := ((k - 1 - i : Nat) : Int)) (ev_is (ev_subI (ev_subI (ev_var rfl) ev_c) (ev_var rfl)) (by congr 1; omega)) (by omega)) ev_c) (by decide) hb
def N_count_row : List Str := ["n", "more", "size", "ones", "head"]
def t_count_row (K : PySem.W.Frag) (E : XK) : TS :=
  (tSeq (tAsg (tOp rAddI (tVar 0) (tC (.int 1))) (gName 1))
    (tSeq (tIfS (tOr (tTest (tOp rLtI (tVar 0) (tC (.int 0)))) (tTest (tOp rGtI (tBits (tVar 1)) (tC (.int 255))))) (tRaiseX (.ref (He.ga K "NoFit")) E) tNext)
    (tSeq (tAsg (tBits (tVar 1)) (gName 2))
    (tSeq (tAsg (tOp rSubI (tBits (tVar 2)) (tC (.int 1))) (gName 3))
    (tSeq (tAsg (tOp rMulT (tC (.str (Kr.T [49]))) (tVar 3)) (gName 4))
    (tSeq (tIfS (tTest (tOp rLtI (tVar 3) (tC (.int 7)))) (tAsg (tOp rAddT (tVar 4) (tC (.str (Kr.T [48])))) (gName 4)) tNext)
    (tRet (tOp rAddT (tOp rAddT (tVar 4) (tCall (sp_digits_of K) [] E0 (tCons (tVar 2) (tCons (tVar 3) tNil)))) (tCall (sp_digits_of K) [] E0 (tCons (tVar 1) (tCons (tOp rSubI (tVar 2) (tC (.int 1))) tNil)))))))))))
def sp_count_row (K : PySem.W.Frag) : Sp := fun vs H Q E => ∃ n : Int, vs = [.int n] ∧ (countOk n → RetV (.str (T (R (countRow n.toNat)))) H Q) ∧ (¬ countOk n → RaiseX (.ref (He.ga K "NoFit")) H E)
theorem len_count_row {K : PySem.W.Frag} {vs H Q E} (h : sp_count_row K vs H Q E) : vs.length = 1 := by
  obtain ⟨n, rfl, _⟩ := h
  rfl
theorem u_count_row {K : PySem.W.Frag} {H : Hp} {n : Int} (h : countOk n) : SpV (sp_count_row K) [.int n] H (.str (T (R (countRow n.toNat)))) := fun H1 e Q q E => ⟨n, rfl, fun _ => q, fun z => absurd h z⟩
theorem rd_count_row {K : PySem.W.Frag} (vs : List V) (H : Hp) (Q : VK) (E : XK) (h : sp_count_row K vs H Q E) : t_count_row K E { nx := fun _ H' => Q .non H', rt := Q } (start N_count_row vs) H := by
  obtain ⟨n, rfl, q, x⟩ := h
  refine q_asg (ev_addI (ev_var rfl) ev_c) fun H1 e1 => ?_
  have test : EvT (tOr (tTest (tOp rLtI (tVar 0) (tC (.int 0)))) (tTest (tOp rGtI (tBits (tVar 1)) (tC (.int 255))))) ((start N_count_row [.int n]).set 1 (some (.int (n + 1)))) H1 (decide (n < 0) || decide (255 < (Builtin.Int.intBits (n + 1) : Int))) :=
    et_or (et_test (ev_ltI (ev_var rfl) ev_c)) fun _ => et_test (ev_gtI (ev_bits (ev_var rfl)) ev_c)
  by_cases hc : countOk n
  · obtain ⟨m, rfl⟩ := Int.eq_ofNat_of_zero_le hc.1
    have hm1 : ((m : Int) + 1) = ((m + 1 : Nat) : Int) := rfl
    have hb : Builtin.Int.intBits ((m : Int) + 1) = blen (m + 1) := by rw [hm1, bits_nat (by omega)]
    have h1 : blen (m + 1) ≤ 255 := blen_le (by have := hc.2; omega) (by omega)
    have h2 : blen (blen (m + 1)) ≤ 8 := blen_le (by omega) (blen_pos _)
    have p1 := blen_pos (m + 1)
    have p2 := blen_pos (blen (m + 1))
    have q := q hc
    rw [hb] at test
    refine q_when (b := false) (et_is test ?_) (fun hf => nomatch hf) (fun _ H2 e2 => ?_)
    · have : ¬ (m : Int) < 0 := by omega
      have : ¬ 255 < ((blen (m + 1) : Nat) : Int) := by omega
      simp only [*, decide_false, Bool.or_self]
    refine q_asg (v := .int (blen (m + 1) : Nat)) (ev_is (ev_bits (ev_var rfl)) (by rw [hb])) fun H3 e3 => ?_
    refine q_asg (v := .int ((blen (blen (m + 1)) - 1 : Nat) : Int)) (ev_is (ev_subI (ev_bits (ev_var rfl)) ev_c) (by rw [bits_nat p1]; congr 1; omega)) fun H4 e4 => ?_
    refine q_asg (ev_ones (ev_var rfl) (by omega) (by omega)) fun H5 e5 => ?_
    refine q_cond (fun σ' H' => Ex H H' ∧ σ' = [some (.int m), some (.int ((m + 1 : Nat) : Int)), some (.int (blen (m + 1) : Nat)), some (.int ((blen (blen (m + 1)) - 1 : Nat) : Int)), some (.str (T (R (List.replicate (blen (blen (m + 1)) - 1) true ++ (if blen (blen (m + 1)) - 1 < 7 then [false] else [])))))]) (fun M hM => ?_) ?_
    · refine s_when (b := decide (((blen (blen (m + 1)) - 1 : Nat) : Int) < 7)) (et_test (ev_ltI (ev_var rfl) ev_c)) (fun hb H6 e6 => ?_) (fun hb H6 e6 => ?_)
      · have hlt : blen (blen (m + 1)) - 1 < 7 := by have := of_decide_eq_true hb; omega
        refine s_asg (ev_addT (ev_var rfl) ev_c (by simp [R_len]; omega)) fun H7 e7 => hM _ _ ⟨((((((e1.trans e2).trans e3).trans e4).trans e5).trans e6).trans e7), ?_⟩
        rw [if_pos hlt, R_app]
        rfl
      · have hlt : ¬ blen (blen (m + 1)) - 1 < 7 := by have := of_decide_eq_false hb; omega
        refine hM _ _ ⟨((((((e1.trans e2).trans e3).trans e4).trans e5).trans e6)), ?_⟩
        rw [if_neg hlt, List.append_nil]
        rfl
    · rintro σ' H' ⟨eH, rfl⟩
      refine s_ret (v := .str (T (R (countRow m)))) (ev_is (ev_addT (ev_addT (ev_var rfl) (ev_call (ea_cons (ev_var rfl) (ea_cons (ev_var rfl) ea_nil)) (u_digits_of (by omega))) ?_) (ev_call (ea_cons (ev_var rfl) (ea_cons (ev_is (ev_subI (ev_var rfl) ev_c) (w := .int ((blen (m + 1) - 1 : Nat) : Int)) (by congr 1; omega)) ea_nil)) (u_digits_of (by omega))) ?_) ?_) fun H2 e2 => q H2 (eH.trans e2)
      · simp only [R_len, digs_len, List.length_append, List.length_replicate]
        split <;> simp <;> omega
      · simp only [R_len, digs_len, List.length_append, List.length_replicate]
        split <;> simp <;> omega
      · rw [← R_app, ← R_app]
        rfl
  · refine q_when (b := true) (et_is test ?_) (fun _ H2 e2 => x hc H2 (e1.trans e2)) (fun hf => nomatch hf)
    unfold countOk at hc
    by_cases h0 : n < 0
    · simp only [h0, decide_true, Bool.true_or]
    · obtain ⟨m, rfl⟩ := Int.eq_ofNat_of_zero_le (show 0 ≤ n by omega)
      have hb : Builtin.Int.intBits ((m : Int) + 1) = blen (m + 1) := by
        rw [show ((m : Int) + 1) = ((m + 1 : Nat) : Int) from rfl, bits_nat (by omega)]
      have hg : 255 < blen (m + 1) := blen_gt (by omega)
      rw [hb]
      have : 255 < ((blen (m + 1) : Nat) : Int) := by omega
      simp only [this, decide_true, Bool.or_true]
def N_entry_of : List Str := ["last", "row", "common"]
def t_entry_of (K : PySem.W.Frag) (E : XK) : TS :=
  (tSeq (tAsg (tCall (sp_shared_signs K) [] E0 (tCons (tVar 0) (tCons (tVar 1) tNil))) (gName 2))
    (tRet (tOp rAddT (tOp rAddT (tCall (sp_count_row K) [] E (tCons (tVar 2) tNil)) (tCall (sp_count_row K) [] E (tCons (tOp rSubI (tCB (rLenK K) (tCons (tVar 1) tNil)) (tVar 2)) tNil))) (tSl rSlS (tVar 1) (tPart (tVar 2)) tNoPart))))
def sp_entry_of (_ : PySem.W.Frag) : Sp := fun vs H Q _ => ∃ a b : List Bool, vs = [.str (T (R a)), .str (T (R b))] ∧ a.length ≤ 100000 ∧ b.length ≤ 100000 ∧ RetV (.str (T (R (entryRow a b)))) H Q
theorem len_entry_of {K : PySem.W.Frag} {vs H Q E} (h : sp_entry_of K vs H Q E) : vs.length = 2 := by
  obtain ⟨a, b, rfl, _⟩ := h
  rfl
theorem u_entry_of {K : PySem.W.Frag} {H : Hp} {a b : List Bool} (h : a.length ≤ 100000) (h2 : b.length ≤ 100000) : SpV (sp_entry_of K) [.str (T (R a)), .str (T (R b))] H (.str (T (R (entryRow a b)))) := fun H1 e Q q E => ⟨a, b, rfl, h, h2, q⟩
theorem rd_entry_of {K : PySem.W.Frag} (vs : List V) (H : Hp) (Q : VK) (E : XK) (h : sp_entry_of K vs H Q E) : t_entry_of K E { nx := fun _ H' => Q .non H', rt := Q } (start N_entry_of vs) H := by
  obtain ⟨a, b, rfl, ha, hb, q⟩ := h
  have c1 := com_le a b
  have c2 := com_le2 a b
  refine q_asg (ev_call (ea_cons (ev_var rfl) (ea_cons (ev_var rfl) ea_nil)) (u_shared_signs (by omega) (by omega))) fun H1 e1 => ?_
  have k1 := u_count_row (K := K) (H := H1) (n := (com a b : Nat)) (small_count (by omega))
  have k2 := u_count_row (K := K) (H := H1) (n := (b.length - com a b : Nat)) (small_count (by omega))
  rw [Int.toNat_natCast] at k1 k2
  have l1 := small_len (n := com a b) (by omega)
  have l2 := small_len (n := b.length - com a b) (by omega)
  refine s_ret (v := .str (T (R (entryRow a b)))) (ev_addR (ev_addR (ev_call (ea_cons (ev_var rfl) ea_nil) k1) (ev_call (ea_cons (ev_is (ev_subI (ev_lenR (ev_var rfl) (by omega)) (ev_var rfl)) (by rw [Int.ofNat_sub c2])) ea_nil) k2) (by omega)) (ev_is (ev_slT (ev_var rfl) (by rw [R_len]; omega) (eo_some (ev_var rfl)) eo_none) (by rw [cutL_suf, R_drop])) ?_) fun H2 e2 => q H2 (e1.trans e2)
  rw [List.length_append, List.length_drop]
  omega
def N_page_of : List Str := ["rows", "page", "last", "place", "row"]
def t_page_of (K : PySem.W.Frag) (E : XK) : TS :=
  (tSeq (tAsg (tCall (sp_count_row K) [] E (tCons (tCB (rLenK K) (tCons (tVar 0) tNil)) tNil)) (gName 1))
    (tSeq (tAsg (tC (.str (Kr.T []))) (gName 2))
    (tSeq (tFor (iEnum K (tCons (tVar 0) tNil)) (gTup K 2 (gCons (gName 3) (gCons (gName 4) gNil)))
    (tSeq (tIfS (tAnd (tTest (tOp rGtI (tVar 3) (tC (.int 0)))) (tNot (tTest (tOp rLtT (tVar 2) (tVar 4))))) (tRaiseX (.ref (He.ga K "NotAhead")) E) tNext)
    (tSeq (tAsg (tOp rAddT (tVar 1) (tCall (sp_entry_of K) [] E (tCons (tVar 2) (tCons (tVar 4) tNil)))) (gName 1))
    (tAsg (tVar 4) (gName 2)))))
    (tRet (tVar 1)))))
def sp_page_of (K : PySem.W.Frag) : Sp := fun vs H Q E => ∃ (p : Addr) (rs : List (List Bool)), vs = [.ref p] ∧ SqL K H p (RL rs) ∧ rs.length ≤ 3600 ∧ (∀ r ∈ rs, r.length ≤ 4000) ∧ (Asc none rs → RetV (.str (T (R (pageRow rs)))) H Q) ∧ (¬ Asc none rs → RaiseX (.ref (He.ga K "NotAhead")) H E)
theorem len_page_of {K : PySem.W.Frag} {vs H Q E} (h : sp_page_of K vs H Q E) : vs.length = 1 := by
  obtain ⟨p, rs, rfl, _⟩ := h
  rfl
theorem rd_page_of {K : PySem.W.Frag} (vs : List V) (H : Hp) (Q : VK) (E : XK) (h : sp_page_of K vs H Q E) : t_page_of K E { nx := fun _ H' => Q .non H', rt := Q } (start N_page_of vs) H := by
  obtain ⟨p, rs, rfl, hs, hn, hl, q, x⟩ := h
  have k1 := u_count_row (K := K) (H := H) (n := (rs.length : Nat)) (small_count (by omega))
  rw [Int.toNat_natCast] at k1
  have l1 := small_len (n := rs.length) (by omega)
  refine q_asg (ev_call (ea_cons (ev_is (ev_lenS (ev_var rfl) (.inl hs)) (by rw [RL_len])) ea_nil) k1) fun H1 e1 => ?_
  refine q_asg (v := .str (T (R []))) ev_c fun H2 e2 => ?_
  have e02 := e1.trans e2
  -- done: what stands, last: the last row of it, rest: what is to come
  refine q_forEnum (a := p) (xs := RL rs) (ev_var rfl) (ex_l e02 hs)
    (fun i σ' H' => Ex H H' ∧ i ≤ rs.length ∧ ∃ (done last : List Bool) (l : Option (List Bool)) (y z : Option V), σ' = [some (.ref p), some (.str (T (R done))), some (.str (T (R last))), y, z] ∧ last = l.getD [] ∧ (l = none ↔ i = 0) ∧ last.length ≤ 4000 ∧
      done.length ≤ 40 + i * 4080 ∧ done ++ pageBody last (rs.drop i) = pageRow rs ∧ (Asc none rs ↔ Asc l (rs.drop i)))
    (fun H3 e3 => ⟨e02.trans e3, Nat.zero_le _, countRow rs.length, [], none, none, none, rfl, rfl, ⟨fun _ => rfl, fun _ => rfl⟩, by decide, by omega, rfl, Iff.rfl⟩) (fun k σ' H' _ hP => ex_l hP.1 hs) (fun i v σ' H' H3 hv hP e3 => ?_) (fun σ' H' hP => ?_)
  · obtain ⟨eH, hi, done, last, l, y, z, rfl, hlast, hl0, hll, hdl, hpage, hasc⟩ := hP
    have hi2 : i < rs.length := by
      have := (List.getElem?_eq_some_iff.mp hv).1
      rwa [RL_len] at this
    have hv2 : v = .str (T (R rs[i])) := by
      rw [RL_at hi2] at hv
      exact (Option.some.inj hv).symm
    subst hv2
    have hri := hl rs[i] (List.getElem_mem hi2)
    have hdrop : rs.drop i = rs[i] :: rs.drop (i + 1) := List.drop_eq_getElem_cons hi2
    rw [hdrop] at hpage hasc
    have hbad : (decide (0 < (i : Int)) && !decide (R last < R rs[i])) = true ↔ ∃ x, l = some x ∧ ¬ R x < R rs[i] := by
      rw [Bool.and_eq_true, decide_eq_true_eq, Bool.not_eq_true', decide_eq_false_iff_not]
      constructor
      · rintro ⟨h0, h1⟩
        cases l with
        | none => have := hl0.mp rfl; omega
        | some x => exact ⟨x, rfl, by rw [hlast] at h1; exact h1⟩
      · rintro ⟨x, rfl, h1⟩
        refine ⟨?_, by rw [hlast]; exact h1⟩
        have : i ≠ 0 := fun z => by have := hl0.mpr z; cases this
        omega
    refine q_when (b := decide (0 < (i : Int)) && !decide (R last < R rs[i])) (et_and (et_test (ev_gtI (ev_var rfl) ev_c)) fun _ => et_not (et_test (ev_ltT (ev_var rfl) (ev_var rfl)))) (fun hb H4 e4 => ?_) (fun hb H4 e4 => ?_)
    · obtain ⟨w, rfl, hw⟩ := hbad.mp hb
      exact x (fun z => hw ((hasc.mp z).1 w rfl)) _ ((eH.trans e3).trans e4)
    · have hok : ∀ w, l = some w → R w < R rs[i] := fun w hw => Classical.byContradiction fun hn => by
        have := hbad.mpr ⟨w, hw, hn⟩
        rw [hb] at this
        cases this
      have hel := entryRow_len (last := last) (row := rs[i]) (by omega)
      refine q_asg (v := .str (T (R (done ++ entryRow last rs[i])))) (ev_addR (ev_var rfl) (ev_call (ea_cons (ev_var rfl) (ea_cons (ev_var rfl) ea_nil)) (u_entry_of (by omega) (by omega))) (by
        have : i * 4080 ≤ 3600 * 4080 := Nat.mul_le_mul_right _ (by omega)
        omega)) fun H5 e5 => ?_
      refine s_asg (ev_var rfl) fun H6 e6 => ⟨(((eH.trans e3).trans e4).trans e5).trans e6, hi2, _, rs[i], some rs[i], _, _, rfl, rfl, ⟨(fun z => nomatch z), fun z => by omega⟩, hri, ?_, ?_, ?_⟩
      · rw [List.length_append, Nat.succ_mul]
        omega
      · rw [pageBody] at hpage
        rw [List.append_assoc]
        exact hpage
      · rw [hasc]
        exact ⟨fun z => z.2, fun z => ⟨hok, z⟩⟩
  · obtain ⟨eH, hi, done, last, l, y, z, rfl, hlast, hl0, hll, hdl, hpage, hasc⟩ := hP
    rw [RL_len] at hi hpage hasc
    rw [List.drop_eq_nil_of_le (Nat.le_refl _)] at hpage hasc
    rw [pageBody, List.append_nil] at hpage
    subst hpage
    exact s_ret (ev_var rfl) fun H3 e3 => q (hasc.mpr trivial) H3 (eH.trans e3)
def N_page_with : List Str := ["page", "row", "rows"]
def t_page_with (K : PySem.W.Frag) (E : XK) : TS :=
  (tSeq (tAsg (tCall (sp_rows_of K) [] E (tCons (tVar 0) tNil)) (gName 2))
    (tSeq (tIfS (tTest (tOp (rIn K false) (tVar 1) (tVar 2))) (tRaiseX (.ref (He.ga K "Twice")) E) tNext)
    (tRet (tCall (sp_page_of K) [] E (tCons (tCB (rSortedA K) (tCons (tOp rCat (tVar 2) (tLst (tCons (tVar 1) tNil))) tNil)) tNil)))))
def sp_page_with (K : PySem.W.Frag) : Sp := fun vs H Q E => ∃ b row : List Bool, vs = [.str (T (R b)), .str (T (R row))] ∧ b.length ≤ 90000 ∧ match rowsOf b with
  | some rs => rs.length ≤ 3500 ∧ (∀ r ∈ rs, r.length ≤ 4000) ∧ row.length ≤ 4000 ∧ (row ∈ rs → RaiseX (.ref (He.ga K "Twice")) H E) ∧ (row ∉ rs → RetV (.str (T (R (pageRow (sortR (rs ++ [row])))))) H Q)
  | none => RaiseX (.ref (He.ga K "BadPage")) H E
theorem len_page_with {K : PySem.W.Frag} {vs H Q E} (h : sp_page_with K vs H Q E) : vs.length = 2 := by
  obtain ⟨b, row, rfl, _⟩ := h
  rfl
theorem u_page_with {K : PySem.W.Frag} {H : Hp} {b row : List Bool} {rs : List (List Bool)} (hl : b.length ≤ 90000) (h : rowsOf b = some rs) (hn : rs.length ≤ 3500) (h2 : ∀ r ∈ rs, r.length ≤ 4000) (h3 : row.length ≤ 4000) (h4 : row ∉ rs) : SpV (sp_page_with K) [.str (T (R b)), .str (T (R row))] H (.str (T (R (pageRow (sortR (rs ++ [row])))))) := fun H1 e Q q E => ⟨b, row, rfl, hl, by rw [h]; exact ⟨hn, h2, h3, fun z => absurd z h4, fun _ => q⟩⟩
theorem add_nodup {rs : List (List Bool)} {row : List Bool} (h : rs.Nodup) (h2 : row ∉ rs) : (rs ++ [row]).Nodup := by
  rw [List.nodup_append]
  refine ⟨h, by simp, fun a ha b hb => ?_⟩
  rw [List.mem_singleton.mp hb]
  exact fun z => h2 (by rw [← z]; exact ha)
theorem rd_page_with {K : PySem.W.Frag} (vs : List V) (H : Hp) (Q : VK) (E : XK) (h : sp_page_with K vs H Q E) : t_page_with K E { nx := fun _ H' => Q .non H', rt := Q } (start N_page_with vs) H := by
  obtain ⟨b, row, rfl, hb, q⟩ := h
  refine q_asgF (vs := [.str (T (R b))]) (ea_cons (ev_var rfl) ea_nil) fun H1 e1 => ⟨b, rfl, hb, ?_⟩
  cases hr : rowsOf b with
  | none =>
    rw [hr] at q
    exact fun H2 e2 => q H2 (e1.trans e2)
  | some rs =>
    rw [hr] at q
    obtain ⟨hn, hl, hrow, x, q⟩ := q
    intro p H2 hp e2 h2
    have test : EvT (tTest (tOp (rIn K false) (tVar 1) (tVar 2))) [some (.str (T (R b))), some (.str (T (R row))), some (.ref p)] H2 (decide (row ∈ rs)) := et_test (ev_inRL (ev_var rfl) (ev_var rfl) (sq_of h2))
    have e02 := e1.trans e2
    by_cases hin : row ∈ rs
    · exact q_when (b := true) (et_is test (decide_eq_true hin)) (fun _ H3 e3 => x hin H3 (e02.trans e3)) (fun hf => nomatch hf)
    · refine q_when (b := false) (et_is test (decide_eq_false hin)) (fun hf => nomatch hf) (fun _ H3 e3 => ?_)
      have hnd := add_nodup (asc_nodup (rowsOf_asc hr).1) hin
      have hlen : (rs ++ [row]).length ≤ 3600 := by rw [List.length_append]; simp; omega
      refine s_retF1L (el_sortedA (el_catRL (ev_var rfl) (e3 _ _ h2) (el_one (ev_var rfl)) (by simp; omega)) (by omega)) fun r H4 hr4 e4 h4 => ?_
      refine ⟨r, sortR (rs ++ [row]), rfl, sq_of h4, by rw [len_sortR]; omega, fun y hy => ?_, fun _ H5 e5 => q hin H5 (((e02.trans e3).trans e4).trans e5), fun z => absurd (asc_sort hnd) z⟩
      rcases List.mem_append.mp (mem_sortR.mp hy) with hy | hy
      · exact hl y hy
      · rw [List.mem_singleton.mp hy]; exact hrow
def N_page_without : List Str := ["page", "row", "rows", "one"]
def t_page_without (K : PySem.W.Frag) (E : XK) : TS :=
  (tSeq (tAsg (tCall (sp_rows_of K) [] E (tCons (tVar 0) tNil)) (gName 2))
    (tSeq (tIfS (tTest (tOp (rIn K true) (tVar 1) (tVar 2))) (tRaiseX (.ref (He.ga K "Lacking")) E) tNext)
    (tRet (tCall (sp_page_of K) [] E (tCons (tLc (iList K (tVar 2)) (gName 3) (tTest (tOp rNe (tVar 3) (tVar 1))) (tVar 3) [3]) tNil)))))
def sp_page_without (K : PySem.W.Frag) : Sp := fun vs H Q E => ∃ b row : List Bool, vs = [.str (T (R b)), .str (T (R row))] ∧ b.length ≤ 90000 ∧ match rowsOf b with
  | some rs => rs.length ≤ 3600 ∧ (∀ r ∈ rs, r.length ≤ 4000) ∧ (row ∉ rs → RaiseX (.ref (He.ga K "Lacking")) H E) ∧ (row ∈ rs → RetV (.str (T (R (pageRow (rs.filter fun r => !decide (R r = R row)))))) H Q)
  | none => RaiseX (.ref (He.ga K "BadPage")) H E
theorem len_page_without {K : PySem.W.Frag} {vs H Q E} (h : sp_page_without K vs H Q E) : vs.length = 2 := by
  obtain ⟨b, row, rfl, _⟩ := h
  rfl
theorem u_page_without {K : PySem.W.Frag} {H : Hp} {b row : List Bool} {rs : List (List Bool)} (hl : b.length ≤ 90000) (h : rowsOf b = some rs) (hn : rs.length ≤ 3600) (h2 : ∀ r ∈ rs, r.length ≤ 4000) (h4 : row ∈ rs) : SpV (sp_page_without K) [.str (T (R b)), .str (T (R row))] H (.str (T (R (pageRow (rs.filter fun r => !decide (R r = R row)))))) := fun H1 e Q q E => ⟨b, row, rfl, hl, by rw [h]; exact ⟨hn, h2, fun z => absurd h4 z, fun _ => q⟩⟩
theorem rd_page_without {K : PySem.W.Frag} (vs : List V) (H : Hp) (Q : VK) (E : XK) (h : sp_page_without K vs H Q E) : t_page_without K E { nx := fun _ H' => Q .non H', rt := Q } (start N_page_without vs) H := by
  obtain ⟨b, row, rfl, hb, q⟩ := h
  refine q_asgF (vs := [.str (T (R b))]) (ea_cons (ev_var rfl) ea_nil) fun H1 e1 => ⟨b, rfl, hb, ?_⟩
  cases hr : rowsOf b with
  | none =>
    rw [hr] at q
    exact fun H2 e2 => q H2 (e1.trans e2)
  | some rs =>
    rw [hr] at q
    obtain ⟨hn, hl, x, q⟩ := q
    intro p H2 hp e2 h2
    have test : EvT (tTest (tOp (rIn K true) (tVar 1) (tVar 2))) [some (.str (T (R b))), some (.str (T (R row))), some (.ref p), none] H2 (!decide (row ∈ rs)) := et_test (ev_niRL (ev_var rfl) (ev_var rfl) (sq_of h2))
    have e02 := e1.trans e2
    by_cases hin : row ∈ rs
    · refine q_when (b := false) (et_is test (by simp [hin])) (fun hf => nomatch hf) (fun _ H3 e3 => ?_)
      refine s_retF1L (el_filt (fun r => !decide (R r = R row)) (ev_var rfl) (sq_of (e3 _ _ h2)) (by omega) (fun x => rfl) (fun x => rfl) fun r hr H4 e4 => et_test (ev_neT (ev_var rfl) (ev_var rfl))) fun r H4 hr4 e4 h4 => ?_
      exact ⟨r, rs.filter fun r => !decide (R r = R row), rfl, sq_of h4, by have := List.length_filter_le (fun r => !decide (R r = R row)) rs; omega, fun y hy => hl y (List.mem_filter.mp hy).1, fun _ H5 e5 => q hin H5 (((e02.trans e3).trans e4).trans e5), fun z => absurd (asc_filter (rowsOf_asc hr).1 _) z⟩
    · exact q_when (b := true) (et_is test (by simp [hin])) (fun _ H3 e3 => x hin H3 (e02.trans e3)) (fun hf => nomatch hf)
def N_poured : List Str := ["one", "other", "rows", "row"]
def t_poured (K : PySem.W.Frag) (E : XK) : TS :=
  (tSeq (tAsg (tCall (sp_rows_of K) [] E (tCons (tVar 0) tNil)) (gName 2))
    (tRet (tCall (sp_page_of K) [] E (tCons (tCB (rSortedA K) (tCons (tOp rCat (tVar 2) (tLc (iList K (tCall (sp_rows_of K) [] E (tCons (tVar 1) tNil))) (gName 3) (tTest (tOp (rIn K true) (tVar 3) (tVar 2))) (tVar 3) [3])) tNil)) tNil))))
/-- the rows of two pages together -/
def both (rs ss : List (List Bool)) : List (List Bool) := rs ++ ss.filter fun r => !decide (r ∈ rs)
def sp_poured (K : PySem.W.Frag) : Sp := fun vs H Q E => ∃ a b : List Bool, vs = [.str (T (R a)), .str (T (R b))] ∧ a.length ≤ 80000 ∧ b.length ≤ 80000 ∧
  (∀ rs ss, rowsOf a = some rs → rowsOf b = some ss → (both rs ss).length ≤ 3600 ∧ (∀ r ∈ both rs ss, r.length ≤ 4000) ∧ RetV (.str (T (R (pageRow (sortR (both rs ss)))))) H Q) ∧ (rowsOf a = none ∨ rowsOf b = none → RaiseX (.ref (He.ga K "BadPage")) H E)
theorem len_poured {K : PySem.W.Frag} {vs H Q E} (h : sp_poured K vs H Q E) : vs.length = 2 := by
  obtain ⟨a, b, rfl, _⟩ := h
  rfl
theorem u_poured {K : PySem.W.Frag} {H : Hp} {a b : List Bool} {rs ss : List (List Bool)} (hl : a.length ≤ 80000) (hl2 : b.length ≤ 80000) (h : rowsOf a = some rs) (h1 : rowsOf b = some ss) (hn : (both rs ss).length ≤ 3600) (h2 : ∀ r ∈ both rs ss, r.length ≤ 4000) : SpV (sp_poured K) [.str (T (R a)), .str (T (R b))] H (.str (T (R (pageRow (sortR (both rs ss)))))) := fun H1 e Q q E => ⟨a, b, rfl, hl, hl2, fun rs' ss' e1 e2 => by
  rw [h] at e1
  rw [h1] at e2
  cases e1
  cases e2
  exact ⟨hn, h2, q⟩, fun z => by
  rcases z with z | z
  · rw [h] at z; cases z
  · rw [h1] at z; cases z⟩
theorem both_nodup {rs ss : List (List Bool)} (h : rs.Nodup) (h2 : ss.Nodup) : (both rs ss).Nodup := by
  unfold both
  rw [List.nodup_append]
  refine ⟨h, h2.filter _, fun a ha b hb z => ?_⟩
  have := (List.mem_filter.mp hb).2
  rw [← z] at this
  simp [ha] at this
theorem mem_both {rs ss : List (List Bool)} {r : List Bool} : r ∈ both rs ss ↔ r ∈ rs ∨ r ∈ ss := by
  unfold both
  rw [List.mem_append, List.mem_filter]
  by_cases h : r ∈ rs <;> simp [h]
theorem rd_poured {K : PySem.W.Frag} (vs : List V) (H : Hp) (Q : VK) (E : XK) (h : sp_poured K vs H Q E) : t_poured K E { nx := fun _ H' => Q .non H', rt := Q } (start N_poured vs) H := by
  obtain ⟨a, b, rfl, ha, hb, q, x⟩ := h
  refine q_asgF (vs := [.str (T (R a))]) (ea_cons (ev_var rfl) ea_nil) fun H1 e1 => ⟨a, rfl, by omega, ?_⟩
  cases hr : rowsOf a with
  | none => exact fun H2 e2 => x (.inl hr) H2 (e1.trans e2)
  | some rs =>
    intro p H2 hp e2 h2
    have e02 := e1.trans e2
    cases hs : rowsOf b with
    | none =>
      exact s_retZ (rz_callA (rz_cons (rz_cb (rz_cons (rz_op2 (ev_var rfl) (rz_lc (rz_call (ea_cons (ev_var rfl) ea_nil) fun H3 e3 Q2 => ⟨b, rfl, by omega, by rw [hs]; exact fun H4 e4 => x (.inr hs) H4 ((e02.trans e3).trans e4)⟩)))))))
    | some ss =>
      obtain ⟨hn, hl, q⟩ := q rs ss hr hs
      have hss : ss.length ≤ 40000 := by have := (rowsOf_asc hs).2.1; omega
      have hlen : rs.length + (ss.filter fun r => !decide (r ∈ rs)).length ≤ 3600 := by
        have := hn
        unfold both at this
        rwa [List.length_append] at this
      refine s_retF1L (xs := RL (sortR (both rs ss))) (el_sortedA (el_catRL (ev_var rfl) h2 (el_filtN (fun r => !decide (r ∈ rs)) (el_call (ea_cons (ev_var rfl) ea_nil) (u_rows_of (by omega) hs)) hss (fun x => rfl) (fun x => rfl) fun r hr H4 e4 => et_test (ev_niRL (ev_var rfl) (ev_var rfl) (sq_of (e4 _ _ h2)))) (by omega)) (by omega)) fun r H3 hr3 e3 h3 => ?_
      refine ⟨r, sortR (both rs ss), rfl, sq_of h3, by rw [len_sortR]; omega, fun y hy => hl y (mem_sortR.mp hy), fun _ H5 e5 => q H5 ((e02.trans e3).trans e5), fun z => absurd (asc_sort (both_nodup (asc_nodup (rowsOf_asc hr).1) (asc_nodup (rowsOf_asc hs).1))) z⟩
def N__law_alone : List Str := ["_law_error", "_law_told_here", "_law_one"]
def t__law_alone (K : PySem.W.Frag) : TS :=
  (tSeq (tIfS (tOr (tNot (tB (tCB (rIsA K) (tCons (tVar 0) (tCons (tC (.ref (He.ga K "RiseError"))) tNil))))) (tNot (tB (tCB (rIsA K) (tCons (tVar 0) (tCons (tC (.ty "ValueError")) tNil)))))) (tRet (tC (.bl false))) tNext)
    (tSeq (tAsg (tLst (tCons (tCB (rIsA K) (tCons (tVar 0) (tCons (tC (.ref (He.ga K "NoFit"))) tNil))) (tCons (tCB (rIsA K) (tCons (tVar 0) (tCons (tC (.ref (He.ga K "NoForm"))) tNil))) (tCons (tCB (rIsA K) (tCons (tVar 0) (tCons (tC (.ref (He.ga K "NoText"))) tNil))) tNil)))) (gName 1))
    (tSeq (tAsg (tOp rCat (tVar 1) (tLst (tCons (tCB (rIsA K) (tCons (tVar 0) (tCons (tC (.ref (He.ga K "NotAhead"))) tNil))) (tCons (tCB (rIsA K) (tCons (tVar 0) (tCons (tC (.ref (He.ga K "BadPage"))) tNil))) (tCons (tCB (rIsA K) (tCons (tVar 0) (tCons (tC (.ref (He.ga K "Twice"))) tNil))) tNil))))) (gName 1))
    (tSeq (tAsg (tOp rCat (tVar 1) (tLst (tCons (tCB (rIsA K) (tCons (tVar 0) (tCons (tC (.ref (He.ga K "Lacking"))) tNil))) (tCons (tCB (rIsA K) (tCons (tVar 0) (tCons (tC (.ref (He.ga K "Short"))) tNil))) (tCons (tCB (rIsA K) (tCons (tVar 0) (tCons (tC (.ref (He.ga K "Wrong"))) tNil))) tNil))))) (gName 1))
    (tSeq (tAsg (tOp rCat (tVar 1) (tLst (tCons (tCB (rIsA K) (tCons (tVar 0) (tCons (tC (.ref (He.ga K "Left"))) tNil))) tNil))) (gName 1))
    (tRet (tOp rEq (tCB (rLenK K) (tCons (tLc (iList K (tVar 1)) (gName 2) (tB (tVar 2)) (tVar 2) [2]) tNil)) (tC (.int 1)))))))))
def aloneB (n : Str) : List Bool := [decide (n = "NoFit"), decide (n = "NoForm"), decide (n = "NoText"), decide (n = "NotAhead"), decide (n = "BadPage"), decide (n = "Twice"), decide (n = "Lacking"), decide (n = "Short"), decide (n = "Wrong"), decide (n = "Left")]
theorem alone_one : ∀ n ∈ exL, ((List.range 10).filter fun i => (aloneB n).getD i false).length = 1 := by decide +kernel
def sp__law_alone (K : PySem.W.Frag) : Sp := fun vs H Q _ => ∃ v n, vs = [v] ∧ n ∈ exL ∧ IsErr K H v n ∧ RetV (.bl true) H Q
theorem len__law_alone {K : PySem.W.Frag} {vs H Q E} (h : sp__law_alone K vs H Q E) : vs.length = 1 := by
  obtain ⟨v, n, rfl, _⟩ := h
  rfl
theorem u__law_alone {K : PySem.W.Frag} {H : Hp} {v : V} {n : Str} (hn : n ∈ exL) (h : IsErr K H v n) : SpV (sp__law_alone K) [v] H (.bl true) := fun H1 e Q q E => ⟨v, n, rfl, hn, h.mono e, q⟩
theorem rd__law_alone {K : PySem.W.Frag} (kx : Kx K) (vs : List V) (H : Hp) (Q : VK) (E : XK) (h : sp__law_alone K vs H Q E) : t__law_alone K { nx := fun _ H' => Q .non H', rt := Q } (start N__law_alone vs) H := by
  obtain ⟨v, n, rfl, hn, hx, q⟩ := h
  have is : ∀ (σ : L2.St) (H1 : Hp) (y : Str), Ex H H1 → σ[0]? = some (some v) → y ∈ exL → Ev (tCB (rIsA K) (tCons (tVar 0) (tCons (tC (.ref (He.ga K y))) tNil))) σ H1 (.bl (decide (n = y))) := fun σ H1 y e hs hy =>
    ev_isE (ev_var hs) (hx.mono e) (kx.exc hn) (.own _) (kx.kit hn hy)
  refine q_when (b := false) (et_or (a := false) (b := false) (et_not (a := true) (et_B (ev_isE (ev_var rfl) hx (kx.exc hn) (.own _) (kx.root hn)))) fun _ => et_not (a := true) (et_B (ev_isE (ev_var rfl) hx (kx.exc hn) (.ty _) (kx.val hn)))) (fun hf => nomatch hf) (fun _ H1 e1 => ?_)
  refine q_asgL (el_lst (ea_cons (is _ _ _ e1 rfl (by decide +kernel)) (ea_cons (is _ _ _ e1 rfl (by decide +kernel)) (ea_cons (is _ _ _ e1 rfl (by decide +kernel)) ea_nil))) (by simp)) fun p2 H2 n2 e2 h2 => ?_
  refine q_asgL (el_cat (ev_var rfl) h2 (el_lst (ea_cons (is _ _ _ (e1.trans e2) rfl (by decide +kernel)) (ea_cons (is _ _ _ (e1.trans e2) rfl (by decide +kernel)) (ea_cons (is _ _ _ (e1.trans e2) rfl (by decide +kernel)) ea_nil))) (by simp)) (by simp)) fun p3 H3 n3 e3 h3 => ?_
  refine q_asgL (el_cat (ev_var rfl) h3 (el_lst (ea_cons (is _ _ _ ((e1.trans e2).trans e3) rfl (by decide +kernel)) (ea_cons (is _ _ _ ((e1.trans e2).trans e3) rfl (by decide +kernel)) (ea_cons (is _ _ _ ((e1.trans e2).trans e3) rfl (by decide +kernel)) ea_nil))) (by simp)) (by simp)) fun p4 H4 n4 e4 h4 => ?_
  refine q_asgL (el_cat (ev_var rfl) h4 (el_lst (ea_cons (is _ _ _ (((e1.trans e2).trans e3).trans e4) rfl (by decide +kernel)) ea_nil) (by simp)) (by simp)) fun p5 H5 n5 e5 h5 => ?_
  have hz : (([V.bl (decide (n = "NoFit")), V.bl (decide (n = "NoForm")), V.bl (decide (n = "NoText"))] ++ [V.bl (decide (n = "NotAhead")), V.bl (decide (n = "BadPage")), V.bl (decide (n = "Twice"))] ++
    [V.bl (decide (n = "Lacking")), V.bl (decide (n = "Short")), V.bl (decide (n = "Wrong"))] ++ [V.bl (decide (n = "Left"))])) = (aloneB n).map V.bl := rfl
  rw [hz] at h5
  refine s_ret (v := .bl true) (ev_is (ev_eqI (ev_lenNL (el_lcL (fun i => (aloneB n).getD i false) (fun i => .bl ((aloneB n).getD i false)) (ev_var rfl) (sq_of h5) (by simp [aloneB]) (fun x => rfl) ?_ ?_)) ev_c) ?_) fun H6 e6 => q H6 (((((e1.trans e2).trans e3).trans e4).trans e5).trans e6)
  · intro i x H6 e6 hi
    obtain ⟨b, hb, rfl⟩ : ∃ b, (aloneB n)[i]? = some b ∧ V.bl b = x := by
      rw [List.getElem?_map] at hi
      cases hb : (aloneB n)[i]? with
      | none => rw [hb] at hi; cases hi
      | some b => rw [hb] at hi; exact ⟨b, rfl, Option.some.inj hi⟩
    rw [show (aloneB n).getD i false = b by simp [List.getD, hb]]
    exact et_B (ev_var rfl)
  · intro i x H6 e6 hi _
    obtain ⟨b, hb, rfl⟩ : ∃ b, (aloneB n)[i]? = some b ∧ V.bl b = x := by
      rw [List.getElem?_map] at hi
      cases hb : (aloneB n)[i]? with
      | none => rw [hb] at hi; cases hi
      | some b => rw [hb] at hi; exact ⟨b, rfl, Option.some.inj hi⟩
    rw [show (aloneB n).getD i false = b by simp [List.getD, hb]]
    exact ev_var rfl
  · have := alone_one n hn
    have e : ((given ((aloneB n).map V.bl).length (fun i => (aloneB n).getD i false) (fun i => V.bl ((aloneB n).getD i false))).length) = 1 := by
      unfold given
      rw [List.length_map, List.length_map, show (aloneB n).length = 10 from rfl]
      exact this
    rw [e]
    rfl
def N__law_told : List Str := ["_law_word", "_law_page_here", "_law_row", "_law_good", "_law_found", "_law_error", "e"]
def t__law_told (K : PySem.W.Frag) : TS :=
  (tSeq (tAsg (tC .non) (gName 4))
    (tSeq (tAsg (tC .non) (gName 5))
    (tSeq (tTryKeep K (.ref (He.ga K "BadPage")) 6 (fun W => (tIfS (tTest (tOp rEq (tVar 0) (tC (.int 0)))) (tAsg (tCallS (sp_place_in K) (WE W) (tCons (tVar 1) (tCons (tVar 2) tNil))) (gName 4)) (tIfS (tTest (tOp rEq (tVar 0) (tC (.int 1)))) (tAsg (tCallS (sp_page_with K) (WE W) (tCons (tVar 1) (tCons (tVar 2) tNil))) (gName 4)) (tIfS (tTest (tOp rEq (tVar 0) (tC (.int 2)))) (tAsg (tCallS (sp_page_without K) (WE W) (tCons (tVar 1) (tCons (tVar 2) tNil))) (gName 4)) (tIfS (tTest (tOp rEq (tVar 0) (tC (.int 3)))) (tAsg (tCallS (sp_poured K) (WE W) (tCons (tVar 1) (tCons (tVar 3) tNil))) (gName 4)) (tAsg (tCallS (sp_poured K) (WE W) (tCons (tVar 3) (tCons (tVar 1) tNil))) (gName 4))))))) (fun a cls d => (tAsg (tVar 6) (gName 5))) (fun _ _ _ _ => False))
    (tSeq (tIfS (tAnd (tTest (tOp rNotN0 (tVar 5) (tC .non))) (tNot (tB (tCall (sp__law_alone K) [] E0 (tCons (tVar 5) tNil))))) (tRet (tTup (tCons (tC (.str (Kr.T [111, 116, 104, 101, 114]))) (tCons (tC .non) tNil)))) tNext)
    (tRet (tTup (tCons (tOp (rIxL K) (tLst (tCons (tC (.str (Kr.T [98, 97, 100]))) (tCons (tC (.str (Kr.T [116, 111, 108, 100]))) tNil))) (tCB rIntB (tCons (tOp rIsN0 (tVar 5) (tC .non)) tNil))) (tCons (tVar 4) tNil))))))))
/-- what the law tells of a page and a row -/
def TV (H : Hp) (w : Int) (row : List Bool) (s x : V) : Option (List (List Bool)) → Prop
  | none => s = .str (T [98, 97, 100]) ∧ x = .non
  | some rs => s = .str (T [116, 111, 108, 100]) ∧ DV H w rs row x
theorem both_one {rs : List (List Bool)} {row : List Bool} : both rs [row] = if row ∈ rs then rs else rs ++ [row] := by
  unfold both
  by_cases h : row ∈ rs <;> simp [h]
theorem both_flip {rs : List (List Bool)} {row : List Bool} (h : rs.Nodup) : sortR (both [row] rs) = sortR (if row ∈ rs then rs else rs ++ [row]) := by
  rw [← both_one]
  exact asc_ext (asc_sort (both_nodup (by simp) h)) (asc_sort (both_nodup h (by simp))) fun r => by
    rw [mem_sortR, mem_sortR, mem_both, mem_both]
    exact Or.comm
def sp__law_told (K : PySem.W.Frag) : Sp := fun vs H Q _ => ∃ (w : Int) (b row : List Bool), vs = [.int w, .str (T (R b)), .str (T (R row)), .str (T (R (pageRow [row])))] ∧ 0 ≤ w ∧ w ≤ 4 ∧ b.length ≤ 3900 ∧ row.length ≤ 3900 ∧ (∀ rs, rowsOf b = some rs → (w = 1 → row ∉ rs) ∧ (w = 2 → row ∈ rs)) ∧
  ∀ p s x H2, Ex H H2 → H2 p = some (.tup [s, x]) → TV H2 w row s x (rowsOf b) → Q (.ref p) H2
theorem len__law_told {K : PySem.W.Frag} {vs H Q E} (h : sp__law_told K vs H Q E) : vs.length = 4 := by
  obtain ⟨w, b, row, rfl, _⟩ := h
  rfl
theorem rd__law_told {K : PySem.W.Frag} (kx : Kx K) (vs : List V) (H : Hp) (Q : VK) (E : XK) (h : sp__law_told K vs H Q E) : t__law_told K { nx := fun _ H' => Q .non H', rt := Q } (start N__law_told vs) H := by
  obtain ⟨w, b, row, rfl, hw0, hw4, hb, hr, hin, q⟩ := h
  have bp : ("BadPage" : Str) ∈ exL := by decide +kernel
  refine q_asg ev_c fun H1 e1 => ?_
  refine q_asg ev_c fun H2 e2 => ?_
  refine q_try ?_
  dsimp only
  have e02 := e1.trans e2
  -- what comes behind
  have told : ∀ (x : V) (H3 : Hp), Ex H H3 → (∃ rs, rowsOf b = some rs ∧ DV H3 w rs row x) →
      tSeq (tIfS (tAnd (tTest (tOp rNotN0 (tVar 5) (tC .non))) (tNot (tB (tCall (sp__law_alone K) [] E0 (tCons (tVar 5) tNil))))) (tRet (tTup (tCons (tC (.str (Kr.T [111, 116, 104, 101, 114]))) (tCons (tC .non) tNil)))) tNext)
        (tRet (tTup (tCons (tOp (rIxL K) (tLst (tCons (tC (.str (Kr.T [98, 97, 100]))) (tCons (tC (.str (Kr.T [116, 111, 108, 100]))) tNil))) (tCB rIntB (tCons (tOp rIsN0 (tVar 5) (tC .non)) tNil))) (tCons (tVar 4) tNil)))) { nx := fun _ H' => Q .non H', rt := Q }
        [some (.int w), some (.str (T (R b))), some (.str (T (R row))), some (.str (T (R (pageRow [row])))), some x, some .non, none] H3 := fun x H3 e3 hd => by
    obtain ⟨rs, hro, hd⟩ := hd
    refine q_when (b := false) (et_and (a := false) (b := false) (et_test (ev_is (ev_notN (ev_var rfl)) (by simp))) fun hf => nomatch hf) (fun hf => nomatch hf) (fun _ H4 e4 => ?_)
    refine s_retU (eu_tup (ea_cons (ev_ixNL (i := 1) (v := .str (T [116, 111, 108, 100])) (el_lst (ea_cons ev_c (ea_cons ev_c ea_nil)) (by simp)) (fun H9 e9 => ev_is (ev_intB (ev_isN (ev_var rfl))) (by simp)) rfl) (ea_cons (ev_var rfl) ea_nil)) (by simp)) fun p H5 hp e5 h5 => q p _ _ H5 ((e3.trans e4).trans e5) h5 ?_
    rw [hro]
    exact ⟨rfl, hd.mono (e4.trans e5)⟩
  have bad : rowsOf b = none → ∀ H3, Ex H H3 → RaiseX (.ref (He.ga K "BadPage")) H3 (WE (wKeep K (.ref (He.ga K "BadPage")) 6 (fun _ _ _ => tAsg (tVar 6) (gName 5)) (fun _ _ _ _ => False) { nx := (tSeq (tIfS (tAnd (tTest (tOp rNotN0 (tVar 5) (tC .non))) (tNot (tB (tCall (sp__law_alone K) [] E0 (tCons (tVar 5) tNil))))) (tRet (tTup (tCons (tC (.str (Kr.T [111, 116, 104, 101, 114]))) (tCons (tC .non) tNil)))) tNext) (tRet (tTup (tCons (tOp (rIxL K) (tLst (tCons (tC (.str (Kr.T [98, 97, 100]))) (tCons (tC (.str (Kr.T [116, 111, 108, 100]))) tNil))) (tCB rIntB (tCons (tOp rIsN0 (tVar 5) (tC .non)) tNil))) (tCons (tVar 4) tNil))))) { nx := fun _ H' => Q .non H', rt := Q }, rt := Q })
        [some (.int w), some (.str (T (R b))), some (.str (T (R row))), some (.str (T (R (pageRow [row])))), some .non, some .non, none]) := fun hro H3 e3 H4 e4 => by
    refine keep_err (by rw [kx.exm bp bp]; rfl) (by simp) fun a ha => ?_
    have e5 := (e3.trans e4).trans (Ex.new (o := ExK (.ref (He.ga K "BadPage")) none a) ha)
    refine q_when (b := false) (et_and (a := true) (b := false) (et_test (ev_is (ev_notN (ev_var rfl)) (by simp))) fun _ => et_not (a := true) (et_B (ev_call (ea_cons (ev_var rfl) ea_nil) (u__law_alone bp ⟨a, none, rfl, upd_same, .inl rfl⟩)))) (fun hf => nomatch hf) (fun _ H6 e6 => ?_)
    refine s_retU (eu_tup (ea_cons (ev_ixNL (i := 0) (v := .str (T [98, 97, 100])) (el_lst (ea_cons ev_c (ea_cons ev_c ea_nil)) (by simp)) (fun H9 e9 => ev_is (ev_intB (ev_isN (ev_var rfl))) (by simp)) rfl) (ea_cons (ev_var rfl) ea_nil)) (by simp)) fun p H7 hp e7 h7 => q p _ _ H7 ((e5.trans e6).trans e7) h7 ?_
    rw [hro]
    exact ⟨rfl, rfl⟩
  have tst : ∀ (k : Int) (σ : L2.St) (H2 : Hp), σ[0]? = some (some (.int w)) → EvT (tTest (tOp rEq (tVar 0) (tC (.int k)))) σ H2 (decide (w = k)) := fun k σ H2 hs => et_test (ev_eqI (ev_var hs) ev_c)
  have sizes : ∀ rs, rowsOf b = some rs → rs.length ≤ 1950 ∧ (∀ r ∈ rs, r.length ≤ 4000) ∧ rs.Nodup := fun rs hro => by
    obtain ⟨h1, h2, h3⟩ := rowsOf_asc hro
    exact ⟨by omega, fun r hr => by have := h3 r hr; omega, asc_nodup h1⟩
  have good : rowsOf (pageRow [row]) = some [row] := rowsOf_page (fun r hr => by rw [List.mem_singleton.mp hr]; omega) (by simp) (by simp [Asc])
  have goodl : (pageRow [row]).length ≤ 80000 := by
    have h1 := pageBody_len (m := 3900) (by decide) (last := []) (rs := [row]) (fun r hr => by rw [List.mem_singleton.mp hr]; omega)
    have h2 := small_len (n := 1) (by decide)
    unfold pageRow
    rw [List.length_append]
    simp only [List.length_singleton] at h1 ⊢
    omega
  have dv : ∀ (rs : List (List Bool)) (H3 : Hp) (l : List (List Bool)), w ≠ 0 → pgOf w rs row = l → DV H3 w rs row (.str (T (R (pageRow l)))) := fun rs H3 l h0 hl => by
    unfold DV
    rw [if_neg h0, hl]
  have bothl : ∀ rs, rowsOf b = some rs → (both rs [row]).length ≤ 3600 ∧ (∀ r ∈ both rs [row], r.length ≤ 4000) ∧ (both [row] rs).length ≤ 3600 ∧ (∀ r ∈ both [row] rs, r.length ≤ 4000) := fun rs hro => by
    obtain ⟨s1, s2, _⟩ := sizes rs hro
    have f1 := List.length_filter_le (fun r => !decide (r ∈ rs)) [row]
    have f2 := List.length_filter_le (fun r => !decide (r ∈ [row])) rs
    have mem : ∀ r, r ∈ rs ∨ r ∈ [row] → r.length ≤ 4000 := fun r h => by
      rcases h with h | h
      · exact s2 r h
      · rw [List.mem_singleton.mp h]; omega
    refine ⟨?_, fun r hr => mem r (mem_both.mp hr), ?_, fun r hr => mem r (mem_both.mp hr).symm⟩
    · unfold both
      rw [List.length_append]
      simp only [List.length_singleton] at f1
      omega
    · unfold both
      rw [List.length_append]
      simp only [List.length_singleton]
      omega
  refine s_if (tst 0 _ _ rfl) (fun hb0 H3 e3 => ?_) (fun hb0 H3 e3 => ?_)
  · refine s_asgX (vs := [.str (T (R b)), .str (T (R row))]) (ea_cons (ev_var rfl) (ea_cons (ev_var rfl) ea_nil)) fun H4 e4 => ⟨b, row, rfl, by omega, ?_⟩
    have e04 := (e02.trans e3).trans e4
    cases hro : rowsOf b with
    | none => exact bad hro H4 e04
    | some rs =>
      refine ⟨by have := (sizes rs hro).1; omega, fun p H5 hp e5 h5 => told _ H5 (e04.trans e5) ⟨rs, hro, ?_⟩⟩
      unfold DV
      rw [if_pos (of_decide_eq_true hb0)]
      exact ⟨p, rfl, h5⟩
  have h0 : w ≠ 0 := of_decide_eq_false hb0
  refine s_if (tst 1 _ _ rfl) (fun hb1 H4 e4 => ?_) (fun hb1 H4 e4 => ?_)
  · have h1 : w = 1 := of_decide_eq_true hb1
    refine s_asgX (vs := [.str (T (R b)), .str (T (R row))]) (ea_cons (ev_var rfl) (ea_cons (ev_var rfl) ea_nil)) fun H5 e5 => ⟨b, row, rfl, by omega, ?_⟩
    have e05 := ((e02.trans e3).trans e4).trans e5
    cases hro : rowsOf b with
    | none => exact bad hro H5 e05
    | some rs =>
      have hni := (hin rs hro).1 h1
      exact ⟨by have := (sizes rs hro).1; omega, (sizes rs hro).2.1, by omega, fun z => absurd z hni, fun _ H6 e6 => told _ H6 (e05.trans e6) ⟨rs, hro, dv rs H6 _ h0 (by unfold pgOf; rw [if_neg (by omega), if_neg hni])⟩⟩
  refine s_if (tst 2 _ _ rfl) (fun hb2 H5 e5 => ?_) (fun hb2 H5 e5 => ?_)
  · have h2 : w = 2 := of_decide_eq_true hb2
    refine s_asgX (vs := [.str (T (R b)), .str (T (R row))]) (ea_cons (ev_var rfl) (ea_cons (ev_var rfl) ea_nil)) fun H6 e6 => ⟨b, row, rfl, by omega, ?_⟩
    have e06 := (((e02.trans e3).trans e4).trans e5).trans e6
    cases hro : rowsOf b with
    | none => exact bad hro H6 e06
    | some rs =>
      have hi := (hin rs hro).2 h2
      exact ⟨by have := (sizes rs hro).1; omega, (sizes rs hro).2.1, fun z => absurd hi z, fun _ H7 e7 => told _ H7 (e06.trans e7) ⟨rs, hro, dv rs H7 _ h0 (by unfold pgOf; rw [if_pos h2])⟩⟩
  have h2 : w ≠ 2 := of_decide_eq_false hb2
  refine s_if (tst 3 _ _ rfl) (fun hb3 H6 e6 => ?_) (fun hb3 H6 e6 => ?_)
  · refine s_asgX (vs := [.str (T (R b)), .str (T (R (pageRow [row])))]) (ea_cons (ev_var rfl) (ea_cons (ev_var rfl) ea_nil)) fun H7 e7 => ⟨b, pageRow [row], rfl, by omega, goodl, fun rs ss hro hso => ?_, fun z => ?_⟩
    · rw [good] at hso
      obtain rfl := Option.some.inj hso
      obtain ⟨k1, k2, _, _⟩ := bothl rs hro
      exact ⟨k1, k2, fun H8 e8 => told _ H8 (((((e02.trans e3).trans e4).trans e5).trans e6).trans (e7.trans e8)) ⟨rs, hro, dv rs H8 _ h0 (by unfold pgOf; rw [if_neg h2, both_one])⟩⟩
    · refine bad (z.resolve_right (by rw [good]; exact fun z => nomatch z)) H7 (((((e02.trans e3).trans e4).trans e5).trans e6).trans e7)
  · refine s_asgX (vs := [.str (T (R (pageRow [row]))), .str (T (R b))]) (ea_cons (ev_var rfl) (ea_cons (ev_var rfl) ea_nil)) fun H7 e7 => ⟨pageRow [row], b, rfl, goodl, by omega, fun rs ss hro hso => ?_, fun z => ?_⟩
    · rw [good] at hro
      obtain rfl := Option.some.inj hro
      obtain ⟨_, _, k1, k2⟩ := bothl ss hso
      exact ⟨k1, k2, fun H8 e8 => told _ H8 (((((e02.trans e3).trans e4).trans e5).trans e6).trans (e7.trans e8)) ⟨ss, hso, dv ss H8 _ h0 (by unfold pgOf; rw [if_neg h2, both_flip (sizes ss hso).2.2])⟩⟩
    · refine bad (z.resolve_left (by rw [good]; exact fun z => nomatch z)) H7 (((((e02.trans e3).trans e4).trans e5).trans e6).trans e7)
def N_law : List Str := ["_law_script", "_law_page_here", "_law_rows_here", "_law_number", "_law_k", "_law_row", "_law_word", "_law_asked", "_law_there", "_law_due_here", "_law_skip"]
def t_law (K : PySem.W.Frag) : TS :=
  (tSeq (tAsg (tCall (sp__law_bent K) [] E0 (tCons (tVar 0) (tCons (tCall (sp__law_rows K) [] E0 (tCons (tVar 0) (tCons (tC (.int 20)) tNil))) tNil))) (gName 1))
    (tSeq (tAsg (tCall (sp__law_reader K) [] E0 (tCons (tVar 1) tNil)) (gName 2))
    (tSeq (tAsg (tCall (sp__law_mixed K) [] E0 (tCons (tCall (sp__law_cell_at K) [] E0 (tCons (tVar 0) (tCons (tC (.int 2)) tNil))) (tCons (tC (.int 702)) tNil))) (gName 3))
    (tSeq (tAsg (tBM K "str" (rJoin K) (tC (.str (Kr.T []))) (tCons (tLc (iRng1 (tCons (tOp rModI (tVar 3) (tC (.int 70))) tNil)) (gName 4) tYes (tOp rIxS (tC (.str (Kr.T [48, 49]))) (tOp rModI (tOp rDivI (tVar 3) (tOp rAddI (tVar 4) (tC (.int 1)))) (tC (.int 2)))) [4]) tNil)) (gName 5))
    (tSeq (tFor (iRng1 (tCons (tC (.int 5)) tNil)) (gName 6)
    (tSeq (tAsg (tVar 5) (gName 7))
    (tSeq (tAsg (tOrV (tOp rEq (tVar 6) (tC (.int 2))) (tAndV (tOp rNe (tVar 6) (tC (.int 1))) (tOp rEq (tOp rModI (tOp rDivI (tVar 3) (tC (.int 70))) (tC (.int 2))) (tC (.int 1))))) (gName 8))
    (tSeq (tIfS (tAnd (tB (tVar 8)) (tAnd (tTest (tOp rNotN0 (tVar 2) (tC .non))) (tTest (tOp (rNeD K) (tVar 2) (tLst tNil))))) (tAsg (tOp (rIxL K) (tVar 2) (tOp rModI (tOp rDivI (tVar 3) (tC (.int 140))) (tCB (rLenK K) (tCons (tVar 2) tNil)))) (gName 7)) tNext)
    (tSeq (tAsg (tTup (tCons (tC (.str (Kr.T [98, 97, 100]))) (tCons (tC .non) tNil))) (gName 9))
    (tSeq (tAsg (tC (.bl false)) (gName 10))
    (tSeq (tIfS (tTest (tOp rNotN0 (tVar 2) (tC .non))) (tSeq (tAsg (tTup (tCons (tC (.str (Kr.T [116, 111, 108, 100]))) (tCons (tCall (sp__law_due K) [] E0 (tCons (tVar 6) (tCons (tVar 2) (tCons (tVar 7) tNil)))) tNil))) (gName 9))
    (tAsg (tOrV (tAndV (tOp rEq (tVar 6) (tC (.int 1))) (tOp (rIn K false) (tVar 7) (tVar 2))) (tAndV (tOp rEq (tVar 6) (tC (.int 2))) (tOp (rIn K true) (tVar 7) (tVar 2)))) (gName 10))) tNext)
    (tIfS (tAnd (tNot (tB (tVar 10))) (tTest (tOp (rNeD K) (tCall (sp__law_told K) [] E0 (tCons (tVar 6) (tCons (tVar 1) (tCons (tVar 7) (tCons (tCall (sp__law_page K) [] E0 (tCons (tLst (tCons (tVar 7) tNil)) tNil)) tNil))))) (tVar 9)))) (tRet (tC (.bl false))) tNext))))))))
    (tRet (tC (.bl true))))))))
def sp_law (K : PySem.W.Frag) : Sp := lawSp K
theorem len_law {K : PySem.W.Frag} {vs H Q E} (h : sp_law K vs H Q E) : vs.length = 1 := lawSp_len h
theorem ew_bent {K : PySem.W.Frag} {σ : L2.St} {H : Hp} {t1 t2 : TE} {a : Addr} {ns : List Int} (h1 : Ev t1 σ H (.ref a)) (h2 : EvM t2 σ H (AscRows 20)) (hs : SqL K H a (ns.map V.int)) (hl : ns.length ≤ 63) :
    EvW (tCall (sp__law_bent K) [] E0 (tCons t1 (tCons t2 tNil))) σ H (fun v => ∃ row : List Bool, v = .str (T (R row)) ∧ row.length ≤ 3900) := fun H1 e Q q =>
  h1 H1 e _ fun H2 e2 => h2 H2 (e.trans e2) _ fun xs p H3 hP hp e3 h3 => by
    obtain ⟨rs, rfl, hasc, hlen, hn⟩ := hP
    exact ⟨a, p, ns, rs, rfl, ex_l ((e.trans e2).trans e3) hs, hl, sq_of h3, hn, hlen, fun row hr H4 e4 => q _ H4 ⟨row, rfl, hr⟩ ((e2.trans e3).trans e4)⟩
/-- what the reader leaves: nothing, or the rows -/
def RowsV (b : List Bool) (x : V) (H : Hp) : Prop := (rowsOf b = none ∧ x = .non) ∨ ∃ rs p, rowsOf b = some rs ∧ x = .ref p ∧ H p = some (.lst (RL rs))
theorem RowsV.mono {b : List Bool} {x : V} {H H1 : Hp} (e : Ex H H1) (h : RowsV b x H) : RowsV b x H1 := by
  rcases h with h | ⟨rs, p, h1, h2, h3⟩
  · exact .inl h
  · exact .inr ⟨rs, p, h1, h2, e _ _ h3⟩
def tdat (w : Int) (row : List Bool) : Option (List (List Bool)) → PyData
  | none => .tuple [.str (T [98, 97, 100]), .none]
  | some rs => .tuple [.str (T [116, 111, 108, 100]), dd w rs row]
theorem TV.dp {K : PySem.W.Frag} {H : Hp} {w : Int} {row : List Bool} {s x : V} {r : Option (List (List Bool))} {p : Addr} (hp : H p = some (.tup [s, x])) (h : TV H w row s x r) : Dp K H (.ref p) (tdat w row r) := by
  cases r with
  | none =>
    obtain ⟨rfl, rfl⟩ := h
    exact .tup (st_of hp) (.cons (.str _) (.cons .non .nil))
  | some rs =>
    obtain ⟨rfl, h⟩ := h
    exact .tup (st_of hp) (.cons (.str _) (.cons h.dp .nil))
theorem tdat_shaped (w : Int) (row : List Bool) (r : Option (List (List Bool))) : SeqAt.shaped (tdat w row r) = true := by
  cases r with
  | none => exact shaped_tup (xs := [.str (T [98, 97, 100]), .non]) (by decide +kernel)
  | some rs => exact dd_shaped w rs row _ (by decide +kernel)
theorem TV.mono {H H1 : Hp} {w : Int} {row : List Bool} {s x : V} {r : Option (List (List Bool))} (e : Ex H H1) (h : TV H w row s x r) : TV H1 w row s x r := by
  cases r with
  | none => exact h
  | some rs => exact ⟨h.1, h.2.mono e⟩
theorem rd_law {K : PySem.W.Frag} (kx : Kx K) (vs : List V) (H : Hp) (Q : VK) (E : XK) (h : sp_law K vs H Q E) : t_law K { nx := fun _ H' => Q .non H', rt := Q } (start N_law vs) H := by
  obtain ⟨a, ns, rfl, hs, hl, _, q⟩ := h
  refine q_asgW (ew_bent (ev_var rfl) (em_rows (m := 20) (ev_var rfl) ev_c hs hl (by decide)) hs hl) fun v H1 hv e1 => ?_
  obtain ⟨b, rfl, hb⟩ := hv
  refine q_asgG (P := RowsV b) (fun Q2 hq => (ea_cons (ev_var rfl) ea_nil : EvA _ _ H1 [.str (T (R b))]) H1 (Ex.refl H1) _ fun H2 e2 => ⟨b, rfl, by omega, ?_⟩) fun x H2 e2 hx => ?_
  · cases hro : rowsOf b with
    | none => exact fun H3 e3 => hq _ H3 (e2.trans e3) (.inl ⟨hro, rfl⟩)
    | some rs => exact fun p H3 hp e3 h3 => hq _ H3 (e2.trans e3) (.inr ⟨rs, p, hro, rfl, h3⟩)
  have e02 := e1.trans e2
  refine q_asg (ev_call (ea_cons (ev_call (ea_cons (ev_var rfl) (ea_cons ev_c ea_nil)) (u__law_cell_at (ex_l e02 hs) (by decide))) (ea_cons ev_c ea_nil)) (u__law_mixed (by decide))) fun H3 e3 => ?_
  generalize mixed (cellAt ns 2) 702 = num
  have m0 := Int.emod_nonneg num (show (70 : Int) ≠ 0 by decide)
  have m1 := Int.emod_lt_of_pos num (show (0 : Int) < 70 by decide)
  have hcomp : EvL (tLc (iRng1 (tCons (tOp rModI (tVar 3) (tC (.int 70))) tNil)) (gName 4) tYes (tOp rIxS (tC (.str (T [48, 49]))) (tOp rModI (tOp rDivI (tVar 3) (tOp rAddI (tVar 4) (tC (.int 1)))) (tC (.int 2)))) [4])
      [some (.ref a), some (.str (T (R b))), some x, some (.int num), none, none, none, none, none, none, none] H3 ((((List.range (num % 70).toNat).map fun j : Nat => decide (num / ((j : Int) + 1) % 2 = 1)).map fun x => [bc x]).map fun l => V.str (T l)) := by
    have := el_mapR (σ := [some (.ref a), some (.str (T (R b))), some x, some (.int num), none, none, none, none, none, none, none]) (H := H3) (te := tOp rIxS (tC (.str (T [48, 49]))) (tOp rModI (tOp rDivI (tVar 3) (tOp rAddI (tVar 4) (tC (.int 1)))) (tC (.int 2)))) (j := 4) (vs := [4]) (n := num % 70) (ta := tCons (tOp rModI (tVar 3) (tC (.int 70))) tNil) (fun j => .str (T [bc (decide (num / ((j : Int) + 1) % 2 = 1))])) (ea_cons (ev_modI (ev_var rfl) ev_c (by decide)) ea_nil) (by omega) (fun x => rfl)
      (fun i H2 e2 hi => by
        have h01 : num / ((i : Int) + 1) % 2 = 0 ∨ num / ((i : Int) + 1) % 2 = 1 := by omega
        exact ev_ixT (l := [48, 49]) ev_c (ev_modI (ev_divI (ev_var rfl) (ev_addI (ev_var rfl) ev_c) (wide_div (b := 20) (by omega) (by omega) (by decide) (by decide))) ev_c (by decide)) (by simp) (by rcases h01 with h | h <;> rw [h] <;> rfl))
    rw [List.map_map, List.map_map]
    exact this
  refine q_asg (v := .str (T (R ((List.range (num % 70).toNat).map fun j : Nat => decide (num / ((j : Int) + 1) % 2 = 1))))) (ev_is (ev_join hcomp (by rw [R_flat, R_len, List.length_map, List.length_range]; omega) (by simp; omega)) (by rw [R_flat])) fun H4 e4 => ?_
  have hrow : ((List.range (num % 70).toNat).map fun j : Nat => decide (num / ((j : Int) + 1) % 2 = 1)).length ≤ 70 := by rw [List.length_map, List.length_range]; omega
  generalize (List.range (num % 70).toNat).map (fun j : Nat => decide (num / ((j : Int) + 1) % 2 = 1)) = row at hrow
  clear hcomp
  have hx4 := (hx.mono e3).mono e4
  refine q_forR1 (n := 5) (ea_cons ev_c ea_nil) (by omega)
    (fun i σ' H' => Ex H4 H' ∧ ∃ u6 u7 u8 u9 u10, σ' = [some (.ref a), some (.str (T (R b))), some x, some (.int num), none, some (.str (T (R row))), u6, u7, u8, u9, u10]) (fun H5 e5 => ⟨e5, none, none, none, none, none, rfl⟩) (fun i σ' H' hi hP => ?_) (fun σ' H' hP => s_ret ev_c fun H9 e9 => q H9)
  obtain ⟨eH, u6, u7, u8, u9, u10, rfl⟩ := hP
  have hxH := hx4.mono eH
  refine q_asg (ev_var rfl) fun H5 e5 => ?_
  refine q_asg (ev_orV (ev_eqI (ev_var rfl) ev_c) fun _ => ev_andV (ev_neI (ev_var rfl) ev_c) fun _ => ev_eqI (ev_modI (ev_divI (ev_var rfl) ev_c (wide_div (b := 20) (by decide) (by decide) (by decide) (by decide))) ev_c (by decide)) ev_c) fun H6 e6 => ?_
  generalize (decide ((i : Int) = 2) || !decide ((i : Int) = 1) && decide (num / 70 % 2 = 1)) = there
  have hx6 := (hxH.mono e5).mono e6
  have e06 := (eH.trans e5).trans e6
  -- the row that is asked for
  refine q_cond (fun σ' H' => Ex H6 H' ∧ ∃ (asked : List Bool), asked.length ≤ 3900 ∧ σ' = [some (.ref a), some (.str (T (R b))), some x, some (.int num), none, some (.str (T (R row))), some (.int (i : Int)), some (.str (T (R asked))), some (.bl there), u9, u10]) (fun M hM => ?_) (fun σ' H7 hP => ?_)
  · rcases hx6 with ⟨hro, rfl⟩ | ⟨rs, p, hro, rfl, hp⟩
    · refine s_when (b := false) (et_is (et_and (et_B (ev_var rfl)) fun _ => et_and (a := false) (b := false) (et_test (ev_is (ev_notN (ev_var rfl)) (by simp))) fun hf => nomatch hf) (by cases there <;> rfl)) (fun hf => nomatch hf) (fun _ H7 e7 => hM _ _ ⟨e7, row, by omega, rfl⟩)
    · obtain ⟨s1, s2, s3⟩ := rowsOf_asc hro
      refine s_when (et_and (et_B (ev_var rfl)) fun _ => et_and (a := true) (et_test (ev_is (ev_notN (ev_var rfl)) (by simp))) fun _ => et_test (ev_neE (ev_var rfl) (sq_of hp))) (fun hb7 H7 e7 => ?_) (fun _ H7 e7 => hM _ _ ⟨e7, row, by omega, rfl⟩)
      have hne : rs ≠ [] := by
        rw [Bool.and_eq_true] at hb7
        simpa using hb7.2
      have hpos := List.length_pos_iff.mpr hne
      have k0 := Int.emod_nonneg (num / 140) (show (rs.length : Int) ≠ 0 by omega)
      have k1 := Int.emod_lt_of_pos (num / 140) (show (0 : Int) < (rs.length : Int) by omega)
      obtain ⟨k, hk⟩ := Int.eq_ofNat_of_zero_le k0
      have hk2 : k < rs.length := by omega
      have hsz := s3 _ (List.getElem_mem hk2)
      refine s_asg (v := .str (T (R rs[k]))) (ev_op (ev_var rfl) (ev_is (ev_modI (ev_divI (ev_var rfl) ev_c (wide_div (b := 20) (by decide) (by decide) (by decide) (by decide))) (ev_is (ev_lenS (ev_var rfl) (.inl (sq_of (e7 _ _ hp)))) (by rw [RL_len])) (by omega)) (by rw [hk])) (rv_ixL (sq_of (e7 _ _ hp)) (atI_nat (RL_at hk2)))) fun H8 e8 => hM _ _ ⟨e7.trans e8, rs[k], by omega, rfl⟩
  obtain ⟨e7, asked, hask, rfl⟩ := hP
  refine q_asgU (eu_tup (ea_cons ev_c (ea_cons ev_c ea_nil)) (by simp)) fun pd H8 hpd e8 h8 => ?_
  refine q_asg ev_c fun H9 e9 => ?_
  have hx9 := ((hx6.mono e7).mono e8).mono e9
  have p9 := e9 _ _ h8
  have e09 := ((e06.trans e7).trans e8).trans e9
  -- what is due
  refine q_cond (fun σ' H' => Ex H9 H' ∧ ∃ (pd : Addr) (s y : V) (skip : Bool), σ' = [some (.ref a), some (.str (T (R b))), some x, some (.int num), none, some (.str (T (R row))), some (.int (i : Int)), some (.str (T (R asked))), some (.bl there), some (.ref pd), some (.bl skip)] ∧ H' pd = some (.tup [s, y]) ∧ TV H' (i : Int) asked s y (rowsOf b) ∧
    (skip = false → ∀ rs, rowsOf b = some rs → ((i : Int) = 1 → asked ∉ rs) ∧ ((i : Int) = 2 → asked ∈ rs))) (fun M hM => ?_) (fun σ' H10 hP => ?_)
  · rcases hx9 with ⟨hro, rfl⟩ | ⟨rs, p, hro, rfl, hp⟩
    · refine s_when (b := false) (et_test (ev_is (ev_notN (ev_var rfl)) (by simp))) (fun hf => nomatch hf) (fun _ H10 e10 => hM _ _ ⟨e10, pd, _, _, false, rfl, e10 _ _ p9, by rw [hro]; exact ⟨rfl, rfl⟩, fun _ rs hro2 => by rw [hro] at hro2; cases hro2⟩)
    · obtain ⟨s1, s2, s3⟩ := rowsOf_asc hro
      refine s_when (b := true) (et_test (ev_is (ev_notN (ev_var rfl)) (by simp))) (fun _ H10 e10 => ?_) (fun hf => nomatch hf)
      refine q_asgTF (vs := [.int (i : Int), .ref p, .str (T (R asked))]) (ea_cons (ev_var rfl) (ea_cons (ev_var rfl) (ea_cons (ev_var rfl) ea_nil))) fun H12 e12 Q2 hk => ?_
      have e912 := e10.trans e12
      refine ⟨(i : Int), p, rs, asked, rfl, e912 _ _ hp, s1, by omega, (fun r hr => by have := s3 r hr; omega), by omega, fun y H13 e13 hdv => hk y H13 fun pd2 hpd2 => ?_⟩
      have e14 := e912.trans (e13.trans (Ex.new (o := .tup [.str (T [116, 111, 108, 100]), y]) hpd2))
      have p14 := e14 _ _ hp
      refine s_asg (ev_orV (ev_andV (ev_eqI (ev_var rfl) ev_c) fun _ => ev_inRL (ev_var rfl) (ev_var rfl) (sq_of p14)) fun _ => ev_andV (ev_eqI (ev_var rfl) ev_c) fun _ => ev_niRL (ev_var rfl) (ev_var rfl) (sq_of p14)) fun H15 e15 => hM _ _ ⟨e14.trans e15, pd2, _, y, _, rfl, e15 _ _ upd_same, by rw [hro]; exact ⟨rfl, (hdv.mono (Ex.new hpd2)).mono e15⟩, fun hsk rs2 hro2 => ?_⟩
      rw [hro] at hro2
      obtain rfl := Option.some.inj hro2
      rw [Bool.or_eq_false_iff, Bool.and_eq_false_iff, Bool.and_eq_false_iff] at hsk
      refine ⟨fun h1 => ?_, fun h2 => ?_⟩
      · rcases hsk.1 with h | h
        · exact absurd h1 (of_decide_eq_false h)
        · exact of_decide_eq_false h
      · rcases hsk.2 with h | h
        · exact absurd h2 (of_decide_eq_false h)
        · simpa using h
  obtain ⟨e10, pd, s, y, skip, rfl, hpd, hTV, hsk⟩ := hP
  have e010 := e09.trans e10
  refine s_when (b := false) (et_is (et_and (b := false) (et_not (et_B (ev_var rfl))) fun hns => et_test ?_) (by simp)) (fun hf => nomatch hf) (fun _ H11 e11 => ⟨e010.trans e11, _, _, _, _, _, rfl⟩)
  have hns : skip = false := by simpa using hns
  refine ev_opF (vs := [.int (i : Int), .str (T (R b)), .str (T (R asked)), .str (T (R (pageRow [asked])))]) (fun z H' => ∃ p s y, z = .ref p ∧ H' p = some (.tup [s, y]) ∧ TV H' (i : Int) asked s y (rowsOf b)) (ea_cons (ev_var rfl) (ea_cons (ev_var rfl) (ea_cons (ev_var rfl) (ea_cons (ev_callL (el_one (ev_var rfl)) fun r H12 e12 h12 => u__law_page (sq_of h12) (by simp) fun z hz => by rw [List.mem_singleton.mp hz]; omega) ea_nil)))) (fun H12 e12 Q2 hq2 => ⟨(i : Int), b, asked, rfl, by omega, by omega, hb, hask, hsk hns, fun pt s2 y2 H13 e13 h13 hTV2 => hq2 _ H13 e13 ⟨pt, s2, y2, rfl, h13, hTV2⟩⟩) fun z H13 Qf e13 hz hq => ?_
  obtain ⟨pt, s2, y2, rfl, h13, hTV2⟩ := hz
  refine ⟨.ref pd, rfl, tdat (i : Int) asked (rowsOf b), tdat (i : Int) asked (rowsOf b), hTV2.dp h13, (hTV.mono e13).dp (e13 _ _ hpd), tdat_shaped _ _ _, tdat_shaped _ _ _, ?_⟩
  rw [eqv_same (tdat_shaped _ _ _)]
  exact hq H13 (Ex.refl H13)
/-! ### the text, def by def -/
def topS (i : Nat) : Stmt := PySem.Challenge.pw_keyrise_k67_bad_pages_everywhere.main.body.getD i (.Pass ⟨0, 0, 0, 0⟩)
abbrev s__law_cell_at : Stmt := topS 35
theorem sc__law_cell_at : FnScope N__law_cell_at ["_law_script", "_law_k"] (defScope s__law_cell_at) := ⟨rfl, rfl, rfl, by decide +kernel, rfl, by decide +kernel, by decide +kernel⟩
def d__law_cell_at : He.DefD := ⟨("_law_cell_at", none), "_law_cell_at", "_law_cell_at", defArgs s__law_cell_at, defBody s__law_cell_at, defScope s__law_cell_at, [], []⟩
abbrev s__law_mixed : Stmt := topS 36
theorem sc__law_mixed : FnScope N__law_mixed ["_law_cell", "_law_k"] (defScope s__law_mixed) := ⟨rfl, rfl, rfl, by decide +kernel, rfl, by decide +kernel, by decide +kernel⟩
def d__law_mixed : He.DefD := ⟨("_law_mixed", none), "_law_mixed", "_law_mixed", defArgs s__law_mixed, defBody s__law_mixed, defScope s__law_mixed, [], []⟩
abbrev s__law_free_row : Stmt := topS 37
theorem sc__law_free_row : FnScope N__law_free_row ["_law_rest", "_law_most"] (defScope s__law_free_row) := ⟨rfl, rfl, rfl, by decide +kernel, rfl, by decide +kernel, by decide +kernel⟩
def d__law_free_row : He.DefD := ⟨("_law_free_row", none), "_law_free_row", "_law_free_row", defArgs s__law_free_row, defBody s__law_free_row, defScope s__law_free_row, [], []⟩
abbrev s__law_rows : Stmt := topS 38
theorem sc__law_rows : FnScope N__law_rows ["_law_script", "_law_most"] (defScope s__law_rows) := ⟨rfl, rfl, rfl, by decide +kernel, rfl, by decide +kernel, by decide +kernel⟩
def d__law_rows : He.DefD := ⟨("_law_rows", none), "_law_rows", "_law_rows", defArgs s__law_rows, defBody s__law_rows, defScope s__law_rows, [], []⟩
abbrev s__law_digits : Stmt := topS 39
theorem sc__law_digits : FnScope N__law_digits ["_law_number"] (defScope s__law_digits) := ⟨rfl, rfl, rfl, by decide +kernel, rfl, by decide +kernel, by decide +kernel⟩
def d__law_digits : He.DefD := ⟨("_law_digits", none), "_law_digits", "_law_digits", defArgs s__law_digits, defBody s__law_digits, defScope s__law_digits, [], []⟩
abbrev s__law_count : Stmt := topS 40
theorem sc__law_count : FnScope N__law_count ["_law_n"] (defScope s__law_count) := ⟨rfl, rfl, rfl, by decide +kernel, rfl, by decide +kernel, by decide +kernel⟩
def d__law_count : He.DefD := ⟨("_law_count", none), "_law_count", "_law_count", defArgs s__law_count, defBody s__law_count, defScope s__law_count, [], []⟩
abbrev s__law_common : Stmt := topS 41
theorem sc__law_common : FnScope N__law_common ["_law_one", "_law_other"] (defScope s__law_common) := ⟨rfl, rfl, rfl, by decide +kernel, rfl, by decide +kernel, by decide +kernel⟩
def d__law_common : He.DefD := ⟨("_law_common", none), "_law_common", "_law_common", defArgs s__law_common, defBody s__law_common, defScope s__law_common, [], []⟩
abbrev s__law_page : Stmt := topS 42
theorem sc__law_page : FnScope N__law_page ["_law_rows_here"] (defScope s__law_page) := ⟨rfl, rfl, rfl, by decide +kernel, rfl, by decide +kernel, by decide +kernel⟩
def d__law_page : He.DefD := ⟨("_law_page", none), "_law_page", "_law_page", defArgs s__law_page, defBody s__law_page, defScope s__law_page, [], []⟩
abbrev s__law_counted : Stmt := topS 45
theorem sc__law_counted : FnScope N__law_counted ["_law_way", "_law_far", "_law_page_here", "_law_at"] (defScope s__law_counted) := ⟨rfl, rfl, rfl, by decide +kernel, rfl, by decide +kernel, by decide +kernel⟩
def d__law_counted : He.DefD := ⟨("_law_counted", none), "_law_counted", "_law_counted", defArgs s__law_counted, defBody s__law_counted, defScope s__law_counted, [], []⟩
abbrev s__law_loose : Stmt := topS 44
theorem sc__law_loose : FnScope N__law_loose ["_law_rows_here", "_law_number"] (defScope s__law_loose) := ⟨rfl, rfl, rfl, by decide +kernel, rfl, by decide +kernel, by decide +kernel⟩
def d__law_loose : He.DefD := ⟨("_law_loose", none), "_law_loose", "_law_loose", defArgs s__law_loose, defBody s__law_loose, defScope s__law_loose, [], []⟩
abbrev s__law_bent : Stmt := topS 46
theorem sc__law_bent : FnScope N__law_bent ["_law_script", "_law_rows_here"] (defScope s__law_bent) := ⟨rfl, rfl, rfl, by decide +kernel, rfl, by decide +kernel, by decide +kernel⟩
def d__law_bent : He.DefD := ⟨("_law_bent", none), "_law_bent", "_law_bent", defArgs s__law_bent, defBody s__law_bent, defScope s__law_bent, [], []⟩
abbrev s__law_count_at : Stmt := topS 47
theorem sc__law_count_at : FnScope N__law_count_at ["_law_page_here", "_law_at"] (defScope s__law_count_at) := ⟨rfl, rfl, rfl, by decide +kernel, rfl, by decide +kernel, by decide +kernel⟩
def d__law_count_at : He.DefD := ⟨("_law_count_at", none), "_law_count_at", "_law_count_at", defArgs s__law_count_at, defBody s__law_count_at, defScope s__law_count_at, [], []⟩
abbrev s__law_reader : Stmt := topS 48
theorem sc__law_reader : FnScope N__law_reader ["_law_page_here"] (defScope s__law_reader) := ⟨rfl, rfl, rfl, by decide +kernel, rfl, by decide +kernel, by decide +kernel⟩
def d__law_reader : He.DefD := ⟨("_law_reader", none), "_law_reader", "_law_reader", defArgs s__law_reader, defBody s__law_reader, defScope s__law_reader, [], []⟩
abbrev s__law_due : Stmt := topS 50
theorem sc__law_due : FnScope N__law_due ["_law_word", "_law_rows_here", "_law_row"] (defScope s__law_due) := ⟨rfl, rfl, rfl, by decide +kernel, rfl, by decide +kernel, by decide +kernel⟩
def d__law_due : He.DefD := ⟨("_law_due", none), "_law_due", "_law_due", defArgs s__law_due, defBody s__law_due, defScope s__law_due, [], []⟩
abbrev s_Source___init__ : Stmt := inClass (topS 13) 0
theorem sc_Source___init__ : FnScope N_Source___init__ ["self", "signs", "at", "fills"] (defScope s_Source___init__) := ⟨rfl, rfl, rfl, by decide +kernel, rfl, by decide +kernel, by decide +kernel⟩
def d_Source___init__ : He.DefD := ⟨("Source", some "__init__"), "__init__", "Source.__init__", defArgs s_Source___init__, defBody s_Source___init__, defScope s_Source___init__, [], []⟩
abbrev s_Short___init__ : Stmt := inClass (topS 9) 0
theorem sc_Short___init__ : FnScope N_Short___init__ ["self", "place"] (defScope s_Short___init__) := ⟨rfl, rfl, rfl, by decide +kernel, rfl, by decide +kernel, by decide +kernel⟩
def d_Short___init__ : He.DefD := ⟨("Short", some "__init__"), "__init__", "Short.__init__", defArgs s_Short___init__, defBody s_Short___init__, defScope s_Short___init__, [], []⟩
abbrev s_Source_take : Stmt := inClass (topS 13) 2
theorem sc_Source_take : FnScope N_Source_take ["self", "wish"] (defScope s_Source_take) := ⟨rfl, rfl, rfl, by decide +kernel, rfl, by decide +kernel, by decide +kernel⟩
def d_Source_take : He.DefD := ⟨("Source", some "take"), "take", "Source.take", defArgs s_Source_take, defBody s_Source_take, defScope s_Source_take, [], []⟩
abbrev s_take_digits : Stmt := topS 19
theorem sc_take_digits : FnScope N_take_digits ["source", "number", "many"] (defScope s_take_digits) := ⟨rfl, rfl, rfl, by decide +kernel, rfl, by decide +kernel, by decide +kernel⟩
def d_take_digits : He.DefD := ⟨("take_digits", none), "take_digits", "take_digits", defArgs s_take_digits, defBody s_take_digits, defScope s_take_digits, [], []⟩
abbrev s_take_count : Stmt := topS 20
theorem sc_take_count : FnScope N_take_count ["source", "wish"] (defScope s_take_count) := ⟨rfl, rfl, rfl, by decide +kernel, rfl, by decide +kernel, by decide +kernel⟩
def d_take_count : He.DefD := ⟨("take_count", none), "take_count", "take_count", defArgs s_take_count, defBody s_take_count, defScope s_take_count, [], []⟩
abbrev s_Source_spot : Stmt := inClass (topS 13) 1
theorem sc_Source_spot : FnScope N_Source_spot ["self"] (defScope s_Source_spot) := ⟨rfl, rfl, rfl, by decide +kernel, rfl, by decide +kernel, by decide +kernel⟩
def d_Source_spot : He.DefD := ⟨("Source", some "spot"), "spot", "Source.spot", defArgs s_Source_spot, defBody s_Source_spot, defScope s_Source_spot, [], []⟩
abbrev s_read_count : Stmt := topS 21
theorem sc_read_count : FnScope N_read_count ["signs", "at"] (defScope s_read_count) := ⟨rfl, rfl, rfl, by decide +kernel, rfl, by decide +kernel, by decide +kernel⟩
def d_read_count : He.DefD := ⟨("read_count", none), "read_count", "read_count", defArgs s_read_count, defBody s_read_count, defScope s_read_count, [], []⟩
abbrev s_count_at : Stmt := topS 27
theorem sc_count_at : FnScope N_count_at ["page", "at"] (defScope s_count_at) := ⟨rfl, rfl, rfl, by decide +kernel, rfl, by decide +kernel, by decide +kernel⟩
def d_count_at : He.DefD := ⟨("count_at", none), "count_at", "count_at", defArgs s_count_at, defBody s_count_at, defScope s_count_at, [], []⟩
abbrev s_shared_signs : Stmt := topS 23
theorem sc_shared_signs : FnScope N_shared_signs ["one", "other"] (defScope s_shared_signs) := ⟨rfl, rfl, rfl, by decide +kernel, rfl, by decide +kernel, by decide +kernel⟩
def d_shared_signs : He.DefD := ⟨("shared_signs", none), "shared_signs", "shared_signs", defArgs s_shared_signs, defBody s_shared_signs, defScope s_shared_signs, [], []⟩
abbrev s_entry_at : Stmt := topS 28
theorem sc_entry_at : FnScope N_entry_at ["page", "at", "last"] (defScope s_entry_at) := ⟨rfl, rfl, rfl, by decide +kernel, rfl, by decide +kernel, by decide +kernel⟩
def d_entry_at : He.DefD := ⟨("entry_at", none), "entry_at", "entry_at", defArgs s_entry_at, defBody s_entry_at, defScope s_entry_at, [], []⟩
abbrev s_rows_of : Stmt := topS 29
theorem sc_rows_of : FnScope N_rows_of ["page"] (defScope s_rows_of) := ⟨rfl, rfl, rfl, by decide +kernel, rfl, by decide +kernel, by decide +kernel⟩
def d_rows_of : He.DefD := ⟨("rows_of", none), "rows_of", "rows_of", defArgs s_rows_of, defBody s_rows_of, defScope s_rows_of, [], []⟩
abbrev s_place_in : Stmt := topS 30
theorem sc_place_in : FnScope N_place_in ["page", "row"] (defScope s_place_in) := ⟨rfl, rfl, rfl, by decide +kernel, rfl, by decide +kernel, by decide +kernel⟩
def d_place_in : He.DefD := ⟨("place_in", none), "place_in", "place_in", defArgs s_place_in, defBody s_place_in, defScope s_place_in, [], []⟩
abbrev s_digits_of : Stmt := topS 17
theorem sc_digits_of : FnScope N_digits_of ["number", "many"] (defScope s_digits_of) := ⟨rfl, rfl, rfl, by decide +kernel, rfl, by decide +kernel, by decide +kernel⟩
def d_digits_of : He.DefD := ⟨("digits_of", none), "digits_of", "digits_of", defArgs s_digits_of, defBody s_digits_of, defScope s_digits_of, [], []⟩
abbrev s_count_row : Stmt := topS 18
theorem sc_count_row : FnScope N_count_row ["n"] (defScope s_count_row) := ⟨rfl, rfl, rfl, by decide +kernel, rfl, by decide +kernel, by decide +kernel⟩
def d_count_row : He.DefD := ⟨("count_row", none), "count_row", "count_row", defArgs s_count_row, defBody s_count_row, defScope s_count_row, [], []⟩
abbrev s_entry_of : Stmt := topS 25
theorem sc_entry_of : FnScope N_entry_of ["last", "row"] (defScope s_entry_of) := ⟨rfl, rfl, rfl, by decide +kernel, rfl, by decide +kernel, by decide +kernel⟩
def d_entry_of : He.DefD := ⟨("entry_of", none), "entry_of", "entry_of", defArgs s_entry_of, defBody s_entry_of, defScope s_entry_of, [], []⟩
abbrev s_page_of : Stmt := topS 26
theorem sc_page_of : FnScope N_page_of ["rows"] (defScope s_page_of) := ⟨rfl, rfl, rfl, by decide +kernel, rfl, by decide +kernel, by decide +kernel⟩
def d_page_of : He.DefD := ⟨("page_of", none), "page_of", "page_of", defArgs s_page_of, defBody s_page_of, defScope s_page_of, [], []⟩
abbrev s_page_with : Stmt := topS 31
theorem sc_page_with : FnScope N_page_with ["page", "row"] (defScope s_page_with) := ⟨rfl, rfl, rfl, by decide +kernel, rfl, by decide +kernel, by decide +kernel⟩
def d_page_with : He.DefD := ⟨("page_with", none), "page_with", "page_with", defArgs s_page_with, defBody s_page_with, defScope s_page_with, [], []⟩
abbrev s_page_without : Stmt := topS 32
theorem sc_page_without : FnScope N_page_without ["page", "row"] (defScope s_page_without) := ⟨rfl, rfl, rfl, by decide +kernel, rfl, by decide +kernel, by decide +kernel⟩
def d_page_without : He.DefD := ⟨("page_without", none), "page_without", "page_without", defArgs s_page_without, defBody s_page_without, defScope s_page_without, [], []⟩
abbrev s_poured : Stmt := topS 33
theorem sc_poured : FnScope N_poured ["one", "other"] (defScope s_poured) := ⟨rfl, rfl, rfl, by decide +kernel, rfl, by decide +kernel, by decide +kernel⟩
def d_poured : He.DefD := ⟨("poured", none), "poured", "poured", defArgs s_poured, defBody s_poured, defScope s_poured, [], []⟩
abbrev s__law_alone : Stmt := topS 43
theorem sc__law_alone : FnScope N__law_alone ["_law_error"] (defScope s__law_alone) := ⟨rfl, rfl, rfl, by decide +kernel, rfl, by decide +kernel, by decide +kernel⟩
def d__law_alone : He.DefD := ⟨("_law_alone", none), "_law_alone", "_law_alone", defArgs s__law_alone, defBody s__law_alone, defScope s__law_alone, [], []⟩
abbrev s__law_told : Stmt := topS 49
theorem sc__law_told : FnScope N__law_told ["_law_word", "_law_page_here", "_law_row", "_law_good"] (defScope s__law_told) := ⟨rfl, rfl, rfl, by decide +kernel, rfl, by decide +kernel, by decide +kernel⟩
def d__law_told : He.DefD := ⟨("_law_told", none), "_law_told", "_law_told", defArgs s__law_told, defBody s__law_told, defScope s__law_told, [], []⟩
abbrev s_law : Stmt := topS 51
theorem sc_law : FnScope N_law ["_law_script"] (defScope s_law) := ⟨rfl, rfl, rfl, by decide +kernel, rfl, by decide +kernel, by decide +kernel⟩
def d_law : He.DefD := ⟨("law", none), "law", "law", defArgs s_law, defBody s_law, defScope s_law, [], []⟩
def exAll (K : PySem.W.Frag) : Bool := exsB K exL && rootB K && ownB K "Short"
def fa : List He.Fa := [.free "len", .glo "_law_cell_at", .free "range", .glo "_law_mixed", .free "min", .glo "_law_free_row", .glo "_law_rows", .glo "_law_digits", .glo "_law_count", .glo "_law_common", .glo "_law_page", .glo "_law_counted", .free "int", .free "max", .glo "_law_loose", .glo "_law_bent", .glo "_law_count_at", .glo "_law_reader", .free "sorted", .glo "_law_due", .exc "BadPage", .cls "Source", .noat "Source" "signs", .noat "Source" "at", .noat "Source" "fills", .mkr "Source", .glo "Source", .meth "Source" "take", .glo "RiseError", .glo "Short", .int "MOST_ONES" 7, .glo "take_digits", .glo "take_count", .meth "Source" "spot", .glo "read_count", .glo "BadPage", .glo "count_at", .glo "shared_signs", .glo "entry_at", .glo "rows_of", .glo "place_in", .exc "Twice", .glo "Twice", .int "MOST_DIGITS" 255, .exc "NoFit", .glo "NoFit", .glo "digits_of", .glo "count_row", .free "enumerate", .exc "NotAhead", .glo "NotAhead", .glo "entry_of", .glo "page_of", .glo "page_with", .exc "Lacking", .glo "Lacking", .glo "page_without", .glo "poured", .free "ValueError", .free "isinstance", .glo "NoText", .glo "NoForm", .glo "Wrong", .glo "Left", .glo "_law_alone", .glo "_law_told", .glo "law"]
def fn : List He.DefD := [d__law_cell_at, d__law_mixed, d__law_free_row, d__law_rows, d__law_digits, d__law_count, d__law_common, d__law_page, d__law_counted, d__law_loose, d__law_bent, d__law_count_at, d__law_reader, d__law_due, d_Source___init__, d_Short___init__, d_Source_take, d_take_digits, d_take_count, d_Source_spot, d_read_count, d_count_at, d_shared_signs, d_entry_at, d_rows_of, d_place_in, d_digits_of, d_count_row, d_entry_of, d_page_of, d_page_with, d_page_without, d_poured, d__law_alone, d__law_told, d_law]
/-- what the top has written -/
structure Tx (K : PySem.W.Frag) (mg : Str → Option Value) : Prop where
  c : He.SaysD fa fn K
  x : exAll K = true
  h : ∃ h : Heap, K.In h ∧ h.Ns mainGlobals mg
section
variable {K : PySem.W.Frag} {mg : Str → Option Value}
theorem Tx.free_len (T : Tx K mg) : mg "len" = none := by
  obtain ⟨h, X, G⟩ := T.h
  exact He.free_ok X G (T.c.fact 0 (f := .free "len") rfl)
theorem Tx.glo__law_cell_at (T : Tx K mg) : mg "_law_cell_at" = some (.ref (He.ga K "_law_cell_at")) := by
  obtain ⟨h, X, G⟩ := T.h
  exact He.glo_ok X G (T.c.fact 1 (f := .glo "_law_cell_at") rfl)
theorem Tx.free_range (T : Tx K mg) : mg "range" = none := by
  obtain ⟨h, X, G⟩ := T.h
  exact He.free_ok X G (T.c.fact 2 (f := .free "range") rfl)
theorem Tx.glo__law_mixed (T : Tx K mg) : mg "_law_mixed" = some (.ref (He.ga K "_law_mixed")) := by
  obtain ⟨h, X, G⟩ := T.h
  exact He.glo_ok X G (T.c.fact 3 (f := .glo "_law_mixed") rfl)
theorem Tx.free_min (T : Tx K mg) : mg "min" = none := by
  obtain ⟨h, X, G⟩ := T.h
  exact He.free_ok X G (T.c.fact 4 (f := .free "min") rfl)
theorem Tx.glo__law_free_row (T : Tx K mg) : mg "_law_free_row" = some (.ref (He.ga K "_law_free_row")) := by
  obtain ⟨h, X, G⟩ := T.h
  exact He.glo_ok X G (T.c.fact 5 (f := .glo "_law_free_row") rfl)
theorem Tx.glo__law_rows (T : Tx K mg) : mg "_law_rows" = some (.ref (He.ga K "_law_rows")) := by
  obtain ⟨h, X, G⟩ := T.h
  exact He.glo_ok X G (T.c.fact 6 (f := .glo "_law_rows") rfl)
theorem Tx.glo__law_digits (T : Tx K mg) : mg "_law_digits" = some (.ref (He.ga K "_law_digits")) := by
  obtain ⟨h, X, G⟩ := T.h
  exact He.glo_ok X G (T.c.fact 7 (f := .glo "_law_digits") rfl)
theorem Tx.glo__law_count (T : Tx K mg) : mg "_law_count" = some (.ref (He.ga K "_law_count")) := by
  obtain ⟨h, X, G⟩ := T.h
  exact He.glo_ok X G (T.c.fact 8 (f := .glo "_law_count") rfl)
theorem Tx.glo__law_common (T : Tx K mg) : mg "_law_common" = some (.ref (He.ga K "_law_common")) := by
  obtain ⟨h, X, G⟩ := T.h
  exact He.glo_ok X G (T.c.fact 9 (f := .glo "_law_common") rfl)
theorem Tx.glo__law_page (T : Tx K mg) : mg "_law_page" = some (.ref (He.ga K "_law_page")) := by
  obtain ⟨h, X, G⟩ := T.h
  exact He.glo_ok X G (T.c.fact 10 (f := .glo "_law_page") rfl)
theorem Tx.glo__law_counted (T : Tx K mg) : mg "_law_counted" = some (.ref (He.ga K "_law_counted")) := by
  obtain ⟨h, X, G⟩ := T.h
  exact He.glo_ok X G (T.c.fact 11 (f := .glo "_law_counted") rfl)
theorem Tx.free_int (T : Tx K mg) : mg "int" = none := by
  obtain ⟨h, X, G⟩ := T.h
  exact He.free_ok X G (T.c.fact 12 (f := .free "int") rfl)
theorem Tx.free_max (T : Tx K mg) : mg "max" = none := by
  obtain ⟨h, X, G⟩ := T.h
  exact He.free_ok X G (T.c.fact 13 (f := .free "max") rfl)
theorem Tx.glo__law_loose (T : Tx K mg) : mg "_law_loose" = some (.ref (He.ga K "_law_loose")) := by
  obtain ⟨h, X, G⟩ := T.h
  exact He.glo_ok X G (T.c.fact 14 (f := .glo "_law_loose") rfl)
theorem Tx.glo__law_bent (T : Tx K mg) : mg "_law_bent" = some (.ref (He.ga K "_law_bent")) := by
  obtain ⟨h, X, G⟩ := T.h
  exact He.glo_ok X G (T.c.fact 15 (f := .glo "_law_bent") rfl)
theorem Tx.glo__law_count_at (T : Tx K mg) : mg "_law_count_at" = some (.ref (He.ga K "_law_count_at")) := by
  obtain ⟨h, X, G⟩ := T.h
  exact He.glo_ok X G (T.c.fact 16 (f := .glo "_law_count_at") rfl)
theorem Tx.glo__law_reader (T : Tx K mg) : mg "_law_reader" = some (.ref (He.ga K "_law_reader")) := by
  obtain ⟨h, X, G⟩ := T.h
  exact He.glo_ok X G (T.c.fact 17 (f := .glo "_law_reader") rfl)
theorem Tx.free_sorted (T : Tx K mg) : mg "sorted" = none := by
  obtain ⟨h, X, G⟩ := T.h
  exact He.free_ok X G (T.c.fact 18 (f := .free "sorted") rfl)
theorem Tx.glo__law_due (T : Tx K mg) : mg "_law_due" = some (.ref (He.ga K "_law_due")) := by
  obtain ⟨h, X, G⟩ := T.h
  exact He.glo_ok X G (T.c.fact 19 (f := .glo "_law_due") rfl)
theorem Tx.exc_BadPage (T : Tx K mg) : PySem.W.excIn K (He.ga K "BadPage") He.veBase "ValueError.__new__" = true ∧ PySem.W.keepIn K (.ref (He.ga K "BadPage")) = true ∧ PySem.W.subIn K (.ref (He.ga K "BadPage")) (.type "BaseException") = some true ∧ PySem.W.typeIn K (.ref (He.ga K "BadPage")) = some (.type "type") := He.exc_ok (T.c.fact 20 (f := .exc "BadPage") rfl)
theorem Tx.cls_Source (T : Tx K mg) : Cls K (He.ga K "Source") := He.cls_ok (T.c.fact 21 (f := .cls "Source") rfl)
theorem Tx.noat_Source_signs (T : Tx K mg) : NoAttr K (He.ga K "Source") "signs" := He.noat_ok (T.c.fact 22 (f := .noat "Source" "signs") rfl)
theorem Tx.noat_Source_at (T : Tx K mg) : NoAttr K (He.ga K "Source") "at" := He.noat_ok (T.c.fact 23 (f := .noat "Source" "at") rfl)
theorem Tx.noat_Source_fills (T : Tx K mg) : NoAttr K (He.ga K "Source") "fills" := He.noat_ok (T.c.fact 24 (f := .noat "Source" "fills") rfl)
theorem Tx.mkr_Source (T : Tx K mg) : Mk K (He.ga K "Source") (He.ma K (He.ga K "Source") "__init__") := He.mkr_ok (T.c.fact 25 (f := .mkr "Source") rfl)
theorem Tx.glo_Source (T : Tx K mg) : mg "Source" = some (.ref (He.ga K "Source")) := by
  obtain ⟨h, X, G⟩ := T.h
  exact He.glo_ok X G (T.c.fact 26 (f := .glo "Source") rfl)
theorem Tx.meth_Source_take (T : Tx K mg) : Meth K (He.ga K "Source") "take" (He.ma K (He.ga K "Source") "take") := He.meth_ok (T.c.fact 27 (f := .meth "Source" "take") rfl)
theorem Tx.glo_RiseError (T : Tx K mg) : mg "RiseError" = some (.ref (He.ga K "RiseError")) := by
  obtain ⟨h, X, G⟩ := T.h
  exact He.glo_ok X G (T.c.fact 28 (f := .glo "RiseError") rfl)
theorem Tx.glo_Short (T : Tx K mg) : mg "Short" = some (.ref (He.ga K "Short")) := by
  obtain ⟨h, X, G⟩ := T.h
  exact He.glo_ok X G (T.c.fact 29 (f := .glo "Short") rfl)
theorem Tx.int_MOST_ONES_7 (T : Tx K mg) : ∃ t, mg "MOST_ONES" = some (.int 7 t) := by
  obtain ⟨h, X, G⟩ := T.h
  exact He.int_ok X G (T.c.fact 30 (f := .int "MOST_ONES" 7) rfl)
theorem Tx.glo_take_digits (T : Tx K mg) : mg "take_digits" = some (.ref (He.ga K "take_digits")) := by
  obtain ⟨h, X, G⟩ := T.h
  exact He.glo_ok X G (T.c.fact 31 (f := .glo "take_digits") rfl)
theorem Tx.glo_take_count (T : Tx K mg) : mg "take_count" = some (.ref (He.ga K "take_count")) := by
  obtain ⟨h, X, G⟩ := T.h
  exact He.glo_ok X G (T.c.fact 32 (f := .glo "take_count") rfl)
theorem Tx.meth_Source_spot (T : Tx K mg) : Meth K (He.ga K "Source") "spot" (He.ma K (He.ga K "Source") "spot") := He.meth_ok (T.c.fact 33 (f := .meth "Source" "spot") rfl)
theorem Tx.glo_read_count (T : Tx K mg) : mg "read_count" = some (.ref (He.ga K "read_count")) := by
  obtain ⟨h, X, G⟩ := T.h
  exact He.glo_ok X G (T.c.fact 34 (f := .glo "read_count") rfl)
theorem Tx.glo_BadPage (T : Tx K mg) : mg "BadPage" = some (.ref (He.ga K "BadPage")) := by
  obtain ⟨h, X, G⟩ := T.h
  exact He.glo_ok X G (T.c.fact 35 (f := .glo "BadPage") rfl)
theorem Tx.glo_count_at (T : Tx K mg) : mg "count_at" = some (.ref (He.ga K "count_at")) := by
  obtain ⟨h, X, G⟩ := T.h
  exact He.glo_ok X G (T.c.fact 36 (f := .glo "count_at") rfl)
theorem Tx.glo_shared_signs (T : Tx K mg) : mg "shared_signs" = some (.ref (He.ga K "shared_signs")) := by
  obtain ⟨h, X, G⟩ := T.h
  exact He.glo_ok X G (T.c.fact 37 (f := .glo "shared_signs") rfl)
theorem Tx.glo_entry_at (T : Tx K mg) : mg "entry_at" = some (.ref (He.ga K "entry_at")) := by
  obtain ⟨h, X, G⟩ := T.h
  exact He.glo_ok X G (T.c.fact 38 (f := .glo "entry_at") rfl)
theorem Tx.glo_rows_of (T : Tx K mg) : mg "rows_of" = some (.ref (He.ga K "rows_of")) := by
  obtain ⟨h, X, G⟩ := T.h
  exact He.glo_ok X G (T.c.fact 39 (f := .glo "rows_of") rfl)
theorem Tx.glo_place_in (T : Tx K mg) : mg "place_in" = some (.ref (He.ga K "place_in")) := by
  obtain ⟨h, X, G⟩ := T.h
  exact He.glo_ok X G (T.c.fact 40 (f := .glo "place_in") rfl)
theorem Tx.exc_Twice (T : Tx K mg) : PySem.W.excIn K (He.ga K "Twice") He.veBase "ValueError.__new__" = true ∧ PySem.W.keepIn K (.ref (He.ga K "Twice")) = true ∧ PySem.W.subIn K (.ref (He.ga K "Twice")) (.type "BaseException") = some true ∧ PySem.W.typeIn K (.ref (He.ga K "Twice")) = some (.type "type") := He.exc_ok (T.c.fact 41 (f := .exc "Twice") rfl)
theorem Tx.glo_Twice (T : Tx K mg) : mg "Twice" = some (.ref (He.ga K "Twice")) := by
  obtain ⟨h, X, G⟩ := T.h
  exact He.glo_ok X G (T.c.fact 42 (f := .glo "Twice") rfl)
theorem Tx.int_MOST_DIGITS_255 (T : Tx K mg) : ∃ t, mg "MOST_DIGITS" = some (.int 255 t) := by
  obtain ⟨h, X, G⟩ := T.h
  exact He.int_ok X G (T.c.fact 43 (f := .int "MOST_DIGITS" 255) rfl)
theorem Tx.exc_NoFit (T : Tx K mg) : PySem.W.excIn K (He.ga K "NoFit") He.veBase "ValueError.__new__" = true ∧ PySem.W.keepIn K (.ref (He.ga K "NoFit")) = true ∧ PySem.W.subIn K (.ref (He.ga K "NoFit")) (.type "BaseException") = some true ∧ PySem.W.typeIn K (.ref (He.ga K "NoFit")) = some (.type "type") := He.exc_ok (T.c.fact 44 (f := .exc "NoFit") rfl)
theorem Tx.glo_NoFit (T : Tx K mg) : mg "NoFit" = some (.ref (He.ga K "NoFit")) := by
  obtain ⟨h, X, G⟩ := T.h
  exact He.glo_ok X G (T.c.fact 45 (f := .glo "NoFit") rfl)
theorem Tx.glo_digits_of (T : Tx K mg) : mg "digits_of" = some (.ref (He.ga K "digits_of")) := by
  obtain ⟨h, X, G⟩ := T.h
  exact He.glo_ok X G (T.c.fact 46 (f := .glo "digits_of") rfl)
theorem Tx.glo_count_row (T : Tx K mg) : mg "count_row" = some (.ref (He.ga K "count_row")) := by
  obtain ⟨h, X, G⟩ := T.h
  exact He.glo_ok X G (T.c.fact 47 (f := .glo "count_row") rfl)
theorem Tx.free_enumerate (T : Tx K mg) : mg "enumerate" = none := by
  obtain ⟨h, X, G⟩ := T.h
  exact He.free_ok X G (T.c.fact 48 (f := .free "enumerate") rfl)
theorem Tx.exc_NotAhead (T : Tx K mg) : PySem.W.excIn K (He.ga K "NotAhead") He.veBase "ValueError.__new__" = true ∧ PySem.W.keepIn K (.ref (He.ga K "NotAhead")) = true ∧ PySem.W.subIn K (.ref (He.ga K "NotAhead")) (.type "BaseException") = some true ∧ PySem.W.typeIn K (.ref (He.ga K "NotAhead")) = some (.type "type") := He.exc_ok (T.c.fact 49 (f := .exc "NotAhead") rfl)
theorem Tx.glo_NotAhead (T : Tx K mg) : mg "NotAhead" = some (.ref (He.ga K "NotAhead")) := by
  obtain ⟨h, X, G⟩ := T.h
  exact He.glo_ok X G (T.c.fact 50 (f := .glo "NotAhead") rfl)
theorem Tx.glo_entry_of (T : Tx K mg) : mg "entry_of" = some (.ref (He.ga K "entry_of")) := by
  obtain ⟨h, X, G⟩ := T.h
  exact He.glo_ok X G (T.c.fact 51 (f := .glo "entry_of") rfl)
theorem Tx.glo_page_of (T : Tx K mg) : mg "page_of" = some (.ref (He.ga K "page_of")) := by
  obtain ⟨h, X, G⟩ := T.h
  exact He.glo_ok X G (T.c.fact 52 (f := .glo "page_of") rfl)
theorem Tx.glo_page_with (T : Tx K mg) : mg "page_with" = some (.ref (He.ga K "page_with")) := by
  obtain ⟨h, X, G⟩ := T.h
  exact He.glo_ok X G (T.c.fact 53 (f := .glo "page_with") rfl)
theorem Tx.exc_Lacking (T : Tx K mg) : PySem.W.excIn K (He.ga K "Lacking") He.veBase "ValueError.__new__" = true ∧ PySem.W.keepIn K (.ref (He.ga K "Lacking")) = true ∧ PySem.W.subIn K (.ref (He.ga K "Lacking")) (.type "BaseException") = some true ∧ PySem.W.typeIn K (.ref (He.ga K "Lacking")) = some (.type "type") := He.exc_ok (T.c.fact 54 (f := .exc "Lacking") rfl)
theorem Tx.glo_Lacking (T : Tx K mg) : mg "Lacking" = some (.ref (He.ga K "Lacking")) := by
  obtain ⟨h, X, G⟩ := T.h
  exact He.glo_ok X G (T.c.fact 55 (f := .glo "Lacking") rfl)
theorem Tx.glo_page_without (T : Tx K mg) : mg "page_without" = some (.ref (He.ga K "page_without")) := by
  obtain ⟨h, X, G⟩ := T.h
  exact He.glo_ok X G (T.c.fact 56 (f := .glo "page_without") rfl)
theorem Tx.glo_poured (T : Tx K mg) : mg "poured" = some (.ref (He.ga K "poured")) := by
  obtain ⟨h, X, G⟩ := T.h
  exact He.glo_ok X G (T.c.fact 57 (f := .glo "poured") rfl)
theorem Tx.free_ValueError (T : Tx K mg) : mg "ValueError" = none := by
  obtain ⟨h, X, G⟩ := T.h
  exact He.free_ok X G (T.c.fact 58 (f := .free "ValueError") rfl)
theorem Tx.free_isinstance (T : Tx K mg) : mg "isinstance" = none := by
  obtain ⟨h, X, G⟩ := T.h
  exact He.free_ok X G (T.c.fact 59 (f := .free "isinstance") rfl)
theorem Tx.glo_NoText (T : Tx K mg) : mg "NoText" = some (.ref (He.ga K "NoText")) := by
  obtain ⟨h, X, G⟩ := T.h
  exact He.glo_ok X G (T.c.fact 60 (f := .glo "NoText") rfl)
theorem Tx.glo_NoForm (T : Tx K mg) : mg "NoForm" = some (.ref (He.ga K "NoForm")) := by
  obtain ⟨h, X, G⟩ := T.h
  exact He.glo_ok X G (T.c.fact 61 (f := .glo "NoForm") rfl)
theorem Tx.glo_Wrong (T : Tx K mg) : mg "Wrong" = some (.ref (He.ga K "Wrong")) := by
  obtain ⟨h, X, G⟩ := T.h
  exact He.glo_ok X G (T.c.fact 62 (f := .glo "Wrong") rfl)
theorem Tx.glo_Left (T : Tx K mg) : mg "Left" = some (.ref (He.ga K "Left")) := by
  obtain ⟨h, X, G⟩ := T.h
  exact He.glo_ok X G (T.c.fact 63 (f := .glo "Left") rfl)
theorem Tx.glo__law_alone (T : Tx K mg) : mg "_law_alone" = some (.ref (He.ga K "_law_alone")) := by
  obtain ⟨h, X, G⟩ := T.h
  exact He.glo_ok X G (T.c.fact 64 (f := .glo "_law_alone") rfl)
theorem Tx.glo__law_told (T : Tx K mg) : mg "_law_told" = some (.ref (He.ga K "_law_told")) := by
  obtain ⟨h, X, G⟩ := T.h
  exact He.glo_ok X G (T.c.fact 65 (f := .glo "_law_told") rfl)
theorem Tx.glo_law (T : Tx K mg) : mg "law" = some (.ref (He.ga K "law")) := by
  obtain ⟨h, X, G⟩ := T.h
  exact He.glo_ok X G (T.c.fact 66 (f := .glo "law") rfl)
theorem Tx.own_Short (T : Tx K mg) : OwnX K (He.ga K "Short") (He.ma K (He.ga K "Short") "__init__") := ownB_ok (He.ba T.x).2
theorem Tx.root (T : Tx K mg) : RootX K := rootB_ok (He.ba (He.ba T.x).1).2
theorem Tx.kx (T : Tx K mg) : Kx K := ⟨(He.ba (He.ba T.x).1).1⟩
theorem Tx.ko (T : Tx K mg) : Ko K := fun x hx => by
  simp only [ownL, List.mem_cons, List.not_mem_nil, or_false] at hx
  subst hx
  exact T.own_Short
theorem F__law_cell_at (T : Tx K mg) : FunD K "_law_cell_at" "_law_cell_at" (defArgs s__law_cell_at) (defBody s__law_cell_at) (defScope s__law_cell_at) [] [] (He.fAd K d__law_cell_at.at_) (fdOf K d__law_cell_at.at_) := fun_fdOf (T.c.def_ 0 (d := d__law_cell_at) rfl)
theorem b__law_cell_at (T : Tx K mg) : Binds K (fdOf K d__law_cell_at.at_) ["_law_script", "_law_k"] [] := (F__law_cell_at T).bindsN fun _ _ _ _ _ _ us hl => match us, hl with | [_, _], _ => rfl
theorem F__law_mixed (T : Tx K mg) : FunD K "_law_mixed" "_law_mixed" (defArgs s__law_mixed) (defBody s__law_mixed) (defScope s__law_mixed) [] [] (He.fAd K d__law_mixed.at_) (fdOf K d__law_mixed.at_) := fun_fdOf (T.c.def_ 1 (d := d__law_mixed) rfl)
theorem b__law_mixed (T : Tx K mg) : Binds K (fdOf K d__law_mixed.at_) ["_law_cell", "_law_k"] [] := (F__law_mixed T).bindsN fun _ _ _ _ _ _ us hl => match us, hl with | [_, _], _ => rfl
theorem F__law_free_row (T : Tx K mg) : FunD K "_law_free_row" "_law_free_row" (defArgs s__law_free_row) (defBody s__law_free_row) (defScope s__law_free_row) [] [] (He.fAd K d__law_free_row.at_) (fdOf K d__law_free_row.at_) := fun_fdOf (T.c.def_ 2 (d := d__law_free_row) rfl)
theorem b__law_free_row (T : Tx K mg) : Binds K (fdOf K d__law_free_row.at_) ["_law_rest", "_law_most"] [] := (F__law_free_row T).bindsN fun _ _ _ _ _ _ us hl => match us, hl with | [_, _], _ => rfl
theorem F__law_rows (T : Tx K mg) : FunD K "_law_rows" "_law_rows" (defArgs s__law_rows) (defBody s__law_rows) (defScope s__law_rows) [] [] (He.fAd K d__law_rows.at_) (fdOf K d__law_rows.at_) := fun_fdOf (T.c.def_ 3 (d := d__law_rows) rfl)
theorem b__law_rows (T : Tx K mg) : Binds K (fdOf K d__law_rows.at_) ["_law_script", "_law_most"] [] := (F__law_rows T).bindsN fun _ _ _ _ _ _ us hl => match us, hl with | [_, _], _ => rfl
theorem F__law_digits (T : Tx K mg) : FunD K "_law_digits" "_law_digits" (defArgs s__law_digits) (defBody s__law_digits) (defScope s__law_digits) [] [] (He.fAd K d__law_digits.at_) (fdOf K d__law_digits.at_) := fun_fdOf (T.c.def_ 4 (d := d__law_digits) rfl)
theorem b__law_digits (T : Tx K mg) : Binds K (fdOf K d__law_digits.at_) ["_law_number"] [] := (F__law_digits T).bindsN fun _ _ _ _ _ _ us hl => match us, hl with | [_], _ => rfl
theorem F__law_count (T : Tx K mg) : FunD K "_law_count" "_law_count" (defArgs s__law_count) (defBody s__law_count) (defScope s__law_count) [] [] (He.fAd K d__law_count.at_) (fdOf K d__law_count.at_) := fun_fdOf (T.c.def_ 5 (d := d__law_count) rfl)
theorem b__law_count (T : Tx K mg) : Binds K (fdOf K d__law_count.at_) ["_law_n"] [] := (F__law_count T).bindsN fun _ _ _ _ _ _ us hl => match us, hl with | [_], _ => rfl
theorem F__law_common (T : Tx K mg) : FunD K "_law_common" "_law_common" (defArgs s__law_common) (defBody s__law_common) (defScope s__law_common) [] [] (He.fAd K d__law_common.at_) (fdOf K d__law_common.at_) := fun_fdOf (T.c.def_ 6 (d := d__law_common) rfl)
theorem b__law_common (T : Tx K mg) : Binds K (fdOf K d__law_common.at_) ["_law_one", "_law_other"] [] := (F__law_common T).bindsN fun _ _ _ _ _ _ us hl => match us, hl with | [_, _], _ => rfl
theorem F__law_page (T : Tx K mg) : FunD K "_law_page" "_law_page" (defArgs s__law_page) (defBody s__law_page) (defScope s__law_page) [] [] (He.fAd K d__law_page.at_) (fdOf K d__law_page.at_) := fun_fdOf (T.c.def_ 7 (d := d__law_page) rfl)
theorem b__law_page (T : Tx K mg) : Binds K (fdOf K d__law_page.at_) ["_law_rows_here"] [] := (F__law_page T).bindsN fun _ _ _ _ _ _ us hl => match us, hl with | [_], _ => rfl
theorem F__law_counted (T : Tx K mg) : FunD K "_law_counted" "_law_counted" (defArgs s__law_counted) (defBody s__law_counted) (defScope s__law_counted) [] [] (He.fAd K d__law_counted.at_) (fdOf K d__law_counted.at_) := fun_fdOf (T.c.def_ 8 (d := d__law_counted) rfl)
theorem b__law_counted (T : Tx K mg) : Binds K (fdOf K d__law_counted.at_) ["_law_way", "_law_far", "_law_page_here", "_law_at"] [] := (F__law_counted T).bindsN fun _ _ _ _ _ _ us hl => match us, hl with | [_, _, _, _], _ => rfl
theorem F__law_loose (T : Tx K mg) : FunD K "_law_loose" "_law_loose" (defArgs s__law_loose) (defBody s__law_loose) (defScope s__law_loose) [] [] (He.fAd K d__law_loose.at_) (fdOf K d__law_loose.at_) := fun_fdOf (T.c.def_ 9 (d := d__law_loose) rfl)
theorem b__law_loose (T : Tx K mg) : Binds K (fdOf K d__law_loose.at_) ["_law_rows_here", "_law_number"] [] := (F__law_loose T).bindsN fun _ _ _ _ _ _ us hl => match us, hl with | [_, _], _ => rfl
theorem F__law_bent (T : Tx K mg) : FunD K "_law_bent" "_law_bent" (defArgs s__law_bent) (defBody s__law_bent) (defScope s__law_bent) [] [] (He.fAd K d__law_bent.at_) (fdOf K d__law_bent.at_) := fun_fdOf (T.c.def_ 10 (d := d__law_bent) rfl)
theorem b__law_bent (T : Tx K mg) : Binds K (fdOf K d__law_bent.at_) ["_law_script", "_law_rows_here"] [] := (F__law_bent T).bindsN fun _ _ _ _ _ _ us hl => match us, hl with | [_, _], _ => rfl
theorem F__law_count_at (T : Tx K mg) : FunD K "_law_count_at" "_law_count_at" (defArgs s__law_count_at) (defBody s__law_count_at) (defScope s__law_count_at) [] [] (He.fAd K d__law_count_at.at_) (fdOf K d__law_count_at.at_) := fun_fdOf (T.c.def_ 11 (d := d__law_count_at) rfl)
theorem b__law_count_at (T : Tx K mg) : Binds K (fdOf K d__law_count_at.at_) ["_law_page_here", "_law_at"] [] := (F__law_count_at T).bindsN fun _ _ _ _ _ _ us hl => match us, hl with | [_, _], _ => rfl
theorem F__law_reader (T : Tx K mg) : FunD K "_law_reader" "_law_reader" (defArgs s__law_reader) (defBody s__law_reader) (defScope s__law_reader) [] [] (He.fAd K d__law_reader.at_) (fdOf K d__law_reader.at_) := fun_fdOf (T.c.def_ 12 (d := d__law_reader) rfl)
theorem b__law_reader (T : Tx K mg) : Binds K (fdOf K d__law_reader.at_) ["_law_page_here"] [] := (F__law_reader T).bindsN fun _ _ _ _ _ _ us hl => match us, hl with | [_], _ => rfl
theorem F__law_due (T : Tx K mg) : FunD K "_law_due" "_law_due" (defArgs s__law_due) (defBody s__law_due) (defScope s__law_due) [] [] (He.fAd K d__law_due.at_) (fdOf K d__law_due.at_) := fun_fdOf (T.c.def_ 13 (d := d__law_due) rfl)
theorem b__law_due (T : Tx K mg) : Binds K (fdOf K d__law_due.at_) ["_law_word", "_law_rows_here", "_law_row"] [] := (F__law_due T).bindsN fun _ _ _ _ _ _ us hl => match us, hl with | [_, _, _], _ => rfl
theorem F_Source___init__ (T : Tx K mg) : FunD K "__init__" "Source.__init__" (defArgs s_Source___init__) (defBody s_Source___init__) (defScope s_Source___init__) [] [] (He.fAd K d_Source___init__.at_) (fdOf K d_Source___init__.at_) := fun_fdOf (T.c.def_ 14 (d := d_Source___init__) rfl)
theorem b_Source___init__ (T : Tx K mg) : Binds K (fdOf K d_Source___init__.at_) ["self", "signs", "at", "fills"] [] := (F_Source___init__ T).bindsN fun _ _ _ _ _ _ us hl => match us, hl with | [_, _, _, _], _ => rfl
theorem F_Short___init__ (T : Tx K mg) : FunD K "__init__" "Short.__init__" (defArgs s_Short___init__) (defBody s_Short___init__) (defScope s_Short___init__) [] [] (He.fAd K d_Short___init__.at_) (fdOf K d_Short___init__.at_) := fun_fdOf (T.c.def_ 15 (d := d_Short___init__) rfl)
theorem b_Short___init__ (T : Tx K mg) : Binds K (fdOf K d_Short___init__.at_) ["self", "place"] [] := (F_Short___init__ T).bindsN fun _ _ _ _ _ _ us hl => match us, hl with | [_, _], _ => rfl
theorem F_Source_take (T : Tx K mg) : FunD K "take" "Source.take" (defArgs s_Source_take) (defBody s_Source_take) (defScope s_Source_take) [] [] (He.fAd K d_Source_take.at_) (fdOf K d_Source_take.at_) := fun_fdOf (T.c.def_ 16 (d := d_Source_take) rfl)
theorem b_Source_take (T : Tx K mg) : Binds K (fdOf K d_Source_take.at_) ["self", "wish"] [] := (F_Source_take T).bindsN fun _ _ _ _ _ _ us hl => match us, hl with | [_, _], _ => rfl
theorem F_take_digits (T : Tx K mg) : FunD K "take_digits" "take_digits" (defArgs s_take_digits) (defBody s_take_digits) (defScope s_take_digits) [] [] (He.fAd K d_take_digits.at_) (fdOf K d_take_digits.at_) := fun_fdOf (T.c.def_ 17 (d := d_take_digits) rfl)
theorem b_take_digits (T : Tx K mg) : Binds K (fdOf K d_take_digits.at_) ["source", "number", "many"] [] := (F_take_digits T).bindsN fun _ _ _ _ _ _ us hl => match us, hl with | [_, _, _], _ => rfl
theorem F_take_count (T : Tx K mg) : FunD K "take_count" "take_count" (defArgs s_take_count) (defBody s_take_count) (defScope s_take_count) [] [] (He.fAd K d_take_count.at_) (fdOf K d_take_count.at_) := fun_fdOf (T.c.def_ 18 (d := d_take_count) rfl)
theorem b_take_count (T : Tx K mg) : Binds K (fdOf K d_take_count.at_) ["source", "wish"] [] := (F_take_count T).bindsN fun _ _ _ _ _ _ us hl => match us, hl with | [_, _], _ => rfl
theorem F_Source_spot (T : Tx K mg) : FunD K "spot" "Source.spot" (defArgs s_Source_spot) (defBody s_Source_spot) (defScope s_Source_spot) [] [] (He.fAd K d_Source_spot.at_) (fdOf K d_Source_spot.at_) := fun_fdOf (T.c.def_ 19 (d := d_Source_spot) rfl)
theorem b_Source_spot (T : Tx K mg) : Binds K (fdOf K d_Source_spot.at_) ["self"] [] := (F_Source_spot T).bindsN fun _ _ _ _ _ _ us hl => match us, hl with | [_], _ => rfl
theorem F_read_count (T : Tx K mg) : FunD K "read_count" "read_count" (defArgs s_read_count) (defBody s_read_count) (defScope s_read_count) [] [] (He.fAd K d_read_count.at_) (fdOf K d_read_count.at_) := fun_fdOf (T.c.def_ 20 (d := d_read_count) rfl)
theorem b_read_count (T : Tx K mg) : Binds K (fdOf K d_read_count.at_) ["signs", "at"] [] := (F_read_count T).bindsN fun _ _ _ _ _ _ us hl => match us, hl with | [_, _], _ => rfl
theorem F_count_at (T : Tx K mg) : FunD K "count_at" "count_at" (defArgs s_count_at) (defBody s_count_at) (defScope s_count_at) [] [] (He.fAd K d_count_at.at_) (fdOf K d_count_at.at_) := fun_fdOf (T.c.def_ 21 (d := d_count_at) rfl)
theorem b_count_at (T : Tx K mg) : Binds K (fdOf K d_count_at.at_) ["page", "at"] [] := (F_count_at T).bindsN fun _ _ _ _ _ _ us hl => match us, hl with | [_, _], _ => rfl
theorem F_shared_signs (T : Tx K mg) : FunD K "shared_signs" "shared_signs" (defArgs s_shared_signs) (defBody s_shared_signs) (defScope s_shared_signs) [] [] (He.fAd K d_shared_signs.at_) (fdOf K d_shared_signs.at_) := fun_fdOf (T.c.def_ 22 (d := d_shared_signs) rfl)
theorem b_shared_signs (T : Tx K mg) : Binds K (fdOf K d_shared_signs.at_) ["one", "other"] [] := (F_shared_signs T).bindsN fun _ _ _ _ _ _ us hl => match us, hl with | [_, _], _ => rfl
theorem F_entry_at (T : Tx K mg) : FunD K "entry_at" "entry_at" (defArgs s_entry_at) (defBody s_entry_at) (defScope s_entry_at) [] [] (He.fAd K d_entry_at.at_) (fdOf K d_entry_at.at_) := fun_fdOf (T.c.def_ 23 (d := d_entry_at) rfl)
theorem b_entry_at (T : Tx K mg) : Binds K (fdOf K d_entry_at.at_) ["page", "at", "last"] [] := (F_entry_at T).bindsN fun _ _ _ _ _ _ us hl => match us, hl with | [_, _, _], _ => rfl
theorem F_rows_of (T : Tx K mg) : FunD K "rows_of" "rows_of" (defArgs s_rows_of) (defBody s_rows_of) (defScope s_rows_of) [] [] (He.fAd K d_rows_of.at_) (fdOf K d_rows_of.at_) := fun_fdOf (T.c.def_ 24 (d := d_rows_of) rfl)
theorem b_rows_of (T : Tx K mg) : Binds K (fdOf K d_rows_of.at_) ["page"] [] := (F_rows_of T).bindsN fun _ _ _ _ _ _ us hl => match us, hl with | [_], _ => rfl
theorem F_place_in (T : Tx K mg) : FunD K "place_in" "place_in" (defArgs s_place_in) (defBody s_place_in) (defScope s_place_in) [] [] (He.fAd K d_place_in.at_) (fdOf K d_place_in.at_) := fun_fdOf (T.c.def_ 25 (d := d_place_in) rfl)
theorem b_place_in (T : Tx K mg) : Binds K (fdOf K d_place_in.at_) ["page", "row"] [] := (F_place_in T).bindsN fun _ _ _ _ _ _ us hl => match us, hl with | [_, _], _ => rfl
theorem F_digits_of (T : Tx K mg) : FunD K "digits_of" "digits_of" (defArgs s_digits_of) (defBody s_digits_of) (defScope s_digits_of) [] [] (He.fAd K d_digits_of.at_) (fdOf K d_digits_of.at_) := fun_fdOf (T.c.def_ 26 (d := d_digits_of) rfl)
theorem b_digits_of (T : Tx K mg) : Binds K (fdOf K d_digits_of.at_) ["number", "many"] [] := (F_digits_of T).bindsN fun _ _ _ _ _ _ us hl => match us, hl with | [_, _], _ => rfl
theorem F_count_row (T : Tx K mg) : FunD K "count_row" "count_row" (defArgs s_count_row) (defBody s_count_row) (defScope s_count_row) [] [] (He.fAd K d_count_row.at_) (fdOf K d_count_row.at_) := fun_fdOf (T.c.def_ 27 (d := d_count_row) rfl)
theorem b_count_row (T : Tx K mg) : Binds K (fdOf K d_count_row.at_) ["n"] [] := (F_count_row T).bindsN fun _ _ _ _ _ _ us hl => match us, hl with | [_], _ => rfl
theorem F_entry_of (T : Tx K mg) : FunD K "entry_of" "entry_of" (defArgs s_entry_of) (defBody s_entry_of) (defScope s_entry_of) [] [] (He.fAd K d_entry_of.at_) (fdOf K d_entry_of.at_) := fun_fdOf (T.c.def_ 28 (d := d_entry_of) rfl)
theorem b_entry_of (T : Tx K mg) : Binds K (fdOf K d_entry_of.at_) ["last", "row"] [] := (F_entry_of T).bindsN fun _ _ _ _ _ _ us hl => match us, hl with | [_, _], _ => rfl
theorem F_page_of (T : Tx K mg) : FunD K "page_of" "page_of" (defArgs s_page_of) (defBody s_page_of) (defScope s_page_of) [] [] (He.fAd K d_page_of.at_) (fdOf K d_page_of.at_) := fun_fdOf (T.c.def_ 29 (d := d_page_of) rfl)
theorem b_page_of (T : Tx K mg) : Binds K (fdOf K d_page_of.at_) ["rows"] [] := (F_page_of T).bindsN fun _ _ _ _ _ _ us hl => match us, hl with | [_], _ => rfl
theorem F_page_with (T : Tx K mg) : FunD K "page_with" "page_with" (defArgs s_page_with) (defBody s_page_with) (defScope s_page_with) [] [] (He.fAd K d_page_with.at_) (fdOf K d_page_with.at_) := fun_fdOf (T.c.def_ 30 (d := d_page_with) rfl)
theorem b_page_with (T : Tx K mg) : Binds K (fdOf K d_page_with.at_) ["page", "row"] [] := (F_page_with T).bindsN fun _ _ _ _ _ _ us hl => match us, hl with | [_, _], _ => rfl
theorem F_page_without (T : Tx K mg) : FunD K "page_without" "page_without" (defArgs s_page_without) (defBody s_page_without) (defScope s_page_without) [] [] (He.fAd K d_page_without.at_) (fdOf K d_page_without.at_) := fun_fdOf (T.c.def_ 31 (d := d_page_without) rfl)
theorem b_page_without (T : Tx K mg) : Binds K (fdOf K d_page_without.at_) ["page", "row"] [] := (F_page_without T).bindsN fun _ _ _ _ _ _ us hl => match us, hl with | [_, _], _ => rfl
theorem F_poured (T : Tx K mg) : FunD K "poured" "poured" (defArgs s_poured) (defBody s_poured) (defScope s_poured) [] [] (He.fAd K d_poured.at_) (fdOf K d_poured.at_) := fun_fdOf (T.c.def_ 32 (d := d_poured) rfl)
theorem b_poured (T : Tx K mg) : Binds K (fdOf K d_poured.at_) ["one", "other"] [] := (F_poured T).bindsN fun _ _ _ _ _ _ us hl => match us, hl with | [_, _], _ => rfl
theorem F__law_alone (T : Tx K mg) : FunD K "_law_alone" "_law_alone" (defArgs s__law_alone) (defBody s__law_alone) (defScope s__law_alone) [] [] (He.fAd K d__law_alone.at_) (fdOf K d__law_alone.at_) := fun_fdOf (T.c.def_ 33 (d := d__law_alone) rfl)
theorem b__law_alone (T : Tx K mg) : Binds K (fdOf K d__law_alone.at_) ["_law_error"] [] := (F__law_alone T).bindsN fun _ _ _ _ _ _ us hl => match us, hl with | [_], _ => rfl
theorem F__law_told (T : Tx K mg) : FunD K "_law_told" "_law_told" (defArgs s__law_told) (defBody s__law_told) (defScope s__law_told) [] [] (He.fAd K d__law_told.at_) (fdOf K d__law_told.at_) := fun_fdOf (T.c.def_ 34 (d := d__law_told) rfl)
theorem b__law_told (T : Tx K mg) : Binds K (fdOf K d__law_told.at_) ["_law_word", "_law_page_here", "_law_row", "_law_good"] [] := (F__law_told T).bindsN fun _ _ _ _ _ _ us hl => match us, hl with | [_, _, _, _], _ => rfl
theorem F_law (T : Tx K mg) : FunD K "law" "law" (defArgs s_law) (defBody s_law) (defScope s_law) [] [] (He.fAd K d_law.at_) (fdOf K d_law.at_) := fun_fdOf (T.c.def_ 35 (d := d_law) rfl)
theorem b_law (T : Tx K mg) : Binds K (fdOf K d_law.at_) ["_law_script"] [] := (F_law T).bindsN fun _ _ _ _ _ _ us hl => match us, hl with | [_], _ => rfl
end
section
variable {P : Program} {w : World} {K : PySem.W.Frag} {mg : Str → Option Value} {base : Heap}
theorem ok__law_cell_at (T : Tx K mg) : FnOk P w K mg base (L2.CX P w) 1 (He.fAd K d__law_cell_at.at_) (fdOf K d__law_cell_at.at_) ["_law_script", "_law_k"] (sp__law_cell_at K) := by
  refine (F__law_cell_at T).ok (k := 0) sc__law_cell_at (fun vs H Q E h => len__law_cell_at h) (fun cdv A outer s H vs Q E hr h => ⟨t__law_cell_at K, ?_, rd__law_cell_at vs H Q E h⟩)
  exact PSs.nox (pss_cons (ps_if (pt_cmpR op_lt (pv 1) (pe_callB call_lenK (by rfl) T.free_len (by decide +kernel) (pa_cons (pv 0) pa_nil)) (nomark _)) (pss_one (ps_ret (pe_ix ix_list (pv 0) (pv 1) (fun _ _ => rfl)))) pss_nil)
    (pss_one (ps_ret pe_int)))
theorem ok__law_mixed (T : Tx K mg) : FnOk P w K mg base (L2.CX P w) 1 (He.fAd K d__law_mixed.at_) (fdOf K d__law_mixed.at_) ["_law_cell", "_law_k"] (sp__law_mixed K) := by
  refine (F__law_mixed T).ok (k := 0) sc__law_mixed (fun vs H Q E h => len__law_mixed h) (fun cdv A outer s H vs Q E hr h => ⟨t__law_mixed K, ?_, rd__law_mixed vs H Q E h⟩)
  exact PSs.nox (pss_cons (ps_set (i := 2) sc__law_mixed.nd rfl (.inl rfl) (pe_op op_mod (pe_op op_add (pe_op op_add (pe_op op_mulX (pe_op op_mod (pv 0) pe_int) pe_int) (pe_op op_mulX (pv 1) pe_int)) pe_int) pe_int))
    (pss_cons (ps_set (i := 2) sc__law_mixed.nd rfl (.inl rfl) (pe_op op_mod (pe_op op_mulX (pv 2) (pv 2)) pe_int))
    (pss_one (ps_ret (pe_op op_mod (pe_op op_mulX (pv 2) (pv 2)) pe_int)))))
theorem ok__law_free_row (T : Tx K mg) : FnOk P w K mg base (L2.CX P w) 1 (He.fAd K d__law_free_row.at_) (fdOf K d__law_free_row.at_) ["_law_rest", "_law_most"] (sp__law_free_row K) := by
  refine (F__law_free_row T).ok (k := 0) sc__law_free_row (fun vs H Q E h => len__law_free_row h) (fun cdv A outer s H vs Q E hr h => ⟨t__law_free_row K, ?_, rd__law_free_row vs H Q E h⟩)
  exact PSs.nox (pss_cons (ps_set (i := 2) sc__law_free_row.nd rfl (.inl rfl) (pe_T (l := []) (by decide +kernel)))
    (pss_cons (ps_set (i := 3) sc__law_free_row.nd rfl (.inl rfl) (pe_op op_mod (pv 0) (pe_op op_add (pv 1) pe_int)))
    (pss_cons (ps_set (i := 0) sc__law_free_row.nd rfl (.inl rfl) (pe_op op_fdivW (pv 0) (pe_op op_add (pv 1) pe_int)))
    (pss_cons (ps_for PassesOwn.never rfl (pi_range1 (by rfl) T.free_range (pa_cons (pv 3) pa_nil)) (pg_name (i := 4) sc__law_free_row.nd rfl (.inl rfl)) (pss_one (ps_set (i := 2) sc__law_free_row.nd rfl (.inl rfl) (pe_op op_addT (pv 2) (pe_ix ix_str (pe_T (l := [48, 49]) (by decide +kernel)) (pe_op op_and (pe_op op_shr (pv 0) (pv 4)) pe_int) (fun _ _ => rfl))))))
    (pss_one (ps_ret (pv 2)))))))
theorem ok__law_rows (T : Tx K mg) : FnOk P w K mg base (L2.CX P w) 2 (He.fAd K d__law_rows.at_) (fdOf K d__law_rows.at_) ["_law_script", "_law_most"] (sp__law_rows K) := by
  refine (F__law_rows T).ok (k := 1) sc__law_rows (fun vs H Q E h => len__law_rows h) (fun cdv A outer s H vs Q E hr h => ⟨t__law_rows K, ?_, rd__law_rows vs H Q E h⟩)
  exact PSs.nox (pss_cons (ps_set (i := 2) sc__law_rows.nd rfl (.inl rfl) (pe_cmpR op_eq (pe_op op_mod (pe_call (ok__law_cell_at T) (hr.mono (by omega)) (by rfl) T.glo__law_cell_at (F__law_cell_at T).kp (b__law_cell_at T) .nil passL (pa_cons (pv 0) (pa_cons pe_int pa_nil))) pe_int) pe_int (nomark _)))
    (pss_cons (ps_set (i := 3) sc__law_rows.nd rfl (.inl rfl) (pe_T (l := []) (by decide +kernel)))
    (pss_cons (ps_set (i := 4) sc__law_rows.nd rfl (.inl rfl) (pe_lst pa_nil))
    (pss_cons (ps_for PassesOwn.never rfl (pi_range1 (by rfl) T.free_range (pa_cons (pe_callB call_lenK (by rfl) T.free_len (by decide +kernel) (pa_cons (pe_slice sl_list (pv 0) po_none (po_some (pv 1))) pa_nil)) pa_nil)) (pg_name (i := 5) sc__law_rows.nd rfl (.inl rfl)) (pss_cons (ps_set (i := 6) sc__law_rows.nd rfl (.inl rfl) (pe_call (ok__law_mixed T) (hr.mono (by omega)) (by rfl) T.glo__law_mixed (F__law_mixed T).kp (b__law_mixed T) .nil passL (pa_cons (pe_ix ix_list (pv 0) (pv 5) (fun _ _ => rfl)) (pa_cons (pv 5) pa_nil))))
    (pss_cons (ps_set (i := 3) sc__law_rows.nd rfl (.inl rfl) (pe_op op_addT (pv 3) (pe_ix ix_list (pe_lst (pa_cons (pe_T (l := [48]) (by decide +kernel)) (pa_cons (pe_T (l := [49]) (by decide +kernel)) (pa_cons (pe_T (l := [48, 49]) (by decide +kernel)) (pa_cons (pe_T (l := [49, 48]) (by decide +kernel)) (pa_cons (pe_T (l := [49, 49]) (by decide +kernel)) pa_nil)))))) (pe_op op_mod (pv 6) pe_int) (fun _ _ => rfl))))
    (pss_cons (ps_set (i := 7) sc__law_rows.nd rfl (.inl rfl) (pe_slice sl_str (pv 3) po_none (po_some (pe_op op_mod (pe_op op_fdivW (pv 6) pe_int) (pe_op op_add pe_int (pe_callB (call_min2 rfl) (by rfl) T.free_min (by decide +kernel) (pa_cons (pe_callB call_lenK (by rfl) T.free_len (by decide +kernel) (pa_cons (pv 3) pa_nil)) (pa_cons pe_int pa_nil))))))))
    (pss_cons (ps_for PassesOwn.never rfl (pi_range1 (by rfl) T.free_range (pa_cons (pe_op op_mod (pe_op op_fdivW (pv 6) pe_int) pe_int) pa_nil)) (pg_name (i := 8) sc__law_rows.nd rfl (.inl rfl)) (pss_one (ps_set (i := 7) sc__law_rows.nd rfl (.inl rfl) (pe_op op_addT (pv 7) (pe_ix ix_list (pe_lst (pa_cons (pe_T (l := [48, 48]) (by decide +kernel)) (pa_cons (pe_T (l := [48, 49]) (by decide +kernel)) (pa_cons (pe_T (l := [49, 48]) (by decide +kernel)) (pa_cons (pe_T (l := [49, 49]) (by decide +kernel)) (pa_cons (pe_T (l := []) (by decide +kernel)) pa_nil)))))) (pe_op op_mod (pe_call (ok__law_mixed T) (hr.mono (by omega)) (by rfl) T.glo__law_mixed (F__law_mixed T).kp (b__law_mixed T) .nil passL (pa_cons (pe_ix ix_list (pv 0) (pv 5) (fun _ _ => rfl)) (pa_cons (pe_op op_add (pe_op op_add (pv 5) (pe_op op_mulX pe_int (pv 8))) pe_int) pa_nil))) pe_int) (fun _ _ => rfl))))))
    (pss_cons (ps_if (pt_cmpR op_eq (pe_op op_mod (pe_op op_fdivW (pv 6) pe_int) pe_int) pe_int (nomark _)) (pss_one (ps_set (i := 7) sc__law_rows.nd rfl (.inl rfl) (pe_slice sl_str (pe_op op_addT (pv 7) (pe_op op_mulT (pe_ix ix_list (pe_lst (pa_cons (pe_T (l := [48]) (by decide +kernel)) (pa_cons (pe_T (l := [49]) (by decide +kernel)) pa_nil))) (pe_op op_mod (pv 6) pe_int) (fun _ _ => rfl)) pe_int)) po_none (po_some pe_int)))) pss_nil)
    (pss_cons (ps_if (pt_val (pv 2)) (pss_one (ps_set (i := 7) sc__law_rows.nd rfl (.inl rfl) (pe_call (ok__law_free_row T) (hr.mono (by omega)) (by rfl) T.glo__law_free_row (F__law_free_row T).kp (b__law_free_row T) .nil passL (pa_cons (pe_op op_fdivW (pe_ix ix_list (pv 0) (pv 5) (fun _ _ => rfl)) pe_int) (pa_cons pe_int pa_nil))))) pss_nil)
    (pss_cons (ps_set (i := 9) sc__law_rows.nd rfl (.inl rfl) pe_int)
    (pss_cons (ps_while PassesOwn.never (PW.pt (pw_and (pt_cmpR op_lt (pv 9) (pe_callB call_lenK (by rfl) T.free_len (by decide +kernel) (pa_cons (pv 4) pa_nil)) (nomark _)) (pw_and1 (pt_cmpR op_ltT' (pe_ix ix_list (pv 4) (pv 9) (fun _ _ => rfl)) (pv 7) (nomark _))))) (pss_one (ps_set (i := 9) sc__law_rows.nd rfl (.inl rfl) (pe_op op_add (pv 9) pe_int))))
    (pss_one (ps_if (PW.pt (pw_or (pt_cmpR op_eq (pv 9) (pe_callB call_lenK (by rfl) T.free_len (by decide +kernel) (pa_cons (pv 4) pa_nil)) (nomark _)) (pw_or1 (pt_cmpR op_ne (pe_ix ix_list (pv 4) (pv 9) (fun _ _ => rfl)) (pv 7) (nomark _))))) (pss_one (ps_expr (pe_bm PySem.F.plainAttrs_list PySem.F.slot_list_insert PySem.F.type_list_insert mt_insertK (pv 4) (pa_cons (pv 9) (pa_cons (pv 7) pa_nil))))) pss_nil)))))))))))
    (pss_one (ps_ret (pv 4)))))))
theorem ok__law_digits (T : Tx K mg) : FnOk P w K mg base (L2.CX P w) 1 (He.fAd K d__law_digits.at_) (fdOf K d__law_digits.at_) ["_law_number"] (sp__law_digits K) := by
  refine (F__law_digits T).ok (k := 0) sc__law_digits (fun vs H Q E h => len__law_digits h) (fun cdv A outer s H vs Q E hr h => ⟨t__law_digits K, ?_, rd__law_digits vs H Q E h⟩)
  exact PSs.nox (pss_cons (ps_set (i := 1) sc__law_digits.nd rfl (.inl rfl) (pe_T (l := []) (by decide +kernel)))
    (pss_cons (ps_while PassesOwn.never (pt_cmpR op_gt (pv 0) pe_int (nomark _)) (pss_cons (ps_set (i := 1) sc__law_digits.nd rfl (.inl rfl) (pe_op op_addT (pe_ix ix_list (pe_lst (pa_cons (pe_T (l := [48]) (by decide +kernel)) (pa_cons (pe_T (l := [49]) (by decide +kernel)) pa_nil))) (pe_op op_mod (pv 0) pe_int) (fun _ _ => rfl)) (pv 1)))
    (pss_one (ps_set (i := 0) sc__law_digits.nd rfl (.inl rfl) (pe_op op_fdivW (pv 0) pe_int)))))
    (pss_one (ps_ret (pv 1)))))
theorem ok__law_count (T : Tx K mg) : FnOk P w K mg base (L2.CX P w) 2 (He.fAd K d__law_count.at_) (fdOf K d__law_count.at_) ["_law_n"] (sp__law_count K) := by
  refine (F__law_count T).ok (k := 1) sc__law_count (fun vs H Q E h => len__law_count h) (fun cdv A outer s H vs Q E hr h => ⟨t__law_count K, ?_, rd__law_count vs H Q E h⟩)
  exact PSs.nox (pss_cons (ps_set (i := 1) sc__law_count.nd rfl (.inl rfl) (pe_call (ok__law_digits T) (hr.mono (by omega)) (by rfl) T.glo__law_digits (F__law_digits T).kp (b__law_digits T) .nil passL (pa_cons (pe_op op_add (pv 0) pe_int) pa_nil)))
    (pss_cons (ps_set (i := 2) sc__law_count.nd rfl (.inl rfl) (pe_call (ok__law_digits T) (hr.mono (by omega)) (by rfl) T.glo__law_digits (F__law_digits T).kp (b__law_digits T) .nil passL (pa_cons (pe_callB call_lenK (by rfl) T.free_len (by decide +kernel) (pa_cons (pv 1) pa_nil)) pa_nil)))
    (pss_cons (ps_set (i := 3) sc__law_count.nd rfl (.inl rfl) (pe_op op_mulT (pe_T (l := [49]) (by decide +kernel)) (pe_op op_sub (pe_callB call_lenK (by rfl) T.free_len (by decide +kernel) (pa_cons (pv 2) pa_nil)) pe_int)))
    (pss_cons (ps_if (pt_cmpR op_lt (pe_callB call_lenK (by rfl) T.free_len (by decide +kernel) (pa_cons (pv 2) pa_nil)) pe_int (nomark _)) (pss_one (ps_set (i := 3) sc__law_count.nd rfl (.inl rfl) (pe_op op_addT (pv 3) (pe_T (l := [48]) (by decide +kernel))))) pss_nil)
    (pss_one (ps_ret (pe_op op_addT (pe_op op_addT (pv 3) (pe_slice sl_str (pv 2) (po_some pe_int) po_none)) (pe_slice sl_str (pv 1) (po_some pe_int) po_none))))))))
theorem ok__law_common (T : Tx K mg) : FnOk P w K mg base (L2.CX P w) 1 (He.fAd K d__law_common.at_) (fdOf K d__law_common.at_) ["_law_one", "_law_other"] (sp__law_common K) := by
  refine (F__law_common T).ok (k := 0) sc__law_common (fun vs H Q E h => len__law_common h) (fun cdv A outer s H vs Q E hr h => ⟨t__law_common K, ?_, rd__law_common vs H Q E h⟩)
  exact PSs.nox (pss_cons (ps_set (i := 2) sc__law_common.nd rfl (.inl rfl) pe_int)
    (pss_cons (ps_while PassesOwn.never (PW.pt (pw_and (pt_cmpR op_eq (pe_slice sl_str (pv 0) (po_some (pv 2)) (po_some (pe_op op_add (pv 2) pe_int))) (pe_slice sl_str (pv 1) (po_some (pv 2)) (po_some (pe_op op_add (pv 2) pe_int))) (nomark _)) (pw_and1 (pt_cmpR op_lt (pv 2) (pe_callB call_lenK (by rfl) T.free_len (by decide +kernel) (pa_cons (pv 0) pa_nil)) (nomark _))))) (pss_one (ps_set (i := 2) sc__law_common.nd rfl (.inl rfl) (pe_op op_add (pv 2) pe_int))))
    (pss_one (ps_ret (pv 2)))))
theorem ok__law_page (T : Tx K mg) : FnOk P w K mg base (L2.CX P w) 3 (He.fAd K d__law_page.at_) (fdOf K d__law_page.at_) ["_law_rows_here"] (sp__law_page K) := by
  refine (F__law_page T).ok (k := 2) sc__law_page (fun vs H Q E h => len__law_page h) (fun cdv A outer s H vs Q E hr h => ⟨t__law_page K, ?_, rd__law_page vs H Q E h⟩)
  exact PSs.nox (pss_cons (ps_set (i := 1) sc__law_page.nd rfl (.inl rfl) (pe_call (ok__law_count T) (hr.mono (by omega)) (by rfl) T.glo__law_count (F__law_count T).kp (b__law_count T) .nil passL (pa_cons (pe_callB call_lenK (by rfl) T.free_len (by decide +kernel) (pa_cons (pv 0) pa_nil)) pa_nil)))
    (pss_cons (ps_set (i := 2) sc__law_page.nd rfl (.inl rfl) (pe_T (l := []) (by decide +kernel)))
    (pss_cons (ps_for PassesOwn.never rfl (pi_list (pv 0)) (pg_name (i := 3) sc__law_page.nd rfl (.inl rfl)) (pss_cons (ps_set (i := 4) sc__law_page.nd rfl (.inl rfl) (pe_call (ok__law_common T) (hr.mono (by omega)) (by rfl) T.glo__law_common (F__law_common T).kp (b__law_common T) .nil passL (pa_cons (pv 2) (pa_cons (pv 3) pa_nil))))
    (pss_cons (ps_set (i := 1) sc__law_page.nd rfl (.inl rfl) (pe_op op_addT (pe_op op_addT (pv 1) (pe_call (ok__law_count T) (hr.mono (by omega)) (by rfl) T.glo__law_count (F__law_count T).kp (b__law_count T) .nil passL (pa_cons (pv 4) pa_nil))) (pe_call (ok__law_count T) (hr.mono (by omega)) (by rfl) T.glo__law_count (F__law_count T).kp (b__law_count T) .nil passL (pa_cons (pe_op op_sub (pe_callB call_lenK (by rfl) T.free_len (by decide +kernel) (pa_cons (pv 3) pa_nil)) (pv 4)) pa_nil))))
    (pss_cons (ps_set (i := 1) sc__law_page.nd rfl (.inl rfl) (pe_op op_addT (pv 1) (pe_slice sl_str (pv 3) (po_some (pv 4)) po_none)))
    (pss_one (ps_set (i := 2) sc__law_page.nd rfl (.inl rfl) (pv 3)))))))
    (pss_one (ps_ret (pv 1))))))
theorem ok__law_counted (T : Tx K mg) : FnOk P w K mg base (L2.CX P w) 3 (He.fAd K d__law_counted.at_) (fdOf K d__law_counted.at_) ["_law_way", "_law_far", "_law_page_here", "_law_at"] (sp__law_counted K) := by
  refine (F__law_counted T).ok (k := 2) sc__law_counted (fun vs H Q E h => len__law_counted h) (fun cdv A outer s H vs Q E hr h => ⟨t__law_counted K, ?_, rd__law_counted vs H Q E h⟩)
  exact PSs.nox (pss_cons (ps_if (pt_cmpR op_eq (pv 0) pe_int (nomark _)) (pss_one (ps_ret (pe_op op_addT (pe_call (ok__law_count T) (hr.mono (by omega)) (by rfl) T.glo__law_count (F__law_count T).kp (b__law_count T) .nil passL (pa_cons (pv 1) pa_nil)) (pv 2)))) pss_nil)
    (pss_cons (ps_if (pt_cmpR op_eq (pv 0) pe_int (nomark _)) (pss_one (ps_ret (pe_op op_addT (pe_op op_addT (pe_call (ok__law_count T) (hr.mono (by omega)) (by rfl) T.glo__law_count (F__law_count T).kp (b__law_count T) .nil passL (pa_cons (pe_op op_add pe_int (pe_op op_mod (pv 1) pe_int)) pa_nil)) (pe_call (ok__law_count T) (hr.mono (by omega)) (by rfl) T.glo__law_count (F__law_count T).kp (b__law_count T) .nil passL (pa_cons (pe_op op_fdivW (pv 1) pe_int) pa_nil))) (pv 2)))) pss_nil)
    (pss_one (ps_ret (pe_op op_addT (pe_op op_addT (pe_op op_addT (pe_call (ok__law_count T) (hr.mono (by omega)) (by rfl) T.glo__law_count (F__law_count T).kp (b__law_count T) .nil passL (pa_cons pe_int pa_nil)) (pe_call (ok__law_count T) (hr.mono (by omega)) (by rfl) T.glo__law_count (F__law_count T).kp (b__law_count T) .nil passL (pa_cons pe_int pa_nil))) (pe_call (ok__law_count T) (hr.mono (by omega)) (by rfl) T.glo__law_count (F__law_count T).kp (b__law_count T) .nil passL (pa_cons (pv 1) pa_nil))) (pe_slice sl_str (pv 2) po_none (po_some (pv 3))))))))
theorem ok__law_loose (T : Tx K mg) : FnOk P w K mg base (L2.CX P w) 3 (He.fAd K d__law_loose.at_) (fdOf K d__law_loose.at_) ["_law_rows_here", "_law_number"] (sp__law_loose K) := by
  refine (F__law_loose T).ok (k := 2) sc__law_loose (fun vs H Q E h => len__law_loose h) (fun cdv A outer s H vs Q E hr h => ⟨t__law_loose K, ?_, rd__law_loose vs H Q E h⟩)
  exact PSs.nox (pss_cons (ps_set (i := 2) sc__law_loose.nd rfl (.inl rfl) (pe_call (ok__law_count T) (hr.mono (by omega)) (by rfl) T.glo__law_count (F__law_count T).kp (b__law_count T) .nil passL (pa_cons (pe_callB call_lenK (by rfl) T.free_len (by decide +kernel) (pa_cons (pv 0) pa_nil)) pa_nil)))
    (pss_cons (ps_set (i := 3) sc__law_loose.nd rfl (.inl rfl) (pe_T (l := []) (by decide +kernel)))
    (pss_cons (ps_for PassesOwn.never rfl (pi_range1 (by rfl) T.free_range (pa_cons (pe_callB call_lenK (by rfl) T.free_len (by decide +kernel) (pa_cons (pv 0) pa_nil)) pa_nil)) (pg_name (i := 4) sc__law_loose.nd rfl (.inl rfl)) (pss_cons (ps_set (i := 5) sc__law_loose.nd rfl (.inl rfl) (pe_call (ok__law_common T) (hr.mono (by omega)) (by rfl) T.glo__law_common (F__law_common T).kp (b__law_common T) .nil passL (pa_cons (pv 3) (pa_cons (pe_ix ix_list (pv 0) (pv 4) (fun _ _ => rfl)) pa_nil))))
    (pss_cons (ps_if (pt_cmpR op_eq (pv 4) (pe_op op_mod (pv 1) (pe_callB (call_max2 rfl) (by rfl) T.free_max (by decide +kernel) (pa_cons (pe_callB call_lenK (by rfl) T.free_len (by decide +kernel) (pa_cons (pv 0) pa_nil)) (pa_cons pe_int pa_nil)))) (nomark _)) (pss_one (ps_set (i := 5) sc__law_loose.nd rfl (.inl rfl) (pe_callB (call_max2 rfl) (by rfl) T.free_max (by decide +kernel) (pa_cons (pe_op op_sub (pv 5) pe_int) (pa_cons pe_int pa_nil))))) pss_nil)
    (pss_cons (ps_set (i := 2) sc__law_loose.nd rfl (.inl rfl) (pe_op op_addT (pe_op op_addT (pv 2) (pe_call (ok__law_count T) (hr.mono (by omega)) (by rfl) T.glo__law_count (F__law_count T).kp (b__law_count T) .nil passL (pa_cons (pv 5) pa_nil))) (pe_call (ok__law_count T) (hr.mono (by omega)) (by rfl) T.glo__law_count (F__law_count T).kp (b__law_count T) .nil passL (pa_cons (pe_op op_sub (pe_callB call_lenK (by rfl) T.free_len (by decide +kernel) (pa_cons (pe_ix ix_list (pv 0) (pv 4) (fun _ _ => rfl)) pa_nil)) (pv 5)) pa_nil))))
    (pss_cons (ps_set (i := 2) sc__law_loose.nd rfl (.inl rfl) (pe_op op_addT (pv 2) (pe_slice sl_str (pe_ix ix_list (pv 0) (pv 4) (fun _ _ => rfl)) (po_some (pv 5)) po_none)))
    (pss_one (ps_set (i := 3) sc__law_loose.nd rfl (.inl rfl) (pe_ix ix_list (pv 0) (pv 4) (fun _ _ => rfl)))))))))
    (pss_one (ps_ret (pv 2))))))
theorem ok__law_bent (T : Tx K mg) : FnOk P w K mg base (L2.CX P w) 4 (He.fAd K d__law_bent.at_) (fdOf K d__law_bent.at_) ["_law_script", "_law_rows_here"] (sp__law_bent K) := by
  refine (F__law_bent T).ok (k := 3) sc__law_bent (fun vs H Q E h => len__law_bent h) (fun cdv A outer s H vs Q E hr h => ⟨t__law_bent K, ?_, rd__law_bent vs H Q E h⟩)
  exact PSs.nox (pss_cons (ps_set (i := 2) sc__law_bent.nd rfl (.inl rfl) (pe_call (ok__law_mixed T) (hr.mono (by omega)) (by rfl) T.glo__law_mixed (F__law_mixed T).kp (b__law_mixed T) .nil passL (pa_cons (pe_call (ok__law_cell_at T) (hr.mono (by omega)) (by rfl) T.glo__law_cell_at (F__law_cell_at T).kp (b__law_cell_at T) .nil passL (pa_cons (pv 0) (pa_cons pe_int pa_nil))) (pa_cons pe_int pa_nil))))
    (pss_cons (ps_set (i := 3) sc__law_bent.nd rfl (.inl rfl) (pe_op op_mod (pe_call (ok__law_cell_at T) (hr.mono (by omega)) (by rfl) T.glo__law_cell_at (F__law_cell_at T).kp (b__law_cell_at T) .nil passL (pa_cons (pv 0) (pa_cons pe_int pa_nil))) (pe_op op_pow pe_int pe_int)))
    (pss_cons (ps_set (i := 4) sc__law_bent.nd rfl (.inl rfl) (pe_call (ok__law_page T) (hr.mono (by omega)) (by rfl) T.glo__law_page (F__law_page T).kp (b__law_page T) .nil passL (pa_cons (pv 1) pa_nil)))
    (pss_cons (ps_set (i := 5) sc__law_bent.nd rfl (.inl rfl) (pe_op op_mod (pe_op op_fdivW (pv 2) pe_int) (pe_callB call_lenK (by rfl) T.free_len (by decide +kernel) (pa_cons (pv 4) pa_nil))))
    (pss_cons (ps_set (i := 6) sc__law_bent.nd rfl (.inl rfl) (pe_ix ix_str (pe_T (l := [48, 49]) (by decide +kernel)) (pe_op op_mod (pe_op op_fdivW (pv 2) pe_int) pe_int) (fun _ _ => rfl)))
    (pss_cons (ps_set (i := 7) sc__law_bent.nd rfl (.inl rfl) (pe_op op_mod (pv 2) pe_int))
    (pss_cons (ps_if (pt_cmpR op_lt (pv 7) pe_int (nomark _)) (pss_one (ps_ret (pe_call (ok__law_counted T) (hr.mono (by omega)) (by rfl) T.glo__law_counted (F__law_counted T).kp (b__law_counted T) .nil passL (pa_cons (pv 7) (pa_cons (pv 3) (pa_cons (pv 4) (pa_cons (pv 5) pa_nil))))))) pss_nil)
    (pss_cons (ps_if (pt_cmpR op_eq (pv 7) pe_int (nomark _)) (pss_one (ps_ret (pe_op op_addT (pe_op op_addT (pe_slice sl_str (pv 4) po_none (po_some (pv 5))) (pe_ix ix_list (pe_lst (pa_cons (pe_T (l := [49]) (by decide +kernel)) (pa_cons (pe_T (l := [48]) (by decide +kernel)) pa_nil))) (pe_callTy call_intB (by rfl) T.free_int (by decide +kernel) (pa_cons (pe_cmpR op_eq (pe_ix ix_str (pv 4) (pv 5) (fun _ _ => rfl)) (pe_T (l := [49]) (by decide +kernel)) (nomark _)) pa_nil)) (fun _ _ => rfl))) (pe_slice sl_str (pv 4) (po_some (pe_op op_add (pv 5) pe_int)) po_none)))) pss_nil)
    (pss_cons (ps_if (pt_cmpR op_eq (pv 7) pe_int (nomark _)) (pss_one (ps_ret (pe_op op_addT (pe_op op_addT (pe_slice sl_str (pv 4) po_none (po_some (pv 5))) (pv 6)) (pe_slice sl_str (pv 4) (po_some (pv 5)) po_none)))) pss_nil)
    (pss_cons (ps_if (pt_cmpR op_eq (pv 7) pe_int (nomark _)) (pss_one (ps_ret (pe_op op_addT (pe_slice sl_str (pv 4) po_none (po_some (pv 5))) (pe_slice sl_str (pv 4) (po_some (pe_op op_add (pv 5) pe_int)) po_none)))) pss_nil)
    (pss_cons (ps_if (pt_cmpR op_eq (pv 7) pe_int (nomark _)) (pss_cons (ps_set (i := 8) sc__law_bent.nd rfl (.inl rfl) (pe_slice sl_str (pv 4) (po_some (pe_op op_add (pv 5) pe_int)) (po_some (pe_op op_add (pv 5) pe_int))))
    (pss_one (ps_ret (pe_op op_addT (pe_op op_addT (pe_op op_addT (pe_slice sl_str (pv 4) po_none (po_some (pv 5))) (pv 8)) (pe_ix ix_str (pv 4) (pv 5) (fun _ _ => rfl))) (pe_slice sl_str (pv 4) (po_some (pe_op op_add (pv 5) pe_int)) po_none))))) pss_nil)
    (pss_cons (ps_if (pt_cmpR op_eq (pv 7) pe_int (nomark _)) (pss_one (ps_ret (pe_slice sl_str (pv 4) po_none (po_some (pv 5))))) pss_nil)
    (pss_cons (ps_if (pt_cmpR op_eq (pv 7) pe_int (nomark _)) (pss_one (ps_ret (pe_op op_addT (pv 4) (pe_op op_mulT (pv 6) (pe_op op_add pe_int (pe_op op_mod (pv 5) pe_int)))))) pss_nil)
    (pss_cons (ps_if (pt_cmpR op_eq (pv 7) pe_int (nomark _)) (pss_one (ps_ret (pe_call (ok__law_page T) (hr.mono (by omega)) (by rfl) T.glo__law_page (F__law_page T).kp (b__law_page T) .nil passL (pa_cons (pe_slice3 sl_list3 (pv 1) po_none po_none (po_some (pe_un un_neg pe_int))) pa_nil)))) pss_nil)
    (pss_cons (ps_if (pt_cmpR op_eq (pv 7) pe_int (nomark _)) (pss_one (ps_ret (pe_call (ok__law_loose T) (hr.mono (by omega)) (by rfl) T.glo__law_loose (F__law_loose T).kp (b__law_loose T) .nil passL (pa_cons (pv 1) (pa_cons (pv 5) pa_nil))))) pss_nil)
    (pss_cons (ps_if (pt_cmpR op_eq (pv 7) pe_int (nomark _)) (pss_one (ps_ret (pe_bm PySem.F.plainAttrs_str PySem.F.slot_str_join PySem.F.type_str_join mt_joinK (pe_T (l := []) (by decide +kernel)) (pa_cons (pe_lc (own := [("_law_cell", 9)]) (g := (gName 9)) (tt := tYes) rfl sc__law_bent.nd (pi_list (pe_slice sl_list (pv 0) po_none (po_some pe_int))) (blkOk_by (N := N__law_bent) (sc := defScope s__law_bent) (by decide +kernel)) (fun _ _ _ _ _ => (pg_name (i := 9) sc__law_bent.nd rfl (.inl rfl))) (fun _ _ _ _ _ => by exact pts_nil) (fun _ _ _ _ _ => by exact (pe_ix ix_str (pe_T (l := [48, 49]) (by decide +kernel)) (pe_op op_mod (pe_op op_fdivW (pv 9) pe_int) pe_int) (fun _ _ => rfl)))) pa_nil)))) pss_nil)
    (pss_one (ps_ret (pv 4)))))))))))))))))))
theorem ok__law_count_at (T : Tx K mg) : FnOk P w K mg base (L2.CX P w) 1 (He.fAd K d__law_count_at.at_) (fdOf K d__law_count_at.at_) ["_law_page_here", "_law_at"] (sp__law_count_at K) := by
  refine (F__law_count_at T).ok (k := 0) sc__law_count_at (fun vs H Q E h => len__law_count_at h) (fun cdv A outer s H vs Q E hr h => ⟨t__law_count_at K, ?_, rd__law_count_at vs H Q E h⟩)
  exact PSs.nox (pss_cons (ps_set (i := 2) sc__law_count_at.nd rfl (.inl rfl) pe_int)
    (pss_cons (ps_while PassesOwn.never (PW.pt (pw_and (pt_cmpR op_lt (pv 2) pe_int (nomark _)) (pw_and1 (pt_cmpR op_eq (pe_slice sl_str (pv 0) (po_some (pv 1)) (po_some (pe_op op_add (pv 1) pe_int))) (pe_T (l := [49]) (by decide +kernel)) (nomark _))))) (pss_cons (ps_set (i := 2) sc__law_count_at.nd rfl (.inl rfl) (pe_op op_add (pv 2) pe_int))
    (pss_one (ps_set (i := 1) sc__law_count_at.nd rfl (.inl rfl) (pe_op op_add (pv 1) pe_int)))))
    (pss_cons (ps_if (pt_cmpR op_lt (pv 2) pe_int (nomark _)) (pss_one (ps_set (i := 1) sc__law_count_at.nd rfl (.inl rfl) (pe_op op_add (pv 1) pe_int))) pss_nil)
    (pss_cons (ps_set (i := 3) sc__law_count_at.nd rfl (.inl rfl) pe_int)
    (pss_cons (ps_for PassesOwn.never rfl (pi_range1 (by rfl) T.free_range (pa_cons (pv 2) pa_nil)) (pg_name (i := 4) sc__law_count_at.nd rfl (.inl rfl)) (pss_cons (ps_set (i := 3) sc__law_count_at.nd rfl (.inl rfl) (pe_op op_add (pe_op op_mulX (pv 3) pe_int) (pe_callTy call_intB (by rfl) T.free_int (by decide +kernel) (pa_cons (pe_cmpR op_eq (pe_slice sl_str (pv 0) (po_some (pv 1)) (po_some (pe_op op_add (pv 1) pe_int))) (pe_T (l := [49]) (by decide +kernel)) (nomark _)) pa_nil))))
    (pss_one (ps_set (i := 1) sc__law_count_at.nd rfl (.inl rfl) (pe_op op_add (pv 1) pe_int)))))
    (pss_cons (ps_set (i := 5) sc__law_count_at.nd rfl (.inl rfl) pe_int)
    (pss_cons (ps_for PassesOwn.never rfl (pi_range1 (by rfl) T.free_range (pa_cons (pe_op op_sub (pv 3) pe_int) pa_nil)) (pg_name (i := 4) sc__law_count_at.nd rfl (.inl rfl)) (pss_cons (ps_set (i := 5) sc__law_count_at.nd rfl (.inl rfl) (pe_op op_add (pe_op op_mulX (pv 5) pe_int) (pe_callTy call_intB (by rfl) T.free_int (by decide +kernel) (pa_cons (pe_cmpR op_eq (pe_slice sl_str (pv 0) (po_some (pv 1)) (po_some (pe_op op_add (pv 1) pe_int))) (pe_T (l := [49]) (by decide +kernel)) (nomark _)) pa_nil))))
    (pss_one (ps_set (i := 1) sc__law_count_at.nd rfl (.inl rfl) (pe_op op_add (pv 1) pe_int)))))
    (pss_one (ps_ret (pe_lst (pa_cons (pe_op op_sub (pv 5) pe_int) (pa_cons (pv 1) pa_nil))))))))))))
theorem ok__law_reader (T : Tx K mg) : FnOk P w K mg base (L2.CX P w) 2 (He.fAd K d__law_reader.at_) (fdOf K d__law_reader.at_) ["_law_page_here"] (sp__law_reader K) := by
  refine (F__law_reader T).ok (k := 1) sc__law_reader (fun vs H Q E h => len__law_reader h) (fun cdv A outer s H vs Q E hr h => ⟨t__law_reader K, ?_, rd__law_reader vs H Q E h⟩)
  exact PSs.nox (pss_cons (ps_asg (pe_call (ok__law_count_at T) (hr.mono (by omega)) (by rfl) T.glo__law_count_at (F__law_count_at T).kp (b__law_count_at T) .nil passL (pa_cons (pv 0) (pa_cons pe_int pa_nil))) (pg_lst rfl (pgs_cons (pg_name (i := 1) sc__law_reader.nd rfl (.inl rfl)) (pgs_cons (pg_name (i := 2) sc__law_reader.nd rfl (.inl rfl)) pgs_nil))))
    (pss_cons (ps_set (i := 3) sc__law_reader.nd rfl (.inl rfl) (pe_lst pa_nil))
    (pss_cons (ps_set (i := 4) sc__law_reader.nd rfl (.inl rfl) (pe_T (l := []) (by decide +kernel)))
    (pss_cons (ps_while PassesOwn.never (PW.pt (pw_and (pt_cmpR op_le (pv 2) (pe_callB call_lenK (by rfl) T.free_len (by decide +kernel) (pa_cons (pv 0) pa_nil)) (nomark _)) (pw_and1 (pt_cmpR op_lt (pe_callB call_lenK (by rfl) T.free_len (by decide +kernel) (pa_cons (pv 3) pa_nil)) (pv 1) (nomark _))))) (pss_cons (ps_asg (pe_call (ok__law_count_at T) (hr.mono (by omega)) (by rfl) T.glo__law_count_at (F__law_count_at T).kp (b__law_count_at T) .nil passL (pa_cons (pv 0) (pa_cons (pv 2) pa_nil))) (pg_lst rfl (pgs_cons (pg_name (i := 5) sc__law_reader.nd rfl (.inl rfl)) (pgs_cons (pg_name (i := 2) sc__law_reader.nd rfl (.inl rfl)) pgs_nil))))
    (pss_cons (ps_asg (pe_call (ok__law_count_at T) (hr.mono (by omega)) (by rfl) T.glo__law_count_at (F__law_count_at T).kp (b__law_count_at T) .nil passL (pa_cons (pv 0) (pa_cons (pv 2) pa_nil))) (pg_lst rfl (pgs_cons (pg_name (i := 6) sc__law_reader.nd rfl (.inl rfl)) (pgs_cons (pg_name (i := 2) sc__law_reader.nd rfl (.inl rfl)) pgs_nil))))
    (pss_cons (ps_if (PW.pt (pw_or (pt_cmpR op_gt (pv 5) (pe_callB call_lenK (by rfl) T.free_len (by decide +kernel) (pa_cons (pv 4) pa_nil)) (nomark _)) (pw_or1 (pt_cmpR op_gt (pv 6) (pe_op op_sub (pe_callB call_lenK (by rfl) T.free_len (by decide +kernel) (pa_cons (pv 0) pa_nil)) (pv 2)) (nomark _))))) (pss_one (ps_ret pe_non)) pss_nil)
    (pss_cons (ps_set (i := 7) sc__law_reader.nd rfl (.inl rfl) (pe_op op_addT (pe_slice sl_str (pv 4) po_none (po_some (pv 5))) (pe_slice sl_str (pv 0) (po_some (pv 2)) (po_some (pe_op op_add (pv 2) (pv 6))))))
    (pss_cons (ps_if (PW.pt (pw_or (pt_cmpR op_ne (pe_call (ok__law_common T) (hr.mono (by omega)) (by rfl) T.glo__law_common (F__law_common T).kp (b__law_common T) .nil passL (pa_cons (pv 4) (pa_cons (pv 7) pa_nil))) (pv 5) (nomark _)) (pw_or1 (PW.pt (pw_and (pt_cmpR (op_neD hr.units) (pv 3) (pe_lst pa_nil) (nomark _)) (pw_and1 (pt_cmpR op_leT' (pv 7) (pv 4) (nomark _)))))))) (pss_one (ps_ret pe_non)) pss_nil)
    (pss_cons (ps_expr (pe_bm PySem.F.plainAttrs_list PySem.F.slot_list_append PySem.F.type_list_append mt_append (pv 3) (pa_cons (pv 7) pa_nil)))
    (pss_cons (ps_set (i := 4) sc__law_reader.nd rfl (.inl rfl) (pv 7))
    (pss_one (ps_set (i := 2) sc__law_reader.nd rfl (.inl rfl) (pe_op op_add (pv 2) (pv 6))))))))))))
    (pss_cons (ps_if (pt_cmpR op_ne (pv 2) (pe_callB call_lenK (by rfl) T.free_len (by decide +kernel) (pa_cons (pv 0) pa_nil)) (nomark _)) (pss_one (ps_ret pe_non)) pss_nil)
    (pss_one (ps_ret (pv 3))))))))
theorem ok__law_due (T : Tx K mg) : FnOk P w K mg base (L2.CX P w) 4 (He.fAd K d__law_due.at_) (fdOf K d__law_due.at_) ["_law_word", "_law_rows_here", "_law_row"] (sp__law_due K) := by
  refine (F__law_due T).ok (k := 3) sc__law_due (fun vs H Q E h => len__law_due h) (fun cdv A outer s H vs Q E hr h => ⟨t__law_due K, ?_, rd__law_due vs H Q E h⟩)
  exact PSs.nox (pss_cons (ps_if (pt_cmpR op_eq (pv 0) pe_int (nomark _)) (pss_one (ps_ret (pe_tup (pa_cons (pe_callB call_lenK (by rfl) T.free_len (by decide +kernel) (pa_cons (pe_lc (own := [("_law_one", 3)]) (g := (gName 3)) (tt := (tTest (tOp rLtT (tVar 3) (tVar 2)))) rfl sc__law_due.nd (pi_list (pv 1)) (blkOk_by (N := N__law_due) (sc := defScope s__law_due) (by decide +kernel)) (fun _ _ _ _ _ => (pg_name (i := 3) sc__law_due.nd rfl (.inl rfl))) (fun _ _ _ _ _ => by exact (pts_one (pt_cmpR op_ltT' (pv 3) (pv 2) (nomark _)))) (fun _ _ _ _ _ => by exact (pv 3))) pa_nil)) (pa_cons (pe_cmpR op_in_seq (pv 2) (pv 1) (by rfl)) pa_nil))))) pss_nil)
    (pss_cons (ps_if (pt_cmpR op_eq (pv 0) pe_int (nomark _)) (pss_one (ps_ret (pe_call (ok__law_page T) (hr.mono (by omega)) (by rfl) T.glo__law_page (F__law_page T).kp (b__law_page T) .nil passL (pa_cons (pe_lc (own := [("_law_one", 3)]) (g := (gName 3)) (tt := (tTest (tOp rNe (tVar 3) (tVar 2)))) rfl sc__law_due.nd (pi_list (pv 1)) (blkOk_by (N := N__law_due) (sc := defScope s__law_due) (by decide +kernel)) (fun _ _ _ _ _ => (pg_name (i := 3) sc__law_due.nd rfl (.inl rfl))) (fun _ _ _ _ _ => by exact (pts_one (pt_cmpR op_ne (pv 3) (pv 2) (nomark _)))) (fun _ _ _ _ _ => by exact (pv 3))) pa_nil)))) pss_nil)
    (pss_cons (ps_if (pt_cmpR op_notIn_seq (pv 2) (pv 1) (by rfl)) (pss_one (ps_set (i := 1) sc__law_due.nd rfl (.inl rfl) (pe_op op_cat (pv 1) (pe_lst (pa_cons (pv 2) pa_nil))))) pss_nil)
    (pss_one (ps_ret (pe_call (ok__law_page T) (hr.mono (by omega)) (by rfl) T.glo__law_page (F__law_page T).kp (b__law_page T) .nil passL (pa_cons (pe_callB cr_sortedA (by rfl) T.free_sorted (by decide +kernel) (pa_cons (pv 1) pa_nil)) pa_nil)))))))
theorem ok_Source___init__ (T : Tx K mg) : FnOk P w K mg base (L2.CX P w) 1 (He.fAd K d_Source___init__.at_) (fdOf K d_Source___init__.at_) ["self", "signs", "at", "fills"] (sp_Source___init__ K) := by
  refine (F_Source___init__ T).ok (k := 0) sc_Source___init__ (fun vs H Q E h => len_Source___init__ h) (fun cdv A outer s H vs Q E hr h => ⟨t_Source___init__ K, ?_, rd_Source___init__ vs H Q E h⟩)
  exact PSs.nox (pss_cons (ps_fldC T.cls_Source T.noat_Source_signs (pv 0) (pv 1))
    (pss_cons (ps_fldC T.cls_Source T.noat_Source_at (pv 0) (pv 2))
    (pss_one (ps_fldC T.cls_Source T.noat_Source_fills (pv 0) (pv 3)))))
theorem ok_Short___init__ (T : Tx K mg) : FnOk P w K mg base (L2.CX P w) 1 (He.fAd K d_Short___init__.at_) (fdOf K d_Short___init__.at_) ["self", "place"] (sp_Short___init__ K) := by
  refine (F_Short___init__ T).ok (k := 0) sc_Short___init__ (fun vs H Q E h => len_Short___init__ h) (fun cdv A outer s H vs Q E hr h => ⟨t_Short___init__ K, ?_, rd_Short___init__ vs H Q E h⟩)
  exact PSs.nox (pss_cons (ps_expr (pe_rinit (T.own_Short) T.root (by rfl) T.glo_RiseError (pa_cons (pv 0) (pa_cons (pe_T (l := [116, 111, 111, 32, 115, 104, 111, 114, 116]) (by decide +kernel)) pa_nil))))
    (pss_one (ps_ostC T.own_Short (pv 0) (pv 1))))
theorem okN_Source_take (T : Tx K mg) : FnOk P w K mg base (L2N.CX P w) 3 (He.fAd K d_Source_take.at_) (fdOf K d_Source_take.at_) ["self", "wish"] (sp_Source_take K) := by
  refine (F_Source_take T).ok (k := 2) sc_Source_take (fun vs H Q E h => len_Source_take h) (fun cdv A outer s H vs Q E hr h => ⟨t_Source_take K E, ?_, rd_Source_take vs H Q E h⟩)
  exact (pss_cons (ps_if (pt_cmpR op_lt (pe_fldC T.cls_Source T.noat_Source_at (pv 0)) (pe_callB call_lenK (by rfl) T.free_len (by decide +kernel) (pa_cons (pe_fldC T.cls_Source T.noat_Source_signs (pv 0)) pa_nil)) (nomark _)) (pss_one (ps_set (i := 2) sc_Source_take.nd rfl (.inl rfl) (pe_ix ix_str (pe_fldC T.cls_Source T.noat_Source_signs (pv 0)) (pe_fldC T.cls_Source T.noat_Source_at (pv 0)) (fun _ _ => rfl)))) (pss_one (ps_if (pt_val (pe_fldC T.cls_Source T.noat_Source_fills (pv 0))) (pss_one (ps_set (i := 2) sc_Source_take.nd rfl (.inl rfl) (pv 1))) (pss_one (L2N.ps_raise rfl (L2N.takes_of rfl rfl rfl rfl) (pmkN_oex T.own_Short.T T.own_Short.i T.own_Short.t (ok_Short___init__ T) (hr.mono (by omega)) (b_Short___init__ T) passL (by rfl) T.glo_Short (pa_cons (pe_callB call_lenK (by rfl) T.free_len (by decide +kernel) (pa_cons (pe_fldC T.cls_Source T.noat_Source_signs (pv 0)) pa_nil)) pa_nil)))))))
    (pss_cons (ps_fldaugC T.cls_Source T.noat_Source_at (pv 0) pe_int in_add)
    (pss_one (ps_ret (pv 2)))))
theorem ok_Source_take (T : Tx K mg) : FnOk P w K mg base (L2.CX P w) 3 (He.fAd K d_Source_take.at_) (fdOf K d_Source_take.at_) ["self", "wish"] (sp_Source_take K) := fnok_up (okN_Source_take T)
theorem okN_take_digits (T : Tx K mg) : FnOk P w K mg base (L2N.CX P w) 4 (He.fAd K d_take_digits.at_) (fdOf K d_take_digits.at_) ["source", "number", "many"] (sp_take_digits K) := by
  refine (F_take_digits T).ok (k := 3) sc_take_digits (fun vs H Q E h => len_take_digits h) (fun cdv A outer s H vs Q E hr h => ⟨t_take_digits K E, ?_, rd_take_digits vs H Q E h⟩)
  exact (pss_cons (ps_for (passes_of rfl) rfl (pi_range1 (by rfl) T.free_range (pa_cons (pv 2) pa_nil)) (pg_name (i := 3) sc_take_digits.nd rfl (.inl rfl)) (pss_one (ps_set (i := 1) sc_take_digits.nd rfl (.inl rfl) (pe_op op_add (pe_op op_mulX (pv 1) pe_int) (pe_callTy call_intB (by rfl) T.free_int (by decide +kernel) (pa_cons (pe_cmpR op_eq (pe_meth (pv 0) T.cls_Source T.meth_Source_take (okN_Source_take T) (hr.mono (by omega)) (b_Source_take T) .nil (L2N.passes_call (L2N.takes_of rfl rfl rfl rfl) (fun _ _ _ _ h => h)) (pa_cons (pe_T (l := [48]) (by decide +kernel)) pa_nil)) (pe_T (l := [49]) (by decide +kernel)) (nomark _)) pa_nil))))))
    (pss_one (ps_ret (pv 1))))
theorem ok_take_digits (T : Tx K mg) : FnOk P w K mg base (L2.CX P w) 4 (He.fAd K d_take_digits.at_) (fdOf K d_take_digits.at_) ["source", "number", "many"] (sp_take_digits K) := fnok_up (okN_take_digits T)
theorem okN_take_count (T : Tx K mg) : FnOk P w K mg base (L2N.CX P w) 5 (He.fAd K d_take_count.at_) (fdOf K d_take_count.at_) ["source", "wish"] (sp_take_count K) := by
  refine (F_take_count T).ok (k := 4) sc_take_count (fun vs H Q E h => len_take_count h) (fun cdv A outer s H vs Q E hr h => ⟨t_take_count K E, ?_, rd_take_count vs H Q E h⟩)
  exact (pss_cons (ps_set (i := 2) sc_take_count.nd rfl (.inl rfl) pe_int)
    (pss_cons (ps_while (passes_of rfl) (PW.pt (pw_and (pt_cmpR op_lt (pv 2) (pe_gint (by rfl) T.int_MOST_ONES_7) (nomark _)) (pw_and1 (pt_cmpR op_eq (pe_meth (pv 0) T.cls_Source T.meth_Source_take (okN_Source_take T) (hr.mono (by omega)) (b_Source_take T) .nil (L2N.passes_call (L2N.takes_of rfl rfl rfl rfl) (fun _ _ _ _ h => h)) (pa_cons (pv 1) pa_nil)) (pe_T (l := [49]) (by decide +kernel)) (nomark _))))) (pss_cons (ps_aug (i := 2) sc_take_count.nd rfl (.inl rfl) pe_int ip_add)
    (pss_one (ps_set (i := 1) sc_take_count.nd rfl (.inl rfl) (pe_T (l := [48]) (by decide +kernel))))))
    (pss_cons (ps_set (i := 3) sc_take_count.nd rfl (.inl rfl) (pe_call (okN_take_digits T) (hr.mono (by omega)) (by rfl) T.glo_take_digits (F_take_digits T).kp (b_take_digits T) .nil (L2N.passes_call (L2N.takes_of rfl rfl rfl rfl) (fun _ _ _ _ h => h)) (pa_cons (pv 0) (pa_cons pe_int (pa_cons (pv 2) pa_nil)))))
    (pss_one (ps_ret (pe_op op_sub (pe_call (okN_take_digits T) (hr.mono (by omega)) (by rfl) T.glo_take_digits (F_take_digits T).kp (b_take_digits T) .nil (L2N.passes_call (L2N.takes_of rfl rfl rfl rfl) (fun _ _ _ _ h => h)) (pa_cons (pv 0) (pa_cons pe_int (pa_cons (pe_op op_sub (pv 3) pe_int) pa_nil)))) pe_int))))))
theorem ok_take_count (T : Tx K mg) : FnOk P w K mg base (L2.CX P w) 5 (He.fAd K d_take_count.at_) (fdOf K d_take_count.at_) ["source", "wish"] (sp_take_count K) := fnok_up (okN_take_count T)
theorem ok_Source_spot (T : Tx K mg) : FnOk P w K mg base (L2.CX P w) 1 (He.fAd K d_Source_spot.at_) (fdOf K d_Source_spot.at_) ["self"] (sp_Source_spot K) := by
  refine (F_Source_spot T).ok (k := 0) sc_Source_spot (fun vs H Q E h => len_Source_spot h) (fun cdv A outer s H vs Q E hr h => ⟨t_Source_spot K, ?_, rd_Source_spot vs H Q E h⟩)
  exact PSs.nox (pss_one (ps_ret (pe_fldC T.cls_Source T.noat_Source_at (pv 0))))
theorem okN_read_count (T : Tx K mg) : FnOk P w K mg base (L2N.CX P w) 6 (He.fAd K d_read_count.at_) (fdOf K d_read_count.at_) ["signs", "at"] (sp_read_count K) := by
  refine (F_read_count T).ok (k := 5) sc_read_count (fun vs H Q E h => len_read_count h) (fun cdv A outer s H vs Q E hr h => ⟨t_read_count K E, ?_, rd_read_count vs H Q E h⟩)
  exact (pss_cons (ps_set (i := 2) sc_read_count.nd rfl (.inl rfl) (pe_make T.mkr_Source (ok_Source___init__ T) (hr.mono (by omega)) (by rfl) T.glo_Source (b_Source___init__ T) .nil passL (pa_cons (pv 0) (pa_cons (pv 1) (pa_cons pe_bl pa_nil)))))
    (pss_cons (ps_set (i := 3) sc_read_count.nd rfl (.inl rfl) (pe_call (okN_take_count T) (hr.mono (by omega)) (by rfl) T.glo_take_count (F_take_count T).kp (b_take_count T) .nil (L2N.passes_call (L2N.takes_of rfl rfl rfl rfl) (fun _ _ _ _ h => h)) (pa_cons (pv 2) (pa_cons (pe_T (l := [48]) (by decide +kernel)) pa_nil))))
    (pss_one (ps_ret (pe_tup (pa_cons (pv 3) (pa_cons (pe_meth0 (pv 2) T.cls_Source T.meth_Source_spot (ok_Source_spot T) (hr.mono (by omega)) (b_Source_spot T) .nil passL) pa_nil)))))))
theorem ok_read_count (T : Tx K mg) : FnOk P w K mg base (L2.CX P w) 6 (He.fAd K d_read_count.at_) (fdOf K d_read_count.at_) ["signs", "at"] (sp_read_count K) := fnok_up (okN_read_count T)
theorem ok_count_at (T : Tx K mg) : FnOk P w K mg base (L2.CX P w) 7 (He.fAd K d_count_at.at_) (fdOf K d_count_at.at_) ["page", "at"] (sp_count_at K) := by
  refine (F_count_at T).ok (k := 6) sc_count_at (fun vs H Q E h => len_count_at h) (fun cdv A outer s H vs Q E hr h => ⟨t_count_at K E, ?_, rd_count_at T.kx vs H Q E h⟩)
  exact (pss_one (L2H.ps_try_onlyX (tb := fun W => (tRet (tCallS (sp_read_count K) (WE W) (tCons (tVar 0) (tCons (tVar 1) tNil))))) (ts := fun _ _ _ => tRaiseX (.ref (He.ga K "BadPage")) E) (Wout := fun cls d _ H => E cls d H) rfl rfl ⟨rfl, by decide, .inl T.glo_Short⟩ (L2H.passesAt_of rfl) (takes_of rfl rfl rfl rfl)
    (fun W pn xe tk tk2 ho => by exact (pss_one (ps_ret (pe_callS (okN_read_count T) (hr.mono (by omega)) (by rfl) T.glo_read_count (F_read_count T).kp (b_read_count T) (fun σ => L2N.passAt tk σ) (pa_cons (pv 0) (pa_cons (pv 1) pa_nil))))))
    (fun a oe cls d pn hz hf tk3 hot => by exact (pss_one (L2H.ps_raiseH hot tk3 (pmkN_txt T.exc_BadPage T.glo_BadPage))))))
theorem ok_shared_signs (T : Tx K mg) : FnOk P w K mg base (L2.CX P w) 1 (He.fAd K d_shared_signs.at_) (fdOf K d_shared_signs.at_) ["one", "other"] (sp_shared_signs K) := by
  refine (F_shared_signs T).ok (k := 0) sc_shared_signs (fun vs H Q E h => len_shared_signs h) (fun cdv A outer s H vs Q E hr h => ⟨t_shared_signs K, ?_, rd_shared_signs vs H Q E h⟩)
  exact PSs.nox (pss_cons (ps_set (i := 2) sc_shared_signs.nd rfl (.inl rfl) pe_int)
    (pss_cons (ps_while PassesOwn.never (PW.pt (pw_and (pt_cmpR op_lt (pv 2) (pe_callB call_lenK (by rfl) T.free_len (by decide +kernel) (pa_cons (pv 0) pa_nil)) (nomark _)) (pw_and (pt_cmpR op_lt (pv 2) (pe_callB call_lenK (by rfl) T.free_len (by decide +kernel) (pa_cons (pv 1) pa_nil)) (nomark _)) (pw_and1 (pt_cmpR op_eq (pe_ix ix_str (pv 0) (pv 2) (fun _ _ => rfl)) (pe_ix ix_str (pv 1) (pv 2) (fun _ _ => rfl)) (nomark _)))))) (pss_one (ps_aug (i := 2) sc_shared_signs.nd rfl (.inl rfl) pe_int ip_add)))
    (pss_one (ps_ret (pv 2)))))
theorem ok_entry_at (T : Tx K mg) : FnOk P w K mg base (L2.CX P w) 8 (He.fAd K d_entry_at.at_) (fdOf K d_entry_at.at_) ["page", "at", "last"] (sp_entry_at K) := by
  refine (F_entry_at T).ok (k := 7) sc_entry_at (fun vs H Q E h => len_entry_at h) (fun cdv A outer s H vs Q E hr h => ⟨t_entry_at K E, ?_, rd_entry_at vs H Q E h⟩)
  exact (pss_cons (ps_asg (pe_call (ok_count_at T) (hr.mono (by omega)) (by rfl) T.glo_count_at (F_count_at T).kp (b_count_at T) .nil (passes_call (takes_of rfl rfl rfl rfl) (fun _ _ _ _ h => h)) (pa_cons (pv 0) (pa_cons (pv 1) pa_nil))) (pg_tup rfl (pgs_cons (pg_name (i := 3) sc_entry_at.nd rfl (.inl rfl)) (pgs_cons (pg_name (i := 1) sc_entry_at.nd rfl (.inl rfl)) pgs_nil))))
    (pss_cons (ps_asg (pe_call (ok_count_at T) (hr.mono (by omega)) (by rfl) T.glo_count_at (F_count_at T).kp (b_count_at T) .nil (passes_call (takes_of rfl rfl rfl rfl) (fun _ _ _ _ h => h)) (pa_cons (pv 0) (pa_cons (pv 1) pa_nil))) (pg_tup rfl (pgs_cons (pg_name (i := 4) sc_entry_at.nd rfl (.inl rfl)) (pgs_cons (pg_name (i := 1) sc_entry_at.nd rfl (.inl rfl)) pgs_nil))))
    (pss_cons (ps_if (PW.pt (pw_or (pt_cmpR op_gt (pv 3) (pe_callB call_lenK (by rfl) T.free_len (by decide +kernel) (pa_cons (pv 2) pa_nil)) (nomark _)) (pw_or1 (pt_cmpR op_gt (pv 4) (pe_op op_sub (pe_callB call_lenK (by rfl) T.free_len (by decide +kernel) (pa_cons (pv 0) pa_nil)) (pv 1)) (nomark _))))) (pss_one (ps_raise rfl (takes_of rfl rfl rfl rfl) (pmk_txt T.exc_BadPage T.glo_BadPage))) pss_nil)
    (pss_cons (ps_set (i := 5) sc_entry_at.nd rfl (.inl rfl) (pe_op op_addT (pe_slice sl_str (pv 2) po_none (po_some (pv 3))) (pe_slice sl_str (pv 0) (po_some (pv 1)) (po_some (pe_op op_add (pv 1) (pv 4))))))
    (pss_cons (ps_if (pt_cmpR op_ne (pe_call (ok_shared_signs T) (hr.mono (by omega)) (by rfl) T.glo_shared_signs (F_shared_signs T).kp (b_shared_signs T) .nil passL (pa_cons (pv 2) (pa_cons (pv 5) pa_nil))) (pv 3) (nomark _)) (pss_one (ps_raise rfl (takes_of rfl rfl rfl rfl) (pmk_txt T.exc_BadPage T.glo_BadPage))) pss_nil)
    (pss_one (ps_ret (pe_tup (pa_cons (pv 5) (pa_cons (pe_op op_add (pv 1) (pv 4)) pa_nil))))))))))
theorem ok_rows_of (T : Tx K mg) : FnOk P w K mg base (L2.CX P w) 9 (He.fAd K d_rows_of.at_) (fdOf K d_rows_of.at_) ["page"] (sp_rows_of K) := by
  refine (F_rows_of T).ok (k := 8) sc_rows_of (fun vs H Q E h => len_rows_of h) (fun cdv A outer s H vs Q E hr h => ⟨t_rows_of K E, ?_, rd_rows_of vs H Q E h⟩)
  exact (pss_cons (ps_asg (pe_call (ok_count_at T) (hr.mono (by omega)) (by rfl) T.glo_count_at (F_count_at T).kp (b_count_at T) .nil (passes_call (takes_of rfl rfl rfl rfl) (fun _ _ _ _ h => h)) (pa_cons (pv 0) (pa_cons pe_int pa_nil))) (pg_tup rfl (pgs_cons (pg_name (i := 1) sc_rows_of.nd rfl (.inl rfl)) (pgs_cons (pg_name (i := 2) sc_rows_of.nd rfl (.inl rfl)) pgs_nil))))
    (pss_cons (ps_set (i := 3) sc_rows_of.nd rfl (.inl rfl) (pe_lst pa_nil))
    (pss_cons (ps_set (i := 4) sc_rows_of.nd rfl (.inl rfl) (pe_T (l := []) (by decide +kernel)))
    (pss_cons (ps_while (passes_of rfl) (pt_cmpR op_lt (pe_callB call_lenK (by rfl) T.free_len (by decide +kernel) (pa_cons (pv 3) pa_nil)) (pv 1) (nomark _)) (pss_cons (ps_asg (pe_call (ok_entry_at T) (hr.mono (by omega)) (by rfl) T.glo_entry_at (F_entry_at T).kp (b_entry_at T) .nil (passes_call (takes_of rfl rfl rfl rfl) (fun _ _ _ _ h => h)) (pa_cons (pv 0) (pa_cons (pv 2) (pa_cons (pv 4) pa_nil)))) (pg_tup rfl (pgs_cons (pg_name (i := 5) sc_rows_of.nd rfl (.inl rfl)) (pgs_cons (pg_name (i := 2) sc_rows_of.nd rfl (.inl rfl)) pgs_nil))))
    (pss_cons (ps_if (PW.pt (pw_and (pt_cmpR op_gt (pe_callB call_lenK (by rfl) T.free_len (by decide +kernel) (pa_cons (pv 3) pa_nil)) pe_int (nomark _)) (pw_and1 (pt_not (pt_cmpR op_ltT' (pv 4) (pv 5) (nomark _)))))) (pss_one (ps_raise rfl (takes_of rfl rfl rfl rfl) (pmk_txt T.exc_BadPage T.glo_BadPage))) pss_nil)
    (pss_cons (ps_expr (pe_bm PySem.F.plainAttrs_list PySem.F.slot_list_append PySem.F.type_list_append mt_append (pv 3) (pa_cons (pv 5) pa_nil)))
    (pss_one (ps_set (i := 4) sc_rows_of.nd rfl (.inl rfl) (pv 5)))))))
    (pss_cons (ps_if (pt_cmpR op_lt (pv 2) (pe_callB call_lenK (by rfl) T.free_len (by decide +kernel) (pa_cons (pv 0) pa_nil)) (nomark _)) (pss_one (ps_raise rfl (takes_of rfl rfl rfl rfl) (pmk_txt T.exc_BadPage T.glo_BadPage))) pss_nil)
    (pss_one (ps_ret (pv 3))))))))
theorem ok_place_in (T : Tx K mg) : FnOk P w K mg base (L2.CX P w) 10 (He.fAd K d_place_in.at_) (fdOf K d_place_in.at_) ["page", "row"] (sp_place_in K) := by
  refine (F_place_in T).ok (k := 9) sc_place_in (fun vs H Q E h => len_place_in h) (fun cdv A outer s H vs Q E hr h => ⟨t_place_in K E, ?_, rd_place_in vs H Q E h⟩)
  exact (pss_cons (ps_set (i := 2) sc_place_in.nd rfl (.inl rfl) (pe_call (ok_rows_of T) (hr.mono (by omega)) (by rfl) T.glo_rows_of (F_rows_of T).kp (b_rows_of T) .nil (passes_call (takes_of rfl rfl rfl rfl) (fun _ _ _ _ h => h)) (pa_cons (pv 0) pa_nil)))
    (pss_one (ps_ret (pe_tup (pa_cons (pe_callB call_lenK (by rfl) T.free_len (by decide +kernel) (pa_cons (pe_lc (own := [("one", 3)]) (g := (gName 3)) (tt := (tTest (tOp rLtT (tVar 3) (tVar 1)))) rfl sc_place_in.nd (pi_list (pv 2)) (blkOk_by (N := N_place_in) (sc := defScope s_place_in) (by decide +kernel)) (fun _ _ _ _ _ => (pg_name (i := 3) sc_place_in.nd rfl (.inl rfl))) (fun _ _ _ _ _ => by exact (pts_one (pt_cmpR op_ltT' (pv 3) (pv 1) (nomark _)))) (fun _ _ _ _ _ => by exact (pv 3))) pa_nil)) (pa_cons (pe_cmpR op_in_seq (pv 1) (pv 2) (by rfl)) pa_nil))))))
theorem ok_digits_of (T : Tx K mg) : FnOk P w K mg base (L2.CX P w) 1 (He.fAd K d_digits_of.at_) (fdOf K d_digits_of.at_) ["number", "many"] (sp_digits_of K) := by
  refine (F_digits_of T).ok (k := 0) sc_digits_of (fun vs H Q E h => len_digits_of h) (fun cdv A outer s H vs Q E hr h => ⟨t_digits_of K, ?_, rd_digits_of vs H Q E h⟩)
  exact PSs.nox (pss_one (ps_ret (pe_bm PySem.F.plainAttrs_str PySem.F.slot_str_join PySem.F.type_str_join mt_joinK (pe_T (l := []) (by decide +kernel)) (pa_cons (pe_lc (own := [("k", 2)]) (g := (gName 2)) (tt := tYes) rfl sc_digits_of.nd (pi_range1 (by rfl) T.free_range (pa_cons (pv 1) pa_nil)) (blkOk_by (N := N_digits_of) (sc := defScope s_digits_of) (by decide +kernel)) (fun _ _ _ _ _ => (pg_name (i := 2) sc_digits_of.nd rfl (.inl rfl))) (fun _ _ _ _ _ => by exact pts_nil) (fun _ _ _ _ _ => by exact (pe_ix ix_str (pe_T (l := [48, 49]) (by decide +kernel)) (pe_op op_and (pe_op op_shr (pv 0) (pe_op op_sub (pe_op op_sub (pv 1) pe_int) (pv 2))) pe_int) (fun _ _ => rfl)))) pa_nil))))
theorem ok_count_row (T : Tx K mg) : FnOk P w K mg base (L2.CX P w) 2 (He.fAd K d_count_row.at_) (fdOf K d_count_row.at_) ["n"] (sp_count_row K) := by
  refine (F_count_row T).ok (k := 1) sc_count_row (fun vs H Q E h => len_count_row h) (fun cdv A outer s H vs Q E hr h => ⟨t_count_row K E, ?_, rd_count_row vs H Q E h⟩)
  exact (pss_cons (ps_set (i := 1) sc_count_row.nd rfl (.inl rfl) (pe_op op_add (pv 0) pe_int))
    (pss_cons (ps_if (PW.pt (pw_or (pt_cmpR op_lt (pv 0) pe_int (nomark _)) (pw_or1 (pt_cmpR op_gt (pe_bits (pv 1)) (pe_gint (by rfl) T.int_MOST_DIGITS_255) (nomark _))))) (pss_one (ps_raise rfl (takes_of rfl rfl rfl rfl) (pmk_txt T.exc_NoFit T.glo_NoFit))) pss_nil)
    (pss_cons (ps_set (i := 2) sc_count_row.nd rfl (.inl rfl) (pe_bits (pv 1)))
    (pss_cons (ps_set (i := 3) sc_count_row.nd rfl (.inl rfl) (pe_op op_sub (pe_bits (pv 2)) pe_int))
    (pss_cons (ps_set (i := 4) sc_count_row.nd rfl (.inl rfl) (pe_op op_mulT (pe_T (l := [49]) (by decide +kernel)) (pv 3)))
    (pss_cons (ps_if (pt_cmpR op_lt (pv 3) (pe_gint (by rfl) T.int_MOST_ONES_7) (nomark _)) (pss_one (ps_set (i := 4) sc_count_row.nd rfl (.inl rfl) (pe_op op_addT (pv 4) (pe_T (l := [48]) (by decide +kernel))))) pss_nil)
    (pss_one (ps_ret (pe_op op_addT (pe_op op_addT (pv 4) (pe_call (ok_digits_of T) (hr.mono (by omega)) (by rfl) T.glo_digits_of (F_digits_of T).kp (b_digits_of T) .nil passL (pa_cons (pv 2) (pa_cons (pv 3) pa_nil)))) (pe_call (ok_digits_of T) (hr.mono (by omega)) (by rfl) T.glo_digits_of (F_digits_of T).kp (b_digits_of T) .nil passL (pa_cons (pv 1) (pa_cons (pe_op op_sub (pv 2) pe_int) pa_nil))))))))))))
theorem ok_entry_of (T : Tx K mg) : FnOk P w K mg base (L2.CX P w) 3 (He.fAd K d_entry_of.at_) (fdOf K d_entry_of.at_) ["last", "row"] (sp_entry_of K) := by
  refine (F_entry_of T).ok (k := 2) sc_entry_of (fun vs H Q E h => len_entry_of h) (fun cdv A outer s H vs Q E hr h => ⟨t_entry_of K E, ?_, rd_entry_of vs H Q E h⟩)
  exact (pss_cons (ps_set (i := 2) sc_entry_of.nd rfl (.inl rfl) (pe_call (ok_shared_signs T) (hr.mono (by omega)) (by rfl) T.glo_shared_signs (F_shared_signs T).kp (b_shared_signs T) .nil passL (pa_cons (pv 0) (pa_cons (pv 1) pa_nil))))
    (pss_one (ps_ret (pe_op op_addT (pe_op op_addT (pe_call (ok_count_row T) (hr.mono (by omega)) (by rfl) T.glo_count_row (F_count_row T).kp (b_count_row T) .nil (passes_call (takes_of rfl rfl rfl rfl) (fun _ _ _ _ h => h)) (pa_cons (pv 2) pa_nil)) (pe_call (ok_count_row T) (hr.mono (by omega)) (by rfl) T.glo_count_row (F_count_row T).kp (b_count_row T) .nil (passes_call (takes_of rfl rfl rfl rfl) (fun _ _ _ _ h => h)) (pa_cons (pe_op op_sub (pe_callB call_lenK (by rfl) T.free_len (by decide +kernel) (pa_cons (pv 1) pa_nil)) (pv 2)) pa_nil))) (pe_slice sl_str (pv 1) (po_some (pv 2)) po_none)))))
theorem ok_page_of (T : Tx K mg) : FnOk P w K mg base (L2.CX P w) 4 (He.fAd K d_page_of.at_) (fdOf K d_page_of.at_) ["rows"] (sp_page_of K) := by
  refine (F_page_of T).ok (k := 3) sc_page_of (fun vs H Q E h => len_page_of h) (fun cdv A outer s H vs Q E hr h => ⟨t_page_of K E, ?_, rd_page_of vs H Q E h⟩)
  exact (pss_cons (ps_set (i := 1) sc_page_of.nd rfl (.inl rfl) (pe_call (ok_count_row T) (hr.mono (by omega)) (by rfl) T.glo_count_row (F_count_row T).kp (b_count_row T) .nil (passes_call (takes_of rfl rfl rfl rfl) (fun _ _ _ _ h => h)) (pa_cons (pe_callB call_lenK (by rfl) T.free_len (by decide +kernel) (pa_cons (pv 0) pa_nil)) pa_nil)))
    (pss_cons (ps_set (i := 2) sc_page_of.nd rfl (.inl rfl) (pe_T (l := []) (by decide +kernel)))
    (pss_cons (ps_for (passes_of rfl) rfl (pi_enum (by rfl) T.free_enumerate (pa_cons (pv 0) pa_nil)) (pg_tup rfl (pgs_cons (pg_name (i := 3) sc_page_of.nd rfl (.inl rfl)) (pgs_cons (pg_name (i := 4) sc_page_of.nd rfl (.inl rfl)) pgs_nil))) (pss_cons (ps_if (PW.pt (pw_and (pt_cmpR op_gt (pv 3) pe_int (nomark _)) (pw_and1 (pt_not (pt_cmpR op_ltT' (pv 2) (pv 4) (nomark _)))))) (pss_one (ps_raise rfl (takes_of rfl rfl rfl rfl) (pmk_txt T.exc_NotAhead T.glo_NotAhead))) pss_nil)
    (pss_cons (ps_set (i := 1) sc_page_of.nd rfl (.inl rfl) (pe_op op_addT (pv 1) (pe_call (ok_entry_of T) (hr.mono (by omega)) (by rfl) T.glo_entry_of (F_entry_of T).kp (b_entry_of T) .nil (passes_call (takes_of rfl rfl rfl rfl) (fun _ _ _ _ h => h)) (pa_cons (pv 2) (pa_cons (pv 4) pa_nil)))))
    (pss_one (ps_set (i := 2) sc_page_of.nd rfl (.inl rfl) (pv 4))))))
    (pss_one (ps_ret (pv 1))))))
theorem ok_page_with (T : Tx K mg) : FnOk P w K mg base (L2.CX P w) 10 (He.fAd K d_page_with.at_) (fdOf K d_page_with.at_) ["page", "row"] (sp_page_with K) := by
  refine (F_page_with T).ok (k := 9) sc_page_with (fun vs H Q E h => len_page_with h) (fun cdv A outer s H vs Q E hr h => ⟨t_page_with K E, ?_, rd_page_with vs H Q E h⟩)
  exact (pss_cons (ps_set (i := 2) sc_page_with.nd rfl (.inl rfl) (pe_call (ok_rows_of T) (hr.mono (by omega)) (by rfl) T.glo_rows_of (F_rows_of T).kp (b_rows_of T) .nil (passes_call (takes_of rfl rfl rfl rfl) (fun _ _ _ _ h => h)) (pa_cons (pv 0) pa_nil)))
    (pss_cons (ps_if (pt_cmpR op_in_seq (pv 1) (pv 2) (by rfl)) (pss_one (ps_raise rfl (takes_of rfl rfl rfl rfl) (pmk_txt T.exc_Twice T.glo_Twice))) pss_nil)
    (pss_one (ps_ret (pe_call (ok_page_of T) (hr.mono (by omega)) (by rfl) T.glo_page_of (F_page_of T).kp (b_page_of T) .nil (passes_call (takes_of rfl rfl rfl rfl) (fun _ _ _ _ h => h)) (pa_cons (pe_callB cr_sortedA (by rfl) T.free_sorted (by decide +kernel) (pa_cons (pe_op op_cat (pv 2) (pe_lst (pa_cons (pv 1) pa_nil))) pa_nil)) pa_nil))))))
theorem ok_page_without (T : Tx K mg) : FnOk P w K mg base (L2.CX P w) 10 (He.fAd K d_page_without.at_) (fdOf K d_page_without.at_) ["page", "row"] (sp_page_without K) := by
  refine (F_page_without T).ok (k := 9) sc_page_without (fun vs H Q E h => len_page_without h) (fun cdv A outer s H vs Q E hr h => ⟨t_page_without K E, ?_, rd_page_without vs H Q E h⟩)
  exact (pss_cons (ps_set (i := 2) sc_page_without.nd rfl (.inl rfl) (pe_call (ok_rows_of T) (hr.mono (by omega)) (by rfl) T.glo_rows_of (F_rows_of T).kp (b_rows_of T) .nil (passes_call (takes_of rfl rfl rfl rfl) (fun _ _ _ _ h => h)) (pa_cons (pv 0) pa_nil)))
    (pss_cons (ps_if (pt_cmpR op_notIn_seq (pv 1) (pv 2) (by rfl)) (pss_one (ps_raise rfl (takes_of rfl rfl rfl rfl) (pmk_txt T.exc_Lacking T.glo_Lacking))) pss_nil)
    (pss_one (ps_ret (pe_call (ok_page_of T) (hr.mono (by omega)) (by rfl) T.glo_page_of (F_page_of T).kp (b_page_of T) .nil (passes_call (takes_of rfl rfl rfl rfl) (fun _ _ _ _ h => h)) (pa_cons (pe_lc (own := [("one", 3)]) (g := (gName 3)) (tt := (tTest (tOp rNe (tVar 3) (tVar 1)))) rfl sc_page_without.nd (pi_list (pv 2)) (blkOk_by (N := N_page_without) (sc := defScope s_page_without) (by decide +kernel)) (fun _ _ _ _ _ => (pg_name (i := 3) sc_page_without.nd rfl (.inl rfl))) (fun _ _ _ _ _ => by exact (pts_one (pt_cmpR op_ne (pv 3) (pv 1) (nomark _)))) (fun _ _ _ _ _ => by exact (pv 3))) pa_nil))))))
theorem ok_poured (T : Tx K mg) : FnOk P w K mg base (L2.CX P w) 10 (He.fAd K d_poured.at_) (fdOf K d_poured.at_) ["one", "other"] (sp_poured K) := by
  refine (F_poured T).ok (k := 9) sc_poured (fun vs H Q E h => len_poured h) (fun cdv A outer s H vs Q E hr h => ⟨t_poured K E, ?_, rd_poured vs H Q E h⟩)
  exact (pss_cons (ps_set (i := 2) sc_poured.nd rfl (.inr rfl) (pe_call (ok_rows_of T) (hr.mono (by omega)) (by rfl) T.glo_rows_of (F_rows_of T).kp (b_rows_of T) .nil (passes_call (takes_of rfl rfl rfl rfl) (fun _ _ _ _ h => h)) (pa_cons (pv 0) pa_nil)))
    (pss_one (ps_ret (pe_call (ok_page_of T) (hr.mono (by omega)) (by rfl) T.glo_page_of (F_page_of T).kp (b_page_of T) .nil (passes_call (takes_of rfl rfl rfl rfl) (fun _ _ _ _ h => h)) (pa_cons (pe_callB cr_sortedA (by rfl) T.free_sorted (by decide +kernel) (pa_cons (pe_op op_cat (pv 2) (pe_lc (own := [("row", 3)]) (g := (gName 3)) (tt := (tTest (tOp (rIn K true) (tVar 3) (tVar 2)))) rfl sc_poured.nd (pi_list (pe_call (ok_rows_of T) (hr.mono (by omega)) (by rfl) T.glo_rows_of (F_rows_of T).kp (b_rows_of T) .nil (passes_call (takes_of rfl rfl rfl rfl) (fun _ _ _ _ h => h)) (pa_cons (pv 1) pa_nil))) (blkOk_by (N := N_poured) (sc := defScope s_poured) (by decide +kernel)) (fun _ _ _ _ _ => (pg_name (i := 3) sc_poured.nd rfl (.inl rfl))) (fun _ _ _ _ _ => by exact (pts_one (pt_cmpR op_notIn_seq (pv 3) (pv 2) (by rfl)))) (fun _ _ _ _ _ => by exact (pv 3)))) pa_nil)) pa_nil)))))
theorem ok__law_alone (T : Tx K mg) : FnOk P w K mg base (L2.CX P w) 1 (He.fAd K d__law_alone.at_) (fdOf K d__law_alone.at_) ["_law_error"] (sp__law_alone K) := by
  refine (F__law_alone T).ok (k := 0) sc__law_alone (fun vs H Q E h => len__law_alone h) (fun cdv A outer s H vs Q E hr h => ⟨t__law_alone K, ?_, rd__law_alone T.kx vs H Q E h⟩)
  exact PSs.nox (pss_cons (ps_if (PW.pt (pw_or (pt_not (pt_val (pe_callB call_isA (by rfl) T.free_isinstance (by decide +kernel) (pa_cons (pv 0) (pa_cons (pe_glob (v := .ref (He.ga _ "RiseError")) (by rfl) T.glo_RiseError rfl) pa_nil))))) (pw_or1 (pt_not (pt_val (pe_callB call_isA (by rfl) T.free_isinstance (by decide +kernel) (pa_cons (pv 0) (pa_cons (pe_bltn (v := .ty "ValueError") (by rfl) T.free_ValueError (by decide +kernel) rfl) pa_nil)))))))) (pss_one (ps_ret pe_bl)) pss_nil)
    (pss_cons (ps_set (i := 1) sc__law_alone.nd rfl (.inl rfl) (pe_lst (pa_cons (pe_callB call_isA (by rfl) T.free_isinstance (by decide +kernel) (pa_cons (pv 0) (pa_cons (pe_glob (v := .ref (He.ga _ "NoFit")) (by rfl) T.glo_NoFit rfl) pa_nil))) (pa_cons (pe_callB call_isA (by rfl) T.free_isinstance (by decide +kernel) (pa_cons (pv 0) (pa_cons (pe_glob (v := .ref (He.ga _ "NoForm")) (by rfl) T.glo_NoForm rfl) pa_nil))) (pa_cons (pe_callB call_isA (by rfl) T.free_isinstance (by decide +kernel) (pa_cons (pv 0) (pa_cons (pe_glob (v := .ref (He.ga _ "NoText")) (by rfl) T.glo_NoText rfl) pa_nil))) pa_nil)))))
    (pss_cons (ps_set (i := 1) sc__law_alone.nd rfl (.inl rfl) (pe_op op_cat (pv 1) (pe_lst (pa_cons (pe_callB call_isA (by rfl) T.free_isinstance (by decide +kernel) (pa_cons (pv 0) (pa_cons (pe_glob (v := .ref (He.ga _ "NotAhead")) (by rfl) T.glo_NotAhead rfl) pa_nil))) (pa_cons (pe_callB call_isA (by rfl) T.free_isinstance (by decide +kernel) (pa_cons (pv 0) (pa_cons (pe_glob (v := .ref (He.ga _ "BadPage")) (by rfl) T.glo_BadPage rfl) pa_nil))) (pa_cons (pe_callB call_isA (by rfl) T.free_isinstance (by decide +kernel) (pa_cons (pv 0) (pa_cons (pe_glob (v := .ref (He.ga _ "Twice")) (by rfl) T.glo_Twice rfl) pa_nil))) pa_nil))))))
    (pss_cons (ps_set (i := 1) sc__law_alone.nd rfl (.inl rfl) (pe_op op_cat (pv 1) (pe_lst (pa_cons (pe_callB call_isA (by rfl) T.free_isinstance (by decide +kernel) (pa_cons (pv 0) (pa_cons (pe_glob (v := .ref (He.ga _ "Lacking")) (by rfl) T.glo_Lacking rfl) pa_nil))) (pa_cons (pe_callB call_isA (by rfl) T.free_isinstance (by decide +kernel) (pa_cons (pv 0) (pa_cons (pe_glob (v := .ref (He.ga _ "Short")) (by rfl) T.glo_Short rfl) pa_nil))) (pa_cons (pe_callB call_isA (by rfl) T.free_isinstance (by decide +kernel) (pa_cons (pv 0) (pa_cons (pe_glob (v := .ref (He.ga _ "Wrong")) (by rfl) T.glo_Wrong rfl) pa_nil))) pa_nil))))))
    (pss_cons (ps_set (i := 1) sc__law_alone.nd rfl (.inl rfl) (pe_op op_cat (pv 1) (pe_lst (pa_cons (pe_callB call_isA (by rfl) T.free_isinstance (by decide +kernel) (pa_cons (pv 0) (pa_cons (pe_glob (v := .ref (He.ga _ "Left")) (by rfl) T.glo_Left rfl) pa_nil))) pa_nil))))
    (pss_one (ps_ret (pe_cmpR op_eq (pe_callB call_lenK (by rfl) T.free_len (by decide +kernel) (pa_cons (pe_lc (own := [("_law_one", 2)]) (g := (gName 2)) (tt := (tB (tVar 2))) rfl sc__law_alone.nd (pi_list (pv 1)) (blkOk_by (N := N__law_alone) (sc := defScope s__law_alone) (by decide +kernel)) (fun _ _ _ _ _ => (pg_name (i := 2) sc__law_alone.nd rfl (.inl rfl))) (fun _ _ _ _ _ => by exact (pts_one (pt_val (pv 2)))) (fun _ _ _ _ _ => by exact (pv 2))) pa_nil)) pe_int (nomark _)))))))))
theorem ok__law_told (T : Tx K mg) : FnOk P w K mg base (L2.CX P w) 11 (He.fAd K d__law_told.at_) (fdOf K d__law_told.at_) ["_law_word", "_law_page_here", "_law_row", "_law_good"] (sp__law_told K) := by
  refine (F__law_told T).ok (k := 10) sc__law_told (fun vs H Q E h => len__law_told h) (fun cdv A outer s H vs Q E hr h => ⟨t__law_told K, ?_, rd__law_told T.kx vs H Q E h⟩)
  exact PSs.nox (pss_cons (ps_set (i := 4) sc__law_told.nd rfl (.inl rfl) pe_non)
    (pss_cons (ps_set (i := 5) sc__law_told.nd rfl (.inl rfl) pe_non)
    (pss_cons (ps_try_keep (i := 6) (tb := fun W => (tIfS (tTest (tOp rEq (tVar 0) (tC (.int 0)))) (tAsg (tCallS (sp_place_in K) (WE W) (tCons (tVar 1) (tCons (tVar 2) tNil))) (gName 4)) (tIfS (tTest (tOp rEq (tVar 0) (tC (.int 1)))) (tAsg (tCallS (sp_page_with K) (WE W) (tCons (tVar 1) (tCons (tVar 2) tNil))) (gName 4)) (tIfS (tTest (tOp rEq (tVar 0) (tC (.int 2)))) (tAsg (tCallS (sp_page_without K) (WE W) (tCons (tVar 1) (tCons (tVar 2) tNil))) (gName 4)) (tIfS (tTest (tOp rEq (tVar 0) (tC (.int 3)))) (tAsg (tCallS (sp_poured K) (WE W) (tCons (tVar 1) (tCons (tVar 3) tNil))) (gName 4)) (tAsg (tCallS (sp_poured K) (WE W) (tCons (tVar 3) (tCons (tVar 1) tNil))) (gName 4))))))) (ts := fun a cls d => (tAsg (tVar 6) (gName 5))) (Wout := (fun _ _ _ _ => False)) rfl rfl rfl sc__law_told.nd rfl rfl ⟨rfl, by decide, .inl T.glo_BadPage⟩ takes0
    (fun W pn xe tk ho => by exact (pss_one (ps_if (pt_cmpR op_eq (pv 0) pe_int (nomark _)) (pss_one (ps_set (i := 4) sc__law_told.nd rfl (.inl rfl) (pe_callS (ok_place_in T) (hr.mono (by omega)) (by rfl) T.glo_place_in (F_place_in T).kp (b_place_in T) (fun σ => passAt tk σ) (pa_cons (pv 1) (pa_cons (pv 2) pa_nil))))) (pss_one (ps_if (pt_cmpR op_eq (pv 0) pe_int (nomark _)) (pss_one (ps_set (i := 4) sc__law_told.nd rfl (.inl rfl) (pe_callS (ok_page_with T) (hr.mono (by omega)) (by rfl) T.glo_page_with (F_page_with T).kp (b_page_with T) (fun σ => passAt tk σ) (pa_cons (pv 1) (pa_cons (pv 2) pa_nil))))) (pss_one (ps_if (pt_cmpR op_eq (pv 0) pe_int (nomark _)) (pss_one (ps_set (i := 4) sc__law_told.nd rfl (.inl rfl) (pe_callS (ok_page_without T) (hr.mono (by omega)) (by rfl) T.glo_page_without (F_page_without T).kp (b_page_without T) (fun σ => passAt tk σ) (pa_cons (pv 1) (pa_cons (pv 2) pa_nil))))) (pss_one (ps_if (pt_cmpR op_eq (pv 0) pe_int (nomark _)) (pss_one (ps_set (i := 4) sc__law_told.nd rfl (.inl rfl) (pe_callS (ok_poured T) (hr.mono (by omega)) (by rfl) T.glo_poured (F_poured T).kp (b_poured T) (fun σ => passAt tk σ) (pa_cons (pv 1) (pa_cons (pv 3) pa_nil))))) (pss_one (ps_set (i := 4) sc__law_told.nd rfl (.inl rfl) (pe_callS (ok_poured T) (hr.mono (by omega)) (by rfl) T.glo_poured (F_poured T).kp (b_poured T) (fun σ => passAt tk σ) (pa_cons (pv 3) (pa_cons (pv 1) pa_nil))))))))))))))
    (fun a oe cls d pn hz hf => by exact (pss_one (ps_set (i := 5) sc__law_told.nd rfl (.inl rfl) (pv 6)))))
    (pss_cons (ps_if (PW.pt (pw_and (pt_cmpR op_notN0 (pv 5) pe_non (nomark _)) (pw_and1 (pt_not (pt_val (pe_call (ok__law_alone T) (hr.mono (by omega)) (by rfl) T.glo__law_alone (F__law_alone T).kp (b__law_alone T) .nil passL (pa_cons (pv 5) pa_nil))))))) (pss_one (ps_ret (pe_tup (pa_cons (pe_T (l := [111, 116, 104, 101, 114]) (by decide +kernel)) (pa_cons pe_non pa_nil))))) pss_nil)
    (pss_one (ps_ret (pe_tup (pa_cons (pe_ix ix_list (pe_lst (pa_cons (pe_T (l := [98, 97, 100]) (by decide +kernel)) (pa_cons (pe_T (l := [116, 111, 108, 100]) (by decide +kernel)) pa_nil))) (pe_callTy call_intB (by rfl) T.free_int (by decide +kernel) (pa_cons (pe_cmpR op_isN0 (pv 5) pe_non (nomark _)) pa_nil)) (fun _ _ => rfl)) (pa_cons (pv 4) pa_nil)))))))))
theorem ok_law (T : Tx K mg) : FnOk P w K mg base (L2.CX P w) 12 (He.fAd K d_law.at_) (fdOf K d_law.at_) ["_law_script"] (sp_law K) := by
  refine (F_law T).ok (k := 11) sc_law (fun vs H Q E h => len_law h) (fun cdv A outer s H vs Q E hr h => ⟨t_law K, ?_, rd_law T.kx vs H Q E h⟩)
  exact PSs.nox (pss_cons (ps_set (i := 1) sc_law.nd rfl (.inl rfl) (pe_call (ok__law_bent T) (hr.mono (by omega)) (by rfl) T.glo__law_bent (F__law_bent T).kp (b__law_bent T) .nil passL (pa_cons (pv 0) (pa_cons (pe_call (ok__law_rows T) (hr.mono (by omega)) (by rfl) T.glo__law_rows (F__law_rows T).kp (b__law_rows T) .nil passL (pa_cons (pv 0) (pa_cons pe_int pa_nil))) pa_nil))))
    (pss_cons (ps_set (i := 2) sc_law.nd rfl (.inl rfl) (pe_call (ok__law_reader T) (hr.mono (by omega)) (by rfl) T.glo__law_reader (F__law_reader T).kp (b__law_reader T) .nil passL (pa_cons (pv 1) pa_nil)))
    (pss_cons (ps_set (i := 3) sc_law.nd rfl (.inr rfl) (pe_call (ok__law_mixed T) (hr.mono (by omega)) (by rfl) T.glo__law_mixed (F__law_mixed T).kp (b__law_mixed T) .nil passL (pa_cons (pe_call (ok__law_cell_at T) (hr.mono (by omega)) (by rfl) T.glo__law_cell_at (F__law_cell_at T).kp (b__law_cell_at T) .nil passL (pa_cons (pv 0) (pa_cons pe_int pa_nil))) (pa_cons pe_int pa_nil))))
    (pss_cons (ps_set (i := 5) sc_law.nd rfl (.inl rfl) (pe_bm PySem.F.plainAttrs_str PySem.F.slot_str_join PySem.F.type_str_join mt_joinK (pe_T (l := []) (by decide +kernel)) (pa_cons (pe_lc (own := [("_law_k", 4)]) (g := (gName 4)) (tt := tYes) rfl sc_law.nd (pi_range1 (by rfl) T.free_range (pa_cons (pe_op op_mod (pv 3) pe_int) pa_nil)) (blkOk_by (N := N_law) (sc := defScope s_law) (by decide +kernel)) (fun _ _ _ _ _ => (pg_name (i := 4) sc_law.nd rfl (.inl rfl))) (fun _ _ _ _ _ => by exact pts_nil) (fun _ _ _ _ _ => by exact (pe_ix ix_str (pe_T (l := [48, 49]) (by decide +kernel)) (pe_op op_mod (pe_op op_fdivW (pv 3) (pe_op op_add (pv 4) pe_int)) pe_int) (fun _ _ => rfl)))) pa_nil)))
    (pss_cons (ps_for PassesOwn.never rfl (pi_range1 (by rfl) T.free_range (pa_cons pe_int pa_nil)) (pg_name (i := 6) sc_law.nd rfl (.inl rfl)) (pss_cons (ps_set (i := 7) sc_law.nd rfl (.inl rfl) (pv 5))
    (pss_cons (ps_set (i := 8) sc_law.nd rfl (.inl rfl) (pe_or (pe_cmpR op_eq (pv 6) pe_int (nomark _)) (pe_one (pe_and (pe_cmpR op_ne (pv 6) pe_int (nomark _)) (pe_one (pe_cmpR op_eq (pe_op op_mod (pe_op op_fdivW (pv 3) pe_int) pe_int) pe_int (nomark _)))))))
    (pss_cons (ps_if (PW.pt (pw_and (pt_val (pv 8)) (pw_and (pt_cmpR op_notN0 (pv 2) pe_non (nomark _)) (pw_and1 (pt_cmpR (op_neD hr.units) (pv 2) (pe_lst pa_nil) (nomark _)))))) (pss_one (ps_set (i := 7) sc_law.nd rfl (.inl rfl) (pe_ix ix_list (pv 2) (pe_op op_mod (pe_op op_fdivW (pv 3) pe_int) (pe_callB call_lenK (by rfl) T.free_len (by decide +kernel) (pa_cons (pv 2) pa_nil))) (fun _ _ => rfl)))) pss_nil)
    (pss_cons (ps_set (i := 9) sc_law.nd rfl (.inl rfl) (pe_tup (pa_cons (pe_T (l := [98, 97, 100]) (by decide +kernel)) (pa_cons pe_non pa_nil))))
    (pss_cons (ps_set (i := 10) sc_law.nd rfl (.inl rfl) pe_bl)
    (pss_cons (ps_if (pt_cmpR op_notN0 (pv 2) pe_non (nomark _)) (pss_cons (ps_set (i := 9) sc_law.nd rfl (.inl rfl) (pe_tup (pa_cons (pe_T (l := [116, 111, 108, 100]) (by decide +kernel)) (pa_cons (pe_call (ok__law_due T) (hr.mono (by omega)) (by rfl) T.glo__law_due (F__law_due T).kp (b__law_due T) .nil passL (pa_cons (pv 6) (pa_cons (pv 2) (pa_cons (pv 7) pa_nil)))) pa_nil))))
    (pss_one (ps_set (i := 10) sc_law.nd rfl (.inl rfl) (pe_or (pe_and (pe_cmpR op_eq (pv 6) pe_int (nomark _)) (pe_one (pe_cmpR op_in_seq (pv 7) (pv 2) (by rfl)))) (pe_one (pe_and (pe_cmpR op_eq (pv 6) pe_int (nomark _)) (pe_one (pe_cmpR op_notIn_seq (pv 7) (pv 2) (by rfl))))))))) pss_nil)
    (pss_one (ps_if (PW.pt (pw_and (pt_not (pt_val (pv 10))) (pw_and1 (pt_cmpR (op_neD hr.units) (pe_call (ok__law_told T) (hr.mono (by omega)) (by rfl) T.glo__law_told (F__law_told T).kp (b__law_told T) .nil passL (pa_cons (pv 6) (pa_cons (pv 1) (pa_cons (pv 7) (pa_cons (pe_call (ok__law_page T) (hr.mono (by omega)) (by rfl) T.glo__law_page (F__law_page T).kp (b__law_page T) .nil passL (pa_cons (pe_lst (pa_cons (pv 7) pa_nil)) pa_nil)) pa_nil))))) (pv 9) (nomark _))))) (pss_one (ps_ret pe_bl)) pss_nil)))))))))
    (pss_one (ps_ret pe_bl)))))))
end
def loose0 : List Str := ["RiseError", "NoFit", "NoForm", "NoText", "NotAhead", "BadPage", "Twice", "Lacking", "Short", "Wrong", "Left", "Source", "MOST_ONES", "MOST_DIGITS", "digits_of", "count_row", "take_digits", "take_count", "read_count", "shared_signs", "entry_of", "page_of", "count_at", "entry_at", "rows_of", "place_in", "page_with", "page_without", "poured", "_law_cell_at"]
def loose1 : List Str := ["_law_mixed", "_law_free_row", "_law_rows", "_law_digits", "_law_count", "_law_common", "_law_page", "_law_alone", "_law_loose", "_law_counted", "_law_bent", "_law_count_at", "_law_reader", "_law_told", "_law_due"]
def looseAll : List Str := loose0 ++ loose1
/-! ### the top -/
abbrev Rw : PySem.W.OpenRow := PySem.W.OpenLaw.row PySem.Challenge.rw_keyrise_k67_bad_pages_everywhere
abbrev hk : PySem.W.Hook := hookM 5 fa fn exAll
def ob (s : PySem.W.SharedT) : AlM := obsM 5 fa fn exAll (HandSHeadRun.getT s)
theorem ob_eq (s : PySem.W.SharedT) : ob s = hk.obs s.abs := obsM_eq (HandSHeadRun.getT_eq s)
theorem run (w : World) : HandSHeadRun.RunEq Rw (PySem.W.view Rw.prog [51]) hk ob 4000 looseAll w := by
  intro os
  kernel_rfl
theorem facts {P : Program} {w : World} {K : PySem.W.Frag} {h : Heap} {mg : Str → Option Value} {f : Addr} (X : K.In h) (G : h.Ns mainGlobals mg) (hfa : mg ("law" : Str) = some (.ref f)) (c : He.SaysD fa fn K) (cx : exAll K = true) :
    ∃ fd : FuncData, (∀ (s : Shared) (v : Value), BindsTo s fd ⟨[v], []⟩ [("_law_script", v)]) ∧ ∀ base : Heap, K.In base → base.Ns mainGlobals mg → FnOk P w K mg base (L2.CX P w) 12 f fd ["_law_script"] (sp_law K) := by
  have T : Tx K mg := ⟨c, cx, h, X, G⟩
  have e := hfa.symm.trans T.glo_law
  cases e
  have b := FunD.bindsA (ps := ["_law_script"]) (F_law T) fun _ _ _ _ _ _ us hl => match us, hl with | [_], _ => rfl
  exact ⟨_, fun s v => b s [v] rfl, fun base _ _ => ok_law T⟩
end Kr
open PySem PySem.W PySem.Calls PyProof.Rows
theorem PySem.Challenge.cw_keyrise_k67_bad_pages_everywhere_holds : PySem.Challenge.rw_keyrise_k67_bad_pages_everywhere.Holds := by
  w_on; o_law
  refine HandSHeadRun.head_any (r := OpenLaw.row PySem.Challenge.rw_keyrise_k67_bad_pages_everywhere) (q := view (OpenLaw.row PySem.Challenge.rw_keyrise_k67_bad_pages_everywhere).prog [51]) (H := Kr.hk) (ob := Kr.ob) (M := 4000) (loose := Kr.looseAll) (d := HandSHeadRun.topDef (OpenLaw.row PySem.Challenge.rw_keyrise_k67_bad_pages_everywhere).prog 51) (kwd := []) Kr.ob_eq
    (by kernel_rfl) (fun s => by kernel_rfl) Kr.run (by kernel_rfl) (by kernel_rfl) (by kernel_rfl) (by rfl) (by first | assumption | decide +kernel) (by decide +kernel) ⟨rfl, rfl, rfl, rfl, rfl, by decide +kernel⟩ ?hw ?hc
  case hw => w_witness2
  case hc =>
    refine Kr.walk_w (l := PySem.Challenge.rw_keyrise_k67_bad_pages_everywhere) (n := 63) (k := 12) (x := "_law_script") rfl (by decide) (by kernel_rfl) ⟨rfl, by decide, by decide⟩ ?F
    case F =>
      intro w mg fa h Y G hmg0
      obtain ⟨K, KX, c, cx⟩ := Y
      have hmg : mg ("law" : PySem.Str) = some (.ref fa) := by
        have e : (HandSHeadRun.topDef (OpenLaw.row PySem.Challenge.rw_keyrise_k67_bad_pages_everywhere).prog 51).name = ("law" : PySem.Str) := by kernel_rfl
        rw [← e]
        exact hmg0
      obtain ⟨fd, hb, hF⟩ := Kr.facts (P := (PySem.Challenge.rw_keyrise_k67_bad_pages_everywhere).prog) (w := w) KX G hmg c cx
      exact ⟨K, fd, KX, hb, fun H a ns hl hO hS => Kr.law_in hl hO hS, hF⟩

