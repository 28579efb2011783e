import PyProof.Rows.All
import Wide.All
import OpenK.AllK
import Wide.FinOn
import KE.KStateDown
import HandS.ForMost
import HandS.ForExc
import HandS.Evl
import HandS.Wide
import HandS.WideBits
import HandS.IsInst
import HandS.StrMore
import HandS.Defaults
import HandS.Flow
import HandS.TryOnly
import HandS.HeadEnd
import HandS.Head0
import HandS.Head1
import HandS.Head2
import HandS.HeadHook1
import HandS.HeadHook2
import PySem.Challenge.RW_keyrise_k51_behind_all
set_option Elab.async false
set_option linter.all false
set_option maxRecDepth 100000
set_option maxHeartbeats 4000000
namespace Kr
open PySem PySem.Spec PyProof.Rows L2 Evl
/-! ### texts by their codes -/
def T (l : List Nat) : Str := ⟨l.toArray⟩
theorem T_cps (l : List Nat) : (T l).cps.toList = l := rfl
theorem T_len (l : List Nat) : (T l).length = l.length := by
  show l.toArray.size = l.length
  simp
theorem T_add (a b : List Nat) : T a ++ T b = T (a ++ b) := by
  show (⟨a.toArray ++ b.toArray⟩ : Str) = ⟨(a ++ b).toArray⟩
  simp
theorem T_inj {a b : List Nat} : T a = T b ↔ a = b := by
  constructor
  · intro h
    have := congrArg (fun z : Str => z.cps.toList) h
    exact this
  · rintro rfl; rfl
theorem T_eta (z : Str) : ∃ l, z = T l := ⟨z.cps.toList, by cases z; rename_i c; cases c; rfl⟩

/-! ### operations on values, named -/
abbrev rAddI : R2 := rI0 fun i j => .int (i + j)
abbrev rSubI : R2 := rI0 fun i j => .int (i - j)
abbrev rMulI : R2 := rI CMulX fun i j => .int (i * j)
abbrev rDivI : R2 := rI CDivW fun i j => .int (i / j)
abbrev rModI : R2 := rI (fun _ j => 0 < j) fun i j => .int (i % j)
abbrev rShrI : R2 := rI (fun _ j => 0 ≤ j) fun i j => .int (i / 2 ^ j.toNat)
abbrev rShlI : R2 := rI CShl fun i j => .int (i * 2 ^ j.toNat)
abbrev rPowI : R2 := rI CPow fun i j => .int (i ^ j.toNat)
abbrev rAndI : R2 := rI0 fun i j => .int (Builtin.bitAnd i j)
abbrev rLtI : R2 := rI0 fun i j => .bl (decide (i < j))
abbrev rLeI : R2 := rI0 fun i j => .bl (decide (i ≤ j))
abbrev rGtI : R2 := rI0 fun i j => .bl (decide (j < i))
abbrev rGeI : R2 := rI0 fun i j => .bl (decide (j ≤ i))
def rAddT : R2 := fun x y H Q => ∃ i j, x = .str i ∧ y = .str j ∧ i.length + j.length ≤ sizeLine ∧ Q (.str (i ++ j)) H
def rLtT : R2 := fun x y H Q => ∃ i j, x = .str i ∧ y = .str j ∧ Q (.bl (decide (i.cps.toList < j.cps.toList))) H
def rLeT : R2 := fun x y H Q => ∃ i j, x = .str i ∧ y = .str j ∧ Q (.bl (!decide (j.cps.toList < i.cps.toList))) H
def rMulT : R2 := fun x y H Q => ∃ (i : Str) (n : Int), x = .str i ∧ y = .int n ∧ -(2 ^ 62) ≤ n ∧ n < 2 ^ 62 ∧ i.length * n.toNat ≤ sizeLine ∧ Q (.str (T (List.replicate n.toNat i.cps.toList).flatten)) H
def rStrip : V → List V → Hp → VK → Prop := fun x xs H Q => ∃ a b, x = .str a ∧ xs = [.str b] ∧ a.length ≤ sizeLine ∧ Q (.str (Txt.rstripChars a b)) H
def rJoin (K : PySem.W.Frag) : V → List V → Hp → VK → Prop := fun x xs H Q => ∃ a p, ∃ ys : List Str, x = .str a ∧ xs = [.ref p] ∧ (SqL K H p (ys.map V.str) ∨ SqT K H p (ys.map V.str)) ∧ (ys.map (·.length)).sum + ys.length * a.length ≤ 16777216 ∧ Q (.str (Txt.join a ys)) H
section
variable {X : Cx}
theorem op_addT : OpR X (binaryOp .Add) rAddT := op_add_str
theorem op_ltT' : OpR X (compareOp .Lt) rLtT := op_lt_str
theorem op_leT' : OpR X (compareOp .LtE) rLeT := op_le_str
theorem mt_rstripC : MtR X "str.rstrip" rStrip := mt_rstripChars
theorem mt_joinK : MtR X "str.join" (rJoin X.K) := mt_join
theorem flat_rep (k : Nat) (c : Array Nat) : ((List.replicate k c).foldl (· ++ ·) #[]).toList = (List.replicate k c.toList).flatten := by
  have key : ∀ (k : Nat) (a : Array Nat), ((List.replicate k c).foldl (· ++ ·) a).toList = a.toList ++ (List.replicate k c.toList).flatten := by
    intro k
    induction k with
    | zero => intro a; simp
    | succ k ih =>
      intro a
      rw [List.replicate_succ, List.foldl_cons, ih]
      simp [List.replicate_succ]
  rw [key]
  simp
theorem op_mulT : OpR X (binaryOp .Mult) rMulT := by
  intro pins s σ H x y v u Q I rx ry h
  obtain ⟨i, n, rfl, rfl, h1, h2, h3, q⟩ := h
  obtain ⟨t, rfl⟩ := rx
  obtain ⟨t', rfl⟩ := ry
  have hsz : sizeLine = 16777216 := sizeLine_eq
  refine PySem.P.mul_str ?_ (fun g1 g2 => ?_) (fun g1 g2 => ?_) ?_
  · have e1 : decide (n < -(2 ^ 63 : Int)) = false := decide_eq_false (by omega)
    have e2 : decide (n ≥ 2 ^ 63) = false := decide_eq_false (by omega)
    rw [e1, e2] <;> rfl
  · have hn : 1 ≤ n := by omega
    intro g
    have h5 : (i.length : Int) * n ≤ 16777216 := by
      have e : n = (n.toNat : Int) := by omega
      rw [e, ← Int.natCast_mul]
      omega
    have h6 : (2 ^ 63 - 1 : Int) / n < (i.length : Int) := g
    have h7 := (Int.ediv_lt_iff_lt_mul (show 0 < n by omega)).mp h6
    omega
  · have : ¬ (i.length * n.toNat > 2 ^ 24) := by
      have e : (2 : Nat) ^ 24 = 16777216 := by decide
      rw [e]; omega
    simpa [Builtin.Str.tooLong, hsz] using this
  · by_cases g : n < 1
    · rw [if_pos g]
      refine ⟨by rw [hsz]; decide, ?_⟩
      refine ⟨.str _, H, I.tok _, ⟨_, rfl⟩, ?_⟩
      have e : n.toNat = 0 := by omega
      rw [e] at q
      exact q
    · rw [if_neg g]
      by_cases g2 : (n == 1 || i.length == 0) = true
      · rw [if_pos g2]
        refine ⟨.str _, H, I, ⟨_, rfl⟩, ?_⟩
        have e : T (List.replicate n.toNat i.cps.toList).flatten = i := by
          obtain ⟨l, rfl⟩ := T_eta i
          rw [T_inj, T_cps]
          rw [Bool.or_eq_true] at g2
          rcases g2 with g2 | g2
          · have : n = 1 := by simpa using g2
            subst this
            simp
          · have : l = [] := by
              have := T_len l
              rw [beq_iff_eq] at g2
              rw [g2] at this
              exact List.eq_nil_of_length_eq_zero this.symm
            subst this
            simp
        rw [e] at q
        exact q
      · rw [if_neg g2]
        have e : (⟨(List.replicate n.toNat i.cps).foldl (· ++ ·) #[]⟩ : Str) = T (List.replicate n.toNat i.cps.toList).flatten := by
          rw [← flat_rep]
          rfl
        rw [e]
        refine ⟨?_, ⟨.str _, H, I.tok _, ⟨_, rfl⟩, q⟩⟩
        rw [T_len]
        have key : ∀ k : Nat, (List.replicate k i.cps.toList).flatten.length = k * i.cps.size := by
          intro k
          induction k with
          | zero => simp
          | succ k ih => rw [List.replicate_succ, List.flatten_cons, List.length_append, ih, Array.length_toList, Nat.succ_mul, Nat.add_comm]
        rw [key]
        have : n.toNat * i.cps.size = i.cps.size * n.toNat := Nat.mul_comm _ _
        have h8 : i.length = i.cps.size := rfl
        rw [h8] at h3
        omega
end
end Kr
namespace Kr
open PySem PySem.Spec PyProof.Rows L2 Evl
/-! ### rules that the hand layer lacks -/
section
variable {X : Cx}
theorem pe_T {x : Str} {l : List Nat} {j : Nat} {pos : Pos} (h : x = T l) : PE X (.Constant (.str x) j pos) (tC (.str (T l))) := by
  subst h
  exact pe_str
def rIsN0 : R2 := fun x y H Q => y = .non ∧ Q (.bl (decide (x = .non))) H
def rNotN0 : R2 := fun x y H Q => y = .non ∧ Q (.bl (!decide (x = .non))) H
theorem op_isN0 : OpR X (compareOp .Is) rIsN0 := op_isN
theorem op_notN0 : OpR X (compareOp .IsNot) rNotN0 := op_notN
/-- len -/
def rLenK (K : PySem.W.Frag) : List V → Hp → VK → Prop := fun xs H Q => ∃ x n, xs = [x] ∧ LenV K x H n ∧ Q (.int n) H
theorem call_lenK : CallR X (.builtin "len") (rLenK X.K) := call_len
/-- int of a truth, of a number -/
def rIntB : List V → Hp → VK → Prop := fun xs H Q => (∃ i, xs = [.int i] ∧ Q (.int i) H) ∨ ∃ k, xs = [.bl k] ∧ Q (.int (if k then 1 else 0)) H
theorem call_intB : CallR X (.type "int") rIntB := call_int1
end
/-! ### values of expressions: what the parts are worth, the whole is worth -/
section
variable {K : PySem.W.Frag} {σ : L2.St} {H : Hp} {ta tb te : TE} {t u : TT} {x y z v : V}
theorem rv_addI {i j : Int} : RV rAddI (.int i) (.int j) H (.int (i + j)) := rv_I0
theorem rv_subI {i j : Int} : RV rSubI (.int i) (.int j) H (.int (i - j)) := rv_I0
theorem rv_mulI {i j : Int} (h : CMulX i j) : RV rMulI (.int i) (.int j) H (.int (i * j)) := rv_I h
theorem rv_divI {i j : Int} (h : CDivW i j) : RV rDivI (.int i) (.int j) H (.int (i / j)) := rv_I h
theorem rv_modI {i j : Int} (h : 0 < j) : RV rModI (.int i) (.int j) H (.int (i % j)) := rv_I h
theorem rv_shrI {i j : Int} (h : 0 ≤ j) : RV rShrI (.int i) (.int j) H (.int (i / 2 ^ j.toNat)) := rv_I h
theorem rv_shlI {i j : Int} (h : CShl i j) : RV rShlI (.int i) (.int j) H (.int (i * 2 ^ j.toNat)) := rv_I h
theorem rv_powI {i j : Int} (h : CPow i j) : RV rPowI (.int i) (.int j) H (.int (i ^ j.toNat)) := rv_I h
theorem rv_andI {i j : Int} : RV rAndI (.int i) (.int j) H (.int (Builtin.bitAnd i j)) := rv_I0
theorem rv_ltI {i j : Int} : RV rLtI (.int i) (.int j) H (.bl (decide (i < j))) := rv_I0
theorem rv_leI {i j : Int} : RV rLeI (.int i) (.int j) H (.bl (decide (i ≤ j))) := rv_I0
theorem rv_gtI {i j : Int} : RV rGtI (.int i) (.int j) H (.bl (decide (j < i))) := rv_I0
theorem rv_geI {i j : Int} : RV rGeI (.int i) (.int j) H (.bl (decide (j ≤ i))) := rv_I0
theorem rv_addT {a b : List Nat} (h : a.length + b.length ≤ 16000000) : RV rAddT (.str (T a)) (.str (T b)) H (.str (T (a ++ b))) := fun H1 _ Q q =>
  ⟨T a, T b, rfl, rfl, by rw [T_len, T_len, sizeLine_eq]; omega, by rw [T_add]; exact q H1 (Ex.refl H1)⟩
theorem rv_ltT {a b : List Nat} : RV rLtT (.str (T a)) (.str (T b)) H (.bl (decide (a < b))) := fun H1 _ Q q => ⟨T a, T b, rfl, rfl, q H1 (Ex.refl H1)⟩
theorem rv_leT {a b : List Nat} : RV rLeT (.str (T a)) (.str (T b)) H (.bl (!decide (b < a))) := fun H1 _ Q q => ⟨T a, T b, rfl, rfl, q H1 (Ex.refl H1)⟩
theorem rv_mulT {a : List Nat} {n : Int} (h0 : n < 2 ^ 62) (h1 : -(2 ^ 62) ≤ n) (h : a.length * n.toNat ≤ 16000000) : RV rMulT (.str (T a)) (.int n) H (.str (T (List.replicate n.toNat a).flatten)) := fun H1 _ Q q =>
  ⟨T a, n, rfl, rfl, h1, h0, by rw [T_len, sizeLine_eq]; omega, q H1 (Ex.refl H1)⟩
theorem dec_T {a b : List Nat} : decide (V.str (T a) = V.str (T b)) = decide (a = b) := by
  by_cases h : a = b
  · subst h; simp
  · rw [decide_eq_false h, decide_eq_false (fun e => h (T_inj.mp (V.str.inj e)))]
theorem dec_I {a b : Int} : decide (V.int a = V.int b) = decide (a = b) := by
  by_cases h : a = b
  · subst h; simp
  · rw [decide_eq_false h, decide_eq_false (fun e => h (V.int.inj e))]
theorem dec_B {a b : Bool} : decide (V.bl a = V.bl b) = decide (a = b) := by cases a <;> cases b <;> decide
theorem rv_eqT {a b : List Nat} : RV rEq (.str (T a)) (.str (T b)) H (.bl (decide (a = b))) := by
  rw [← dec_T]; exact rv_eq rfl
theorem rv_neT {a b : List Nat} : RV rNe (.str (T a)) (.str (T b)) H (.bl (!decide (a = b))) := by
  rw [← dec_T]; exact rv_ne rfl
theorem rv_eqI {a b : Int} : RV rEq (.int a) (.int b) H (.bl (decide (a = b))) := by
  rw [← dec_I]; exact rv_eq rfl
theorem rv_neI {a b : Int} : RV rNe (.int a) (.int b) H (.bl (!decide (a = b))) := by
  rw [← dec_I]; exact rv_ne rfl
theorem rv_eqB {a b : Bool} : RV rEq (.bl a) (.bl b) H (.bl (decide (a = b))) := by
  rw [← dec_B]; exact rv_eq rfl
theorem rv_neB {a b : Bool} : RV rNe (.bl a) (.bl b) H (.bl (!decide (a = b))) := by
  rw [← dec_B]; exact rv_ne rfl
theorem rv_isN : RV rIsN0 x .non H (.bl (decide (x = .non))) := fun H1 _ Q q => ⟨rfl, q H1 (Ex.refl H1)⟩
theorem rv_notN : RV rNotN0 x .non H (.bl (!decide (x = .non))) := fun H1 _ Q q => ⟨rfl, q H1 (Ex.refl H1)⟩
/-- texts: an item, a slice, the length -/
theorem rv_ixT {l : List Nat} {i : Int} {c : Nat} (hz : l.length ≤ 16000000) (h : atI l i = some c) : RV rIxS (.str (T l)) (.int i) H (.str (T [c])) := fun H1 _ Q q =>
  ⟨T l, i, c, rfl, rfl, by rw [T_len, sizeLine_eq]; omega, h, q H1 (Ex.refl H1)⟩
def cutL (l : List Nat) (lo hi : Option Int) : List Nat := (l.drop (HT.sIx l.length 0 lo)).take (HT.sIx l.length l.length hi - HT.sIx l.length 0 lo)
theorem cutS_T (l : List Nat) (lo hi : Option Int) : cutS (T l) lo hi = T (cutL l lo hi) := by
  unfold cutS cutL T
  simp [Str.length]
theorem cutL_len (l : List Nat) (lo hi : Option Int) : (cutL l lo hi).length ≤ l.length := by
  unfold cutL
  rw [List.length_take, List.length_drop]
  omega
theorem cutL_pre {l : List Nat} {n : Nat} : cutL l none (some (n : Int)) = l.take n := by
  unfold cutL
  rw [HT.sIx_none, HT.sIx_nat]
  simp
theorem cutL_suf {l : List Nat} {n : Nat} : cutL l (some (n : Int)) none = l.drop n := by
  unfold cutL
  rw [HT.sIx_none, HT.sIx_nat]
  by_cases h : n ≤ l.length
  · rw [Nat.min_eq_left h, List.take_of_length_le (by simp)]
  · rw [Nat.min_eq_right (by omega), Nat.sub_self, List.take_zero, List.drop_eq_nil_of_le (by omega)]
theorem cutL_last {l : List Nat} : cutL l none (some (-1)) = l.dropLast := by
  unfold cutL
  rw [HT.sIx_none, List.dropLast_eq_take]
  show (l.drop 0).take (((-1 : Int) + l.length).toNat - 0) = _
  rw [List.drop_zero, Nat.sub_zero]
  congr 1
  omega
theorem ev_slT {tl th : TO} {l : List Nat} {lo hi : Option Int} (h : Ev te σ H (.str (T l))) (hz : l.length ≤ 16000000) (h1 : EvO tl σ H lo) (h2 : EvO th σ H hi) : Ev (tSl rSlS te tl th) σ H (.str (T (cutL l lo hi))) := fun H1 e Q q =>
  h H1 e _ fun H2 e2 => h1 H2 (e.trans e2) _ fun H3 e3 => h2 H3 ((e.trans e2).trans e3) _ fun H4 e4 =>
    ⟨T l, rfl, by rw [T_len, sizeLine_eq]; omega, by rw [cutS_T]; exact q H4 ((e2.trans e3).trans e4)⟩
theorem ev_lenT {l : List Nat} (h : Ev ta σ H (.str (T l))) (hz : l.length ≤ 16000000) : Ev (tCB (rLenK K) (tCons ta tNil)) σ H (.int (l.length : Int)) := fun H1 e Q q =>
  h H1 e _ fun H2 e2 => ⟨.str (T l), l.length, rfl, ⟨by rw [T_len, sizeLine_eq]; omega, (T_len l).symm⟩, q H2 e2⟩
theorem ev_lenS {p : Addr} {xs : List V} (h : Ev ta σ H (.ref p)) (hs : SqL K H p xs ∨ SqT K H p xs) : Ev (tCB (rLenK K) (tCons ta tNil)) σ H (.int (xs.length : Int)) := fun H1 e Q q =>
  h H1 e _ fun H2 e2 => ⟨.ref p, xs.length, rfl, by
    rcases hs with hs | hs
    · exact .inl ⟨xs, ex_l (e.trans e2) hs, rfl⟩
    · exact .inr ⟨xs, ex_t (e.trans e2) hs, rfl⟩, q H2 e2⟩
theorem ev_lenNL {xs : List V} (h : EvL ta σ H xs) : Ev (tCB (rLenK K) (tCons ta tNil)) σ H (.int (xs.length : Int)) := fun H1 e Q q =>
  h H1 e _ fun p H2 _ e2 hp => ⟨.ref p, xs.length, rfl, .inl ⟨xs, sq_of hp, rfl⟩, q H2 e2⟩
/-- int(b) -/
theorem ev_intB {b : Bool} (h : Ev ta σ H (.bl b)) : Ev (tCB rIntB (tCons ta tNil)) σ H (.int (if b then 1 else 0)) := fun H1 e Q q =>
  h H1 e _ fun H2 e2 => .inr ⟨b, rfl, q H2 e2⟩
theorem ev_intI {i : Int} (h : Ev ta σ H (.int i)) : Ev (tCB rIntB (tCons ta tNil)) σ H (.int i) := fun H1 e Q q =>
  h H1 e _ fun H2 e2 => .inl ⟨i, rfl, q H2 e2⟩
/-- an item of a written list -/
theorem ev_ixNL {xs : List V} {i : Int} (h : EvL ta σ H xs) (hi : ∀ H1, Ex H H1 → Ev tb σ H1 (.int i)) (hv : atI xs i = some v) : Ev (tOp (rIxL K) ta tb) σ H v :=
  ev_opL1 h hi fun p H1 h1 _ => rv_ixL (sq_of h1) hv
/-- isinstance of scalars -/
def tyS : V → Option String
  | .non => some "NoneType"
  | .bl _ => some "bool"
  | .int _ => some "int"
  | .str _ => some "str"
  | _ => none
theorem tyS_ok {x : V} {n : String} (h : tyS x = some n) (H : Hp) : TyX K H x (.type n) := by
  cases x with
  | non => cases h; exact .base .non
  | bl b => cases h; exact .base (.bl b)
  | int i => cases h; exact .base (.int i)
  | str s => cases h; exact .base (.str s)
  | _ => cases h
theorem ev_isi {n m : String} {b : Bool} (h : Ev ta σ H x) (hn : tyS x = some n) (hb : kitB n m = some b) : Ev (tCB (rIsi K) (tCons ta (tCons (tC (.ty m)) tNil))) σ H (.bl b) := fun H1 e Q q =>
  h H1 e _ fun H2 e2 => ⟨x, .ty m, .type n, .type m, b, rfl, .ty m, tyS_ok hn H2, kit_ty hb, q H2 e2⟩
theorem ev_isiL {p : Addr} {xs : List V} {m : String} {b : Bool} (h : Ev ta σ H (.ref p)) (hp : H p = some (.lst xs)) (hb : kitB "list" m = some b) : Ev (tCB (rIsi K) (tCons ta (tCons (tC (.ty m)) tNil))) σ H (.bl b) := fun H1 e Q q =>
  h H1 e _ fun H2 e2 => ⟨.ref p, .ty m, .type "list", .type m, b, rfl, .ty m, .base (.lst ((e.trans e2) _ _ hp)), kit_ty hb, q H2 e2⟩
theorem ev_isiT {p : Addr} {xs : List V} {m : String} {b : Bool} (h : Ev ta σ H (.ref p)) (hp : H p = some (.tup xs)) (hb : kitB "tuple" m = some b) : Ev (tCB (rIsi K) (tCons ta (tCons (tC (.ty m)) tNil))) σ H (.bl b) := fun H1 e Q q =>
  h H1 e _ fun H2 e2 => ⟨.ref p, .ty m, .type "tuple", .type m, b, rfl, .ty m, .base (.tup ((e.trans e2) _ _ hp)), kit_ty hb, q H2 e2⟩
end
/-! ### promises of defs whose answer is a function of their arguments -/
def pureSp (n : Nat) (F : List V → Option V) : Sp := fun vs H Q _ => vs.length = n ∧ ∃ v, F vs = some v ∧ RetV v H Q
theorem use_pure {n : Nat} {F : List V → Option V} {vs : List V} {v : V} {H : Hp} (h : F vs = some v) (hn : vs.length = n) : SpV (pureSp n F) vs H v := fun H1 e Q q E => ⟨hn, v, h, fun H2 e2 => q H2 e2⟩
/-- .. the first argument a list -/
def pureSpL (K : PySem.W.Frag) (n : Nat) (F : List V → List V → Option V) : Sp := fun vs H Q _ => ∃ a xs us, vs = .ref a :: us ∧ us.length = n ∧ SqL K H a xs ∧ ∃ v, F xs us = some v ∧ RetV v H Q
theorem pureSpL_len {K : PySem.W.Frag} {n : Nat} {F : List V → List V → Option V} {vs : List V} {H : Hp} {Q : VK} {E : XK} (h : pureSpL K n F vs H Q E) : vs.length = n + 1 := by
  obtain ⟨a, xs, us, rfl, hn, _⟩ := h
  rw [List.length_cons, hn]
theorem use_pureL {K : PySem.W.Frag} {n : Nat} {F : List V → List V → Option V} {a : Addr} {xs us : List V} {v : V} {H : Hp} (hs : SqL K H a xs) (h : F xs us = some v) (hn : us.length = n) : SpV (pureSpL K n F) (.ref a :: us) H v := fun H1 e Q q E =>
  ⟨a, xs, us, rfl, hn, ex_l e hs, v, h, fun H2 e2 => q H2 e2⟩
section
variable {K : PySem.W.Frag} {σ : L2.St} {H : Hp} {te : TE}
/-- a call whose first argument is a new list -/
theorem ev_callNL {n : Nat} {F : List V → List V → Option V} {E : XK} {tr : TA} {xs us : List V} {v : V} (h : EvL te σ H xs) (hr : ∀ H1, Ex H H1 → EvA tr σ H1 us) (hF : F xs us = some v) (hn : us.length = n) :
    Ev (tCall (pureSpL K n F) [] E (tCons te tr)) σ H v := fun H1 e Q q =>
  h H1 e _ fun p H2 _ e2 hp => hr H2 (e.trans e2) H2 (Ex.refl H2) _ fun H3 e3 => by
    show pureSpL K n F ((.ref p :: us) ++ []) H3 Q E
    rw [List.append_nil]
    exact ⟨p, xs, us, rfl, hn, sq_of (e3 _ _ hp), v, hF, fun H4 e4 => q H4 ((e2.trans e3).trans e4)⟩
end

/-! ### the text's facts -/
def fdOf (K : PySem.W.Frag) (p : Str × Option Str) : FuncData := match K.lookup (He.fAd K p) with
  | some ⟨_, _, .func fd, _⟩ => fd
  | _ => PySem.W.fnOf "" "" ⟨[], [], none, [], [], none, []⟩ [] ⟨.function, [], false, false, []⟩ .none .none .none .none none .none .none
theorem fun_fdOf {K : PySem.W.Frag} {x qual : Str} {params : Arguments} {body : List Stmt} {scope : Scope} {dvs : List V} {kws : List (Str × V)} {p : Str × Option Str}
    (h : ∃ fd, FunD K x qual params body scope dvs kws (He.fAd K p) fd) : FunD K x qual params body scope dvs kws (He.fAd K p) (fdOf K p) := by
  obtain ⟨fd, F⟩ := h
  have e : fdOf K p = fd := by
    obtain ⟨oc, od, dV, kV, doc, pm, an, cdv, ct, osl, _, lk, _⟩ := F.ex
    unfold fdOf
    rw [lk]
  rw [e]
  exact F
theorem cx_none {P : Program} {w : World} {H : Hp} {s : Shared} {e : Value} {s' : Shared} (z : L2.CX P w [] H s (fun _ _ _ => False) e s') : False := by
  obtain ⟨_, _, _, _, _, _, _, _, _, _, _, _, z⟩ := z
  exact z
section
variable {X : Cx}
/-- a module's number, text -/
theorem pe_gint {x : Str} {i : Int} {pos : Pos} (hg : Gl X x) (hm : ∃ t, X.mg x = some (.int i t)) (hd : (x == ("__debug__" : Str)) = false := by decide) : PE X (.Name x pos) (tC (.int i)) := by
  obtain ⟨t, e⟩ := hm
  exact pe_glob hg e ⟨t, rfl⟩ hd
theorem pe_gstr {x : Str} {z : Str} {l : List Nat} {pos : Pos} (hg : Gl X x) (hm : ∃ t, X.mg x = some (.str z t)) (hz : z = T l) (hd : (x == ("__debug__" : Str)) = false := by decide) : PE X (.Name x pos) (tC (.str (T l))) := by
  obtain ⟨t, e⟩ := hm
  subst hz
  exact pe_glob hg e ⟨t, rfl⟩ hd
end
/-- a law's promise: called with the script, it gives True -/
def lawSp (K : PySem.W.Frag) : Sp := fun vs H Q _ => ∃ (a : Addr) (ns : List Int), vs = [.ref a] ∧ SqL K H a (ns.map V.int) ∧ ns.length ≤ 63 ∧ Only H ∧ ∀ H', Q (.bl true) H'
theorem lawSp_len {K : PySem.W.Frag} {vs : List V} {H : Hp} {Q : VK} {E : XK} (h : lawSp K vs H Q E) : vs.length = 1 := by
  obtain ⟨a, ns, rfl, _⟩ := h
  rfl
theorem law_in {K : PySem.W.Frag} {H : Hp} {a : Addr} {ns : List Int} {E : XK} (hl : ns.length ≤ 63) (hO : Only H) (hS : SqL K H a (ns.map V.int)) : lawSp K [.ref a] H (fun v _ => v = .bl true) E := ⟨a, ns, rfl, hS, hl, hO, fun _ => rfl⟩

/-- the end of a law over a head by facts, where what leaves a def depends on the world -/
theorem walk_w {l : PySem.W.OpenLaw} {n k : Nat} {q : Program} {loose : List Str} {XP : (Str → Option Value) → Heap → Prop} {YP : World → Heap → Prop} {d : DefRec} {x : Str}
    (hn : l.most = some n) (hn2 : n ≤ sizeLine) (hdf : d.params.defaults = []) (hr : Room k callerA)
    (F : ∀ (w : World) (mg : Str → Option Value) (fa : Addr) (h : Heap), YP w h → h.Ns mainGlobals mg → mg d.name = some (.ref fa) →
      ∃ (K : PySem.W.Frag) (fd : FuncData), K.In h ∧ (∀ (s : Shared) (u : Value), BindsTo s fd ⟨[u], []⟩ [(x, u)]) ∧
        (∀ (H : Hp) (a : Addr) (ns : List Int), ns.length ≤ n → Only H → SqL K H a (ns.map V.int) → lawSp K [.ref a] H (fun v _ => v = .bl true) fun _ _ _ => False) ∧
        ∀ base : Heap, K.In base → base.Ns mainGlobals mg → FnOk l.prog w K mg base (L2.CX l.prog w) k fa fd [x] (lawSp K)) :
    PySem.W.WalkO q loose XP YP l.row.toRowW d [] (fun f vs => PySem.call f vs) := by
  refine Att.attach_call hn hdf fun w s₀ s₁ mg mb fa o pm cd doc a vs ns G Y ho hd hcd hmg hobj hints hlen hg => ?_
  have Z := F w mg fa s₁.heap Y G.T.g hmg
  obtain ⟨K, fd, KX, hb, hsp, hF⟩ := Z
  exact law_call KX G.T.g G.T.b G.T.builtins G.T.nolimit hg hobj hints (Nat.le_trans hlen hn2) hr hF hb (fun H hO hS => hsp H a ns hlen hO hS)
    (fun H e s' z => cx_none z)
end Kr
/-! rows of two signs as lists of truths; the reading's own tactics -/
namespace Kr
open PySem PySem.Spec PyProof.Rows L2 Evl
/-! ### rows -/
def bc (b : Bool) : Nat := if b then 49 else 48
def R (b : List Bool) : List Nat := b.map bc
theorem R_app (a b : List Bool) : R (a ++ b) = R a ++ R b := List.map_append
theorem R_len (a : List Bool) : (R a).length = a.length := List.length_map _
theorem bc_inj {a b : Bool} (h : bc a = bc b) : a = b := by cases a <;> cases b <;> first | rfl | (exact absurd h (by decide))
theorem R_inj {a b : List Bool} (h : R a = R b) : a = b := by
  induction a generalizing b with
  | nil => cases b with
    | nil => rfl
    | cons y b => simp [R] at h
  | cons x a ih => cases b with
    | nil => simp [R] at h
    | cons y b =>
      simp only [R, List.map_cons, List.cons.injEq] at h
      rw [bc_inj h.1, ih h.2]
theorem R_take (a : List Bool) (n : Nat) : (R a).take n = R (a.take n) := by simp [R, List.map_take]
theorem R_drop (a : List Bool) (n : Nat) : (R a).drop n = R (a.drop n) := by simp [R, List.map_drop]
theorem lt_split {p x y : List Nat} : p ++ 48 :: x < p ++ 49 :: y := by
  induction p with
  | nil => exact List.Lex.rel (by decide)
  | cons c p ih => exact List.Lex.cons ih
theorem lt_pre {p y : List Nat} {c : Nat} : p < p ++ c :: y := by
  induction p with
  | nil => exact List.Lex.nil
  | cons d p ih => exact List.Lex.cons ih
/-! ### the script -/
def cellAt (ns : List Int) (k : Int) : Int := (ns[k.toNat]?).getD 0
theorem cell_at {ns : List Int} {j : Nat} (hj : j < ns.length) : ns[j]? = some (cellAt ns j) := by
  unfold cellAt
  rw [Int.toNat_natCast, List.getElem?_eq_getElem hj]
  rfl
/-- a cell of the script by its place -/
theorem at_int {ns : List Int} {j : Nat} (hj : j < ns.length) : atI (ns.map V.int) (j : Int) = some (.int (cellAt ns j)) := by
  refine atI_nat (j := j) ?_
  rw [List.getElem?_map, cell_at hj]
  rfl
theorem cut_len {ns : List Int} (h : ns.length ≤ 63) : ((cutV (ns.map V.int) none (some 63)).length : Int) = (ns.length : Int) := by
  unfold cutV
  rw [HT.sIx_none, show HT.sIx (ns.map V.int).length (ns.map V.int).length (some 63) = min 63 (ns.map V.int).length from HT.sIx_nat _ _ 63]
  simp
  omega
theorem ev_len63 {K : PySem.W.Frag} {σ : L2.St} {H : Hp} {te : TE} {a : Addr} {ns : List Int} (h : Ev te σ H (.ref a)) (hs : SqL K H a (ns.map V.int)) (hl : ns.length ≤ 63) :
    Ev (tCB (rLenK K) (tCons (tSl (rSlL K) te tNoPart (tPart (tC (.int 63)))) tNil)) σ H (.int (ns.length : Int)) := by
  have := ev_lenNL (K := K) (el_sl (K := K) h eo_none (eo_some (ev_c (v := .int 63))) hs)
  rw [cut_len hl] at this
  exact this
/-! ### one rule an operation, for apply -/
section
variable {K : PySem.W.Frag} {σ : L2.St} {H : Hp} {ta tb te : TE} {x : V}
theorem ev_addI {i j : Int} (ha : Ev ta σ H (.int i)) (hb : Ev tb σ H (.int j)) : Ev (tOp rAddI ta tb) σ H (.int (i + j)) := ev_op ha hb rv_addI
theorem ev_subI {i j : Int} (ha : Ev ta σ H (.int i)) (hb : Ev tb σ H (.int j)) : Ev (tOp rSubI ta tb) σ H (.int (i - j)) := ev_op ha hb rv_subI
theorem ev_mulI {i j : Int} (ha : Ev ta σ H (.int i)) (hb : Ev tb σ H (.int j)) (h : CMulX i j) : Ev (tOp rMulI ta tb) σ H (.int (i * j)) := ev_op ha hb (rv_mulI h)
theorem ev_divI {i j : Int} (ha : Ev ta σ H (.int i)) (hb : Ev tb σ H (.int j)) (h : CDivW i j) : Ev (tOp rDivI ta tb) σ H (.int (i / j)) := ev_op ha hb (rv_divI h)
theorem ev_modI {i j : Int} (ha : Ev ta σ H (.int i)) (hb : Ev tb σ H (.int j)) (h : 0 < j) : Ev (tOp rModI ta tb) σ H (.int (i % j)) := ev_op ha hb (rv_modI h)
theorem ev_shrI {i j : Int} (ha : Ev ta σ H (.int i)) (hb : Ev tb σ H (.int j)) (h : 0 ≤ j) : Ev (tOp rShrI ta tb) σ H (.int (i / 2 ^ j.toNat)) := ev_op ha hb (rv_shrI h)
theorem ev_shlI {i j : Int} (ha : Ev ta σ H (.int i)) (hb : Ev tb σ H (.int j)) (h : CShl i j) : Ev (tOp rShlI ta tb) σ H (.int (i * 2 ^ j.toNat)) := ev_op ha hb (rv_shlI h)
theorem ev_powI {i j : Int} (ha : Ev ta σ H (.int i)) (hb : Ev tb σ H (.int j)) (h : CPow i j) : Ev (tOp rPowI ta tb) σ H (.int (i ^ j.toNat)) := ev_op ha hb (rv_powI h)
theorem ev_andI {i j : Int} (ha : Ev ta σ H (.int i)) (hb : Ev tb σ H (.int j)) : Ev (tOp rAndI ta tb) σ H (.int (Builtin.bitAnd i j)) := ev_op ha hb rv_andI
theorem ev_ltI {i j : Int} (ha : Ev ta σ H (.int i)) (hb : Ev tb σ H (.int j)) : Ev (tOp rLtI ta tb) σ H (.bl (decide (i < j))) := ev_op ha hb rv_ltI
theorem ev_leI {i j : Int} (ha : Ev ta σ H (.int i)) (hb : Ev tb σ H (.int j)) : Ev (tOp rLeI ta tb) σ H (.bl (decide (i ≤ j))) := ev_op ha hb rv_leI
theorem ev_gtI {i j : Int} (ha : Ev ta σ H (.int i)) (hb : Ev tb σ H (.int j)) : Ev (tOp rGtI ta tb) σ H (.bl (decide (j < i))) := ev_op ha hb rv_gtI
theorem ev_geI {i j : Int} (ha : Ev ta σ H (.int i)) (hb : Ev tb σ H (.int j)) : Ev (tOp rGeI ta tb) σ H (.bl (decide (j ≤ i))) := ev_op ha hb rv_geI
theorem ev_eqI {i j : Int} (ha : Ev ta σ H (.int i)) (hb : Ev tb σ H (.int j)) : Ev (tOp rEq ta tb) σ H (.bl (decide (i = j))) := ev_op ha hb rv_eqI
theorem ev_neI {i j : Int} (ha : Ev ta σ H (.int i)) (hb : Ev tb σ H (.int j)) : Ev (tOp rNe ta tb) σ H (.bl (!decide (i = j))) := ev_op ha hb rv_neI
theorem ev_eqB {i j : Bool} (ha : Ev ta σ H (.bl i)) (hb : Ev tb σ H (.bl j)) : Ev (tOp rEq ta tb) σ H (.bl (decide (i = j))) := ev_op ha hb rv_eqB
theorem ev_neB {i j : Bool} (ha : Ev ta σ H (.bl i)) (hb : Ev tb σ H (.bl j)) : Ev (tOp rNe ta tb) σ H (.bl (!decide (i = j))) := ev_op ha hb rv_neB
theorem ev_addT {a b : List Nat} (ha : Ev ta σ H (.str (T a))) (hb : Ev tb σ H (.str (T b))) (h : a.length + b.length ≤ 16000000) : Ev (tOp rAddT ta tb) σ H (.str (T (a ++ b))) := ev_op ha hb (rv_addT h)
theorem ev_ltT {a b : List Nat} (ha : Ev ta σ H (.str (T a))) (hb : Ev tb σ H (.str (T b))) : Ev (tOp rLtT ta tb) σ H (.bl (decide (a < b))) := ev_op ha hb rv_ltT
theorem ev_leT {a b : List Nat} (ha : Ev ta σ H (.str (T a))) (hb : Ev tb σ H (.str (T b))) : Ev (tOp rLeT ta tb) σ H (.bl (!decide (b < a))) := ev_op ha hb rv_leT
theorem ev_eqT {a b : List Nat} (ha : Ev ta σ H (.str (T a))) (hb : Ev tb σ H (.str (T b))) : Ev (tOp rEq ta tb) σ H (.bl (decide (a = b))) := ev_op ha hb rv_eqT
theorem ev_neT {a b : List Nat} (ha : Ev ta σ H (.str (T a))) (hb : Ev tb σ H (.str (T b))) : Ev (tOp rNe ta tb) σ H (.bl (!decide (a = b))) := ev_op ha hb rv_neT
theorem ev_mulT {a : List Nat} {n : Int} (ha : Ev ta σ H (.str (T a))) (hb : Ev tb σ H (.int n)) (h0 : n < 2 ^ 62) (h1 : -(2 ^ 62) ≤ n) (h : a.length * n.toNat ≤ 16000000) : Ev (tOp rMulT ta tb) σ H (.str (T (List.replicate n.toNat a).flatten)) := ev_op ha hb (rv_mulT h0 h1 h)
theorem ev_ixT {l : List Nat} {i : Int} {c : Nat} (ha : Ev ta σ H (.str (T l))) (hb : Ev tb σ H (.int i)) (hz : l.length ≤ 16000000) (h : atI l i = some c) : Ev (tOp rIxS ta tb) σ H (.str (T [c])) := ev_op ha hb (rv_ixT hz h)
theorem ev_isN (ha : Ev ta σ H x) : Ev (tOp rIsN0 ta (tC .non)) σ H (.bl (decide (x = .non))) := ev_op ha ev_c rv_isN
theorem ev_notN (ha : Ev ta σ H x) : Ev (tOp rNotN0 ta (tC .non)) σ H (.bl (!decide (x = .non))) := ev_op ha ev_c rv_notN
theorem ev_neg {i : Int} (ha : Ev ta σ H (.int i)) : Ev (tUn (rU fun i => .int (-i)) ta) σ H (.int (-i)) := ev_un ha ru_neg
theorem ev_bits {i : Int} (ha : Ev ta σ H (.int i)) : Ev (tBits ta) σ H (.int (Builtin.Int.intBits i : Nat)) := fun H1 e Q q => ha H1 e _ fun H2 e2 => ⟨i, rfl, q H2 e2⟩
end
end Kr
namespace Kr
open PySem PySem.Spec PyProof.Rows L2 Evl
local macro_rules | `(tactic| k_subL) => `(tactic| first
  | with_reducible exact ev_c
  | ((with_reducible apply ev_var); exact rfl)
  | with_reducible apply ev_addI
  | with_reducible apply ev_subI
  | with_reducible apply ev_modI
  | with_reducible apply ev_divI
  | with_reducible apply ev_mulI
  | with_reducible apply ev_shrI
  | with_reducible apply ev_shlI
  | with_reducible apply ev_powI
  | with_reducible apply ev_andI
  | with_reducible apply ev_ltI
  | with_reducible apply ev_leI
  | with_reducible apply ev_gtI
  | with_reducible apply ev_geI
  | with_reducible apply ev_addT
  | with_reducible apply ev_ltT
  | with_reducible apply ev_leT
  | with_reducible apply ev_mulT
  | with_reducible apply ev_ixT
  | with_reducible apply ev_isN
  | with_reducible apply ev_notN
  | with_reducible apply ev_neg
  | with_reducible apply ev_bits
  | with_reducible apply ev_slT
  | with_reducible apply eo_none
  | with_reducible apply eo_some
  | with_reducible apply ev_call
  | with_reducible apply ea_nil
  | with_reducible apply ea_cons
  | with_reducible apply et_test
  | with_reducible apply et_B
  | with_reducible apply et_not
  | with_reducible apply ev_notV)
local macro_rules | `(tactic| k_clsL) => `(tactic| repeat' k_subL)
def N__law_mixed : List Str := ["_law_cell", "_law_k", "_law_number"]
def t__law_mixed (K : PySem.W.Frag) : TS :=
  (tSeq (tAsg (tOp rModI (tOp rAddI (tOp rAddI (tOp rMulI (tOp rModI (tVar 0) (tC (.int 2147483647))) (tC (.int 48271))) (tOp rMulI (tVar 1) (tC (.int 69621)))) (tC (.int 11))) (tC (.int 2147483647))) (gName 2))
    (tSeq (tAsg (tOp rModI (tOp rMulI (tVar 2) (tVar 2)) (tC (.int 2147483629))) (gName 2))
    (tRet (tOp rModI (tOp rMulI (tVar 2) (tVar 2)) (tC (.int 2147483587))))))
def mixed (c k : Int) : Int :=
  let n := (c % 2147483647 * 48271 + k * 69621 + 11) % 2147483647
  let m := n * n % 2147483629
  m * m % 2147483587
theorem mixed_lo (c k : Int) : 0 ≤ mixed c k := Int.emod_nonneg _ (by decide)
theorem mixed_hi (c k : Int) : mixed c k < 2147483587 := Int.emod_lt_of_pos _ (by decide)
def sp__law_mixed (_ : PySem.W.Frag) : Sp := fun vs H Q _ => ∃ c k : Int, vs = [.int c, .int k] ∧ k.natAbs < 2 ^ 40 ∧ RetV (.int (mixed c k)) H Q
theorem len__law_mixed {K : PySem.W.Frag} {vs H Q E} (h : sp__law_mixed K vs H Q E) : vs.length = 2 := by
  obtain ⟨c, k, rfl, _⟩ := h
  rfl
theorem u__law_mixed {K : PySem.W.Frag} {H : Hp} {c k : Int} (h : k.natAbs < 2 ^ 40) : SpV (sp__law_mixed K) [.int c, .int k] H (.int (mixed c k)) := fun H1 e Q q E => ⟨c, k, rfl, h, q⟩
theorem rd__law_mixed {K : PySem.W.Frag} (vs : List V) (H : Hp) (Q : VK) (E : XK) (h : sp__law_mixed K vs H Q E) : t__law_mixed K { nx := fun _ H' => Q .non H', rt := Q } (start N__law_mixed vs) H := by
  obtain ⟨c, k, rfl, hk, q⟩ := h
  have hm : ∀ x m : Int, 0 < m → m < 2 ^ 40 → (x % m).natAbs < 2 ^ 40 := fun x m h1 h2 => by
    have := Int.emod_nonneg x (show m ≠ 0 by omega)
    have := Int.emod_lt_of_pos x h1
    omega
  refine q_asg (by
    k_clsL
    all_goals first
      | decide
      | exact mulx_ok (a := 40) (b := 40) (hm _ _ (by decide) (by decide)) (by decide) (by decide)
      | exact mulx_ok (a := 40) (b := 40) hk (by decide) (by decide)) fun H1 e1 => ?_
  refine q_asg (by
    k_clsL
    all_goals first
      | decide
      | exact mulx_ok (a := 40) (b := 40) (hm _ _ (by decide) (by decide)) (hm _ _ (by decide) (by decide)) (by decide)) fun H2 e2 => ?_
  refine s_ret (by
    k_clsL
    all_goals first
      | decide
      | exact mulx_ok (a := 40) (b := 40) (hm _ _ (by decide) (by decide)) (hm _ _ (by decide) (by decide)) (by decide)) fun H3 e3 => ?_
  exact q H3 ((e1.trans e2).trans e3)
def N__law_bits : List Str := ["_law_script", "_law_salt", "_law_bits_here", "_law_k", "_law_number"]
def t__law_bits (K : PySem.W.Frag) : TS :=
  (tSeq (tAsg (tC (.str (T []))) (gName 2))
    (tSeq (tFor (iRng1 (tCons (tCB (rLenK K) (tCons (tSl (rSlL K) (tVar 0) tNoPart (tPart (tC (.int 63)))) tNil)) tNil)) (gName 3)
    (tSeq (tAsg (tCall (sp__law_mixed K) [] E0 (tCons (tOp (rIxL K) (tVar 0) (tVar 3)) (tCons (tOp rAddI (tVar 3) (tVar 1)) tNil))) (gName 4))
    (tAsg (tOp rAddT (tVar 2) (tOp (rIxL K) (tLst (tCons (tC (.str (T [48]))) (tCons (tC (.str (T [49]))) (tCons (tC (.str (T [48, 48]))) (tCons (tC (.str (T [48, 49]))) (tCons (tC (.str (T [49, 48]))) (tCons (tC (.str (T [49, 49]))) (tCons (tC (.str (T [49, 49, 49, 49]))) (tCons (tC (.str (T [48, 48, 48, 48]))) tNil))))))))) (tOp rModI (tVar 4) (tC (.int 8))))) (gName 2))))
    (tRet (tVar 2))))
def tab8 (x : Int) : List Bool := match x.toNat with
  | 0 => [false] | 1 => [true] | 2 => [false, false] | 3 => [false, true] | 4 => [true, false] | 5 => [true, true] | 6 => [true, true, true, true] | _ => [false, false, false, false]
theorem tab8_len (x : Int) : (tab8 x).length ≤ 4 := by
  unfold tab8
  split <;> decide
def bitsTo (ns : List Int) (s : Int) : Nat → List Bool
  | 0 => []
  | i + 1 => bitsTo ns s i ++ tab8 (mixed (cellAt ns i) (i + s) % 8)
theorem bitsTo_len (ns : List Int) (s : Int) (i : Nat) : (bitsTo ns s i).length ≤ 4 * i := by
  induction i with
  | zero => exact Nat.le_refl _
  | succ i ih =>
    have := tab8_len (mixed (cellAt ns i) (i + s) % 8)
    rw [bitsTo, List.length_append]
    omega
def bitsOf (ns : List Int) (s : Int) : List Bool := bitsTo ns s ns.length
def sp__law_bits (K : PySem.W.Frag) : Sp := fun vs H Q _ => ∃ (a : Addr) (ns : List Int) (s : Int), vs = [.ref a, .int s] ∧ SqL K H a (ns.map V.int) ∧ ns.length ≤ 63 ∧ s.natAbs < 2 ^ 30 ∧ RetV (.str (T (R (bitsOf ns s)))) H Q
theorem len__law_bits {K : PySem.W.Frag} {vs H Q E} (h : sp__law_bits K vs H Q E) : vs.length = 2 := by
  obtain ⟨a, ns, k, rfl, _⟩ := h
  rfl
theorem u__law_bits {K : PySem.W.Frag} {H : Hp} {a : Addr} {ns : List Int} {s : Int} (hs : SqL K H a (ns.map V.int)) (h : ns.length ≤ 63) (h2 : s.natAbs < 2 ^ 30) : SpV (sp__law_bits K) [.ref a, .int s] H (.str (T (R (bitsOf ns s)))) := fun H1 e Q q E => ⟨a, ns, s, rfl, ex_l e hs, h, h2, q⟩
theorem rd__law_bits {K : PySem.W.Frag} (vs : List V) (H : Hp) (Q : VK) (E : XK) (h : sp__law_bits K vs H Q E) : t__law_bits K { nx := fun _ H' => Q .non H', rt := Q } (start N__law_bits vs) H := by
  obtain ⟨a, ns, s, rfl, hs, hl, hz, q⟩ := h
  refine q_asg ev_c fun H1 e1 => ?_
  refine q_forR1 (n := ns.length) (ea_cons (ev_len63 (ev_var rfl) (ex_l e1 hs) hl) ea_nil) (by omega)
    (fun i σ' H' => Ex H H' ∧ ∃ x y, σ' = [some (.ref a), some (.int s), some (.str (T (R (bitsTo ns s i)))), x, y]) (fun H2 e2 => ⟨e1.trans e2, none, none, rfl⟩) (fun i σ' H' hi hP => ?_) (fun σ' H' hP => ?_)
  · obtain ⟨eH, x, y, rfl⟩ := hP
    have hi2 : i < ns.length := by omega
    refine q_asg (ev_call (ea_cons (ev_op (ev_var rfl) (ev_var rfl) (rv_ixL (ex_l eH hs) (at_int hi2))) (ea_cons (ev_op (ev_var rfl) (ev_var rfl) rv_addI) ea_nil)) (u__law_mixed (by omega))) fun H3 e3 => ?_
    have h1 : ∀ m : Int, atI ([.str (T [48]), .str (T [49]), .str (T [48, 48]), .str (T [48, 49]), .str (T [49, 48]), .str (T [49, 49]), .str (T [49, 49, 49, 49]), .str (T [48, 48, 48, 48])] : List V) (m % 8) = some (.str (T (R (tab8 (m % 8))))) := by
      intro m
      have : m % 8 = 0 ∨ m % 8 = 1 ∨ m % 8 = 2 ∨ m % 8 = 3 ∨ m % 8 = 4 ∨ m % 8 = 5 ∨ m % 8 = 6 ∨ m % 8 = 7 := by omega
      rcases this with h | h | h | h | h | h | h | h <;> rw [h] <;> rfl
    have hb := bitsTo_len ns s i
    have ht := tab8_len (mixed (cellAt ns i) (i + s) % 8)
    refine s_asg (ev_op (ev_var rfl) (ev_ixNL (el_lst (by k_clsL) (by decide)) (fun H5 e5 => ev_op (ev_var rfl) ev_c (rv_modI (by decide))) (h1 (mixed (cellAt ns i) (i + s)))) (rv_addT (by rw [R_len, R_len]; omega))) fun H4 e4 => ?_
    refine ⟨(eH.trans e3).trans e4, some (.int i), some (.int (mixed (cellAt ns i) (i + s))), ?_⟩
    rw [bitsTo, R_app]
    rfl
  · obtain ⟨eH, x, y, rfl⟩ := hP
    exact s_ret (ev_var rfl) fun H2 e2 => q H2 (eH.trans e2)
def N__law_cell_at : List Str := ["_law_script", "_law_k"]
def t__law_cell_at (K : PySem.W.Frag) : TS :=
  (tSeq (tIfS (tTest (tOp rLtI (tVar 1) (tCB (rLenK K) (tCons (tVar 0) tNil)))) (tRet (tOp (rIxL K) (tVar 0) (tVar 1))) tNext)
    (tRet (tC (.int 0))))
def sp__law_cell_at (K : PySem.W.Frag) : Sp := fun vs H Q _ => ∃ (a : Addr) (ns : List Int) (k : Int), vs = [.ref a, .int k] ∧ SqL K H a (ns.map V.int) ∧ 0 ≤ k ∧ RetV (.int (cellAt ns k)) H Q
theorem len__law_cell_at {K : PySem.W.Frag} {vs H Q E} (h : sp__law_cell_at K vs H Q E) : vs.length = 2 := by
  obtain ⟨a, ns, k, rfl, _⟩ := h
  rfl
theorem u__law_cell_at {K : PySem.W.Frag} {H : Hp} {a : Addr} {ns : List Int} {k : Int} (hs : SqL K H a (ns.map V.int)) (h : 0 ≤ k) : SpV (sp__law_cell_at K) [.ref a, .int k] H (.int (cellAt ns k)) := fun H1 e Q q E => ⟨a, ns, k, rfl, ex_l e hs, h, q⟩
theorem rd__law_cell_at {K : PySem.W.Frag} (vs : List V) (H : Hp) (Q : VK) (E : XK) (h : sp__law_cell_at K vs H Q E) : t__law_cell_at K { nx := fun _ H' => Q .non H', rt := Q } (start N__law_cell_at vs) H := by
  obtain ⟨a, ns, k, rfl, hs, hk, q⟩ := h
  refine q_when (b := decide (k < ((ns.map V.int).length : Int))) (et_test (ev_op (ev_var rfl) (ev_lenS (ev_var rfl) (.inl hs)) rv_ltI)) (fun hb H1 e1 => ?_) (fun hb H1 e1 => ?_)
  · have hlt : k < ((ns.map V.int).length : Int) := of_decide_eq_true hb
    rw [List.length_map] at hlt
    obtain ⟨j, rfl⟩ := Int.eq_ofNat_of_zero_le hk
    have hj : j < ns.length := by omega
    refine s_ret (v := .int (cellAt ns j)) (ev_op (ev_var rfl) (ev_var rfl) (rv_ixL (ex_l e1 hs) ?_)) fun H2 e2 => q H2 (e1.trans e2)
    exact at_int hj
  · have hlt : ¬ k < ((ns.map V.int).length : Int) := of_decide_eq_false hb
    rw [List.length_map] at hlt
    have e0 : cellAt ns k = 0 := by
      unfold cellAt
      rw [List.getElem?_eq_none (by omega)]
      rfl
    refine s_ret (v := .int 0) ev_c fun H2 e2 => ?_
    have := q H2 (e1.trans e2)
    rw [e0] at this
    exact this
def N_behind_all : List Str := ["row", "rest"]
def t_behind_all (K : PySem.W.Frag) : TS :=
  (tSeq (tAsg (tBM K "str" rStrip (tVar 0) (tCons (tC (.str (T [49]))) tNil)) (gName 1))
    (tSeq (tIfS (tTest (tOp rEq (tVar 1) (tC (.str (T []))))) (tRet (tC .non)) tNext)
    (tRet (tOp rAddT (tSl rSlS (tVar 1) tNoPart (tPart (tUn (rU fun i => .int (-i)) (tC (.int 1))))) (tC (.str (T [49])))))))
/-- the signs ahead of the last 0, told backwards, of a row told backwards -/
def behR : List Bool → Option (List Bool)
  | [] => none
  | true :: r => behR r
  | false :: r => some r
/-- the least row behind all that begin with b -/
def behindAll (b : List Bool) : Option (List Bool) := (behR b.reverse).map fun r => r.reverse ++ [true]
def ofRow : Option (List Bool) → V
  | none => .non
  | some r => .str (T (R r))
theorem behR_drop : ∀ l : List Bool, l.dropWhile id = match behR l with | none => [] | some r => false :: r
  | [] => rfl
  | true :: r => behR_drop r
  | false :: r => rfl
theorem behindAll_some {b r : List Bool} (h : behindAll b = some r) : ∃ p t, b = p ++ false :: t ∧ r = p ++ [true] := by
  unfold behindAll at h
  have key : ∀ l s : List Bool, behR l = some s → ∃ t, l = t ++ false :: s := by
    intro l
    induction l with
    | nil => intro s e; cases e
    | cons x l ih =>
      intro s e
      cases x with
      | true =>
        obtain ⟨t, rfl⟩ := ih s e
        exact ⟨true :: t, rfl⟩
      | false =>
        cases e
        exact ⟨[], rfl⟩
  cases e : behR b.reverse with
  | none => rw [e] at h; cases h
  | some s =>
    rw [e] at h
    cases h
    obtain ⟨t, ht⟩ := key _ _ e
    refine ⟨s.reverse, t.reverse, ?_, rfl⟩
    have := congrArg List.reverse ht
    rw [List.reverse_reverse] at this
    rw [this]
    simp
theorem take_rev (p : Nat → Bool) (l : List Nat) : l.take (l.length - (l.reverse.takeWhile p).length) = (l.reverse.dropWhile p).reverse := by
  have h := List.takeWhile_append_dropWhile (p := p) (l := l.reverse)
  have h2 : l = (l.reverse.dropWhile p).reverse ++ (l.reverse.takeWhile p).reverse := by
    rw [← List.reverse_append, h, List.reverse_reverse]
  have hl : l.length - (l.reverse.takeWhile p).length = (l.reverse.dropWhile p).reverse.length := by
    have := congrArg List.length h2
    simp only [List.length_append, List.length_reverse] at this ⊢
    omega
  rw [hl]
  conv => lhs; arg 2; rw [h2]
  rw [List.take_left]
theorem rstrip_T (l : List Nat) : Txt.rstripChars (T l) (T [49]) = T (l.reverse.dropWhile (fun c => c == 49)).reverse := by
  have hg : (fun c => (T [49]).cps.contains c) = fun c => c == 49 := by
    funext c
    by_cases h : c = 49
    · subst h; simp [T]
    · have e : (c == 49) = false := by simpa using h
      rw [e]
      simp [T, h]
  show Txt.stripBy (fun c => (T [49]).cps.contains c) false true (T l) = _
  rw [hg, stripBy_eq, ← take_rev]
  unfold Builtin.Str.strSub T
  have e : stripHi (fun c => c == 49) true ({ cps := l.toArray } : Str) (stripLo (fun c => c == 49) false { cps := l.toArray }) = l.length - (l.reverse.takeWhile (fun c => c == 49)).length := by
    simp [stripHi, stripLo, Str.length]
  rw [e]
  simp [stripLo]
theorem R_dropW (b : List Bool) : (R b).dropWhile (fun c => c == 49) = R (b.dropWhile id) := by
  induction b with
  | nil => rfl
  | cons x b ih => cases x with
    | true => exact ih
    | false => rfl
theorem R_rev (b : List Bool) : (R b).reverse = R b.reverse := by simp [R, List.map_reverse]
theorem R_dropLast (b : List Bool) : (R b).dropLast = R b.dropLast := by simp [R, List.map_dropLast]
theorem ev_rstrip {K : PySem.W.Frag} {σ : L2.St} {H : Hp} {ta : TE} {b : List Bool} (h : Ev ta σ H (.str (T (R b)))) (hl : b.length ≤ 1000000) :
    Ev (tBM K "str" rStrip ta (tCons (tC (.str (T [49]))) tNil)) σ H (.str (T (R (b.reverse.dropWhile id).reverse))) := fun H1 e Q q =>
  h H1 e _ fun H2 e2 => ⟨rfl, T (R b), T [49], rfl, rfl, by rw [T_len, R_len, sizeLine_eq]; omega, by
    rw [rstrip_T, R_rev, R_dropW, R_rev]
    exact q H2 e2⟩
def sp_behind_all (_ : PySem.W.Frag) : Sp := fun vs H Q _ => ∃ b : List Bool, vs = [.str (T (R b))] ∧ b.length ≤ 1000000 ∧ RetV (ofRow (behindAll b)) H Q
theorem len_behind_all {K : PySem.W.Frag} {vs H Q E} (h : sp_behind_all K vs H Q E) : vs.length = 1 := by
  obtain ⟨b, rfl, _⟩ := h
  rfl
theorem u_behind_all {K : PySem.W.Frag} {H : Hp} {b : List Bool} (hl : b.length ≤ 1000000) : SpV (sp_behind_all K) [.str (T (R b))] H (ofRow (behindAll b)) := fun H1 e Q q E => ⟨b, rfl, hl, q⟩
theorem rd_behind_all {K : PySem.W.Frag} (vs : List V) (H : Hp) (Q : VK) (E : XK) (h : sp_behind_all K vs H Q E) : t_behind_all K { nx := fun _ H' => Q .non H', rt := Q } (start N_behind_all vs) H := by
  obtain ⟨b, rfl, hl, q⟩ := h
  refine q_asg (ev_rstrip (ev_var rfl) hl) fun H1 e1 => ?_
  have hd := behR_drop b.reverse
  have q0 : RetV (ofRow ((behR b.reverse).map fun r => r.reverse ++ [true])) H Q := q
  cases hb : behR b.reverse with
  | none =>
    rw [hb] at hd q0
    rw [hd]
    refine q_when (b := true) (et_test (ev_is (ev_eqT (ev_var rfl) ev_c) (by simp [R]))) (fun _ H2 e2 => ?_) (fun hf => nomatch hf)
    exact s_ret ev_c fun H3 e3 => q0 H3 ((e1.trans e2).trans e3)
  | some r =>
    rw [hb] at hd q0
    rw [hd, List.reverse_cons]
    have hr : r.length ≤ 1000000 := by
      have := congrArg List.length hd
      have h2 := (List.dropWhile_sublist (l := b.reverse) id).length_le
      simp only [List.length_cons, List.length_reverse] at this h2
      omega
    refine q_when (b := false) (et_test (ev_is (ev_eqT (ev_var rfl) ev_c) (by simp [R]))) (fun hf => nomatch hf) (fun _ H2 e2 => ?_)
    have e3 : cutL (R (r.reverse ++ [false])) none (some (-1)) ++ [49] = R (r.reverse ++ [true]) := by
      rw [cutL_last, R_dropLast, List.dropLast_concat, R_app]
      rfl
    refine s_ret (v := .str (T (R (r.reverse ++ [true])))) (ev_is (ev_addT (ev_slT (ev_var rfl) ?_ eo_none (eo_some (ev_neg ev_c))) ev_c ?_) (by rw [← e3])) fun H3 e3 => q0 H3 ((e1.trans e2).trans e3)
    · rw [R_len, List.length_append, List.length_reverse]
      simp
      omega
    · have := cutL_len (R (r.reverse ++ [false])) none (some (-1))
      rw [R_len, List.length_append, List.length_reverse] at this
      simp at this ⊢
      omega
def N__law_due : List Str := ["_law_row", "_law_k"]
def t__law_due (K : PySem.W.Frag) : TS :=
  (tSeq (tFor (iRng1 (tCons (tCB (rLenK K) (tCons (tVar 0) tNil)) tNil)) (gName 1)
    (tIfS (tTest (tOp rEq (tOp rIxS (tVar 0) (tOp rSubI (tOp rSubI (tCB (rLenK K) (tCons (tVar 0) tNil)) (tC (.int 1))) (tVar 1))) (tC (.str (T [48]))))) (tRet (tOp rAddT (tSl rSlS (tVar 0) tNoPart (tPart (tOp rSubI (tOp rSubI (tCB (rLenK K) (tCons (tVar 0) tNil)) (tC (.int 1))) (tVar 1)))) (tC (.str (T [49]))))) tNext))
    (tRet (tC .non)))
theorem due_step {b : List Bool} {i : Nat} (hi : i < b.length) : b.reverse.drop i = (b[b.length - 1 - i]'(by omega)) :: b.reverse.drop (i + 1) := by
  have h : i < b.reverse.length := by rw [List.length_reverse]; exact hi
  rw [List.drop_eq_getElem_cons h]
  congr 1
  rw [List.getElem_reverse]
def sp__law_due (_ : PySem.W.Frag) : Sp := fun vs H Q _ => ∃ b : List Bool, vs = [.str (T (R b))] ∧ b.length ≤ 90000 ∧ RetV (ofRow (behindAll b)) H Q
theorem len__law_due {K : PySem.W.Frag} {vs H Q E} (h : sp__law_due K vs H Q E) : vs.length = 1 := by
  obtain ⟨b, rfl, _⟩ := h
  rfl
theorem u__law_due {K : PySem.W.Frag} {H : Hp} {b : List Bool} (hl : b.length ≤ 90000) : SpV (sp__law_due K) [.str (T (R b))] H (ofRow (behindAll b)) := fun H1 e Q q E => ⟨b, rfl, hl, q⟩
theorem rd__law_due {K : PySem.W.Frag} (vs : List V) (H : Hp) (Q : VK) (E : XK) (h : sp__law_due K vs H Q E) : t__law_due K { nx := fun _ H' => Q .non H', rt := Q } (start N__law_due vs) H := by
  obtain ⟨b, rfl, hl, q⟩ := h
  have q0 : RetV (ofRow ((behR b.reverse).map fun r => r.reverse ++ [true])) H Q := q
  have lenR : ((R b).length : Int) = b.length := by rw [R_len]
  have hz : (R b).length ≤ 16000000 := by rw [R_len]; omega
  refine q_forR1 (n := b.length) (ea_cons (by rw [← lenR]; exact ev_lenT (ev_var rfl) hz) ea_nil) (by omega)
    (fun i σ' H' => Ex H H' ∧ (∃ x, σ' = [some (.str (T (R b))), x]) ∧ behR b.reverse = behR (b.reverse.drop i)) (fun H1 e1 => ⟨e1, ⟨none, rfl⟩, rfl⟩) (fun i σ' H' hi hP => ?_) (fun σ' H' hP => ?_)
  · obtain ⟨eH, ⟨x, rfl⟩, hb⟩ := hP
    have hi2 : i < b.length := by omega
    have hj : (((R b).length : Int) - 1 - (i : Int)) = ((b.length - 1 - i : Nat) : Int) := by rw [lenR]; omega
    have hat : atI (R b) ((b.length - 1 - i : Nat) : Int) = some (bc (b[b.length - 1 - i]'(by omega))) := by
      refine atI_nat ?_
      rw [R, List.getElem?_map, List.getElem?_eq_getElem (by omega)]
      rfl
    have hix : Ev (tOp rSubI (tOp rSubI (tCB (rLenK K) (tCons (tVar 0) tNil)) (tC (.int 1))) (tVar 1)) [some (.str (T (R b))), some (.int (i : Int))] H' (.int ((b.length - 1 - i : Nat) : Int)) :=
      ev_is (ev_subI (ev_subI (ev_lenT (ev_var rfl) hz) ev_c) (ev_var rfl)) (by rw [hj])
    have hs := due_step hi2
    cases hv : b[b.length - 1 - i]'(by omega) with
    | false =>
      rw [hv] at hat hs
      rw [hs] at hb
      have hb2 : behR b.reverse = some (b.reverse.drop (i + 1)) := hb
      rw [hb2] at q0
      refine s_when (b := true) (et_test (ev_is (ev_eqT (ev_ixT (ev_var rfl) hix hz hat) ev_c) (by simp [bc]))) (fun _ H1 e1 => ?_) (fun hf => nomatch hf)
      have e2 : cutL (R b) none (some ((b.length - 1 - i : Nat) : Int)) ++ [49] = R ((b.reverse.drop (i + 1)).reverse ++ [true]) := by
        rw [cutL_pre, R_take, List.reverse_drop, List.reverse_reverse, List.length_reverse, R_app]
        rw [show b.length - (i + 1) = b.length - 1 - i by omega]
        rfl
      refine s_ret (v := .str (T (R ((b.reverse.drop (i + 1)).reverse ++ [true])))) (ev_is (ev_addT (ev_slT (ev_var rfl) hz eo_none (eo_some (hix.mono e1))) ev_c ?_) (by rw [← e2])) fun H2 e2 => q0 H2 ((eH.trans e1).trans e2)
      have := cutL_len (R b) none (some ((b.length - 1 - i : Nat) : Int))
      simp
      omega
    | true =>
      rw [hv] at hat hs
      rw [hs] at hb
      refine s_when (b := false) (et_test (ev_is (ev_eqT (ev_ixT (ev_var rfl) hix hz hat) ev_c) (by simp [bc]))) (fun hf => nomatch hf) (fun _ H1 e1 => ?_)
      exact ⟨eH.trans e1, ⟨_, rfl⟩, hb⟩
  · obtain ⟨eH, ⟨x, rfl⟩, hb⟩ := hP
    rw [List.drop_eq_nil_of_le (by rw [List.length_reverse]; omega)] at hb
    rw [hb] at q0
    exact s_ret ev_c fun H2 e2 => q0 H2 (eH.trans e2)
def N__law_good : List Str := ["_law_row", "_law_found", "_law_due_here"]
def t__law_good (K : PySem.W.Frag) : TS :=
  (tSeq (tAsg (tCall (sp_behind_all K) [] E0 (tCons (tVar 0) tNil)) (gName 1))
    (tSeq (tAsg (tCall (sp__law_due K) [] E0 (tCons (tVar 0) tNil)) (gName 2))
    (tSeq (tIfS (tTest (tOp rIsN0 (tVar 2) (tC .non))) (tRet (tOp rIsN0 (tVar 1) (tC .non))) tNext)
    (tSeq (tIfS (tOr (tNot (tB (tCB (rIsi K) (tCons (tVar 1) (tCons (tC (.ty "str")) tNil))))) (tTest (tOp rNe (tVar 1) (tVar 2)))) (tRet (tC (.bl false))) tNext)
    (tRet (tAndV (tOp rLtT (tVar 0) (tVar 1)) (tAndV (tOp rLtT (tOp rAddT (tVar 0) (tOp rMulT (tC (.str (T [49]))) (tC (.int 9)))) (tVar 1)) (tOp rLtT (tOp rAddT (tVar 0) (tC (.str (T [48, 49])))) (tVar 1)))))))))
def sp__law_good (_ : PySem.W.Frag) : Sp := fun vs H Q _ => ∃ b : List Bool, vs = [.str (T (R b))] ∧ b.length ≤ 90000 ∧ RetV (.bl true) H Q
theorem len__law_good {K : PySem.W.Frag} {vs H Q E} (h : sp__law_good K vs H Q E) : vs.length = 1 := by
  obtain ⟨b, rfl, _⟩ := h
  rfl
theorem u__law_good {K : PySem.W.Frag} {H : Hp} {b : List Bool} (hl : b.length ≤ 90000) : SpV (sp__law_good K) [.str (T (R b))] H (.bl true) := fun H1 e Q q E => ⟨b, rfl, hl, q⟩
theorem rd__law_good {K : PySem.W.Frag} (vs : List V) (H : Hp) (Q : VK) (E : XK) (h : sp__law_good K vs H Q E) : t__law_good K { nx := fun _ H' => Q .non H', rt := Q } (start N__law_good vs) H := by
  obtain ⟨b, rfl, hl, q⟩ := h
  refine q_asg (ev_call (ea_cons (ev_var rfl) ea_nil) (u_behind_all (by omega))) fun H1 e1 => ?_
  refine q_asg (ev_call (ea_cons (ev_var rfl) ea_nil) (u__law_due hl)) fun H2 e2 => ?_
  cases hb : behindAll b with
  | none =>
    refine q_when (b := true) (et_test (ev_is (ev_isN (ev_var rfl)) (by simp [ofRow]))) (fun _ H3 e3 => ?_) (fun hf => nomatch hf)
    exact s_ret (v := .bl true) (ev_is (ev_isN (ev_var rfl)) (by simp [ofRow])) fun H4 e4 => q H4 (((e1.trans e2).trans e3).trans e4)
  | some r =>
    obtain ⟨p, t, rfl, rfl⟩ := behindAll_some hb
    refine q_when (b := false) (et_test (ev_is (ev_isN (ev_var rfl)) (by simp [ofRow]))) (fun hf => nomatch hf) (fun _ H3 e3 => ?_)
    refine q_when (b := false) (et_or (a := false) (b := false) (et_not (a := true) (et_B (ev_isi (ev_var rfl) rfl (by decide +kernel)))) (fun _ => et_test (ev_is (ev_neT (ev_var rfl) (ev_var rfl)) (by simp)))) (fun hf => nomatch hf) (fun _ H4 e4 => ?_)
    have hR : R (p ++ false :: t) = R p ++ 48 :: R t := R_app _ _
    have hR2 : R (p ++ [true]) = R p ++ 49 :: [] := R_app _ _
    have hn : (R (p ++ false :: t)).length ≤ 90000 := by rw [R_len]; exact hl
    refine s_ret (v := .bl true) (ev_is (ev_andV (a := true) (b := true) ?_ fun _ => ev_is (ev_andV (a := true) (b := true) ?_ fun _ => ?_) rfl) rfl) fun H5 e5 => q H5 ((((e1.trans e2).trans e3).trans e4).trans e5)
    · refine ev_is (ev_ltT (ev_var rfl) (ev_var rfl)) ?_
      rw [decide_eq_true]
      rw [hR, hR2]
      exact lt_split
    · refine ev_is (ev_ltT (ev_addT (ev_var rfl) (ev_mulT ev_c ev_c (by decide) (by decide) (by decide)) ?_) (ev_var rfl)) ?_
      · simp at hn ⊢
        omega
      · rw [decide_eq_true]
        rw [hR, hR2, List.append_assoc]
        exact lt_split
    · refine ev_is (ev_ltT (ev_addT (ev_var rfl) ev_c ?_) (ev_var rfl)) ?_
      · simp at hn ⊢
        omega
      · rw [decide_eq_true]
        rw [hR, hR2, List.append_assoc]
        exact lt_split
def N__law_free_row : List Str := ["_law_rest", "_law_most", "_law_row", "_law_size", "_law_j"]
def t__law_free_row (K : PySem.W.Frag) : TS :=
  (tSeq (tAsg (tC (.str (T []))) (gName 2))
    (tSeq (tAsg (tOp rModI (tVar 0) (tOp rAddI (tVar 1) (tC (.int 1)))) (gName 3))
    (tSeq (tAsg (tOp rDivI (tVar 0) (tOp rAddI (tVar 1) (tC (.int 1)))) (gName 0))
    (tSeq (tFor (iRng1 (tCons (tVar 3) tNil)) (gName 4)
    (tAsg (tOp rAddT (tVar 2) (tOp rIxS (tC (.str (T [48, 49]))) (tOp rAndI (tOp rShrI (tVar 0) (tVar 4)) (tC (.int 1))))) (gName 2)))
    (tRet (tVar 2))))))
/-- the lower digits of a number, the lower ones first -/
def lowBits (x : Int) : Nat → List Bool
  | 0 => []
  | i + 1 => lowBits x i ++ [decide (x / 2 ^ i % 2 = 1)]
theorem lowBits_len (x : Int) (i : Nat) : (lowBits x i).length = i := by
  induction i with
  | zero => rfl
  | succ i ih => rw [lowBits, List.length_append, ih]; rfl
def freeRow (x m : Int) : List Bool := lowBits (x / (m + 1)) (x % (m + 1)).toNat
def sp__law_free_row (_ : PySem.W.Frag) : Sp := fun vs H Q _ => ∃ (x m : Int), vs = [.int x, .int m] ∧ 0 ≤ m ∧ m ≤ 1000 ∧ RetV (.str (T (R (freeRow x m)))) H Q
theorem len__law_free_row {K : PySem.W.Frag} {vs H Q E} (h : sp__law_free_row K vs H Q E) : vs.length = 2 := by
  obtain ⟨x, m, rfl, _⟩ := h
  rfl
theorem u__law_free_row {K : PySem.W.Frag} {H : Hp} {x m : Int} (h0 : 0 ≤ m) (h1 : m ≤ 1000) : SpV (sp__law_free_row K) [.int x, .int m] H (.str (T (R (freeRow x m)))) := fun H1 e Q q E => ⟨x, m, rfl, h0, h1, q⟩
theorem freeRow_len {x m : Int} (h0 : 0 ≤ m) : ((freeRow x m).length : Int) ≤ m := by
  unfold freeRow
  rw [lowBits_len]
  have := Int.emod_nonneg x (show m + 1 ≠ 0 by omega)
  have := Int.emod_lt_of_pos x (show 0 < m + 1 by omega)
  omega
theorem bit_at (x : Int) (j : Nat) : atI [48, 49] (Builtin.bitAnd (x / 2 ^ ((j : Int)).toNat) 1) = some (bc (decide (x / 2 ^ j % 2 = 1))) := by
  have e : Builtin.bitAnd (x / 2 ^ ((j : Int)).toNat) 1 = x / 2 ^ j % 2 := by
    have := PySem.W.kbt_mask (x / 2 ^ j) 1
    rw [Int.toNat_natCast]
    exact this
  rw [e]
  have : x / 2 ^ j % 2 = 0 ∨ x / 2 ^ j % 2 = 1 := by omega
  rcases this with h | h <;> rw [h] <;> rfl
theorem rd__law_free_row {K : PySem.W.Frag} (vs : List V) (H : Hp) (Q : VK) (E : XK) (h : sp__law_free_row K vs H Q E) : t__law_free_row K { nx := fun _ H' => Q .non H', rt := Q } (start N__law_free_row vs) H := by
  obtain ⟨x, m, rfl, h0, h1, q⟩ := h
  have hm := Int.emod_nonneg x (show m + 1 ≠ 0 by omega)
  have hm2 := Int.emod_lt_of_pos x (show 0 < m + 1 by omega)
  refine q_asg ev_c fun H1 e1 => ?_
  refine q_asg (v := .int (x % (m + 1))) (by
    k_clsL
    omega) fun H2 e2 => ?_
  refine q_asg (v := .int (x / (m + 1))) (by
    k_clsL
    exact wide_div (b := 20) (by omega) (by omega) (by decide) (by decide)) fun H3 e3 => ?_
  refine q_forR1 (n := x % (m + 1)) (ea_cons (ev_var rfl) ea_nil) (by omega)
    (fun i σ' H' => Ex H H' ∧ ∃ z, σ' = [some (.int (x / (m + 1))), some (.int m), some (.str (T (R (lowBits (x / (m + 1)) i)))), some (.int (x % (m + 1))), z]) (fun H4 e4 => ⟨((e1.trans e2).trans e3).trans e4, none, rfl⟩) (fun i σ' H' hi hP => ?_) (fun σ' H' hP => ?_)
  · obtain ⟨eH, z, rfl⟩ := hP
    refine s_asg (ev_op (ev_var rfl) (ev_op ev_c (ev_op (ev_op (ev_var rfl) (ev_var rfl) (rv_shrI (by omega))) ev_c rv_andI) (rv_ixT (by decide) (bit_at _ i))) (rv_addT (by rw [R_len, lowBits_len]; simp; omega))) fun H4 e4 => ?_
    refine ⟨eH.trans e4, some (.int i), ?_⟩
    rw [lowBits, R_app]
    rfl
  · obtain ⟨eH, z, rfl⟩ := hP
    exact s_ret (ev_var rfl) fun H2 e2 => q H2 (eH.trans e2)
def N_law : List Str := ["_law_script", "_law_bits_here", "_law_k", "_law_number", "_law_row"]
def t_law (K : PySem.W.Frag) : TS :=
  (tSeq (tAsg (tCall (sp__law_bits K) [] E0 (tCons (tVar 0) (tCons (tC (.int 0)) tNil))) (gName 1))
    (tSeq (tFor (iRng1 (tCons (tCB (rLenK K) (tCons (tSl (rSlL K) (tVar 0) tNoPart (tPart (tC (.int 63)))) tNil)) tNil)) (gName 2)
    (tSeq (tAsg (tCall (sp__law_mixed K) [] E0 (tCons (tOp (rIxL K) (tVar 0) (tVar 2)) (tCons (tOp rAddI (tVar 2) (tC (.int 100))) tNil))) (gName 3))
    (tSeq (tAsg (tSl rSlS (tVar 1) tNoPart (tPart (tOp rModI (tVar 3) (tOp rAddI (tCB (rLenK K) (tCons (tVar 1) tNil)) (tC (.int 1)))))) (gName 4))
    (tSeq (tIfS (tTest (tOp rEq (tOp rModI (tOp rDivI (tVar 3) (tC (.int 1000))) (tC (.int 2))) (tC (.int 1)))) (tAsg (tOp rAddT (tVar 4) (tOp rMulT (tC (.str (T [49]))) (tOp rModI (tOp rDivI (tVar 3) (tC (.int 2000))) (tC (.int 201))))) (gName 4)) tNext)
    (tIfS (tOr (tNot (tB (tCall (sp__law_good K) [] E0 (tCons (tVar 4) tNil)))) (tNot (tB (tCall (sp__law_good K) [] E0 (tCons (tCall (sp__law_free_row K) [] E0 (tCons (tOp (rIxL K) (tVar 0) (tVar 2)) (tCons (tC (.int 60)) tNil))) tNil))))) (tRet (tC (.bl false))) tNext)))))
    (tSeq (tAsg (tCall (sp__law_mixed K) [] E0 (tCons (tCall (sp__law_cell_at K) [] E0 (tCons (tVar 0) (tCons (tC (.int 0)) tNil))) (tCons (tC (.int 200)) tNil))) (gName 3))
    (tRet (tAndV (tCall (sp__law_good K) [] E0 (tCons (tC (.str (T []))) tNil)) (tAndV (tCall (sp__law_good K) [] E0 (tCons (tOp rMulT (tC (.str (T [49]))) (tOp rAddI (tC (.int 1)) (tOp rModI (tVar 3) (tC (.int 300))))) tNil)) (tCall (sp__law_good K) [] E0 (tCons (tOp rAddT (tC (.str (T [48]))) (tOp rMulT (tC (.str (T [49]))) (tOp rModI (tOp rDivI (tVar 3) (tC (.int 300))) (tC (.int 300))))) tNil))))))))
def sp_law (K : PySem.W.Frag) : Sp := lawSp K
theorem len_law {K : PySem.W.Frag} {vs H Q E} (h : sp_law K vs H Q E) : vs.length = 1 := lawSp_len h
theorem ones_R (n : Nat) : (List.replicate n [49]).flatten = R (List.replicate n true) := by
  induction n with
  | zero => rfl
  | succ n ih => rw [List.replicate_succ, List.flatten_cons, ih, List.replicate_succ]; rfl
theorem ev_ones {σ : L2.St} {H : Hp} {te : TE} {n : Int} (h : Ev te σ H (.int n)) (h0 : 0 ≤ n) (h1 : n ≤ 1000) : Ev (tOp rMulT (tC (.str (T [49]))) te) σ H (.str (T (R (List.replicate n.toNat true)))) :=
  ev_is (ev_mulT ev_c h (by omega) (by omega) (by simp; omega)) (by rw [ones_R])
theorem rd_law {K : PySem.W.Frag} (vs : List V) (H : Hp) (Q : VK) (E : XK) (h : sp_law K vs H Q E) : t_law K { nx := fun _ H' => Q .non H', rt := Q } (start N_law vs) H := by
  obtain ⟨a, ns, rfl, hs, hl, _, q⟩ := h
  have hbl := bitsTo_len ns 0 ns.length
  refine q_asg (ev_call (ea_cons (ev_var rfl) (ea_cons ev_c ea_nil)) (u__law_bits hs hl (by decide))) fun H1 e1 => ?_
  have hb4 : (bitsOf ns 0).length ≤ 252 := by unfold bitsOf; omega
  generalize bitsOf ns 0 = bs at hb4 ⊢
  refine q_forR1 (n := ns.length) (ea_cons (ev_len63 (ev_var rfl) (ex_l e1 hs) hl) ea_nil) (by omega)
    (fun i σ' H' => Ex H H' ∧ ∃ x y z, σ' = [some (.ref a), some (.str (T (R bs))), x, y, z]) (fun H2 e2 => ⟨e1.trans e2, none, none, none, rfl⟩) (fun i σ' H' hi hP => ?_) (fun σ' H' hP => ?_)
  · obtain ⟨eH, x, y, z, rfl⟩ := hP
    have hi2 : i < ns.length := by omega
    refine q_asg (ev_call (ea_cons (ev_op (ev_var rfl) (ev_var rfl) (rv_ixL (ex_l eH hs) (at_int hi2))) (ea_cons (ev_addI (ev_var rfl) ev_c) ea_nil)) (u__law_mixed (by omega))) fun H2 e2 => ?_
    have hm0 := mixed_lo (cellAt ns i) (i + 100)
    generalize mixed (cellAt ns i) (i + 100) = m at hm0 ⊢
    obtain ⟨k, hk⟩ := Int.eq_ofNat_of_zero_le (Int.emod_nonneg m (show ((R bs).length : Int) + 1 ≠ 0 by omega))
    refine q_asg (v := .str (T (R (bs.take k)))) (ev_is (ev_slT (ev_var rfl) (by rw [R_len]; omega) eo_none (eo_some (ev_modI (ev_var rfl) (ev_addI (ev_lenT (ev_var rfl) (by rw [R_len]; omega)) ev_c) (by omega)))) (by rw [hk, cutL_pre, R_take])) fun H3 e3 => ?_
    have hk2 : (bs.take k).length ≤ 252 := by rw [List.length_take]; omega
    generalize bs.take k = r0 at hk2 ⊢
    have go : ∀ (r : List Bool) (H4 : Hp), Ex H H4 → r.length ≤ 90000 → tIfS (tOr (tNot (tB (tCall (sp__law_good K) [] E0 (tCons (tVar 4) tNil)))) (tNot (tB (tCall (sp__law_good K) [] E0 (tCons (tCall (sp__law_free_row K) [] E0 (tCons (tOp (rIxL K) (tVar 0) (tVar 2)) (tCons (tC (.int 60)) tNil))) tNil))))) (tRet (tC (.bl false))) tNext
        { nx := fun σ' H' => Ex H H' ∧ ∃ x y z, σ' = [some (.ref a), some (.str (T (R bs))), x, y, z], ct := fun σ' H' => Ex H H' ∧ ∃ x y z, σ' = [some (.ref a), some (.str (T (R bs))), x, y, z], bk := fun _ _ => False, rt := Q }
        [some (.ref a), some (.str (T (R bs))), some (.int i), some (.int m), some (.str (T (R r)))] H4 := by
      intro r H4 e4 hr
      have hf := freeRow_len (x := cellAt ns i) (m := 60) (by decide)
      refine s_when (b := false) (et_or (a := false) (b := false) (et_not (a := true) (et_B (ev_call (ea_cons (ev_var rfl) ea_nil) (u__law_good hr))))
        (fun _ => et_not (a := true) (et_B (ev_call (ea_cons (ev_call (ea_cons (ev_op (ev_var rfl) (ev_var rfl) (rv_ixL (ex_l e4 hs) (at_int hi2))) (ea_cons ev_c ea_nil)) (u__law_free_row (by decide) (by decide))) ea_nil) (u__law_good (by omega)))))) (fun hf => nomatch hf) (fun _ H5 e5 => ⟨e4.trans e5, _, _, _, rfl⟩)
    have c1 := Int.emod_nonneg (m / 1000) (show (2 : Int) ≠ 0 by decide)
    refine q_when (b := decide (m / 1000 % 2 = 1)) (et_test (ev_eqI (ev_modI (ev_divI (ev_var rfl) ev_c (wide_div (b := 20) (by decide) (by decide) (by decide) (by decide))) ev_c (by decide)) ev_c)) (fun _ H4 e4 => ?_) (fun _ H4 e4 => ?_)
    · refine s_asg (v := .str (T (R (r0 ++ List.replicate (m / 2000 % 201).toNat true)))) (ev_is (ev_addT (ev_var rfl) (ev_ones (ev_modI (ev_divI (ev_var rfl) ev_c (wide_div (b := 20) (by decide) (by decide) (by decide) (by decide))) ev_c (by decide)) (by omega) (by omega)) ?_) (by rw [R_app])) fun H5 e5 => ?_
      · rw [R_len, R_len, List.length_replicate]
        omega
      · exact go _ H5 ((((eH.trans e2).trans e3).trans e4).trans e5) (by rw [List.length_append, List.length_replicate]; omega)
    · exact go _ H4 (((eH.trans e2).trans e3).trans e4) (by omega)
  · obtain ⟨eH, x, y, z, rfl⟩ := hP
    refine q_asg (ev_call (ea_cons (ev_call (ea_cons (ev_var rfl) (ea_cons ev_c ea_nil)) (u__law_cell_at (ex_l eH hs) (by decide))) (ea_cons ev_c ea_nil)) (u__law_mixed (by decide))) fun H2 e2 => ?_
    generalize mixed (cellAt ns 0) 200 = m
    refine s_ret (v := .bl true) (ev_is (ev_andV (a := true) (b := true) ?_ fun _ => ev_is (ev_andV (a := true) (b := true) ?_ fun _ => ?_) rfl) rfl) fun H5 _ => q H5
    · exact ev_call (vs := [.str (T (R []))]) (ea_cons ev_c ea_nil) (u__law_good (by decide))
    · refine ev_call (ea_cons (ev_ones (ev_addI ev_c (ev_modI (ev_var rfl) ev_c (by decide))) (by omega) (by omega)) ea_nil) (u__law_good ?_)
      rw [List.length_replicate]
      omega
    · refine ev_call (ea_cons (ev_is (ev_addT (a := R [false]) ev_c (ev_ones (ev_modI (ev_divI (ev_var rfl) ev_c (wide_div (b := 20) (by decide) (by decide) (by decide) (by decide))) ev_c (by decide)) (by omega) (by omega)) ?_) (by rw [← R_app])) ea_nil) (u__law_good ?_)
      · rw [R_len, R_len, List.length_replicate]
        simp
        omega
      · rw [List.length_append, List.length_replicate]
        simp
        omega
/-! ### the text, def by def -/
def topS (i : Nat) : Stmt := PySem.Challenge.pw_keyrise_k51_behind_all.main.body.getD i (.Pass ⟨0, 0, 0, 0⟩)
abbrev s__law_mixed : Stmt := topS 4
theorem sc__law_mixed : FnScope N__law_mixed ["_law_cell", "_law_k"] (defScope s__law_mixed) := ⟨rfl, rfl, rfl, by decide +kernel, rfl, by decide +kernel, by decide +kernel⟩
def d__law_mixed : He.DefD := ⟨("_law_mixed", none), "_law_mixed", "_law_mixed", defArgs s__law_mixed, defBody s__law_mixed, defScope s__law_mixed, [], []⟩
abbrev s__law_bits : Stmt := topS 5
theorem sc__law_bits : FnScope N__law_bits ["_law_script", "_law_salt"] (defScope s__law_bits) := ⟨rfl, rfl, rfl, by decide +kernel, rfl, by decide +kernel, by decide +kernel⟩
def d__law_bits : He.DefD := ⟨("_law_bits", none), "_law_bits", "_law_bits", defArgs s__law_bits, defBody s__law_bits, defScope s__law_bits, [], []⟩
abbrev s__law_cell_at : Stmt := topS 3
theorem sc__law_cell_at : FnScope N__law_cell_at ["_law_script", "_law_k"] (defScope s__law_cell_at) := ⟨rfl, rfl, rfl, by decide +kernel, rfl, by decide +kernel, by decide +kernel⟩
def d__law_cell_at : He.DefD := ⟨("_law_cell_at", none), "_law_cell_at", "_law_cell_at", defArgs s__law_cell_at, defBody s__law_cell_at, defScope s__law_cell_at, [], []⟩
abbrev s_behind_all : Stmt := topS 1
theorem sc_behind_all : FnScope N_behind_all ["row"] (defScope s_behind_all) := ⟨rfl, rfl, rfl, by decide +kernel, rfl, by decide +kernel, by decide +kernel⟩
def d_behind_all : He.DefD := ⟨("behind_all", none), "behind_all", "behind_all", defArgs s_behind_all, defBody s_behind_all, defScope s_behind_all, [], []⟩
abbrev s__law_due : Stmt := topS 7
theorem sc__law_due : FnScope N__law_due ["_law_row"] (defScope s__law_due) := ⟨rfl, rfl, rfl, by decide +kernel, rfl, by decide +kernel, by decide +kernel⟩
def d__law_due : He.DefD := ⟨("_law_due", none), "_law_due", "_law_due", defArgs s__law_due, defBody s__law_due, defScope s__law_due, [], []⟩
abbrev s__law_good : Stmt := topS 8
theorem sc__law_good : FnScope N__law_good ["_law_row"] (defScope s__law_good) := ⟨rfl, rfl, rfl, by decide +kernel, rfl, by decide +kernel, by decide +kernel⟩
def d__law_good : He.DefD := ⟨("_law_good", none), "_law_good", "_law_good", defArgs s__law_good, defBody s__law_good, defScope s__law_good, [], []⟩
abbrev s__law_free_row : Stmt := topS 6
theorem sc__law_free_row : FnScope N__law_free_row ["_law_rest", "_law_most"] (defScope s__law_free_row) := ⟨rfl, rfl, rfl, by decide +kernel, rfl, by decide +kernel, by decide +kernel⟩
def d__law_free_row : He.DefD := ⟨("_law_free_row", none), "_law_free_row", "_law_free_row", defArgs s__law_free_row, defBody s__law_free_row, defScope s__law_free_row, [], []⟩
abbrev s_law : Stmt := topS 9
theorem sc_law : FnScope N_law ["_law_script"] (defScope s_law) := ⟨rfl, rfl, rfl, by decide +kernel, rfl, by decide +kernel, by decide +kernel⟩
def d_law : He.DefD := ⟨("law", none), "law", "law", defArgs s_law, defBody s_law, defScope s_law, [], []⟩
def fa : List He.Fa := [.free "len", .free "range", .glo "_law_mixed", .glo "behind_all", .glo "_law_due", .free "str", .free "isinstance", .glo "_law_bits", .glo "_law_free_row", .glo "_law_good", .glo "_law_cell_at", .glo "law"]
def fn : List He.DefD := [d__law_mixed, d__law_bits, d__law_cell_at, d_behind_all, d__law_due, d__law_good, d__law_free_row, d_law]
/-- what the top has written -/
structure Tx (K : PySem.W.Frag) (mg : Str → Option Value) : Prop where
  c : He.SaysD fa fn K
  h : ∃ h : Heap, K.In h ∧ h.Ns mainGlobals mg
section
variable {K : PySem.W.Frag} {mg : Str → Option Value}
theorem Tx.free_len (T : Tx K mg) : mg "len" = none := by
  obtain ⟨h, X, G⟩ := T.h
  exact He.free_ok X G (T.c.fact 0 (f := .free "len") rfl)
theorem Tx.free_range (T : Tx K mg) : mg "range" = none := by
  obtain ⟨h, X, G⟩ := T.h
  exact He.free_ok X G (T.c.fact 1 (f := .free "range") rfl)
theorem Tx.glo__law_mixed (T : Tx K mg) : mg "_law_mixed" = some (.ref (He.ga K "_law_mixed")) := by
  obtain ⟨h, X, G⟩ := T.h
  exact He.glo_ok X G (T.c.fact 2 (f := .glo "_law_mixed") rfl)
theorem Tx.glo_behind_all (T : Tx K mg) : mg "behind_all" = some (.ref (He.ga K "behind_all")) := by
  obtain ⟨h, X, G⟩ := T.h
  exact He.glo_ok X G (T.c.fact 3 (f := .glo "behind_all") rfl)
theorem Tx.glo__law_due (T : Tx K mg) : mg "_law_due" = some (.ref (He.ga K "_law_due")) := by
  obtain ⟨h, X, G⟩ := T.h
  exact He.glo_ok X G (T.c.fact 4 (f := .glo "_law_due") rfl)
theorem Tx.free_str (T : Tx K mg) : mg "str" = none := by
  obtain ⟨h, X, G⟩ := T.h
  exact He.free_ok X G (T.c.fact 5 (f := .free "str") rfl)
theorem Tx.free_isinstance (T : Tx K mg) : mg "isinstance" = none := by
  obtain ⟨h, X, G⟩ := T.h
  exact He.free_ok X G (T.c.fact 6 (f := .free "isinstance") rfl)
theorem Tx.glo__law_bits (T : Tx K mg) : mg "_law_bits" = some (.ref (He.ga K "_law_bits")) := by
  obtain ⟨h, X, G⟩ := T.h
  exact He.glo_ok X G (T.c.fact 7 (f := .glo "_law_bits") rfl)
theorem Tx.glo__law_free_row (T : Tx K mg) : mg "_law_free_row" = some (.ref (He.ga K "_law_free_row")) := by
  obtain ⟨h, X, G⟩ := T.h
  exact He.glo_ok X G (T.c.fact 8 (f := .glo "_law_free_row") rfl)
theorem Tx.glo__law_good (T : Tx K mg) : mg "_law_good" = some (.ref (He.ga K "_law_good")) := by
  obtain ⟨h, X, G⟩ := T.h
  exact He.glo_ok X G (T.c.fact 9 (f := .glo "_law_good") rfl)
theorem Tx.glo__law_cell_at (T : Tx K mg) : mg "_law_cell_at" = some (.ref (He.ga K "_law_cell_at")) := by
  obtain ⟨h, X, G⟩ := T.h
  exact He.glo_ok X G (T.c.fact 10 (f := .glo "_law_cell_at") rfl)
theorem Tx.glo_law (T : Tx K mg) : mg "law" = some (.ref (He.ga K "law")) := by
  obtain ⟨h, X, G⟩ := T.h
  exact He.glo_ok X G (T.c.fact 11 (f := .glo "law") rfl)
theorem F__law_mixed (T : Tx K mg) : FunD K "_law_mixed" "_law_mixed" (defArgs s__law_mixed) (defBody s__law_mixed) (defScope s__law_mixed) [] [] (He.fAd K d__law_mixed.at_) (fdOf K d__law_mixed.at_) := fun_fdOf (T.c.def_ 0 (d := d__law_mixed) rfl)
theorem b__law_mixed (T : Tx K mg) : Binds K (fdOf K d__law_mixed.at_) ["_law_cell", "_law_k"] [] := (F__law_mixed T).bindsN fun _ _ _ _ _ _ us hl => match us, hl with | [_, _], _ => rfl
theorem F__law_bits (T : Tx K mg) : FunD K "_law_bits" "_law_bits" (defArgs s__law_bits) (defBody s__law_bits) (defScope s__law_bits) [] [] (He.fAd K d__law_bits.at_) (fdOf K d__law_bits.at_) := fun_fdOf (T.c.def_ 1 (d := d__law_bits) rfl)
theorem b__law_bits (T : Tx K mg) : Binds K (fdOf K d__law_bits.at_) ["_law_script", "_law_salt"] [] := (F__law_bits T).bindsN fun _ _ _ _ _ _ us hl => match us, hl with | [_, _], _ => rfl
theorem F__law_cell_at (T : Tx K mg) : FunD K "_law_cell_at" "_law_cell_at" (defArgs s__law_cell_at) (defBody s__law_cell_at) (defScope s__law_cell_at) [] [] (He.fAd K d__law_cell_at.at_) (fdOf K d__law_cell_at.at_) := fun_fdOf (T.c.def_ 2 (d := d__law_cell_at) rfl)
theorem b__law_cell_at (T : Tx K mg) : Binds K (fdOf K d__law_cell_at.at_) ["_law_script", "_law_k"] [] := (F__law_cell_at T).bindsN fun _ _ _ _ _ _ us hl => match us, hl with | [_, _], _ => rfl
theorem F_behind_all (T : Tx K mg) : FunD K "behind_all" "behind_all" (defArgs s_behind_all) (defBody s_behind_all) (defScope s_behind_all) [] [] (He.fAd K d_behind_all.at_) (fdOf K d_behind_all.at_) := fun_fdOf (T.c.def_ 3 (d := d_behind_all) rfl)
theorem b_behind_all (T : Tx K mg) : Binds K (fdOf K d_behind_all.at_) ["row"] [] := (F_behind_all T).bindsN fun _ _ _ _ _ _ us hl => match us, hl with | [_], _ => rfl
theorem F__law_due (T : Tx K mg) : FunD K "_law_due" "_law_due" (defArgs s__law_due) (defBody s__law_due) (defScope s__law_due) [] [] (He.fAd K d__law_due.at_) (fdOf K d__law_due.at_) := fun_fdOf (T.c.def_ 4 (d := d__law_due) rfl)
theorem b__law_due (T : Tx K mg) : Binds K (fdOf K d__law_due.at_) ["_law_row"] [] := (F__law_due T).bindsN fun _ _ _ _ _ _ us hl => match us, hl with | [_], _ => rfl
theorem F__law_good (T : Tx K mg) : FunD K "_law_good" "_law_good" (defArgs s__law_good) (defBody s__law_good) (defScope s__law_good) [] [] (He.fAd K d__law_good.at_) (fdOf K d__law_good.at_) := fun_fdOf (T.c.def_ 5 (d := d__law_good) rfl)
theorem b__law_good (T : Tx K mg) : Binds K (fdOf K d__law_good.at_) ["_law_row"] [] := (F__law_good T).bindsN fun _ _ _ _ _ _ us hl => match us, hl with | [_], _ => rfl
theorem F__law_free_row (T : Tx K mg) : FunD K "_law_free_row" "_law_free_row" (defArgs s__law_free_row) (defBody s__law_free_row) (defScope s__law_free_row) [] [] (He.fAd K d__law_free_row.at_) (fdOf K d__law_free_row.at_) := fun_fdOf (T.c.def_ 6 (d := d__law_free_row) rfl)
theorem b__law_free_row (T : Tx K mg) : Binds K (fdOf K d__law_free_row.at_) ["_law_rest", "_law_most"] [] := (F__law_free_row T).bindsN fun _ _ _ _ _ _ us hl => match us, hl with | [_, _], _ => rfl
theorem F_law (T : Tx K mg) : FunD K "law" "law" (defArgs s_law) (defBody s_law) (defScope s_law) [] [] (He.fAd K d_law.at_) (fdOf K d_law.at_) := fun_fdOf (T.c.def_ 7 (d := d_law) rfl)
theorem b_law (T : Tx K mg) : Binds K (fdOf K d_law.at_) ["_law_script"] [] := (F_law T).bindsN fun _ _ _ _ _ _ us hl => match us, hl with | [_], _ => rfl
end
section
variable {P : Program} {w : World} {K : PySem.W.Frag} {mg : Str → Option Value} {base : Heap}
theorem ok__law_mixed (T : Tx K mg) : FnOk P w K mg base (L2.CX P w) 1 (He.fAd K d__law_mixed.at_) (fdOf K d__law_mixed.at_) ["_law_cell", "_law_k"] (sp__law_mixed K) := by
  refine (F__law_mixed T).ok (k := 0) sc__law_mixed (fun vs H Q E h => len__law_mixed h) (fun cdv A outer s H vs Q E hr h => ⟨t__law_mixed K, ?_, rd__law_mixed vs H Q E h⟩)
  exact PSs.nox (pss_cons (ps_set (i := 2) sc__law_mixed.nd rfl (.inl rfl) (pe_op op_mod (pe_op op_add (pe_op op_add (pe_op op_mulX (pe_op op_mod (pv 0) pe_int) pe_int) (pe_op op_mulX (pv 1) pe_int)) pe_int) pe_int))
    (pss_cons (ps_set (i := 2) sc__law_mixed.nd rfl (.inl rfl) (pe_op op_mod (pe_op op_mulX (pv 2) (pv 2)) pe_int))
    (pss_one (ps_ret (pe_op op_mod (pe_op op_mulX (pv 2) (pv 2)) pe_int)))))
theorem ok__law_bits (T : Tx K mg) : FnOk P w K mg base (L2.CX P w) 2 (He.fAd K d__law_bits.at_) (fdOf K d__law_bits.at_) ["_law_script", "_law_salt"] (sp__law_bits K) := by
  refine (F__law_bits T).ok (k := 1) sc__law_bits (fun vs H Q E h => len__law_bits h) (fun cdv A outer s H vs Q E hr h => ⟨t__law_bits K, ?_, rd__law_bits vs H Q E h⟩)
  exact PSs.nox (pss_cons (ps_set (i := 2) sc__law_bits.nd rfl (.inl rfl) (pe_T (l := []) (by decide +kernel)))
    (pss_cons (ps_for PassesOwn.never rfl (pi_range1 (by rfl) T.free_range (pa_cons (pe_callB call_lenK (by rfl) T.free_len (by decide +kernel) (pa_cons (pe_slice sl_list (pv 0) po_none (po_some pe_int)) pa_nil)) pa_nil)) (pg_name (i := 3) sc__law_bits.nd rfl (.inl rfl)) (pss_cons (ps_set (i := 4) sc__law_bits.nd rfl (.inl rfl) (pe_call (ok__law_mixed T) (hr.mono (by decide : 1 ≤ 1)) (by rfl) T.glo__law_mixed (F__law_mixed T).kp (b__law_mixed T) .nil passL (pa_cons (pe_ix ix_list (pv 0) (pv 3) (fun _ _ => rfl)) (pa_cons (pe_op op_add (pv 3) (pv 1)) pa_nil))))
    (pss_one (ps_set (i := 2) sc__law_bits.nd rfl (.inl rfl) (pe_op op_addT (pv 2) (pe_ix ix_list (pe_lst (pa_cons (pe_T (l := [48]) (by decide +kernel)) (pa_cons (pe_T (l := [49]) (by decide +kernel)) (pa_cons (pe_T (l := [48, 48]) (by decide +kernel)) (pa_cons (pe_T (l := [48, 49]) (by decide +kernel)) (pa_cons (pe_T (l := [49, 48]) (by decide +kernel)) (pa_cons (pe_T (l := [49, 49]) (by decide +kernel)) (pa_cons (pe_T (l := [49, 49, 49, 49]) (by decide +kernel)) (pa_cons (pe_T (l := [48, 48, 48, 48]) (by decide +kernel)) pa_nil))))))))) (pe_op op_mod (pv 4) pe_int) (fun _ _ => rfl)))))))
    (pss_one (ps_ret (pv 2)))))
theorem ok__law_cell_at (T : Tx K mg) : FnOk P w K mg base (L2.CX P w) 1 (He.fAd K d__law_cell_at.at_) (fdOf K d__law_cell_at.at_) ["_law_script", "_law_k"] (sp__law_cell_at K) := by
  refine (F__law_cell_at T).ok (k := 0) sc__law_cell_at (fun vs H Q E h => len__law_cell_at h) (fun cdv A outer s H vs Q E hr h => ⟨t__law_cell_at K, ?_, rd__law_cell_at vs H Q E h⟩)
  exact PSs.nox (pss_cons (ps_if (pt_cmpR op_lt (pv 1) (pe_callB call_lenK (by rfl) T.free_len (by decide +kernel) (pa_cons (pv 0) pa_nil)) (nomark _)) (pss_one (ps_ret (pe_ix ix_list (pv 0) (pv 1) (fun _ _ => rfl)))) pss_nil)
    (pss_one (ps_ret pe_int)))
theorem ok_behind_all (T : Tx K mg) : FnOk P w K mg base (L2.CX P w) 1 (He.fAd K d_behind_all.at_) (fdOf K d_behind_all.at_) ["row"] (sp_behind_all K) := by
  refine (F_behind_all T).ok (k := 0) sc_behind_all (fun vs H Q E h => len_behind_all h) (fun cdv A outer s H vs Q E hr h => ⟨t_behind_all K, ?_, rd_behind_all vs H Q E h⟩)
  exact PSs.nox (pss_cons (ps_set (i := 1) sc_behind_all.nd rfl (.inl rfl) (pe_bm PySem.F.plainAttrs_str PySem.F.slot_str_rstrip PySem.F.type_str_rstrip mt_rstripC (pv 0) (pa_cons (pe_T (l := [49]) (by decide +kernel)) pa_nil)))
    (pss_cons (ps_if (pt_cmpR op_eq (pv 1) (pe_T (l := []) (by decide +kernel)) (nomark _)) (pss_one (ps_ret pe_non)) pss_nil)
    (pss_one (ps_ret (pe_op op_addT (pe_slice sl_str (pv 1) po_none (po_some (pe_un un_neg pe_int))) (pe_T (l := [49]) (by decide +kernel)))))))
theorem ok__law_due (T : Tx K mg) : FnOk P w K mg base (L2.CX P w) 1 (He.fAd K d__law_due.at_) (fdOf K d__law_due.at_) ["_law_row"] (sp__law_due K) := by
  refine (F__law_due T).ok (k := 0) sc__law_due (fun vs H Q E h => len__law_due h) (fun cdv A outer s H vs Q E hr h => ⟨t__law_due K, ?_, rd__law_due vs H Q E h⟩)
  exact PSs.nox (pss_cons (ps_for PassesOwn.never rfl (pi_range1 (by rfl) T.free_range (pa_cons (pe_callB call_lenK (by rfl) T.free_len (by decide +kernel) (pa_cons (pv 0) pa_nil)) pa_nil)) (pg_name (i := 1) sc__law_due.nd rfl (.inl rfl)) (pss_one (ps_if (pt_cmpR op_eq (pe_ix ix_str (pv 0) (pe_op op_sub (pe_op op_sub (pe_callB call_lenK (by rfl) T.free_len (by decide +kernel) (pa_cons (pv 0) pa_nil)) pe_int) (pv 1)) (fun _ _ => rfl)) (pe_T (l := [48]) (by decide +kernel)) (nomark _)) (pss_one (ps_ret (pe_op op_addT (pe_slice sl_str (pv 0) po_none (po_some (pe_op op_sub (pe_op op_sub (pe_callB call_lenK (by rfl) T.free_len (by decide +kernel) (pa_cons (pv 0) pa_nil)) pe_int) (pv 1)))) (pe_T (l := [49]) (by decide +kernel))))) pss_nil)))
    (pss_one (ps_ret pe_non)))
theorem ok__law_good (T : Tx K mg) : FnOk P w K mg base (L2.CX P w) 2 (He.fAd K d__law_good.at_) (fdOf K d__law_good.at_) ["_law_row"] (sp__law_good K) := by
  refine (F__law_good T).ok (k := 1) sc__law_good (fun vs H Q E h => len__law_good h) (fun cdv A outer s H vs Q E hr h => ⟨t__law_good K, ?_, rd__law_good vs H Q E h⟩)
  exact PSs.nox (pss_cons (ps_set (i := 1) sc__law_good.nd rfl (.inl rfl) (pe_call (ok_behind_all T) (hr.mono (by decide : 1 ≤ 1)) (by rfl) T.glo_behind_all (F_behind_all T).kp (b_behind_all T) .nil passL (pa_cons (pv 0) pa_nil)))
    (pss_cons (ps_set (i := 2) sc__law_good.nd rfl (.inl rfl) (pe_call (ok__law_due T) (hr.mono (by decide : 1 ≤ 1)) (by rfl) T.glo__law_due (F__law_due T).kp (b__law_due T) .nil passL (pa_cons (pv 0) pa_nil)))
    (pss_cons (ps_if (pt_cmpR op_isN0 (pv 2) pe_non (nomark _)) (pss_one (ps_ret (pe_cmpR op_isN0 (pv 1) pe_non (nomark _)))) pss_nil)
    (pss_cons (ps_if (PW.pt (pw_or (pt_not (pt_val (pe_callB call_isi (by rfl) T.free_isinstance (by decide +kernel) (pa_cons (pv 1) (pa_cons (pe_bltn (v := .ty "str") (by rfl) T.free_str (by decide +kernel) rfl) pa_nil))))) (pw_or1 (pt_cmpR op_ne (pv 1) (pv 2) (nomark _))))) (pss_one (ps_ret pe_bl)) pss_nil)
    (pss_one (ps_ret (pe_and (pe_cmpR op_ltT' (pv 0) (pv 1) (nomark _)) (pe_and (pe_cmpR op_ltT' (pe_op op_addT (pv 0) (pe_op op_mulT (pe_T (l := [49]) (by decide +kernel)) pe_int)) (pv 1) (nomark _)) (pe_one (pe_cmpR op_ltT' (pe_op op_addT (pv 0) (pe_T (l := [48, 49]) (by decide +kernel))) (pv 1) (nomark _)))))))))))
theorem ok__law_free_row (T : Tx K mg) : FnOk P w K mg base (L2.CX P w) 1 (He.fAd K d__law_free_row.at_) (fdOf K d__law_free_row.at_) ["_law_rest", "_law_most"] (sp__law_free_row K) := by
  refine (F__law_free_row T).ok (k := 0) sc__law_free_row (fun vs H Q E h => len__law_free_row h) (fun cdv A outer s H vs Q E hr h => ⟨t__law_free_row K, ?_, rd__law_free_row vs H Q E h⟩)
  exact PSs.nox (pss_cons (ps_set (i := 2) sc__law_free_row.nd rfl (.inl rfl) (pe_T (l := []) (by decide +kernel)))
    (pss_cons (ps_set (i := 3) sc__law_free_row.nd rfl (.inl rfl) (pe_op op_mod (pv 0) (pe_op op_add (pv 1) pe_int)))
    (pss_cons (ps_set (i := 0) sc__law_free_row.nd rfl (.inl rfl) (pe_op op_fdivW (pv 0) (pe_op op_add (pv 1) pe_int)))
    (pss_cons (ps_for PassesOwn.never rfl (pi_range1 (by rfl) T.free_range (pa_cons (pv 3) pa_nil)) (pg_name (i := 4) sc__law_free_row.nd rfl (.inl rfl)) (pss_one (ps_set (i := 2) sc__law_free_row.nd rfl (.inl rfl) (pe_op op_addT (pv 2) (pe_ix ix_str (pe_T (l := [48, 49]) (by decide +kernel)) (pe_op op_and (pe_op op_shr (pv 0) (pv 4)) pe_int) (fun _ _ => rfl))))))
    (pss_one (ps_ret (pv 2)))))))
theorem ok_law (T : Tx K mg) : FnOk P w K mg base (L2.CX P w) 3 (He.fAd K d_law.at_) (fdOf K d_law.at_) ["_law_script"] (sp_law K) := by
  refine (F_law T).ok (k := 2) sc_law (fun vs H Q E h => len_law h) (fun cdv A outer s H vs Q E hr h => ⟨t_law K, ?_, rd_law vs H Q E h⟩)
  exact PSs.nox (pss_cons (ps_set (i := 1) sc_law.nd rfl (.inl rfl) (pe_call (ok__law_bits T) (hr.mono (by decide : 2 ≤ 2)) (by rfl) T.glo__law_bits (F__law_bits T).kp (b__law_bits T) .nil passL (pa_cons (pv 0) (pa_cons pe_int pa_nil))))
    (pss_cons (ps_for PassesOwn.never rfl (pi_range1 (by rfl) T.free_range (pa_cons (pe_callB call_lenK (by rfl) T.free_len (by decide +kernel) (pa_cons (pe_slice sl_list (pv 0) po_none (po_some pe_int)) pa_nil)) pa_nil)) (pg_name (i := 2) sc_law.nd rfl (.inl rfl)) (pss_cons (ps_set (i := 3) sc_law.nd rfl (.inl rfl) (pe_call (ok__law_mixed T) (hr.mono (by decide : 1 ≤ 2)) (by rfl) T.glo__law_mixed (F__law_mixed T).kp (b__law_mixed T) .nil passL (pa_cons (pe_ix ix_list (pv 0) (pv 2) (fun _ _ => rfl)) (pa_cons (pe_op op_add (pv 2) pe_int) pa_nil))))
    (pss_cons (ps_set (i := 4) sc_law.nd rfl (.inl rfl) (pe_slice sl_str (pv 1) po_none (po_some (pe_op op_mod (pv 3) (pe_op op_add (pe_callB call_lenK (by rfl) T.free_len (by decide +kernel) (pa_cons (pv 1) pa_nil)) pe_int)))))
    (pss_cons (ps_if (pt_cmpR op_eq (pe_op op_mod (pe_op op_fdivW (pv 3) pe_int) pe_int) pe_int (nomark _)) (pss_one (ps_set (i := 4) sc_law.nd rfl (.inl rfl) (pe_op op_addT (pv 4) (pe_op op_mulT (pe_T (l := [49]) (by decide +kernel)) (pe_op op_mod (pe_op op_fdivW (pv 3) pe_int) pe_int))))) pss_nil)
    (pss_one (ps_if (PW.pt (pw_or (pt_not (pt_val (pe_call (ok__law_good T) (hr.mono (by decide : 2 ≤ 2)) (by rfl) T.glo__law_good (F__law_good T).kp (b__law_good T) .nil passL (pa_cons (pv 4) pa_nil)))) (pw_or1 (pt_not (pt_val (pe_call (ok__law_good T) (hr.mono (by decide : 2 ≤ 2)) (by rfl) T.glo__law_good (F__law_good T).kp (b__law_good T) .nil passL (pa_cons (pe_call (ok__law_free_row T) (hr.mono (by decide : 1 ≤ 2)) (by rfl) T.glo__law_free_row (F__law_free_row T).kp (b__law_free_row T) .nil passL (pa_cons (pe_ix ix_list (pv 0) (pv 2) (fun _ _ => rfl)) (pa_cons pe_int pa_nil))) pa_nil))))))) (pss_one (ps_ret pe_bl)) pss_nil))))))
    (pss_cons (ps_set (i := 3) sc_law.nd rfl (.inl rfl) (pe_call (ok__law_mixed T) (hr.mono (by decide : 1 ≤ 2)) (by rfl) T.glo__law_mixed (F__law_mixed T).kp (b__law_mixed T) .nil passL (pa_cons (pe_call (ok__law_cell_at T) (hr.mono (by decide : 1 ≤ 2)) (by rfl) T.glo__law_cell_at (F__law_cell_at T).kp (b__law_cell_at T) .nil passL (pa_cons (pv 0) (pa_cons pe_int pa_nil))) (pa_cons pe_int pa_nil))))
    (pss_one (ps_ret (pe_and (pe_call (ok__law_good T) (hr.mono (by decide : 2 ≤ 2)) (by rfl) T.glo__law_good (F__law_good T).kp (b__law_good T) .nil passL (pa_cons (pe_T (l := []) (by decide +kernel)) pa_nil)) (pe_and (pe_call (ok__law_good T) (hr.mono (by decide : 2 ≤ 2)) (by rfl) T.glo__law_good (F__law_good T).kp (b__law_good T) .nil passL (pa_cons (pe_op op_mulT (pe_T (l := [49]) (by decide +kernel)) (pe_op op_add pe_int (pe_op op_mod (pv 3) pe_int))) pa_nil)) (pe_one (pe_call (ok__law_good T) (hr.mono (by decide : 2 ≤ 2)) (by rfl) T.glo__law_good (F__law_good T).kp (b__law_good T) .nil passL (pa_cons (pe_op op_addT (pe_T (l := [48]) (by decide +kernel)) (pe_op op_mulT (pe_T (l := [49]) (by decide +kernel)) (pe_op op_mod (pe_op op_fdivW (pv 3) pe_int) pe_int))) pa_nil))))))))))
end
def loose0 : List Str := ["behind_all", "_law_cell_at", "_law_mixed", "_law_bits", "_law_free_row", "_law_due", "_law_good"]
def looseAll : List Str := loose0
/-! ### the top -/
abbrev Rw : PySem.W.OpenRow := PySem.W.OpenLaw.row PySem.Challenge.rw_keyrise_k51_behind_all
abbrev hk : PySem.W.Hook := He.hookD 5 fa fn
def ob (s : PySem.W.SharedT) : He.AlD := He.obsDG 5 fa fn (HandSHeadRun.getT s)
theorem ob_eq (s : PySem.W.SharedT) : ob s = hk.obs s.abs := He.obsDG_eq (HandSHeadRun.getT_eq s)
theorem run (w : World) : HandSHeadRun.RunEq Rw (PySem.W.view Rw.prog [9]) hk ob 4000 looseAll w := by
  intro os
  kernel_rfl
theorem facts {P : Program} {w : World} {K : PySem.W.Frag} {h : Heap} {mg : Str → Option Value} {f : Addr} (X : K.In h) (G : h.Ns mainGlobals mg) (hfa : mg ("law" : Str) = some (.ref f)) (c : He.SaysD fa fn K) :
    ∃ fd : FuncData, (∀ (s : Shared) (v : Value), BindsTo s fd ⟨[v], []⟩ [("_law_script", v)]) ∧ ∀ base : Heap, K.In base → base.Ns mainGlobals mg → FnOk P w K mg base (L2.CX P w) 3 f fd ["_law_script"] (sp_law K) := by
  have T : Tx K mg := ⟨c, h, X, G⟩
  have e := hfa.symm.trans T.glo_law
  cases e
  have b := FunD.bindsA (ps := ["_law_script"]) (F_law T) fun _ _ _ _ _ _ us hl => match us, hl with | [_], _ => rfl
  exact ⟨_, fun s v => b s [v] rfl, fun base _ _ => ok_law T⟩
end Kr
open PySem PySem.W PySem.Calls PyProof.Rows
theorem PySem.Challenge.cw_keyrise_k51_behind_all_holds : PySem.Challenge.rw_keyrise_k51_behind_all.Holds := by
  w_on; o_law
  refine HandSHeadRun.head_any (r := OpenLaw.row PySem.Challenge.rw_keyrise_k51_behind_all) (q := view (OpenLaw.row PySem.Challenge.rw_keyrise_k51_behind_all).prog [9]) (H := Kr.hk) (ob := Kr.ob) (M := 4000) (loose := Kr.looseAll) (d := HandSHeadRun.topDef (OpenLaw.row PySem.Challenge.rw_keyrise_k51_behind_all).prog 9) (kwd := []) Kr.ob_eq
    (by kernel_rfl) (fun s => by kernel_rfl) Kr.run (by kernel_rfl) (by kernel_rfl) (by kernel_rfl) (by rfl) (by first | assumption | decide +kernel) (by decide +kernel) ⟨rfl, rfl, rfl, rfl, rfl, by decide +kernel⟩ ?hw ?hc
  case hw => w_witness2
  case hc =>
    refine Kr.walk_w (l := PySem.Challenge.rw_keyrise_k51_behind_all) (n := 63) (k := 3) (x := "_law_script") rfl (by decide) (by kernel_rfl) ⟨rfl, by decide, by decide⟩ ?F
    case F =>
      intro w mg fa h Y G hmg0
      obtain ⟨K, KX, c⟩ := Y
      have hmg : mg ("law" : PySem.Str) = some (.ref fa) := by
        have e : (HandSHeadRun.topDef (OpenLaw.row PySem.Challenge.rw_keyrise_k51_behind_all).prog 9).name = ("law" : PySem.Str) := by kernel_rfl
        rw [← e]
        exact hmg0
      obtain ⟨fd, hb, hF⟩ := Kr.facts (P := (PySem.Challenge.rw_keyrise_k51_behind_all).prog) (w := w) KX G hmg c
      exact ⟨K, fd, KX, hb, fun H a ns hl hO hS => Kr.law_in hl hO hS, hF⟩

