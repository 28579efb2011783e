import PyProof.Rows.All
import Wide.All
import OpenK.AllK
import Wide.FinOn
import KE.KStateDown
import HandS.ForMost
import HandS.ForExc
import HandS.Evl
import HandS.Wide
import HandS.WideBits
import HandS.IsInst
import HandS.StrMore
import HandS.Defaults
import HandS.Flow
import HandS.TryOnly
import HandS.HeadEnd
import HandS.Head0
import HandS.Head1
import HandS.Head2
import HandS.HeadHook1
import HandS.HeadHook2
import HandS.ExcIs
import HandS.ExcField
import HandS.ExcInit
import PySem.Challenge.RW_keyrise_k53_parting_is_shortest
set_option Elab.async false
set_option linter.all false
set_option maxRecDepth 100000
set_option maxHeartbeats 4000000
namespace Kr
open PySem PySem.Spec PyProof.Rows L2 Evl
/-! ### texts by their codes -/
def T (l : List Nat) : Str := ⟨l.toArray⟩
theorem T_cps (l : List Nat) : (T l).cps.toList = l := rfl
theorem T_len (l : List Nat) : (T l).length = l.length := by
  show l.toArray.size = l.length
  simp
theorem T_add (a b : List Nat) : T a ++ T b = T (a ++ b) := by
  show (⟨a.toArray ++ b.toArray⟩ : Str) = ⟨(a ++ b).toArray⟩
  simp
theorem T_inj {a b : List Nat} : T a = T b ↔ a = b := by
  constructor
  · intro h
    have := congrArg (fun z : Str => z.cps.toList) h
    exact this
  · rintro rfl; rfl
theorem T_eta (z : Str) : ∃ l, z = T l := ⟨z.cps.toList, by cases z; rename_i c; cases c; rfl⟩

/-! ### operations on values, named -/
abbrev rAddI : R2 := rI0 fun i j => .int (i + j)
abbrev rSubI : R2 := rI0 fun i j => .int (i - j)
abbrev rMulI : R2 := rI CMulX fun i j => .int (i * j)
abbrev rDivI : R2 := rI CDivW fun i j => .int (i / j)
abbrev rModI : R2 := rI (fun _ j => 0 < j) fun i j => .int (i % j)
abbrev rShrI : R2 := rI (fun _ j => 0 ≤ j) fun i j => .int (i / 2 ^ j.toNat)
abbrev rShlI : R2 := rI CShl fun i j => .int (i * 2 ^ j.toNat)
abbrev rPowI : R2 := rI CPow fun i j => .int (i ^ j.toNat)
abbrev rAndI : R2 := rI0 fun i j => .int (Builtin.bitAnd i j)
abbrev rLtI : R2 := rI0 fun i j => .bl (decide (i < j))
abbrev rLeI : R2 := rI0 fun i j => .bl (decide (i ≤ j))
abbrev rGtI : R2 := rI0 fun i j => .bl (decide (j < i))
abbrev rGeI : R2 := rI0 fun i j => .bl (decide (j ≤ i))
def rAddT : R2 := fun x y H Q => ∃ i j, x = .str i ∧ y = .str j ∧ i.length + j.length ≤ sizeLine ∧ Q (.str (i ++ j)) H
def rLtT : R2 := fun x y H Q => ∃ i j, x = .str i ∧ y = .str j ∧ Q (.bl (decide (i.cps.toList < j.cps.toList))) H
def rLeT : R2 := fun x y H Q => ∃ i j, x = .str i ∧ y = .str j ∧ Q (.bl (!decide (j.cps.toList < i.cps.toList))) H
def rMulT : R2 := fun x y H Q => ∃ (i : Str) (n : Int), x = .str i ∧ y = .int n ∧ -(2 ^ 62) ≤ n ∧ n < 2 ^ 62 ∧ i.length * n.toNat ≤ sizeLine ∧ Q (.str (T (List.replicate n.toNat i.cps.toList).flatten)) H
def rStrip : V → List V → Hp → VK → Prop := fun x xs H Q => ∃ a b, x = .str a ∧ xs = [.str b] ∧ a.length ≤ sizeLine ∧ Q (.str (Txt.rstripChars a b)) H
def rJoin (K : PySem.W.Frag) : V → List V → Hp → VK → Prop := fun x xs H Q => ∃ a p, ∃ ys : List Str, x = .str a ∧ xs = [.ref p] ∧ (SqL K H p (ys.map V.str) ∨ SqT K H p (ys.map V.str)) ∧ (ys.map (·.length)).sum + ys.length * a.length ≤ 16777216 ∧ Q (.str (Txt.join a ys)) H
section
variable {X : Cx}
theorem op_addT : OpR X (binaryOp .Add) rAddT := op_add_str
theorem op_ltT' : OpR X (compareOp .Lt) rLtT := op_lt_str
theorem op_leT' : OpR X (compareOp .LtE) rLeT := op_le_str
theorem mt_rstripC : MtR X "str.rstrip" rStrip := mt_rstripChars
theorem mt_joinK : MtR X "str.join" (rJoin X.K) := mt_join
theorem flat_rep (k : Nat) (c : Array Nat) : ((List.replicate k c).foldl (· ++ ·) #[]).toList = (List.replicate k c.toList).flatten := by
  have key : ∀ (k : Nat) (a : Array Nat), ((List.replicate k c).foldl (· ++ ·) a).toList = a.toList ++ (List.replicate k c.toList).flatten := by
    intro k
    induction k with
    | zero => intro a; simp
    | succ k ih =>
      intro a
      rw [List.replicate_succ, List.foldl_cons, ih]
      simp [List.replicate_succ]
  rw [key]
  simp
theorem op_mulT : OpR X (binaryOp .Mult) rMulT := by
  intro pins s σ H x y v u Q I rx ry h
  obtain ⟨i, n, rfl, rfl, h1, h2, h3, q⟩ := h
  obtain ⟨t, rfl⟩ := rx
  obtain ⟨t', rfl⟩ := ry
  have hsz : sizeLine = 16777216 := sizeLine_eq
  refine PySem.P.mul_str ?_ (fun g1 g2 => ?_) (fun g1 g2 => ?_) ?_
  · have e1 : decide (n < -(2 ^ 63 : Int)) = false := decide_eq_false (by omega)
    have e2 : decide (n ≥ 2 ^ 63) = false := decide_eq_false (by omega)
    rw [e1, e2] <;> rfl
  · have hn : 1 ≤ n := by omega
    intro g
    have h5 : (i.length : Int) * n ≤ 16777216 := by
      have e : n = (n.toNat : Int) := by omega
      rw [e, ← Int.natCast_mul]
      omega
    have h6 : (2 ^ 63 - 1 : Int) / n < (i.length : Int) := g
    have h7 := (Int.ediv_lt_iff_lt_mul (show 0 < n by omega)).mp h6
    omega
  · have : ¬ (i.length * n.toNat > 2 ^ 24) := by
      have e : (2 : Nat) ^ 24 = 16777216 := by decide
      rw [e]; omega
    simpa [Builtin.Str.tooLong, hsz] using this
  · by_cases g : n < 1
    · rw [if_pos g]
      refine ⟨by rw [hsz]; decide, ?_⟩
      refine ⟨.str _, H, I.tok _, ⟨_, rfl⟩, ?_⟩
      have e : n.toNat = 0 := by omega
      rw [e] at q
      exact q
    · rw [if_neg g]
      by_cases g2 : (n == 1 || i.length == 0) = true
      · rw [if_pos g2]
        refine ⟨.str _, H, I, ⟨_, rfl⟩, ?_⟩
        have e : T (List.replicate n.toNat i.cps.toList).flatten = i := by
          obtain ⟨l, rfl⟩ := T_eta i
          rw [T_inj, T_cps]
          rw [Bool.or_eq_true] at g2
          rcases g2 with g2 | g2
          · have : n = 1 := by simpa using g2
            subst this
            simp
          · have : l = [] := by
              have := T_len l
              rw [beq_iff_eq] at g2
              rw [g2] at this
              exact List.eq_nil_of_length_eq_zero this.symm
            subst this
            simp
        rw [e] at q
        exact q
      · rw [if_neg g2]
        have e : (⟨(List.replicate n.toNat i.cps).foldl (· ++ ·) #[]⟩ : Str) = T (List.replicate n.toNat i.cps.toList).flatten := by
          rw [← flat_rep]
          rfl
        rw [e]
        refine ⟨?_, ⟨.str _, H, I.tok _, ⟨_, rfl⟩, q⟩⟩
        rw [T_len]
        have key : ∀ k : Nat, (List.replicate k i.cps.toList).flatten.length = k * i.cps.size := by
          intro k
          induction k with
          | zero => simp
          | succ k ih => rw [List.replicate_succ, List.flatten_cons, List.length_append, ih, Array.length_toList, Nat.succ_mul, Nat.add_comm]
        rw [key]
        have : n.toNat * i.cps.size = i.cps.size * n.toNat := Nat.mul_comm _ _
        have h8 : i.length = i.cps.size := rfl
        rw [h8] at h3
        omega
end
end Kr
namespace Kr
open PySem PySem.Spec PyProof.Rows L2 Evl
/-! ### rules that the hand layer lacks -/
section
variable {X : Cx}
theorem pe_T {x : Str} {l : List Nat} {j : Nat} {pos : Pos} (h : x = T l) : PE X (.Constant (.str x) j pos) (tC (.str (T l))) := by
  subst h
  exact pe_str
def rIsN0 : R2 := fun x y H Q => y = .non ∧ Q (.bl (decide (x = .non))) H
def rNotN0 : R2 := fun x y H Q => y = .non ∧ Q (.bl (!decide (x = .non))) H
theorem op_isN0 : OpR X (compareOp .Is) rIsN0 := op_isN
theorem op_notN0 : OpR X (compareOp .IsNot) rNotN0 := op_notN
/-- len -/
def rLenK (K : PySem.W.Frag) : List V → Hp → VK → Prop := fun xs H Q => ∃ x n, xs = [x] ∧ LenV K x H n ∧ Q (.int n) H
theorem call_lenK : CallR X (.builtin "len") (rLenK X.K) := call_len
/-- int of a truth, of a number -/
def rIntB : List V → Hp → VK → Prop := fun xs H Q => (∃ i, xs = [.int i] ∧ Q (.int i) H) ∨ ∃ k, xs = [.bl k] ∧ Q (.int (if k then 1 else 0)) H
theorem call_intB : CallR X (.type "int") rIntB := call_int1
end
/-! ### values of expressions: what the parts are worth, the whole is worth -/
section
variable {K : PySem.W.Frag} {σ : L2.St} {H : Hp} {ta tb te : TE} {t u : TT} {x y z v : V}
theorem rv_addI {i j : Int} : RV rAddI (.int i) (.int j) H (.int (i + j)) := rv_I0
theorem rv_subI {i j : Int} : RV rSubI (.int i) (.int j) H (.int (i - j)) := rv_I0
theorem rv_mulI {i j : Int} (h : CMulX i j) : RV rMulI (.int i) (.int j) H (.int (i * j)) := rv_I h
theorem rv_divI {i j : Int} (h : CDivW i j) : RV rDivI (.int i) (.int j) H (.int (i / j)) := rv_I h
theorem rv_modI {i j : Int} (h : 0 < j) : RV rModI (.int i) (.int j) H (.int (i % j)) := rv_I h
theorem rv_shrI {i j : Int} (h : 0 ≤ j) : RV rShrI (.int i) (.int j) H (.int (i / 2 ^ j.toNat)) := rv_I h
theorem rv_shlI {i j : Int} (h : CShl i j) : RV rShlI (.int i) (.int j) H (.int (i * 2 ^ j.toNat)) := rv_I h
theorem rv_powI {i j : Int} (h : CPow i j) : RV rPowI (.int i) (.int j) H (.int (i ^ j.toNat)) := rv_I h
theorem rv_andI {i j : Int} : RV rAndI (.int i) (.int j) H (.int (Builtin.bitAnd i j)) := rv_I0
theorem rv_ltI {i j : Int} : RV rLtI (.int i) (.int j) H (.bl (decide (i < j))) := rv_I0
theorem rv_leI {i j : Int} : RV rLeI (.int i) (.int j) H (.bl (decide (i ≤ j))) := rv_I0
theorem rv_gtI {i j : Int} : RV rGtI (.int i) (.int j) H (.bl (decide (j < i))) := rv_I0
theorem rv_geI {i j : Int} : RV rGeI (.int i) (.int j) H (.bl (decide (j ≤ i))) := rv_I0
theorem rv_addT {a b : List Nat} (h : a.length + b.length ≤ 16000000) : RV rAddT (.str (T a)) (.str (T b)) H (.str (T (a ++ b))) := fun H1 _ Q q =>
  ⟨T a, T b, rfl, rfl, by rw [T_len, T_len, sizeLine_eq]; omega, by rw [T_add]; exact q H1 (Ex.refl H1)⟩
theorem rv_ltT {a b : List Nat} : RV rLtT (.str (T a)) (.str (T b)) H (.bl (decide (a < b))) := fun H1 _ Q q => ⟨T a, T b, rfl, rfl, q H1 (Ex.refl H1)⟩
theorem rv_leT {a b : List Nat} : RV rLeT (.str (T a)) (.str (T b)) H (.bl (!decide (b < a))) := fun H1 _ Q q => ⟨T a, T b, rfl, rfl, q H1 (Ex.refl H1)⟩
theorem rv_mulT {a : List Nat} {n : Int} (h0 : n < 2 ^ 62) (h1 : -(2 ^ 62) ≤ n) (h : a.length * n.toNat ≤ 16000000) : RV rMulT (.str (T a)) (.int n) H (.str (T (List.replicate n.toNat a).flatten)) := fun H1 _ Q q =>
  ⟨T a, n, rfl, rfl, h1, h0, by rw [T_len, sizeLine_eq]; omega, q H1 (Ex.refl H1)⟩
theorem dec_T {a b : List Nat} : decide (V.str (T a) = V.str (T b)) = decide (a = b) := by
  by_cases h : a = b
  · subst h; simp
  · rw [decide_eq_false h, decide_eq_false (fun e => h (T_inj.mp (V.str.inj e)))]
theorem dec_I {a b : Int} : decide (V.int a = V.int b) = decide (a = b) := by
  by_cases h : a = b
  · subst h; simp
  · rw [decide_eq_false h, decide_eq_false (fun e => h (V.int.inj e))]
theorem dec_B {a b : Bool} : decide (V.bl a = V.bl b) = decide (a = b) := by cases a <;> cases b <;> decide
theorem rv_eqT {a b : List Nat} : RV rEq (.str (T a)) (.str (T b)) H (.bl (decide (a = b))) := by
  rw [← dec_T]; exact rv_eq rfl
theorem rv_neT {a b : List Nat} : RV rNe (.str (T a)) (.str (T b)) H (.bl (!decide (a = b))) := by
  rw [← dec_T]; exact rv_ne rfl
theorem rv_eqI {a b : Int} : RV rEq (.int a) (.int b) H (.bl (decide (a = b))) := by
  rw [← dec_I]; exact rv_eq rfl
theorem rv_neI {a b : Int} : RV rNe (.int a) (.int b) H (.bl (!decide (a = b))) := by
  rw [← dec_I]; exact rv_ne rfl
theorem rv_eqB {a b : Bool} : RV rEq (.bl a) (.bl b) H (.bl (decide (a = b))) := by
  rw [← dec_B]; exact rv_eq rfl
theorem rv_neB {a b : Bool} : RV rNe (.bl a) (.bl b) H (.bl (!decide (a = b))) := by
  rw [← dec_B]; exact rv_ne rfl
theorem rv_isN : RV rIsN0 x .non H (.bl (decide (x = .non))) := fun H1 _ Q q => ⟨rfl, q H1 (Ex.refl H1)⟩
theorem rv_notN : RV rNotN0 x .non H (.bl (!decide (x = .non))) := fun H1 _ Q q => ⟨rfl, q H1 (Ex.refl H1)⟩
/-- texts: an item, a slice, the length -/
theorem rv_ixT {l : List Nat} {i : Int} {c : Nat} (hz : l.length ≤ 16000000) (h : atI l i = some c) : RV rIxS (.str (T l)) (.int i) H (.str (T [c])) := fun H1 _ Q q =>
  ⟨T l, i, c, rfl, rfl, by rw [T_len, sizeLine_eq]; omega, h, q H1 (Ex.refl H1)⟩
def cutL (l : List Nat) (lo hi : Option Int) : List Nat := (l.drop (HT.sIx l.length 0 lo)).take (HT.sIx l.length l.length hi - HT.sIx l.length 0 lo)
theorem cutS_T (l : List Nat) (lo hi : Option Int) : cutS (T l) lo hi = T (cutL l lo hi) := by
  unfold cutS cutL T
  simp [Str.length]
theorem cutL_len (l : List Nat) (lo hi : Option Int) : (cutL l lo hi).length ≤ l.length := by
  unfold cutL
  rw [List.length_take, List.length_drop]
  omega
theorem cutL_pre {l : List Nat} {n : Nat} : cutL l none (some (n : Int)) = l.take n := by
  unfold cutL
  rw [HT.sIx_none, HT.sIx_nat]
  simp
theorem cutL_suf {l : List Nat} {n : Nat} : cutL l (some (n : Int)) none = l.drop n := by
  unfold cutL
  rw [HT.sIx_none, HT.sIx_nat]
  by_cases h : n ≤ l.length
  · rw [Nat.min_eq_left h, List.take_of_length_le (by simp)]
  · rw [Nat.min_eq_right (by omega), Nat.sub_self, List.take_zero, List.drop_eq_nil_of_le (by omega)]
theorem cutL_last {l : List Nat} : cutL l none (some (-1)) = l.dropLast := by
  unfold cutL
  rw [HT.sIx_none, List.dropLast_eq_take]
  show (l.drop 0).take (((-1 : Int) + l.length).toNat - 0) = _
  rw [List.drop_zero, Nat.sub_zero]
  congr 1
  omega
theorem ev_slT {tl th : TO} {l : List Nat} {lo hi : Option Int} (h : Ev te σ H (.str (T l))) (hz : l.length ≤ 16000000) (h1 : EvO tl σ H lo) (h2 : EvO th σ H hi) : Ev (tSl rSlS te tl th) σ H (.str (T (cutL l lo hi))) := fun H1 e Q q =>
  h H1 e _ fun H2 e2 => h1 H2 (e.trans e2) _ fun H3 e3 => h2 H3 ((e.trans e2).trans e3) _ fun H4 e4 =>
    ⟨T l, rfl, by rw [T_len, sizeLine_eq]; omega, by rw [cutS_T]; exact q H4 ((e2.trans e3).trans e4)⟩
theorem ev_lenT {l : List Nat} (h : Ev ta σ H (.str (T l))) (hz : l.length ≤ 16000000) : Ev (tCB (rLenK K) (tCons ta tNil)) σ H (.int (l.length : Int)) := fun H1 e Q q =>
  h H1 e _ fun H2 e2 => ⟨.str (T l), l.length, rfl, ⟨by rw [T_len, sizeLine_eq]; omega, (T_len l).symm⟩, q H2 e2⟩
theorem ev_lenS {p : Addr} {xs : List V} (h : Ev ta σ H (.ref p)) (hs : SqL K H p xs ∨ SqT K H p xs) : Ev (tCB (rLenK K) (tCons ta tNil)) σ H (.int (xs.length : Int)) := fun H1 e Q q =>
  h H1 e _ fun H2 e2 => ⟨.ref p, xs.length, rfl, by
    rcases hs with hs | hs
    · exact .inl ⟨xs, ex_l (e.trans e2) hs, rfl⟩
    · exact .inr ⟨xs, ex_t (e.trans e2) hs, rfl⟩, q H2 e2⟩
theorem ev_lenNL {xs : List V} (h : EvL ta σ H xs) : Ev (tCB (rLenK K) (tCons ta tNil)) σ H (.int (xs.length : Int)) := fun H1 e Q q =>
  h H1 e _ fun p H2 _ e2 hp => ⟨.ref p, xs.length, rfl, .inl ⟨xs, sq_of hp, rfl⟩, q H2 e2⟩
/-- int(b) -/
theorem ev_intB {b : Bool} (h : Ev ta σ H (.bl b)) : Ev (tCB rIntB (tCons ta tNil)) σ H (.int (if b then 1 else 0)) := fun H1 e Q q =>
  h H1 e _ fun H2 e2 => .inr ⟨b, rfl, q H2 e2⟩
theorem ev_intI {i : Int} (h : Ev ta σ H (.int i)) : Ev (tCB rIntB (tCons ta tNil)) σ H (.int i) := fun H1 e Q q =>
  h H1 e _ fun H2 e2 => .inl ⟨i, rfl, q H2 e2⟩
/-- an item of a written list -/
theorem ev_ixNL {xs : List V} {i : Int} (h : EvL ta σ H xs) (hi : ∀ H1, Ex H H1 → Ev tb σ H1 (.int i)) (hv : atI xs i = some v) : Ev (tOp (rIxL K) ta tb) σ H v :=
  ev_opL1 h hi fun p H1 h1 _ => rv_ixL (sq_of h1) hv
/-- isinstance of scalars -/
def tyS : V → Option String
  | .non => some "NoneType"
  | .bl _ => some "bool"
  | .int _ => some "int"
  | .str _ => some "str"
  | _ => none
theorem tyS_ok {x : V} {n : String} (h : tyS x = some n) (H : Hp) : TyX K H x (.type n) := by
  cases x with
  | non => cases h; exact .base .non
  | bl b => cases h; exact .base (.bl b)
  | int i => cases h; exact .base (.int i)
  | str s => cases h; exact .base (.str s)
  | _ => cases h
theorem ev_isi {n m : String} {b : Bool} (h : Ev ta σ H x) (hn : tyS x = some n) (hb : kitB n m = some b) : Ev (tCB (rIsi K) (tCons ta (tCons (tC (.ty m)) tNil))) σ H (.bl b) := fun H1 e Q q =>
  h H1 e _ fun H2 e2 => ⟨x, .ty m, .type n, .type m, b, rfl, .ty m, tyS_ok hn H2, kit_ty hb, q H2 e2⟩
theorem ev_isiL {p : Addr} {xs : List V} {m : String} {b : Bool} (h : Ev ta σ H (.ref p)) (hp : H p = some (.lst xs)) (hb : kitB "list" m = some b) : Ev (tCB (rIsi K) (tCons ta (tCons (tC (.ty m)) tNil))) σ H (.bl b) := fun H1 e Q q =>
  h H1 e _ fun H2 e2 => ⟨.ref p, .ty m, .type "list", .type m, b, rfl, .ty m, .base (.lst ((e.trans e2) _ _ hp)), kit_ty hb, q H2 e2⟩
theorem ev_isiT {p : Addr} {xs : List V} {m : String} {b : Bool} (h : Ev ta σ H (.ref p)) (hp : H p = some (.tup xs)) (hb : kitB "tuple" m = some b) : Ev (tCB (rIsi K) (tCons ta (tCons (tC (.ty m)) tNil))) σ H (.bl b) := fun H1 e Q q =>
  h H1 e _ fun H2 e2 => ⟨.ref p, .ty m, .type "tuple", .type m, b, rfl, .ty m, .base (.tup ((e.trans e2) _ _ hp)), kit_ty hb, q H2 e2⟩
end
/-! ### promises of defs whose answer is a function of their arguments -/
def pureSp (n : Nat) (F : List V → Option V) : Sp := fun vs H Q _ => vs.length = n ∧ ∃ v, F vs = some v ∧ RetV v H Q
theorem use_pure {n : Nat} {F : List V → Option V} {vs : List V} {v : V} {H : Hp} (h : F vs = some v) (hn : vs.length = n) : SpV (pureSp n F) vs H v := fun H1 e Q q E => ⟨hn, v, h, fun H2 e2 => q H2 e2⟩
/-- .. the first argument a list -/
def pureSpL (K : PySem.W.Frag) (n : Nat) (F : List V → List V → Option V) : Sp := fun vs H Q _ => ∃ a xs us, vs = .ref a :: us ∧ us.length = n ∧ SqL K H a xs ∧ ∃ v, F xs us = some v ∧ RetV v H Q
theorem pureSpL_len {K : PySem.W.Frag} {n : Nat} {F : List V → List V → Option V} {vs : List V} {H : Hp} {Q : VK} {E : XK} (h : pureSpL K n F vs H Q E) : vs.length = n + 1 := by
  obtain ⟨a, xs, us, rfl, hn, _⟩ := h
  rw [List.length_cons, hn]
theorem use_pureL {K : PySem.W.Frag} {n : Nat} {F : List V → List V → Option V} {a : Addr} {xs us : List V} {v : V} {H : Hp} (hs : SqL K H a xs) (h : F xs us = some v) (hn : us.length = n) : SpV (pureSpL K n F) (.ref a :: us) H v := fun H1 e Q q E =>
  ⟨a, xs, us, rfl, hn, ex_l e hs, v, h, fun H2 e2 => q H2 e2⟩
section
variable {K : PySem.W.Frag} {σ : L2.St} {H : Hp} {te : TE}
/-- a call whose first argument is a new list -/
theorem ev_callNL {n : Nat} {F : List V → List V → Option V} {E : XK} {tr : TA} {xs us : List V} {v : V} (h : EvL te σ H xs) (hr : ∀ H1, Ex H H1 → EvA tr σ H1 us) (hF : F xs us = some v) (hn : us.length = n) :
    Ev (tCall (pureSpL K n F) [] E (tCons te tr)) σ H v := fun H1 e Q q =>
  h H1 e _ fun p H2 _ e2 hp => hr H2 (e.trans e2) H2 (Ex.refl H2) _ fun H3 e3 => by
    show pureSpL K n F ((.ref p :: us) ++ []) H3 Q E
    rw [List.append_nil]
    exact ⟨p, xs, us, rfl, hn, sq_of (e3 _ _ hp), v, hF, fun H4 e4 => q H4 ((e2.trans e3).trans e4)⟩
end

/-! ### the text's facts -/
def fdOf (K : PySem.W.Frag) (p : Str × Option Str) : FuncData := match K.lookup (He.fAd K p) with
  | some ⟨_, _, .func fd, _⟩ => fd
  | _ => PySem.W.fnOf "" "" ⟨[], [], none, [], [], none, []⟩ [] ⟨.function, [], false, false, []⟩ .none .none .none .none none .none .none
theorem fun_fdOf {K : PySem.W.Frag} {x qual : Str} {params : Arguments} {body : List Stmt} {scope : Scope} {dvs : List V} {kws : List (Str × V)} {p : Str × Option Str}
    (h : ∃ fd, FunD K x qual params body scope dvs kws (He.fAd K p) fd) : FunD K x qual params body scope dvs kws (He.fAd K p) (fdOf K p) := by
  obtain ⟨fd, F⟩ := h
  have e : fdOf K p = fd := by
    obtain ⟨oc, od, dV, kV, doc, pm, an, cdv, ct, osl, _, lk, _⟩ := F.ex
    unfold fdOf
    rw [lk]
  rw [e]
  exact F
theorem cx_none {P : Program} {w : World} {H : Hp} {s : Shared} {e : Value} {s' : Shared} (z : L2.CX P w [] H s (fun _ _ _ => False) e s') : False := by
  obtain ⟨_, _, _, _, _, _, _, _, _, _, _, _, z⟩ := z
  exact z
section
variable {X : Cx}
/-- a module's number, text -/
theorem pe_gint {x : Str} {i : Int} {pos : Pos} (hg : Gl X x) (hm : ∃ t, X.mg x = some (.int i t)) (hd : (x == ("__debug__" : Str)) = false := by decide) : PE X (.Name x pos) (tC (.int i)) := by
  obtain ⟨t, e⟩ := hm
  exact pe_glob hg e ⟨t, rfl⟩ hd
theorem pe_gstr {x : Str} {z : Str} {l : List Nat} {pos : Pos} (hg : Gl X x) (hm : ∃ t, X.mg x = some (.str z t)) (hz : z = T l) (hd : (x == ("__debug__" : Str)) = false := by decide) : PE X (.Name x pos) (tC (.str (T l))) := by
  obtain ⟨t, e⟩ := hm
  subst hz
  exact pe_glob hg e ⟨t, rfl⟩ hd
end
/-- a law's promise: called with the script, it gives True -/
def lawSp (K : PySem.W.Frag) : Sp := fun vs H Q _ => ∃ (a : Addr) (ns : List Int), vs = [.ref a] ∧ SqL K H a (ns.map V.int) ∧ ns.length ≤ 63 ∧ Only H ∧ ∀ H', Q (.bl true) H'
theorem lawSp_len {K : PySem.W.Frag} {vs : List V} {H : Hp} {Q : VK} {E : XK} (h : lawSp K vs H Q E) : vs.length = 1 := by
  obtain ⟨a, ns, rfl, _⟩ := h
  rfl
theorem law_in {K : PySem.W.Frag} {H : Hp} {a : Addr} {ns : List Int} {E : XK} (hl : ns.length ≤ 63) (hO : Only H) (hS : SqL K H a (ns.map V.int)) : lawSp K [.ref a] H (fun v _ => v = .bl true) E := ⟨a, ns, rfl, hS, hl, hO, fun _ => rfl⟩

/-- the end of a law over a head by facts, where what leaves a def depends on the world -/
theorem walk_w {l : PySem.W.OpenLaw} {n k : Nat} {q : Program} {loose : List Str} {XP : (Str → Option Value) → Heap → Prop} {YP : World → Heap → Prop} {d : DefRec} {x : Str}
    (hn : l.most = some n) (hn2 : n ≤ sizeLine) (hdf : d.params.defaults = []) (hr : Room k callerA)
    (F : ∀ (w : World) (mg : Str → Option Value) (fa : Addr) (h : Heap), YP w h → h.Ns mainGlobals mg → mg d.name = some (.ref fa) →
      ∃ (K : PySem.W.Frag) (fd : FuncData), K.In h ∧ (∀ (s : Shared) (u : Value), BindsTo s fd ⟨[u], []⟩ [(x, u)]) ∧
        (∀ (H : Hp) (a : Addr) (ns : List Int), ns.length ≤ n → Only H → SqL K H a (ns.map V.int) → lawSp K [.ref a] H (fun v _ => v = .bl true) fun _ _ _ => False) ∧
        ∀ base : Heap, K.In base → base.Ns mainGlobals mg → FnOk l.prog w K mg base (L2.CX l.prog w) k fa fd [x] (lawSp K)) :
    PySem.W.WalkO q loose XP YP l.row.toRowW d [] (fun f vs => PySem.call f vs) := by
  refine Att.attach_call hn hdf fun w s₀ s₁ mg mb fa o pm cd doc a vs ns G Y ho hd hcd hmg hobj hints hlen hg => ?_
  have Z := F w mg fa s₁.heap Y G.T.g hmg
  obtain ⟨K, fd, KX, hb, hsp, hF⟩ := Z
  exact law_call KX G.T.g G.T.b G.T.builtins G.T.nolimit hg hobj hints (Nat.le_trans hlen hn2) hr hF hb (fun H hO hS => hsp H a ns hlen hO hS)
    (fun H e s' z => cx_none z)
end Kr
/-! rows of two signs as lists of truths; the reading's own tactics -/
namespace Kr
open PySem PySem.Spec PyProof.Rows L2 Evl
/-! ### rows -/
def bc (b : Bool) : Nat := if b then 49 else 48
def R (b : List Bool) : List Nat := b.map bc
theorem R_app (a b : List Bool) : R (a ++ b) = R a ++ R b := List.map_append
theorem R_len (a : List Bool) : (R a).length = a.length := List.length_map _
theorem bc_inj {a b : Bool} (h : bc a = bc b) : a = b := by cases a <;> cases b <;> first | rfl | (exact absurd h (by decide))
theorem R_inj {a b : List Bool} (h : R a = R b) : a = b := by
  induction a generalizing b with
  | nil => cases b with
    | nil => rfl
    | cons y b => simp [R] at h
  | cons x a ih => cases b with
    | nil => simp [R] at h
    | cons y b =>
      simp only [R, List.map_cons, List.cons.injEq] at h
      rw [bc_inj h.1, ih h.2]
theorem R_take (a : List Bool) (n : Nat) : (R a).take n = R (a.take n) := by simp [R, List.map_take]
theorem R_drop (a : List Bool) (n : Nat) : (R a).drop n = R (a.drop n) := by simp [R, List.map_drop]
theorem lt_split {p x y : List Nat} : p ++ 48 :: x < p ++ 49 :: y := by
  induction p with
  | nil => exact List.Lex.rel (by decide)
  | cons c p ih => exact List.Lex.cons ih
theorem lt_pre {p y : List Nat} {c : Nat} : p < p ++ c :: y := by
  induction p with
  | nil => exact List.Lex.nil
  | cons d p ih => exact List.Lex.cons ih
/-! ### the script -/
def cellAt (ns : List Int) (k : Int) : Int := (ns[k.toNat]?).getD 0
theorem cell_at {ns : List Int} {j : Nat} (hj : j < ns.length) : ns[j]? = some (cellAt ns j) := by
  unfold cellAt
  rw [Int.toNat_natCast, List.getElem?_eq_getElem hj]
  rfl
/-- a cell of the script by its place -/
theorem at_int {ns : List Int} {j : Nat} (hj : j < ns.length) : atI (ns.map V.int) (j : Int) = some (.int (cellAt ns j)) := by
  refine atI_nat (j := j) ?_
  rw [List.getElem?_map, cell_at hj]
  rfl
theorem cut_len {ns : List Int} (h : ns.length ≤ 63) : ((cutV (ns.map V.int) none (some 63)).length : Int) = (ns.length : Int) := by
  unfold cutV
  rw [HT.sIx_none, show HT.sIx (ns.map V.int).length (ns.map V.int).length (some 63) = min 63 (ns.map V.int).length from HT.sIx_nat _ _ 63]
  simp
  omega
theorem ev_len63 {K : PySem.W.Frag} {σ : L2.St} {H : Hp} {te : TE} {a : Addr} {ns : List Int} (h : Ev te σ H (.ref a)) (hs : SqL K H a (ns.map V.int)) (hl : ns.length ≤ 63) :
    Ev (tCB (rLenK K) (tCons (tSl (rSlL K) te tNoPart (tPart (tC (.int 63)))) tNil)) σ H (.int (ns.length : Int)) := by
  have := ev_lenNL (K := K) (el_sl (K := K) h eo_none (eo_some (ev_c (v := .int 63))) hs)
  rw [cut_len hl] at this
  exact this
/-! ### one rule an operation, for apply -/
section
variable {K : PySem.W.Frag} {σ : L2.St} {H : Hp} {ta tb te : TE} {x : V}
theorem ev_addI {i j : Int} (ha : Ev ta σ H (.int i)) (hb : Ev tb σ H (.int j)) : Ev (tOp rAddI ta tb) σ H (.int (i + j)) := ev_op ha hb rv_addI
theorem ev_subI {i j : Int} (ha : Ev ta σ H (.int i)) (hb : Ev tb σ H (.int j)) : Ev (tOp rSubI ta tb) σ H (.int (i - j)) := ev_op ha hb rv_subI
theorem ev_mulI {i j : Int} (ha : Ev ta σ H (.int i)) (hb : Ev tb σ H (.int j)) (h : CMulX i j) : Ev (tOp rMulI ta tb) σ H (.int (i * j)) := ev_op ha hb (rv_mulI h)
theorem ev_divI {i j : Int} (ha : Ev ta σ H (.int i)) (hb : Ev tb σ H (.int j)) (h : CDivW i j) : Ev (tOp rDivI ta tb) σ H (.int (i / j)) := ev_op ha hb (rv_divI h)
theorem ev_modI {i j : Int} (ha : Ev ta σ H (.int i)) (hb : Ev tb σ H (.int j)) (h : 0 < j) : Ev (tOp rModI ta tb) σ H (.int (i % j)) := ev_op ha hb (rv_modI h)
theorem ev_shrI {i j : Int} (ha : Ev ta σ H (.int i)) (hb : Ev tb σ H (.int j)) (h : 0 ≤ j) : Ev (tOp rShrI ta tb) σ H (.int (i / 2 ^ j.toNat)) := ev_op ha hb (rv_shrI h)
theorem ev_shlI {i j : Int} (ha : Ev ta σ H (.int i)) (hb : Ev tb σ H (.int j)) (h : CShl i j) : Ev (tOp rShlI ta tb) σ H (.int (i * 2 ^ j.toNat)) := ev_op ha hb (rv_shlI h)
theorem ev_powI {i j : Int} (ha : Ev ta σ H (.int i)) (hb : Ev tb σ H (.int j)) (h : CPow i j) : Ev (tOp rPowI ta tb) σ H (.int (i ^ j.toNat)) := ev_op ha hb (rv_powI h)
theorem ev_andI {i j : Int} (ha : Ev ta σ H (.int i)) (hb : Ev tb σ H (.int j)) : Ev (tOp rAndI ta tb) σ H (.int (Builtin.bitAnd i j)) := ev_op ha hb rv_andI
theorem ev_ltI {i j : Int} (ha : Ev ta σ H (.int i)) (hb : Ev tb σ H (.int j)) : Ev (tOp rLtI ta tb) σ H (.bl (decide (i < j))) := ev_op ha hb rv_ltI
theorem ev_leI {i j : Int} (ha : Ev ta σ H (.int i)) (hb : Ev tb σ H (.int j)) : Ev (tOp rLeI ta tb) σ H (.bl (decide (i ≤ j))) := ev_op ha hb rv_leI
theorem ev_gtI {i j : Int} (ha : Ev ta σ H (.int i)) (hb : Ev tb σ H (.int j)) : Ev (tOp rGtI ta tb) σ H (.bl (decide (j < i))) := ev_op ha hb rv_gtI
theorem ev_geI {i j : Int} (ha : Ev ta σ H (.int i)) (hb : Ev tb σ H (.int j)) : Ev (tOp rGeI ta tb) σ H (.bl (decide (j ≤ i))) := ev_op ha hb rv_geI
theorem ev_eqI {i j : Int} (ha : Ev ta σ H (.int i)) (hb : Ev tb σ H (.int j)) : Ev (tOp rEq ta tb) σ H (.bl (decide (i = j))) := ev_op ha hb rv_eqI
theorem ev_neI {i j : Int} (ha : Ev ta σ H (.int i)) (hb : Ev tb σ H (.int j)) : Ev (tOp rNe ta tb) σ H (.bl (!decide (i = j))) := ev_op ha hb rv_neI
theorem ev_eqB {i j : Bool} (ha : Ev ta σ H (.bl i)) (hb : Ev tb σ H (.bl j)) : Ev (tOp rEq ta tb) σ H (.bl (decide (i = j))) := ev_op ha hb rv_eqB
theorem ev_neB {i j : Bool} (ha : Ev ta σ H (.bl i)) (hb : Ev tb σ H (.bl j)) : Ev (tOp rNe ta tb) σ H (.bl (!decide (i = j))) := ev_op ha hb rv_neB
theorem ev_addT {a b : List Nat} (ha : Ev ta σ H (.str (T a))) (hb : Ev tb σ H (.str (T b))) (h : a.length + b.length ≤ 16000000) : Ev (tOp rAddT ta tb) σ H (.str (T (a ++ b))) := ev_op ha hb (rv_addT h)
theorem ev_ltT {a b : List Nat} (ha : Ev ta σ H (.str (T a))) (hb : Ev tb σ H (.str (T b))) : Ev (tOp rLtT ta tb) σ H (.bl (decide (a < b))) := ev_op ha hb rv_ltT
theorem ev_leT {a b : List Nat} (ha : Ev ta σ H (.str (T a))) (hb : Ev tb σ H (.str (T b))) : Ev (tOp rLeT ta tb) σ H (.bl (!decide (b < a))) := ev_op ha hb rv_leT
theorem ev_eqT {a b : List Nat} (ha : Ev ta σ H (.str (T a))) (hb : Ev tb σ H (.str (T b))) : Ev (tOp rEq ta tb) σ H (.bl (decide (a = b))) := ev_op ha hb rv_eqT
theorem ev_neT {a b : List Nat} (ha : Ev ta σ H (.str (T a))) (hb : Ev tb σ H (.str (T b))) : Ev (tOp rNe ta tb) σ H (.bl (!decide (a = b))) := ev_op ha hb rv_neT
theorem ev_mulT {a : List Nat} {n : Int} (ha : Ev ta σ H (.str (T a))) (hb : Ev tb σ H (.int n)) (h0 : n < 2 ^ 62) (h1 : -(2 ^ 62) ≤ n) (h : a.length * n.toNat ≤ 16000000) : Ev (tOp rMulT ta tb) σ H (.str (T (List.replicate n.toNat a).flatten)) := ev_op ha hb (rv_mulT h0 h1 h)
theorem ev_ixT {l : List Nat} {i : Int} {c : Nat} (ha : Ev ta σ H (.str (T l))) (hb : Ev tb σ H (.int i)) (hz : l.length ≤ 16000000) (h : atI l i = some c) : Ev (tOp rIxS ta tb) σ H (.str (T [c])) := ev_op ha hb (rv_ixT hz h)
theorem ev_isN (ha : Ev ta σ H x) : Ev (tOp rIsN0 ta (tC .non)) σ H (.bl (decide (x = .non))) := ev_op ha ev_c rv_isN
theorem ev_notN (ha : Ev ta σ H x) : Ev (tOp rNotN0 ta (tC .non)) σ H (.bl (!decide (x = .non))) := ev_op ha ev_c rv_notN
theorem ev_neg {i : Int} (ha : Ev ta σ H (.int i)) : Ev (tUn (rU fun i => .int (-i)) ta) σ H (.int (-i)) := ev_un ha ru_neg
theorem ev_bits {i : Int} (ha : Ev ta σ H (.int i)) : Ev (tBits ta) σ H (.int (Builtin.Int.intBits i : Nat)) := fun H1 e Q q => ha H1 e _ fun H2 e2 => ⟨i, rfl, q H2 e2⟩
end
theorem bit_at (x : Int) (j : Nat) : atI [48, 49] (Builtin.bitAnd (x / 2 ^ ((j : Int)).toNat) 1) = some (bc (decide (x / 2 ^ j % 2 = 1))) := by
  have e : Builtin.bitAnd (x / 2 ^ ((j : Int)).toNat) 1 = x / 2 ^ j % 2 := by
    have := PySem.W.kbt_mask (x / 2 ^ j) 1
    rw [Int.toNat_natCast]
    exact this
  rw [e]
  have : x / 2 ^ j % 2 = 0 ∨ x / 2 ^ j % 2 = 1 := by omega
  rcases this with h | h <;> rw [h] <;> rfl
end Kr
/-! errors of the text's own: raised with a text, caught and kept as values, asked for their classes -/
namespace Kr
open PySem PySem.Spec PyProof.Rows L2 Evl
/-! ### facts of the error classes, looked up by the names -/
def exCB (K : PySem.W.Frag) (C : Addr) : Bool :=
  decide (PySem.W.findIn K (.ref C) "__getattribute__" = some (some (.builtin "BaseException.__getattribute__"))) && (decide (PySem.W.findIn K (.ref C) "__getattr__" = some none) &&
  (decide (PySem.W.subIn K (.ref C) (.type "BaseException") = some true) && (PySem.W.hasDictIn K C && (decide (PySem.W.findIn K (.ref C) "__class__" = some (some (.builtin "object.__class__"))) &&
  (decide (PySem.W.specialIn K (.builtin "object.__class__") "__get__" = some (some (.builtin "getset_descriptor.__get__"))) && (decide (PySem.W.takesIn K (.builtin "object.__class__") = some true) &&
  decide (PySem.W.mroIn K C (.type "object") = some true)))))))
theorem exCB_ok {K : PySem.W.Frag} {C : Addr} (h : exCB K C = true) : ExcC K C := by
  obtain ⟨h1, h⟩ := He.ba h
  obtain ⟨h2, h⟩ := He.ba h
  obtain ⟨h3, h⟩ := He.ba h
  obtain ⟨h4, h⟩ := He.ba h
  obtain ⟨h5, h⟩ := He.ba h
  obtain ⟨h6, h⟩ := He.ba h
  obtain ⟨h7, h8⟩ := He.ba h
  exact ⟨of_decide_eq_true h1, of_decide_eq_true h2, of_decide_eq_true h3, h4, of_decide_eq_true h5, of_decide_eq_true h6, of_decide_eq_true h7, of_decide_eq_true h8⟩
/-- RiseError stands above each of L, none of L above another one -/
def exsB (K : PySem.W.Frag) (L : List Str) : Bool := decide (PySem.W.exmOne K (.ref (He.ga K "RiseError")) (.ref (He.ga K "RiseError")) = some true) && L.all fun x => exCB K (He.ga K x) &&
  (decide (PySem.W.kitOne K (.ref (He.ga K x)) (.ref (He.ga K "RiseError")) = some true) && (decide (PySem.W.kitOne K (.ref (He.ga K x)) (.type "ValueError") = some true) && (decide (PySem.W.exmOne K (.ref (He.ga K x)) (.ref (He.ga K "RiseError")) = some true) &&
  L.all fun y => decide (PySem.W.kitOne K (.ref (He.ga K x)) (.ref (He.ga K y)) = some (decide (x = y))) && decide (PySem.W.exmOne K (.ref (He.ga K x)) (.ref (He.ga K y)) = some (decide (x = y))))))
structure KxL (L : List Str) (K : PySem.W.Frag) : Prop where
  ok : exsB K L = true
section
variable {L : List Str} {K : PySem.W.Frag} {x y : Str}
theorem KxL.at_ (k : KxL L K) (hx : x ∈ L) : exCB K (He.ga K x) = true ∧ PySem.W.kitOne K (.ref (He.ga K x)) (.ref (He.ga K "RiseError")) = some true ∧ PySem.W.kitOne K (.ref (He.ga K x)) (.type "ValueError") = some true ∧
    PySem.W.exmOne K (.ref (He.ga K x)) (.ref (He.ga K "RiseError")) = some true ∧ ∀ y ∈ L, PySem.W.kitOne K (.ref (He.ga K x)) (.ref (He.ga K y)) = some (decide (x = y)) ∧ PySem.W.exmOne K (.ref (He.ga K x)) (.ref (He.ga K y)) = some (decide (x = y)) := by
  obtain ⟨_, h⟩ := He.ba k.ok
  have h := List.all_eq_true.mp h x hx
  obtain ⟨h1, h⟩ := He.ba h
  obtain ⟨h2, h⟩ := He.ba h
  obtain ⟨h3, h⟩ := He.ba h
  obtain ⟨h4, h⟩ := He.ba h
  refine ⟨h1, of_decide_eq_true h2, of_decide_eq_true h3, of_decide_eq_true h4, fun y hy => ?_⟩
  obtain ⟨a, b⟩ := He.ba (List.all_eq_true.mp h y hy)
  exact ⟨of_decide_eq_true a, of_decide_eq_true b⟩
theorem KxL.exc (k : KxL L K) (hx : x ∈ L) : ExcC K (He.ga K x) := exCB_ok (k.at_ hx).1
theorem KxL.root (k : KxL L K) (hx : x ∈ L) : PySem.W.kitOne K (.ref (He.ga K x)) (.ref (He.ga K "RiseError")) = some true := (k.at_ hx).2.1
theorem KxL.val (k : KxL L K) (hx : x ∈ L) : PySem.W.kitOne K (.ref (He.ga K x)) (.type "ValueError") = some true := (k.at_ hx).2.2.1
theorem KxL.exR (k : KxL L K) (hx : x ∈ L) : PySem.W.exmOne K (.ref (He.ga K x)) (.ref (He.ga K "RiseError")) = some true := (k.at_ hx).2.2.2.1
theorem KxL.kit (k : KxL L K) (hx : x ∈ L) (hy : y ∈ L) : PySem.W.kitOne K (.ref (He.ga K x)) (.ref (He.ga K y)) = some (decide (x = y)) := ((k.at_ hx).2.2.2.2 y hy).1
theorem KxL.exm (k : KxL L K) (hx : x ∈ L) (hy : y ∈ L) : PySem.W.exmOne K (.ref (He.ga K x)) (.ref (He.ga K y)) = some (decide (x = y)) := ((k.at_ hx).2.2.2.2 y hy).2
end
/-! ### the head's look, one more answer of one's own beside -/
abbrev AlM : Type := He.AlD × Bool
def hookM (n : Nat) (fa : List He.Fa) (fn : List He.DefD) (ex : PySem.W.Frag → Bool) : PySem.W.Hook where
  α := AlM
  obs := fun s => (He.obsDG n fa fn s.heap.get?, ex (He.frG s.heap.get? (He.asD s.heap.get? n)))
  val := fun _ => (He.valD fn, true)
  says := fun _ h => ∃ K : PySem.W.Frag, K.In h ∧ He.SaysD fa fn K ∧ ex K = true
  of := fun _ _ e => ⟨_, He.frG_in, congrArg (fun z : AlM => z.1) e, congrArg (fun z : AlM => z.2) e⟩
  keeps := fun _ _ _ ⟨K, hK, c⟩ k => ⟨K, PySem.W.Frag.In.keeps hK k, c⟩
def obsM (n : Nat) (fa : List He.Fa) (fn : List He.DefD) (ex : PySem.W.Frag → Bool) (g : Addr → Option Obj) : AlM := (He.obsDG n fa fn g, ex (He.frG g (He.asD g n)))
theorem obsM_eq {n : Nat} {fa : List He.Fa} {fn : List He.DefD} {ex : PySem.W.Frag → Bool} {g : Addr → Option Obj} {s : Shared} (h : ∀ a, g a = s.heap.get? a) : obsM n fa fn ex g = (hookM n fa fn ex).obs s := by
  have e : g = s.heap.get? := funext h
  rw [e] <;> rfl
/-! ### raise X('..') -/
def tRaiseX (cls : Value) (E : XK) : TS := fun _ _ H => E cls none H
section
variable {X : Cx}
theorem pmk_txt {x m : Str} {C : Addr} {j : Nat} {p p2 pos : Pos}
    (c : PySem.W.excIn X.K C He.veBase "ValueError.__new__" = true ∧ PySem.W.keepIn X.K (.ref C) = true ∧ PySem.W.subIn X.K (.ref C) (.type "BaseException") = some true ∧ PySem.W.typeIn X.K (.ref C) = some (.type "type"))
    (g : X.mg x = some (.ref C)) (hg : Gl X x := by rfl) (hd : (x == ("__debug__" : Str)) = false := by decide) :
    PMk X (.Call (.Name x p) [.Constant (.str m) j p2] [] pos) (fun _ H Q => Q (.ref C) none H) :=
  pmk_own PySem.F.excBase_ValueError c.1 g c.2.1 (raises_own c.2.2.1 c.2.2.2) hg hd
end
/-- a promise's ways out -/
def RaiseX (cls : Value) (H : Hp) (E : XK) : Prop := ∀ H', Ex H H' → E cls none H'
/-! ### an error that was caught stands as a value -/
def ExK (cls : Value) (d : Option Addr) (a : Addr) : HO := .ext fun h => ∃ oe : Obj, h.get? a = some oe ∧ Zc cls d oe ∧ ∃ vs, oe.data = .fields vs
theorem exK_ok {P : Program} {w : World} {H : Hp} {h : Heap} {a : Addr} {cls : Value} {d : Option Addr} {oe : Obj} (e : h.get? a = some oe) (z : Zc cls d oe) (f : ∃ vs, oe.data = .fields vs) : ObjOk P w H h a (ExK cls d a) :=
  ⟨⟨oe, e, z, f⟩, ⟨oe, e⟩, fun _ _ ⟨o, q, r⟩ k => ⟨o, k o q, r⟩⟩
section
variable {X : Cx} {pins : List (Addr × Obj)} {σ : L2.St} {H : Hp} {s : Shared}
/-- what was pinned, new in this def, is tracked from now on -/
theorem inv_track {a : Addr} {oe : Obj} {cls : Value} {d : Option Addr} (I : Inv X ((a, oe) :: pins) σ H s) (hz : Zc cls d oe) (hv : ∃ vs, oe.data = .fields vs) (hnew : X.s_0.heap.get? a = none)
    (hpn : ∀ p ∈ X.pn ++ pins, p.1 ≠ a) : Inv X pins σ (upd H a (ExK cls d a)) s := by
  have hp : (a, oe) ∈ X.pn ++ (a, oe) :: pins := List.mem_append_right _ List.mem_cons_self
  obtain ⟨hget, hn, hL, hF, hnc⟩ := I.pin _ hp
  have ne0 : ∀ b o, X.s_0.heap.get? b = some o → b ≠ a := fun b o e z => by
    rw [z, hnew] at e
    cases e
  have neH : ∀ b u, H b = some u → b ≠ a := fun b u e z => by
    rw [z, hn] at e
    cases e
  refine ⟨I.ok, I.os, I.bare, ⟨I.base.keep, I.base.slot, fun b o e n hx => ?_, I.base.there, fun b xs e => ?_, fun b o u e => ?_, fun b ps e => ?_⟩, I.loc, I.cell, ?_, fun x c e => ?_, fun p hp' => ?_, fun b u e => ?_, I.len⟩
  · rw [upd_ne (ne0 b o e)]
    exact I.base.free b o e n hx
  · have q := I.base.tups b xs e
    rw [upd_ne (neH b _ q)]
    exact q
  · have q := I.base.frzs b o u e
    rw [upd_ne (neH b _ q)]
    exact q
  · obtain ⟨m, q⟩ := I.base.tbls b ps e
    exact ⟨m, by rw [upd_ne (neH b _ q)]; exact q⟩
  · rw [upd_ne (Ne.symm hL)]
    exact I.free
  · have hc : c ≠ a := fun z => by
      obtain ⟨v, o, ho, hd⟩ := I.cell x c e
      rw [z] at ho
      have := ho.symm.trans hget
      cases this
      exact hnc v hd
    rw [upd_ne hc]
    exact I.freeC x c e
  · have hp2 : p ∈ X.pn ++ (a, oe) :: pins := by
      rcases List.mem_append.mp hp' with z | z
      · exact List.mem_append_left _ z
      · exact List.mem_append_right _ (List.mem_cons_of_mem _ z)
    obtain ⟨p1, p2, p3, p4, p5⟩ := I.pin p hp2
    exact ⟨p1, by rw [upd_ne (hpn p hp')]; exact p2, p3, p4, p5⟩
  · by_cases hb : b = a
    · subst hb
      rw [upd_same] at e
      cases e
      exact exK_ok hget hz hv
    · rw [upd_ne hb] at e
      exact (I.hok b u e).stay (fun c v _ q => q) (fun c q => by rw [upd_ne (neH c _ q)]; exact q) (fun c xs q => by rw [upd_ne (neH c _ q)]; exact q)
end
/-- what the clause 'except x as n' wishes, the error kept behind the suite's end -/
def wKeep (K : PySem.W.Frag) (c : Value) (i : Nat) (ts : Addr → Value → Option Addr → TS) (Wout : WX) (D : Ends) : WX := fun cls d σ H =>
  ∃ b, PySem.W.exmOne K cls c = some b ∧
    (b = true → ∀ a, H a = none → ts a cls d { nx := fun σ' H' => D.nx (σ'.set i none) (upd H' a (ExK cls d a)), rt := fun _ _ => False } (σ.set i (some (.ref a))) H) ∧
    (b = false → Wout cls d σ H)
section
variable {X : Cx} {x n : Str} {c : Value} {i : Nat} {body suite : List Stmt} {b₀ : Stmt} {np pos pos' : Pos} {tb : WX → TS} {ts : Addr → Value → Option Addr → TS} {Wout : WX}
theorem ps_try_keep (hs : X.stack = X.env :: X.outer) (hf : X.env.frame = some X.env.locals) (hex : X.ex = []) (hN : X.N.Nodup) (hi : X.N[i]? = some n) (hln : X.env.kindOf n = some .local) (hc : Names X x c) (tk : Takes X Wout)
    (hb : ∀ (W : WX) (pn : List (Addr × Obj)) (xe : Value → Shared → Prop), Takes (X.tr pn xe) W → PassesOwn (model X.prog X.w) X.A X.env xe → PSs (X.tr pn xe) body (tb W))
    (hsu : ∀ (a : Addr) (oe : Obj) (cls : Value) (d : Option Addr) (pn : List (Addr × Obj)), Zc cls d oe → (∃ vs, oe.data = .fields vs) → PSs (X.suite a ((a, oe) :: pn)) (b₀ :: suite) (ts a cls d)) :
    PS X (.Try body [.ExceptHandler (some (.Name x np)) (some n) (b₀ :: suite) pos'] [] [] pos) (fun D σ H => tb (wKeep X.K c i ts Wout D) D σ H) := by
  refine ⟨fun pins s σ H D I h => ?_⟩
  have okX := I.ok
  have frX : X.A.frames = some (X.env :: X.outer) := by rw [okX.frames, hs]
  refine wpAny_Try_except (wpAny_mono ((hb (wKeep X.K c i ts Wout D) (X.pn ++ pins) _ (fun u s1 air => ?air) PassesOwn.looking).run [] s σ H D (I.toTry _) h) (fun f s1 done => ?done) (fun e s1 he => he))
  case done =>
    cases f with
    | next => obtain ⟨σ1, H1, J, q⟩ := done; exact wpAny_execs_nil ⟨σ1, H1, J.ofTry okX, q⟩
    | brk => obtain ⟨σ1, H1, J, q⟩ := done; exact ⟨σ1, H1, J.ofTry okX, q⟩
    | cont => obtain ⟨σ1, H1, J, q⟩ := done; exact ⟨σ1, H1, J.ofTry okX, q⟩
    | ret u => obtain ⟨v, σ1, H1, J, r, q⟩ := done; exact ⟨v, σ1, H1, J.ofTry okX, r, q⟩
  case air =>
    obtain ⟨a, B, s2, pins2, σ2, H2, cls, d, rfl, J0, nb, up, sky, na, os, ag, b, hb1, hyes, hno⟩ := air
    have J : Inv X pins σ2 H2 s2 := J0.ofTry okX
    rw [show (X.tr (X.pn ++ pins) _).stack = X.env :: X.outer from hs] at sky
    show wpAny (model X.prog X.w) X.A (noteFrame (.ref a) X.env) _ _ _
    refine Sky.land Zc.steady frX hf sky fun h3 fl3 up3 => ?_
    have J3 : Inv X pins σ2 H2 { s1 with heap := h3 } := J.landed nb fl3.1 (up.trans up3) os ag
    obtain ⟨oe3, vs3, he3, hz3, hd3⟩ := fl3.there
    have far : a ∉ frs (X.env :: X.outer) := fun hm => by
      obtain ⟨_, o', e', hnf⟩ := fl3.2.2.1.mem hm
      have e2 := he3.symm.trans e'
      cases e2
      exact hnf _ hd3
    have nL : a ≠ X.env.locals := fun z => far (List.mem_filterMap.mpr ⟨X.env, List.mem_cons_self, by rw [hf, z]⟩)
    have nF : a ∉ X.fs := fun hm => by
      obtain ⟨e, he, q⟩ := List.mem_filterMap.mp hm
      exact far (List.mem_filterMap.mpr ⟨e, List.mem_cons_of_mem _ he, q⟩)
    -- the error is new in this def
    have ground : ∀ o, s2.heap.get? a = some o → False := fun o e => by
      have := nb a o e (by rw [show (X.tr (X.pn ++ pins) _).stack = X.env :: X.outer from hs]; exact far)
      rw [fl3.2.1] at this
      cases this
    have hnew : X.s_0.heap.get? a = none := by
      cases e : X.s_0.heap.get? a with
      | none => rfl
      | some o =>
        obtain ⟨o', e'⟩ := J.base.there a o e (by rw [hex]; exact fun z => nomatch z)
        exact (ground o' e').elim
    have hpn : ∀ p ∈ X.pn ++ pins, p.1 ≠ a := fun p hp z => by
      have e := (J.pin p hp).1
      rw [z] at e
      exact ground _ e
    have S3 := J3.suite he3 hd3 na nL nF
    refine wpAny_handleBy_cons (codeAny_handlers_test ?_) (by intro q; cases q)
    have LT : PySem.W.Looks (model X.prog X.w) h3 (typeOf (.ref a)) cls := fun A Q E s k q => wpAny_typeOf_ref (k _ _ he3) (by rw [hz3.1]; exact q)
    have LM := PySem.W.exm_one (M := model X.prog X.w) J3.kIn LT hb1
    have named : ∀ {Q : Value → Shared → Prop} {E : Value → Shared → Prop}, Q c { s1 with heap := h3 } → wpAny (model X.prog X.w) (X.A.mark (some (.ref a))) (eval (.Name x np) X.env) Q E { s1 with heap := h3 } := fun {Q E} q => by
      obtain ⟨hg, hdbg, hm | ⟨hm, hv, hnn⟩⟩ := hc
      · exact ld_glob (X := X.suite a ((a, oe3) :: (X.pn ++ pins))) S3 hg hm q hdbg
      · exact ld_blt (X := X.suite a ((a, oe3) :: (X.pn ++ pins))) S3 hg hm hv q hnn hdbg
    refine named (LM.here ?_)
    cases b with
    | true =>
      refine codeAny_handlers_suite_as (HandSPX.lands_againZ fl3 fun h4 fl4 up4 => ?_)
      have J4 : Inv X pins σ2 H2 { s1 with heap := h4 } := J.landed nb fl4.1 ((up.trans up3).trans up4) os ag
      obtain ⟨oe4, vs4, he4, hz4, hd4⟩ := fl4.there
      have S4 := J4.suite he4 hd4 na nL nF
      refine store_ok (X := X.suite a ((a, oe4) :: (X.pn ++ pins))) (v := .ref a) S4 hN hi (.inl hln) rfl (fun s5 S5 => ?_) (.inr hln)
      refine wpAny_mono ((hsu a oe4 cls d (X.pn ++ pins) hz4 ⟨_, hd4⟩).run [] s5 _ H2 _ S5 (hyes rfl a na)) (fun f s6 hsp => ?_) (fun _ _ z => False.elim z)
      cases f with
      | next =>
        obtain ⟨σ6, H6, S6, q6⟩ := hsp
        have P6 : Inv X ((a, oe4) :: pins) σ6 H6 s6 := ⟨okX, S6.os, S6.bare, S6.base, S6.loc, S6.cell, S6.free, S6.freeC, fun p hp => S6.pin p (List.mem_append_left _ (by
          rcases List.mem_append.mp hp with z | z
          · exact List.mem_cons_of_mem _ (List.mem_append_left _ z)
          · rcases List.mem_cons.mp z with z | z
            · rw [z]; exact List.mem_cons_self
            · exact List.mem_cons_of_mem _ (List.mem_append_right _ z))), S6.hok, S6.len⟩
        exact gone_ok P6 hN hi hln fun s7 J7 => ⟨_, _, inv_track J7 hz4 ⟨_, hd4⟩ hnew hpn, q6⟩
      | brk => obtain ⟨_, _, _, q6⟩ := hsp; exact q6.elim
      | cont => obtain ⟨_, _, _, q6⟩ := hsp; exact q6.elim
      | ret u => obtain ⟨_, _, _, _, _, q6⟩ := hsp; exact q6.elim
    | false =>
      show wpAny _ X.A (handleBy (.ref a) X.env []) _ _ _
      refine wpAny_handleBy_nil ?_
      obtain ⟨k1, k2, k3, oe, vs, T, oT, ts', he, hz, hd, h1, hr⟩ := id fl3
      unfold PySem.passOn
      refine wpAny_bind (wpAny_field he hd h1 ?_)
      rw [if_neg (show ¬ ((Value.ref T == Value.none) = true) from by simp)]
      have out : wpAny (model X.prog X.w) X.A (setFlight (.ref a) X.env.frame) (fun _ s4 => wpAny (model X.prog X.w) X.A (throw (.ref a) : Sem Flow) (SP X pins D) X.xe s4) X.xe { s1 with heap := h3 } := by
        rw [hf]
        refine HandSPX.setFlight_upZ fl3 fun h4 hh4 up4 => wpAny_throw (tk _ _ ?_)
        exact ⟨a, B, s2, pins, σ2, H2, cls, d, rfl, J, nb, (up.trans up3).trans up4, .inr (.inr (by rw [hs]; exact hh4)), na, os, ag, hno rfl⟩
      first
        | exact wpAny_bind (wpAny_pure (wpAny_bind out))
        | exact wpAny_bind out
end
end Kr
/-! isinstance of kept errors, with a dict of their own or without -/
namespace Kr
open PySem PySem.Spec PyProof.Rows L2 Evl
section
open PySem.W PySem.Calls
variable {prog : Program} {w : World} {A : Around} {E : Value → Shared → Prop} {s : Shared} {K : Frag} {x D : Addr} {ox : Obj} {od : Option Obj}
/-- an error's __class__, whether it has a dict or not -/
theorem cls_of_err {Q : Option Value → Shared → Prop} (c : ExcC K D) (X : K.In s.heap) (I : PySem.W.InstAt s.heap x ox D od) (h : Q (some (.ref D)) { s with toks := s.toks + 1 }) :
    wpAny (model prog w) A (getAttr? (.ref x) "__class__") Q E s := by
  obtain ⟨hga, hgt, hsub, hdct, ha, hn, htk, hm⟩ := c
  have found : findObj K D od "__class__" = some (.bind (.builtin "getset_descriptor.__get__") (.builtin "object.__class__")) := by
    obtain ⟨cd, hc, _⟩ := any_some hdct
    unfold findObj
    rw [hc, Option.bind_some, ha, Option.bind_some]
    simp [hn, htk]
  obtain ⟨hp, g, dr, t, os⟩ := s
  have ty := I.type (M := model prog w)
  have at1 := looks_findIn (M := model prog w) X hga
  have at2 := looks_findIn (M := model prog w) X hgt
  have at3 := looks_find (M := model prog w) X I found
  have isB : Looks (model prog w) hp (isInstance (.ref x) (.type "BaseException")) true := ty.andThen (looks_subIn X hsub)
  have no : (Value.builtin "BaseException.__getattribute__" == Value.builtin "object.__getattribute__") = false := by decide +kernel
  unfold getAttr? getAttrBy? getAttrBy
  refine wpAny_bind (wpAny_mkText (wpAny_bind (wpAny_attempt (wpAny_holding (wpAny_bind (ty.at (wpAny_bind (at1.at ?_))))))))
  have no2 : (onTheHeap (Value.ref D) && Value.builtin "BaseException.__getattribute__" == Value.builtin "object.__getattribute__") = false := by rw [no]; rfl
  show wpAny _ _ (if (onTheHeap (Value.ref D) && Value.builtin "BaseException.__getattribute__" == Value.builtin "object.__getattribute__") = true then _ else _) _ _ _
  rw [no2, if_neg Bool.false_ne_true]
  unfold getAttrByItsOwn hookBefore
  refine wpAny_bind ?_
  rw [if_pos (show onTheHeap (Value.ref D) = true from rfl)]
  refine at2.at (wpAny_bind (wpAny_attempt (wpAny_holding ?_)))
  unfold callGetattribute
  rw [show (false && onTheHeap (Value.builtin "BaseException.__getattribute__")) = false from rfl, if_neg Bool.false_ne_true]
  unfold boundAndCalled
  rw [PySem.F.excAttr_ValueError.ga.bind (.ref x)]
  refine wpAny_bind (wpAny_pure ?_)
  show wpAny _ _ (call (.builtin "BaseException.__getattribute__") [.ref x, .str "__class__" t]) _ _ _
  refine wpAny_call (codeAny_call_builtin PySem.F.excAttr_ValueError.ga.plain PySem.F.entry_bexc_ga ?_)
  refine @check_slot (model prog w) _ _ ⟨hp, g, dr, t + 1, os⟩ "BaseException.__getattribute__" "BaseException" "__getattribute__" (.ref x) [.str "__class__" t] [] _ (by decide +kernel) (by decide +kernel) isB (PySem.F.args_bexc_ga (.ref x) (.str "__class__" t)) ?_
  unfold Builtin.«object.__getattribute__»
  refine wpAny_bind (wpAny_of_eq (a := ((Value.ref x : Value), [Value.str "__class__" t])) (by first | rfl | (simp only [slotArgs]; rfl)) (wpAny_bind (wpAny_pure (wpAny_bind (ty.at (wpAny_bind (at3.at ?_)))))))
  show wpAny _ _ (holding [Value.builtin "object.__class__"] (call (.builtin "getset_descriptor.__get__") [.builtin "object.__class__", .ref x, .ref D]) >>= ret) _ _ _
  refine wpAny_bind (wpAny_holding (wpAny_call (class_get (s := ⟨hp, g, dr, t + 1, os⟩) (ox := ox) (od := od) X I hm (wpAny_pure ?_))))
  show wpAny _ _ (handedOut (.ref D)) _ _ _
  rw [handedOut_of (v := .ref D) rfl]
  first
    | exact wpAny_pure (wpAny_pure h)
    | exact wpAny_pure h
    | exact wpAny_pure (wpAny_bind (wpAny_pure (wpAny_pure h)))
theorem kitx_err (c : ExcC K D) : KitX K (.ref x) (.ref D) (fun h => PySem.W.InstAt h x ox D od) where
  ty := fun _ _ _ I => I.type
  it := fun M h X _ => by
    obtain ⟨cd, e, _⟩ := any_some c.hd
    unfold clsIn at e
    split at e
    · rename_i q
      intro A' Q' E' s' k z
      unfold isType loadHead
      exact wpAny_bind (wpAny_loadPart (k _ _ (X _ _ q)) (wpAny_pure z))
    · cases e
  ne := fun h tp dd its n sl X htp => by
    obtain ⟨cd, e, _⟩ := any_some c.hd
    refine Bool.eq_false_iff.mpr fun z => ?_
    obtain rfl : D = tp := Value.ref.inj (beq_iff_eq.mp z)
    unfold clsIn at e
    split at e
    · rename_i q
      have y := (X _ _ q).symm.trans htp
      cases y
    · cases e
  ca := fun X I k => cls_of_err c X I k
end
/-- a kept error's dict, if it has one, is tracked -/
def XdOk (H : Hp) (d : Option Addr) : Prop := d = none ∨ ∃ dd fs, d = some dd ∧ H dd = some (.xd fs)
/-- isinstance(e, c) of a kept error -/
def rIsX (K : PySem.W.Frag) : List V → Hp → VK → Prop := fun xs H Q => ∃ (a D : Addr) (d : Option Addr) (c : V) (cv : Value) (b : Bool), xs = [.ref a, c] ∧ H a = some (ExK (.ref D) d a) ∧ XdOk H d ∧ ExcC K D ∧ ClsV c cv ∧ PySem.W.kitOne K (.ref D) cv = some b ∧ Q (.bl b) H
section
variable {X : Cx}
theorem inst_of_err {pins : List (Addr × Obj)} {s : Shared} {σ : L2.St} {H : Hp} {a D : Addr} {d : Option Addr} (I : Inv X pins σ H s) (ha : H a = some (ExK (.ref D) d a)) (hd : XdOk H d) : ∃ oe od, PySem.W.InstAt s.heap a oe D od := by
  obtain ⟨⟨oe, e, z, vs, hv⟩, _, _⟩ := I.hok a _ ha
  obtain ⟨oc, odi, oda, osl⟩ := oe
  obtain ⟨h1, h2⟩ := z
  dsimp only at h1 h2 hv
  subst h1 h2 hv
  rcases hd with rfl | ⟨dd, fs, rfl, hx⟩
  · exact ⟨_, none, e, rfl, rfl, trivial⟩
  · obtain ⟨mA, hns, _⟩ := (show ObjOk X.prog X.w H s.heap dd (.xd fs) from I.hok dd _ hx)
    obtain ⟨od, ho, _⟩ := lookIn_ns hns
    exact ⟨_, some od, e, rfl, rfl, ho⟩
theorem call_isX : CallR X (.builtin "isinstance") (rIsX X.K) := by
  intro pins s σ H xs us Q I r h
  obtain ⟨a, D, d, c, cv, b, rfl, ha, hd, hc, hcv, e, q⟩ := h
  obtain ⟨u1, u2, rfl, r1, r2⟩ := vals2 r
  obtain rfl : u1 = Value.ref a := r1
  have e2 := hcv.eq r2
  subst e2
  obtain ⟨oe, od, J⟩ := inst_of_err I ha hd
  exact PySem.W.kia_one (kitx_err hc) I.kIn J e (fun z => nomatch z) fun tk => ⟨.bl b, H, I.tok tk, rfl, q⟩
/-- isinstance of any value: plain, or a kept error -/
def rIsA (K : PySem.W.Frag) : List V → Hp → VK → Prop := fun xs H Q => rIsi K xs H Q ∨ rIsX K xs H Q
theorem call_isA : CallR X (.builtin "isinstance") (rIsA X.K) := by
  intro pins s σ H xs us Q I r h
  rcases h with h | h
  · exact call_isi pins s σ H xs us Q I r h
  · exact call_isX pins s σ H xs us Q I r h
/-- e.f of a kept error -/
def tXfK (K : PySem.W.Frag) (f : Str) (te : TE) : TE := fun σ H Q => te σ H fun x H1 => ∃ (a D dd : Addr) (fs : List (Str × V)) (v : V), x = .ref a ∧ H1 a = some (ExK (.ref D) (some dd) a) ∧ H1 dd = some (.xd fs) ∧ XfC K D ∧ PySem.W.findIn K (.ref D) f = some none ∧
  fs.lookup f = some v ∧ Q v H1
theorem pe_xfk {e : Expr} {te : TE} {pos : Pos} {n : Str} (he : PE X e te) (hb : attributeBase e n X.env (eval e X.env) = eval e X.env := by rfl) : PE X (.Attribute e n pos) (tXfK X.K n te) := by
  refine ⟨fun pins s σ H Q I h => attr_of hb (thn (he.run pins s σ H _ I h) fun u s1 hh => ?_)⟩
  obtain ⟨x, H1, I1, rx, a, D, dd, fs, v, rfl, ha, hx, T, hno, l, q⟩ := hh
  obtain rfl : u = Value.ref a := rx
  obtain ⟨⟨oe, e0, z, vs, hv⟩, _, _⟩ := I1.hok a _ ha
  obtain ⟨mA, hns, hr⟩ := (show ObjOk X.prog X.w H1 s1.heap dd (.xd fs) from I1.hok dd _ hx)
  obtain ⟨od, ho, hl⟩ := lookIn_ns hns
  obtain ⟨u, hu, ru⟩ := RelO.some_of (v := v) (o := mA n) (by rw [← l]; exact hr n)
  have J : PySem.W.InstAt s1.heap a oe D (some od) := ⟨e0, z.1, by unfold PySem.W.notCls; rw [hv] <;> rfl, by rw [z.2]; exact ho⟩
  exact HandSPX.exc_get I1.kIn J T.ga T.gg T.exC (PySem.W.findObj_own T.hdC hno rfl (by rw [hl, hu])) (handed_of ru) ⟨v, H1, I1.tok _, ru, q⟩
end
def tTryKeep (K : PySem.W.Frag) (c : Value) (i : Nat) (tb : WX → TS) (ts : Addr → Value → Option Addr → TS) (Wout : WX) : TS := fun D σ H => tb (wKeep K c i ts Wout D) D σ H
end Kr
/-! comprehensions whose items are functions of what is walked; join; loops over texts -/
namespace Kr
open PySem PySem.Spec PyProof.Rows L2 Evl
section
variable {K : PySem.W.Frag} {σ : L2.St} {H : Hp} {tl te tb : TE} {t : TT}
theorem given_all (n : Nat) (v : Nat → V) : given n (fun _ => true) v = (List.range n).map v := by
  unfold given
  rw [List.filter_eq_self.mpr (fun _ _ => rfl)]
/-- [te for j in range(n)] -/
theorem el_mapR {ta : TA} {j : Nat} {vs : List Nat} {n : Int} (v : Nat → V) (h : EvA ta σ H [.int n]) (hn : 0 ≤ n ∧ n ≤ 40000) (hw : ∀ x, wipe ((wipe σ vs).set j (some x)) vs = wipe σ vs)
    (he : ∀ (i : Nat) H1, Ex H H1 → (i : Int) < n → Ev te ((wipe σ vs).set j (some (.int (i : Int)))) H1 (v i)) : EvL (tLc (iRng1 ta) (gName j) tYes te vs) σ H ((List.range n.toNat).map v) := by
  rw [← given_all]
  exact el_lcR1 (fun _ => true) v h hn hw (fun i H1 _ _ => fun H2 e2 Q q => q H2 (Ex.refl H2)) fun i H1 e hi _ => he i H1 e hi
/-- [te for j in xs] -/
theorem el_mapL {a : Addr} {xs : List V} {j : Nat} {vs : List Nat} (g : V → V) (h : Ev tl σ H (.ref a)) (hx : SqL K H a xs) (hz : xs.length ≤ 40000) (hw : ∀ x, wipe ((wipe σ vs).set j (some x)) vs = wipe σ vs)
    (he : ∀ x ∈ xs, ∀ H1, Ex H H1 → Ev te ((wipe σ vs).set j (some x)) H1 (g x)) : EvL (tLc (iList K tl) (gName j) tYes te vs) σ H (xs.map g) := by
  have key : given xs.length (fun _ => true) (fun i => g (xs.getD i .non)) = xs.map g := by
    rw [given_all]
    apply List.ext_getElem?
    intro i
    rw [List.getElem?_map, List.getElem?_map]
    by_cases hi : i < xs.length
    · rw [List.getElem?_range hi, List.getElem?_eq_getElem hi]
      simp [List.getD, List.getElem?_eq_getElem hi]
    · rw [List.getElem?_eq_none (by simpa using hi), List.getElem?_eq_none (by simpa using hi)]
      rfl
  rw [← key]
  refine el_lcL (fun _ => true) _ h hx hz hw (fun i x H1 _ _ => fun H2 e2 Q q => q H2 (Ex.refl H2)) fun i x H1 e hi _ => ?_
  have e2 : xs.getD i .non = x := by simp [List.getD, hi]
  rw [e2]
  exact he x (List.mem_of_getElem? hi) H1 e
theorem tYes_step {σ : L2.St} {H : Hp} {A B : Hp → Prop} (h : A H) : tYes σ H fun b H3 => if b = true then A H3 else B H3 := by
  show (if true = true then A H else B H)
  rw [if_pos rfl]
  exact h
/-- [te for j in a text] -/
theorem el_mapS {l : List Nat} {j : Nat} {vs : List Nat} (g : Nat → V) (h : Ev tl σ H (.str (T l))) (hz : l.length ≤ 1000000) (hw : ∀ x, wipe ((wipe σ vs).set j (some x)) vs = wipe σ vs)
    (he : ∀ c ∈ l, ∀ H1, Ex H H1 → Ev te ((wipe σ vs).set j (some (.str (T [c])))) H1 (g c)) : EvL (tLc (iStr tl) (gName j) tYes te vs) σ H (l.map g) := fun H0 e Q q => h H0 e _ fun H1 e1 => ⟨T l, rfl, fun Dl hD => by
  have hsz : (T l).cps.size = l.length := by simp [T]
  refine ⟨fun i m H' => m = l.length - i ∧ i ≤ l.length ∧ Ex H1 H' ∧ H' Dl = some (.lst ((l.take i).map g)), ⟨l.length, by simp, Nat.zero_le _, Ex.new hD, upd_same⟩, ?_⟩
  rintro i m H' ⟨rfl, hi, eH, hDl⟩
  by_cases hlt : i < l.length
  · refine .inr ⟨by show i < (T l).cps.size; rw [hsz]; exact hlt, fun H2 => Ex H1 H2 ∧ H2 Dl = some (.lst ((l.take (i + 1)).map g)), fun H2 p => ⟨l.length - (i + 1), by omega, rfl, hlt, p.1, p.2⟩, fun x H2 y => ?_⟩
    obtain ⟨rfl, c, hc, rfl⟩ := y
    have hc2 : l[i]? = some c := by
      have : (T l).cps[i]? = l[i]? := by simp [T]
      rw [← this]; exact hc
    refine ⟨hw _, ?_⟩
    refine tYes_step ?_
    refine he c (List.mem_of_getElem? hc2) H2 ((e.trans e1).trans eH) H2 (Ex.refl H2) _ fun H3 e3 => ⟨(l.take i).map g, e3 _ _ hDl, ?_, Ex.mut (eH.trans e3) hD, ?_⟩
    · rw [List.length_map, List.length_take, sizeLine_eq]
      omega
    · rw [upd_same, List.take_add_one, hc2]
      simp
  · have : i = l.length := by omega
    subst this
    rw [List.take_length] at hDl
    exact .inl ⟨by show (T l).cps.size ≤ l.length; rw [hsz]; exact Nat.le_refl _, q Dl H' (fresh_back e1 hD) (e1.trans eH) hDl⟩⟩
theorem join_T : ∀ ps : List (List Nat), Txt.join (T []) (ps.map T) = T ps.flatten := by
  intro ps
  rw [TL.join_eq]
  refine TL.ext_tl ?_
  have hj := TL.tl_join (T []) (ps.map T)
  rw [hj]
  have : (ps.map T).map TL.tl = ps := by
    rw [List.map_map]
    exact List.map_id' ps
  rw [this]
  show TL.joinL [] ps = ps.flatten
  clear hj this
  induction ps with
  | nil => rfl
  | cons p ps ih => cases ps with
    | nil => simp [TL.joinL]
    | cons r ps =>
      show p ++ ([] ++ TL.joinL [] (r :: ps)) = _
      rw [ih]
      simp
/-- "".join(..) of a new list of texts -/
theorem ev_join {ps : List (List Nat)} (h : EvL tl σ H (ps.map fun p => V.str (T p))) (hz : ps.flatten.length ≤ 16000000) (hn : ps.length ≤ 1000000) :
    Ev (tBM K "str" (rJoin K) (tC (.str (T []))) (tCons tl tNil)) σ H (.str (T ps.flatten)) := fun H1 e Q q => ⟨rfl, h H1 e _ fun p H2 _ e2 hp => ⟨T [], p, ps.map T, rfl, rfl, .inl (by
    rw [List.map_map]
    exact sq_of hp), by
    have e1 : ((ps.map T).map (·.length)).sum = ps.flatten.length := by
      rw [List.map_map, List.length_flatten]
      congr 1
    have e2 : (T []).length = 0 := rfl
    rw [e1, e2]
    omega, by
    rw [join_T]
    exact q H2 e2⟩⟩
theorem R_flat (b : List Bool) : (b.map fun x => [bc x]).flatten = R b := by
  induction b with
  | nil => rfl
  | cons x b ih => simp [R, ih]
end
theorem ones_R (n : Nat) : (List.replicate n [49]).flatten = R (List.replicate n true) := by
  induction n with
  | zero => rfl
  | succ n ih => rw [List.replicate_succ, List.flatten_cons, ih, List.replicate_succ]; rfl
theorem ev_ones {σ : L2.St} {H : Hp} {te : TE} {n : Int} (h : Ev te σ H (.int n)) (h0 : 0 ≤ n) (h1 : n ≤ 1000) : Ev (tOp rMulT (tC (.str (T [49]))) te) σ H (.str (T (R (List.replicate n.toNat true)))) :=
  ev_is (ev_mulT ev_c h (by omega) (by omega) (by simp; omega)) (by rw [ones_R])
/-- a statement whose ways meet again -/
theorem q_cond {tu tz : TS} {D : Ends} {σ : L2.St} {H : Hp} (P : L2.St → Hp → Prop) (h : ∀ M : L2.St → Hp → Prop, (∀ σ' H', P σ' H' → M σ' H') → tu { D with nx := M } σ H) (k : ∀ σ' H', P σ' H' → tz D σ' H') : tSeq tu tz D σ H :=
  h _ k
end Kr
/-! lists of plain values compared; kept errors asked for their classes; tries -/
namespace Kr
open PySem PySem.Spec PyProof.Rows L2 Evl
/-! ### plain values as data -/
def toD : V → PyData
  | .bl b => .bool b
  | .int i => .int i
  | .str s => .str s
  | _ => .none
def plainV : V → Bool
  | .non => true
  | .bl _ => true
  | .int _ => true
  | .str s => s.cps.all (· < 0x110000)
  | _ => false
theorem dp_plain {K : PySem.W.Frag} {H : Hp} {x : V} (h : plainV x = true) : Dp K H x (toD x) := by
  cases x with
  | non => exact .non
  | bl b => exact .bl b
  | int i => exact .int i
  | str s => exact .str s
  | _ => cases h
theorem dpAll_plain {K : PySem.W.Frag} {H : Hp} : ∀ {xs : List V}, xs.all plainV = true → DpAll K H xs (xs.map toD)
  | [], _ => .nil
  | x :: xs, h => by
    rw [List.all_cons, Bool.and_eq_true] at h
    exact .cons (dp_plain h.1) (dpAll_plain h.2)
theorem lay_plain {x : V} (h : plainV x = true) : (toD x).canLay0 = true := by
  cases x with
  | str s => exact h
  | non => rfl
  | bl b => rfl
  | int i => rfl
  | _ => cases h
theorem layAll_plain : ∀ {xs : List V}, xs.all plainV = true → PyData.canLayAll0 (xs.map toD) = true
  | [], _ => by simp [PyData.canLayAll0]
  | x :: xs, h => by
    rw [List.all_cons, Bool.and_eq_true] at h
    rw [List.map_cons, PyData.canLayAll0, lay_plain h.1, layAll_plain h.2]
    rfl
theorem depth_plain {x : V} : (toD x).depth = 0 := by cases x <;> simp [toD, PyData.depth]
theorem depthAll_plain : ∀ {xs : List V}, PyData.depthAll (xs.map toD) = 0
  | [] => by simp [PyData.depthAll]
  | x :: xs => by
    rw [List.map_cons, PyData.depthAll, depth_plain, depthAll_plain]
    rfl
theorem shaped_plain {x : V} (h : plainV x = true) : SeqAt.shaped (toD x) = true := by
  unfold SeqAt.shaped
  rw [lay_plain h, depth_plain]
  rfl
theorem shaped_list {xs : List V} (h : xs.all plainV = true) : SeqAt.shaped (.list (xs.map toD)) = true := by
  unfold SeqAt.shaped
  rw [show (PyData.list (xs.map toD)).canLay0 = true by rw [PyData.canLay0]; exact layAll_plain h]
  rw [show (PyData.list (xs.map toD)).depth = 1 by rw [PyData.depth, depthAll_plain]]
  rfl
theorem shaped_tup {xs : List V} (h : xs.all plainV = true) : SeqAt.shaped (.tuple (xs.map toD)) = true := by
  unfold SeqAt.shaped
  rw [show (PyData.tuple (xs.map toD)).canLay0 = true by rw [PyData.canLay0]; exact layAll_plain h]
  rw [show (PyData.tuple (xs.map toD)).depth = 1 by rw [PyData.depth, depthAll_plain]]
  rfl
theorem eqv_same {d : PyData} (h : SeqAt.shaped d = true) : PyData.eqv d d = true := PySem.SeqAt.eqv_refl d (SeqAt.canLay_of_shaped h)
section
variable {K : PySem.W.Frag} {σ : L2.St} {H : Hp} {ta tb te : TE} {x : V}
theorem rv_eqD {y : V} {d e : PyData} (h : Dp K H x d) (h2 : Dp K H y e) (hd : SeqAt.shaped d = true) (he : SeqAt.shaped e = true) (hm : ∀ H1, Ex H H1 → Dp K H1 x d) (hm2 : ∀ H1, Ex H H1 → Dp K H1 y e) : RV (rEqD K) x y H (.bl (PyData.eqv d e)) := fun H1 e1 Q q =>
  ⟨d, e, hm H1 e1, hm2 H1 e1, hd, he, q H1 (Ex.refl H1)⟩
mutual
theorem dp_mono {H1 : Hp} (e : Ex H H1) : ∀ {v : V} {d : PyData}, Dp K H v d → Dp K H1 v d
  | _, _, .non => .non
  | _, _, .bl b => .bl b
  | _, _, .int i => .int i
  | _, _, .str s => .str s
  | _, _, .lst h a => .lst (ex_l e h) (dpAll_mono e a)
  | _, _, .tup h a => .tup (ex_t e h) (dpAll_mono e a)
theorem dpAll_mono {H1 : Hp} (e : Ex H H1) : ∀ {vs : List V} {ds : List PyData}, DpAll K H vs ds → DpAll K H1 vs ds
  | _, _, .nil => .nil
  | _, _, .cons h a => .cons (dp_mono e h) (dpAll_mono e a)
end
/-- xs == ys, xs != ys of two new lists of like plain values -/
theorem ev_eqNL {xs : List V} (ha : EvL ta σ H xs) (hb : ∀ H1, Ex H H1 → EvL tb σ H1 xs) (h : xs.all plainV = true) : Ev (tOp (rEqD K) ta tb) σ H (.bl true) := fun H1 e Q q =>
  ha H1 e _ fun p H2 _ e2 hp => hb H2 (e.trans e2) H2 (Ex.refl H2) _ fun r H3 _ e3 hr => ⟨.list (xs.map toD), .list (xs.map toD), .lst (sq_of (e3 _ _ hp)) (dpAll_plain h), .lst (sq_of hr) (dpAll_plain h), shaped_list h, shaped_list h, by
    rw [eqv_same (shaped_list h)]
    exact q H3 (e2.trans e3)⟩
theorem ev_neNL {xs : List V} (ha : EvL ta σ H xs) (hb : ∀ H1, Ex H H1 → EvL tb σ H1 xs) (h : xs.all plainV = true) : Ev (tOp (rNeD K) ta tb) σ H (.bl false) := fun H1 e Q q =>
  ha H1 e _ fun p H2 _ e2 hp => hb H2 (e.trans e2) H2 (Ex.refl H2) _ fun r H3 _ e3 hr => ⟨.list (xs.map toD), .list (xs.map toD), .lst (sq_of (e3 _ _ hp)) (dpAll_plain h), .lst (sq_of hr) (dpAll_plain h), shaped_list h, shaped_list h, by
    rw [eqv_same (shaped_list h)]
    exact q H3 (e2.trans e3)⟩
/-- a + b of lists: the first one a name's | new -/
theorem el_cat {p : Addr} {xs ys : List V} (ha : Ev ta σ H (.ref p)) (hp : H p = some (.lst xs)) (hb : EvL tb σ H ys) (hz : xs.length + ys.length ≤ 100000) : EvL (tOp rCat ta tb) σ H (xs ++ ys) := fun H1 e Q q =>
  ha H1 e _ fun H2 e2 => hb H2 (e.trans e2) _ fun r H3 hr e3 h3 => ⟨p, r, xs, ys, rfl, rfl, ((e.trans e2).trans e3) _ _ hp, h3, sz_of hz, fun l hl => q l _ (fresh_back (e2.trans e3) hl) ((e2.trans e3).trans (Ex.new hl)) upd_same⟩
theorem el_catN {xs ys : List V} (ha : EvL ta σ H xs) (hb : ∀ H1, Ex H H1 → EvL tb σ H1 ys) (hz : xs.length + ys.length ≤ 100000) : EvL (tOp rCat ta tb) σ H (xs ++ ys) := fun H1 e Q q =>
  ha H1 e _ fun p H2 _ e2 hp => hb H2 (e.trans e2) H2 (Ex.refl H2) _ fun r H3 _ e3 h3 => ⟨p, r, xs, ys, rfl, rfl, e3 _ _ hp, h3, sz_of hz, fun l hl => q l _ (fresh_back (e2.trans e3) hl) ((e2.trans e3).trans (Ex.new hl)) upd_same⟩
/-- a list * n, the list new -/
theorem el_repN {xs : List V} {n : Int} (ha : EvL ta σ H xs) (hb : ∀ H1, Ex H H1 → Ev tb σ H1 (.int n)) (h0 : -100000 ≤ n) (h1 : n ≤ 100000) (hz : xs.length * n.toNat ≤ 100000) : EvL (tOp rRep ta tb) σ H (List.replicate n.toNat xs).flatten := fun H1 e Q q =>
  ha H1 e _ fun p H2 _ e2 hp => hb H2 (e.trans e2) H2 (Ex.refl H2) _ fun H3 e3 => ⟨p, n, xs, rfl, rfl, e3 _ _ hp, by omega, by omega, sz_of hz, fun l hl => q l _ (fresh_back (e2.trans e3) hl) ((e2.trans e3).trans (Ex.new hl)) upd_same⟩
/-! ### kept errors -/
theorem xd_mono {H1 : Hp} {d : Option Addr} (e : Ex H H1) (h : XdOk H d) : XdOk H1 d := by
  rcases h with rfl | ⟨dd, fs, rfl, h⟩
  · exact .inl rfl
  · exact .inr ⟨dd, fs, rfl, e _ _ h⟩
/-- x is a kept error of the class named n -/
def IsErr (K : PySem.W.Frag) (H : Hp) (x : V) (n : Str) : Prop := ∃ a d, x = .ref a ∧ H a = some (ExK (.ref (He.ga K n)) d a) ∧ XdOk H d
theorem IsErr.mono {H1 : Hp} {n : Str} (e : Ex H H1) (h : IsErr K H x n) : IsErr K H1 x n := by
  obtain ⟨a, d, r, h1, h2⟩ := h
  exact ⟨a, d, r, e _ _ h1, xd_mono e h2⟩
theorem ev_isE {c : V} {cv : Value} {n : Str} {b : Bool} (h : Ev ta σ H x) (hx : IsErr K H x n) (hc : ExcC K (He.ga K n)) (hcv : ClsV c cv) (hb : PySem.W.kitOne K (.ref (He.ga K n)) cv = some b) :
    Ev (tCB (rIsA K) (tCons ta (tCons (tC c) tNil))) σ H (.bl b) := fun H1 e Q q => h H1 e _ fun H2 e2 => by
  obtain ⟨a, d, rfl, h1, h2⟩ := hx.mono (e.trans e2)
  exact .inr ⟨a, He.ga K n, d, c, cv, b, rfl, h1, h2, hc, hcv, hb, q H2 e2⟩
/-- .. of a plain value -/
theorem ev_isP {n m : String} {b : Bool} (h : Ev ta σ H x) (hn : tyS x = some n) (hb : kitB n m = some b) : Ev (tCB (rIsA K) (tCons ta (tCons (tC (.ty m)) tNil))) σ H (.bl b) := fun H1 e Q q =>
  h H1 e _ fun H2 e2 => .inl ⟨x, .ty m, .type n, .type m, b, rfl, .ty m, tyS_ok hn H2, kit_ty hb, q H2 e2⟩
theorem ev_callS {sp : Sp} {vs : List V} {E : L2.St → XK} {ta : TA} {z : V} (h : EvA ta σ H vs) (hs : SpV sp vs H z) : Ev (tCallS sp E ta) σ H z := fun H1 e Q q =>
  h H1 e _ fun H2 e2 => hs H2 (e.trans e2) Q (fun H3 e3 => q H3 (e2.trans e3)) (E σ)
theorem s_dropX {sp : Sp} {vs : List V} {E : L2.St → XK} {ta : TA} {D : Ends} (h : EvA ta σ H vs) (k : ∀ H1, Ex H H1 → sp vs H1 (fun _ H2 => D.nx σ H2) (E σ)) : tDrop (tCallS sp E ta) D σ H := h H (Ex.refl H) _ k
end
/-! ### tries -/
section
variable {K : PySem.W.Frag} {σ : L2.St} {H : Hp} {D : Ends} {tz : TS} {c : Value} {i : Nat} {tb : WX → TS} {ts : Addr → Value → Option Addr → TS} {Wout : WX}
theorem q_try (h : tb (wKeep K c i ts Wout { D with nx := tz D }) { D with nx := tz D } σ H) : tSeq (tTryKeep K c i tb ts Wout) tz D σ H := h
/-- an error comes to a clause that names it, its suite keeps it in slot j -/
theorem keep_err {j : Nat} {cls : Value} {d : Option Addr} (he : PySem.W.exmOne K cls c = some true) (hi : i < σ.length) (h : ∀ a, H a = none → D.nx ((((σ.set i (some (.ref a))).set j (some (.ref a)))).set i none) (upd H a (ExK cls d a))) :
    wKeep K c i (fun _ _ _ => tAsg (tVar i) (gName j)) Wout D cls d σ H :=
  ⟨true, he, fun _ a ha => ⟨.ref a, by rw [List.getElem?_set_self hi], h a ha⟩, fun z => nomatch z⟩
end
theorem RetV.mono {v : V} {H H1 : Hp} {Q : VK} (q : RetV v H Q) (e : Ex H H1) : RetV v H1 Q := fun H2 e2 => q H2 (e.trans e2)
theorem RetL.mono {xs : List V} {H H1 : Hp} {Q : VK} (q : RetL xs H Q) (e : Ex H H1) : RetL xs H1 Q := fun p H2 hp e2 h => q p H2 (fresh_back e hp) (e.trans e2) h
end Kr
/-! what two rows begin with in common; new lists as arguments; answers of which a word is told -/
namespace Kr
open PySem PySem.Spec PyProof.Rows L2 Evl
/-- how many signs two rows begin with in common -/
def com : List Bool → List Bool → Nat
  | x :: a, y :: b => if x = y then com a b + 1 else 0
  | _, _ => 0
theorem com_nil (a : List Bool) : com a [] = 0 := by cases a <;> rfl
theorem com_le : ∀ (a b : List Bool), com a b ≤ a.length
  | [], _ => Nat.zero_le _
  | x :: a, [] => Nat.zero_le _
  | x :: a, y :: b => by
    have := com_le a b
    unfold com
    split
    · exact Nat.succ_le_succ this
    · exact Nat.zero_le _
theorem com_symm : ∀ (a b : List Bool), com a b = com b a
  | [], [] => rfl
  | [], _ :: _ => rfl
  | _ :: _, [] => rfl
  | x :: a, y :: b => by
    unfold com
    rw [com_symm a b]
    by_cases h : x = y
    · subst h; rfl
    · rw [if_neg h, if_neg (fun z => h z.symm)]
theorem com_le2 (a b : List Bool) : com a b ≤ b.length := by rw [com_symm]; exact com_le b a
theorem com_end {a b : List Bool} {i : Nat} (h : ¬ (i < a.length ∧ i < b.length)) : com (a.drop i) (b.drop i) = 0 := by
  by_cases h1 : i < a.length
  · rw [List.drop_eq_nil_of_le (as := b) (i := i) (by omega), com_nil]
  · rw [List.drop_eq_nil_of_le (as := a) (i := i) (by omega)]
    cases b.drop i <;> rfl
theorem com_at {a b : List Bool} {i : Nat} (h1 : i < a.length) (h2 : i < b.length) : com (a.drop i) (b.drop i) = if a[i] = b[i] then com (a.drop (i + 1)) (b.drop (i + 1)) + 1 else 0 := by
  rw [List.drop_eq_getElem_cons h1, List.drop_eq_getElem_cons h2]
  rfl
theorem com_take : ∀ (a b : List Bool), a.take (com a b) = b.take (com a b)
  | [], b => by cases b <;> rfl
  | x :: a, [] => rfl
  | x :: a, y :: b => by
    unfold com
    split
    · rename_i h
      subst h
      rw [List.take_succ_cons, List.take_succ_cons, com_take a b]
    · rfl
theorem R_at {b : List Bool} {i : Nat} (h : i < b.length) : atI (R b) (i : Int) = some (bc b[i]) := by
  refine atI_nat ?_
  rw [R, List.getElem?_map, List.getElem?_eq_getElem h]
  rfl
theorem R_eq {a b : List Bool} : R a = R b ↔ a = b := ⟨R_inj, fun h => by rw [h]⟩
theorem cutL_mid {l : List Nat} {i j : Nat} : cutL l (some (i : Int)) (some (j : Int)) = (l.drop i).take (j - i) := by
  unfold cutL
  rw [HT.sIx_nat, HT.sIx_nat]
  by_cases h : i ≤ l.length
  · rw [Nat.min_eq_left h]
    by_cases h2 : j ≤ l.length
    · rw [Nat.min_eq_left h2]
    · rw [Nat.min_eq_right (by omega), List.take_of_length_le (l := l.drop i) (i := l.length - i) (by simp), List.take_of_length_le (by simp; omega)]
  · rw [Nat.min_eq_right (a := i) (by omega), List.drop_eq_nil_of_le (Nat.le_refl _), List.drop_eq_nil_of_le (by omega)]
    simp
theorem R_mid {b : List Bool} {i j : Nat} : cutL (R b) (some (i : Int)) (some (j : Int)) = R ((b.drop i).take (j - i)) := by rw [cutL_mid, R_drop, R_take]
/-- one sign cut out of each -/
theorem cut1_eq {a b : List Bool} {i : Nat} (h : i < a.length) : ((a.drop i).take 1 = (b.drop i).take 1) ↔ ∃ h2 : i < b.length, a[i] = b[i] := by
  have ha : (a.drop i).take 1 = [a[i]] := by rw [List.drop_eq_getElem_cons h]; rfl
  rw [ha]
  by_cases h2 : i < b.length
  · have hb : (b.drop i).take 1 = [b[i]] := by rw [List.drop_eq_getElem_cons h2]; rfl
    rw [hb]
    simp [h2]
  · rw [List.drop_eq_nil_of_le (as := b) (i := i) (by omega)]
    simp [h2]
section
variable {K : PySem.W.Frag} {σ : L2.St} {H : Hp} {ta tb te : TE} {D : Ends} {tz : TS} {x z : V}
/-- a call one of whose arguments is a new list -/
theorem ev_callL1 {sp : Sp} {E : XK} {xs : List V} (h : EvL ta σ H xs) (hb : ∀ H1, Ex H H1 → Ev tb σ H1 x) (hs : ∀ p H1, Ex H H1 → H1 p = some (.lst xs) → SpV sp [.ref p, x] H1 z) : Ev (tCall sp [] E (tCons ta (tCons tb tNil))) σ H z := fun H1 e Q q =>
  h H1 e _ fun p H2 _ e2 hp => hb H2 (e.trans e2) H2 (Ex.refl H2) _ fun H3 e3 => hs p H3 ((e.trans e2).trans e3) (e3 _ _ hp) H3 (Ex.refl H3) Q (fun H4 e4 => q H4 ((e2.trans e3).trans e4)) E
/-- a new list of which a word holds -/
def EvM (te : TE) (σ : L2.St) (H : Hp) (P : List V → Prop) : Prop := ∀ H1, Ex H H1 → ∀ Q : VK, (∀ xs p H2, P xs → H1 p = none → Ex H1 H2 → H2 p = some (.lst xs) → Q (.ref p) H2) → te σ H1 Q
/-- a value of which a word holds -/
def EvW (te : TE) (σ : L2.St) (H : Hp) (P : V → Prop) : Prop := ∀ H1, Ex H H1 → ∀ Q : VK, (∀ v H2, P v → Ex H1 H2 → Q v H2) → te σ H1 Q
theorem q_asgW {i : Nat} {P : V → Prop} (h : EvW te σ H P) (k : ∀ v H1, P v → Ex H H1 → tz D (σ.set i (some v)) H1) : tSeq (tAsg te (gName i)) tz D σ H := h H (Ex.refl H) _ k
theorem q_asgM {i : Nat} {P : List V → Prop} (h : EvM te σ H P) (k : ∀ xs p H1, P xs → H p = none → Ex H H1 → H1 p = some (.lst xs) → tz D (σ.set i (some (.ref p))) H1) : tSeq (tAsg te (gName i)) tz D σ H := h H (Ex.refl H) _ k
/-- a, b = a new list of two -/
theorem q_two {i j : Nat} {P : V → V → Prop} (h : EvM te σ H (fun xs => ∃ x y, xs = [x, y] ∧ P x y)) (k : ∀ x y H1, P x y → Ex H H1 → tz D ((σ.set i (some x)).set j (some y)) H1) : tSeq (tAsg te (gLst K 2 (gCons (gName i) (gCons (gName j) gNil)))) tz D σ H :=
  h H (Ex.refl H) _ fun xs p H1 ⟨x, y, e, hP⟩ _ e1 h1 => ⟨p, xs, rfl, sq_of h1, by rw [e]; rfl, by
    subst e
    exact ⟨x, [y], rfl, y, [], rfl, rfl, k x y H1 hP e1⟩⟩
/-- a call that may raise, its answer in a name -/
theorem s_asgX {sp : Sp} {vs : List V} {E : L2.St → XK} {ta : TA} {i : Nat} (h : EvA ta σ H vs) (k : ∀ H1, Ex H H1 → sp vs H1 (fun v H2 => D.nx (σ.set i (some v)) H2) (E σ)) : tAsg (tCallS sp E ta) (gName i) D σ H := h H (Ex.refl H) _ k
end
end Kr
/-! min and max of two texts; > and strip of texts; the order of rows -/
namespace PySem.Krt
open PySem Sem
/-- < of two values that are texts -/
def ltS : Value → Value → Bool
  | .str x _, .str y _ => decide (x.cps.toList < y.cps.toList)
  | _, _ => false
def isS : Value → Prop | .str _ _ => True | _ => False
theorem cmpOf_ltS {prog : Program} {w : World} {A : Around} (vs : Array Value) (hn : ∀ v ∈ vs, isS v) :
    CmpOf prog w A .Lt (fun i v => vs[i]? = some v) (fun i j => ltS (vs.getD i .none) (vs.getD j .none)) := fun i j vi vj s Q E hi hj h => by
  have e1 : vs.getD i .none = vi := by simp [Array.getD_eq_getD_getElem?, hi]
  have e2 : vs.getD j .none = vj := by simp [Array.getD_eq_getD_getElem?, hj]
  simp only [e1, e2] at h
  have n1 := hn _ (Array.mem_of_getElem? hi)
  have n2 := hn _ (Array.mem_of_getElem? hj)
  cases vi with
  | str x t => cases vj with
    | str y u => exact richCompare_gives (op := .Lt) (typeIs_str s _ t) (typeIs_str s _ u) F.slot_str_lt F.entry_str_lt (F.args_str_lt_2 _ _) (gives_str_lt _ _ t u) (fun x => nomatch x) h
    | _ => exact n2.elim
  | _ => exact n1.elim
theorem cmpOf_gtS {prog : Program} {w : World} {A : Around} (vs : Array Value) (hn : ∀ v ∈ vs, isS v) :
    CmpOf prog w A .Gt (fun i v => vs[i]? = some v) (fun i j => ltS (vs.getD j .none) (vs.getD i .none)) := fun i j vi vj s Q E hi hj h => by
  have e1 : vs.getD i .none = vi := by simp [Array.getD_eq_getD_getElem?, hi]
  have e2 : vs.getD j .none = vj := by simp [Array.getD_eq_getD_getElem?, hj]
  simp only [e1, e2] at h
  have n1 := hn _ (Array.mem_of_getElem? hi)
  have n2 := hn _ (Array.mem_of_getElem? hj)
  cases vi with
  | str x t => cases vj with
    | str y u => exact richCompare_gives (op := .Gt) (typeIs_str s _ t) (typeIs_str s _ u) F.slot_str_gt F.entry_str_gt (F.args_str_gt_2 _ _) (gives_str_gt _ _ t u) (fun x => nomatch x) h
    | _ => exact n2.elim
  | _ => exact n1.elim
theorem two_old {s : Shared} {a b : Value} {h' : Heap} (hk : ∀ c o, c ∉ [(s.heap.push { cls := .type "tuple", data := .seq #[a, b] }).objs.size] → ((s.heap.push { cls := .type "tuple", data := .seq #[a, b] }).push { cls := .type "tuple_iterator", data := .fields #[.ref s.heap.objs.size, .int 0 0] }).get? c = some o → h'.get? c = some o) :
    ∀ c o, s.heap.get? c = some o → h'.get? c = some o := fun c o e => by
  refine hk c o (fun hm => ?_) (Heap.get?_push_of_some _ (Heap.get?_push_of_some _ e))
  rcases List.mem_cons.mp hm with e1 | hm
  · have := Heap.lt_size e
    rw [e1, Heap.size_push] at this
    exact Nat.lt_irrefl _ (Nat.lt_of_succ_lt this)
  · cases hm
section
variable {prog : Program} {w : World} {A : Around} {E : Value → Shared → Prop} {s : Shared} {Q : Value → Shared → Prop} {a b : Value}
theorem min_two_txt (hh : A.handled = none) (ha : isS a) (hb : isS b)
    (h : ∀ h' tk, (∀ c o, s.heap.get? c = some o → h'.get? c = some o) → Q (if ltS b a then b else a) { s with heap := h', toks := tk }) :
    wpAny (model prog w) A (call (.builtin "min") [a, b]) Q E s := by
  have hT : (s.heap.push { cls := .type "tuple", data := .seq #[a, b] }).IsTuple s.heap.objs.size #[a, b] := ⟨_, Heap.get?_push_size _ rfl, rfl, 0, rfl⟩
  have hsz : (s.heap.push { cls := .type "tuple", data := .seq #[a, b] }).objs.size = s.heap.objs.size + 1 := Heap.size_push ..
  refine call_min_two (wpAny_pyIter_tuple hT ⟨_, [_, s.heap.objs.size], [_], _, _, _, _, rfl, Walks.tuple (A := A.in1) hh _ s.heap.objs.size (by rw [hsz]; exact Nat.ne_of_lt (Nat.lt_succ_self _)) #[a, b],
    ⟨⟨_, Heap.get?_push_size _ rfl, rfl, rfl⟩, hT.push _⟩, fun c hc => ?_, by simp, cmpOf_ltS #[a, b] (by simp [ha, hb]), fun v h' tk hP hk => ?_⟩)
  · show c < ((s.heap.push _).push _).objs.size
    rw [Heap.size_push, hsz]
    rcases List.mem_cons.mp hc with e1 | hc
    · rw [e1, hsz]; exact Nat.lt_succ_self _
    · rcases List.mem_cons.mp hc with e1 | hc
      · rw [e1]; exact Nat.lt_succ_of_lt (Nat.lt_succ_self _)
      · cases hc
  · have := h h' tk (two_old hk)
    have hv : v = if ltS b a then b else a := by
      cases hc : ltS b a <;> simp [argBest, hc] at hP <;> simp [hP]
    rw [hv]
    exact this
theorem max_two_txt (hh : A.handled = none) (ha : isS a) (hb : isS b)
    (h : ∀ h' tk, (∀ c o, s.heap.get? c = some o → h'.get? c = some o) → Q (if ltS a b then b else a) { s with heap := h', toks := tk }) :
    wpAny (model prog w) A (call (.builtin "max") [a, b]) Q E s := by
  have hT : (s.heap.push { cls := .type "tuple", data := .seq #[a, b] }).IsTuple s.heap.objs.size #[a, b] := ⟨_, Heap.get?_push_size _ rfl, rfl, 0, rfl⟩
  have hsz : (s.heap.push { cls := .type "tuple", data := .seq #[a, b] }).objs.size = s.heap.objs.size + 1 := Heap.size_push ..
  refine call_max_two (wpAny_pyIter_tuple hT ⟨_, [_, s.heap.objs.size], [_], _, _, _, _, rfl, Walks.tuple (A := A.in1) hh _ s.heap.objs.size (by rw [hsz]; exact Nat.ne_of_lt (Nat.lt_succ_self _)) #[a, b],
    ⟨⟨_, Heap.get?_push_size _ rfl, rfl, rfl⟩, hT.push _⟩, fun c hc => ?_, by simp, cmpOf_gtS #[a, b] (by simp [ha, hb]), fun v h' tk hP hk => ?_⟩)
  · show c < ((s.heap.push _).push _).objs.size
    rw [Heap.size_push, hsz]
    rcases List.mem_cons.mp hc with e1 | hc
    · rw [e1, hsz]; exact Nat.lt_succ_self _
    · rcases List.mem_cons.mp hc with e1 | hc
      · rw [e1]; exact Nat.lt_succ_of_lt (Nat.lt_succ_self _)
      · cases hc
  · have := h h' tk (two_old hk)
    have hv : v = if ltS a b then b else a := by
      cases hc : ltS a b <;> simp [argBest, hc] at hP <;> simp [hP]
    rw [hv]
    exact this
end
end PySem.Krt
namespace Kr
open PySem PySem.Spec PyProof.Rows L2 Evl
def rMinT : List V → Hp → VK → Prop := fun xs H Q => ∃ i j, xs = [.str i, .str j] ∧ Q (.str (if j.cps.toList < i.cps.toList then j else i)) H
def rMaxT : List V → Hp → VK → Prop := fun xs H Q => ∃ i j, xs = [.str i, .str j] ∧ Q (.str (if i.cps.toList < j.cps.toList then j else i)) H
def rGtT : R2 := fun x y H Q => ∃ i j, x = .str i ∧ y = .str j ∧ Q (.bl (decide (j.cps.toList < i.cps.toList))) H
def rGeT : R2 := fun x y H Q => ∃ i j, x = .str i ∧ y = .str j ∧ Q (.bl (!decide (i.cps.toList < j.cps.toList))) H
def rStripC : V → List V → Hp → VK → Prop := fun x xs H Q => ∃ a b, x = .str a ∧ xs = [.str b] ∧ a.length ≤ sizeLine ∧ Q (.str (Txt.stripChars a b)) H
section
variable {X : Cx}
theorem call_minT (hc : X.calm = true) : CallR X (.builtin "min") rMinT := by
  intro pins s σ H xs us Q I r h
  obtain ⟨i, j, rfl, q⟩ := h
  obtain ⟨u, w', rfl, ⟨t, rfl⟩, ⟨t', rfl⟩⟩ := vals2 r
  refine PySem.Krt.min_two_txt (I.ok.hd hc) trivial trivial fun h' tk k => ⟨_, H, I.kept k, ?_, q⟩
  unfold PySem.Krt.ltS
  by_cases hj : j.cps.toList < i.cps.toList
  · rw [if_pos hj, if_pos (by simpa using hj)]; exact ⟨_, rfl⟩
  · rw [if_neg hj, if_neg (by simpa using hj)]; exact ⟨_, rfl⟩
theorem call_maxT (hc : X.calm = true) : CallR X (.builtin "max") rMaxT := by
  intro pins s σ H xs us Q I r h
  obtain ⟨i, j, rfl, q⟩ := h
  obtain ⟨u, w', rfl, ⟨t, rfl⟩, ⟨t', rfl⟩⟩ := vals2 r
  refine PySem.Krt.max_two_txt (I.ok.hd hc) trivial trivial fun h' tk k => ⟨_, H, I.kept k, ?_, q⟩
  unfold PySem.Krt.ltS
  by_cases hj : i.cps.toList < j.cps.toList
  · rw [if_pos hj, if_pos (by simpa using hj)]; exact ⟨_, rfl⟩
  · rw [if_neg hj, if_neg (by simpa using hj)]; exact ⟨_, rfl⟩
theorem op_gtT' : OpR X (compareOp .Gt) rGtT := op_gt_str
theorem op_geT' : OpR X (compareOp .GtE) rGeT := op_ge_str
theorem mt_stripC : MtR X "str.strip" rStripC := mt_stripChars
end
section
variable {K : PySem.W.Frag} {σ : L2.St} {H : Hp} {ta tb te : TE} {x : V}
theorem ev_minT {a b : List Nat} (ha : Ev ta σ H (.str (T a))) (hb : Ev tb σ H (.str (T b))) : Ev (tCB rMinT (tCons ta (tCons tb tNil))) σ H (.str (T (if b < a then b else a))) := fun H1 e Q q =>
  ha H1 e _ fun H2 e2 => hb H2 (e.trans e2) _ fun H3 e3 => ⟨T a, T b, rfl, by
    have := q H3 (e2.trans e3)
    by_cases h : b < a
    · rw [if_pos h] at this; rw [if_pos (show (T b).cps.toList < (T a).cps.toList from h)]; exact this
    · rw [if_neg h] at this; rw [if_neg (show ¬ (T b).cps.toList < (T a).cps.toList from h)]; exact this⟩
theorem ev_maxT {a b : List Nat} (ha : Ev ta σ H (.str (T a))) (hb : Ev tb σ H (.str (T b))) : Ev (tCB rMaxT (tCons ta (tCons tb tNil))) σ H (.str (T (if a < b then b else a))) := fun H1 e Q q =>
  ha H1 e _ fun H2 e2 => hb H2 (e.trans e2) _ fun H3 e3 => ⟨T a, T b, rfl, by
    have := q H3 (e2.trans e3)
    by_cases h : a < b
    · rw [if_pos h] at this; rw [if_pos (show (T a).cps.toList < (T b).cps.toList from h)]; exact this
    · rw [if_neg h] at this; rw [if_neg (show ¬ (T a).cps.toList < (T b).cps.toList from h)]; exact this⟩
theorem rv_gtT {a b : List Nat} : RV rGtT (.str (T a)) (.str (T b)) H (.bl (decide (b < a))) := fun H1 _ Q q => ⟨T a, T b, rfl, rfl, q H1 (Ex.refl H1)⟩
theorem ev_gtT {a b : List Nat} (ha : Ev ta σ H (.str (T a))) (hb : Ev tb σ H (.str (T b))) : Ev (tOp rGtT ta tb) σ H (.bl (decide (b < a))) := ev_op ha hb rv_gtT
theorem rv_geT {a b : List Nat} : RV rGeT (.str (T a)) (.str (T b)) H (.bl (!decide (a < b))) := fun H1 _ Q q => ⟨T a, T b, rfl, rfl, q H1 (Ex.refl H1)⟩
theorem ev_geT {a b : List Nat} (ha : Ev ta σ H (.str (T a))) (hb : Ev tb σ H (.str (T b))) : Ev (tOp rGeT ta tb) σ H (.bl (!decide (a < b))) := ev_op ha hb rv_geT
theorem strip_R (b : List Bool) : Txt.stripChars (T (R b)) (T [48, 49]) = T [] := by
  have hg : ∀ c ∈ R b, (T [48, 49]).cps.contains c = true := by
    intro c hc
    obtain ⟨x, _, rfl⟩ := List.mem_map.mp hc
    cases x <;> simp [T, bc]
  show Txt.stripBy (fun c => (T [48, 49]).cps.contains c) true true (T (R b)) = _
  rw [stripBy_eq]
  have e : stripLo (fun c => (T [48, 49]).cps.contains c) true (T (R b)) = (R b).length := by
    unfold stripLo
    rw [if_pos rfl]
    show ((R b).takeWhile _).length = _
    congr 1
    generalize R b = l at hg
    induction l with
    | nil => rfl
    | cons c l ih => rw [List.takeWhile_cons, if_pos (hg c (List.mem_cons_self ..)), ih fun d hd => hg d (List.mem_cons_of_mem _ hd)]
  rw [e]
  unfold Builtin.Str.strSub T
  simp
theorem ev_stripR {b : List Bool} (h : Ev ta σ H (.str (T (R b)))) (hl : b.length ≤ 1000000) : Ev (tBM K "str" rStripC ta (tCons (tC (.str (T [48, 49]))) tNil)) σ H (.str (T [])) := fun H1 e Q q =>
  h H1 e _ fun H2 e2 => ⟨rfl, T (R b), T [48, 49], rfl, rfl, by rw [T_len, R_len, sizeLine_eq]; omega, by
    rw [strip_R]
    exact q H2 e2⟩
end
/-! ### the order of rows -/
theorem not_lt_pre : ∀ (p t : List Nat), ¬ p ++ t < p
  | [], t => by simp
  | c :: p, t => by
    rw [List.cons_append, List.cons_lt_cons_iff]
    rintro (h | ⟨_, h⟩)
    · exact Nat.lt_irrefl _ h
    · exact not_lt_pre p t h
theorem R_lt_or : ∀ (a b : List Bool), ¬ R a < R b → R a ≠ R b → R b < R a
  | [], [], _, h => absurd rfl h
  | [], y :: b, h, _ => absurd (List.Lex.nil) h
  | x :: a, [], _, _ => List.Lex.nil
  | x :: a, y :: b, h, h2 => by
    show bc y :: R b < bc x :: R a
    have h3 : ¬ bc x :: R a < bc y :: R b := h
    have h4 : ¬ bc x :: R a = bc y :: R b := h2
    rw [List.cons_lt_cons_iff] at h3 ⊢
    by_cases hb : bc x = bc y
    · rw [hb] at h3 h4
      exact .inr ⟨hb.symm, R_lt_or a b (fun z => h3 (.inr ⟨rfl, z⟩)) (fun z => h4 (by rw [z]))⟩
    · have : ¬ bc x < bc y := fun z => h3 (.inl z)
      exact .inl (by omega)
/-- how the lesser of two rows comes to be the lesser -/
theorem R_lt_cases : ∀ (a b : List Bool), R a < R b → (∃ c t, b = a ++ c :: t ∧ com a b = a.length) ∨ ∃ p s t, a = p ++ false :: s ∧ b = p ++ true :: t ∧ com a b = p.length
  | [], [], h => by cases h
  | [], y :: b, _ => .inl ⟨y, b, rfl, rfl⟩
  | x :: a, [], h => by cases h
  | x :: a, y :: b, h => by
    have h3 : bc x :: R a < bc y :: R b := h
    rw [List.cons_lt_cons_iff] at h3
    rcases h3 with h3 | ⟨h3, h4⟩
    · cases x with
      | true => cases y <;> exact absurd h3 (by decide)
      | false => cases y with
        | false => exact absurd h3 (by decide)
        | true => exact .inr ⟨[], a, b, rfl, rfl, rfl⟩
    · have hxy := bc_inj h3
      subst hxy
      have hc : com (x :: a) (x :: b) = com a b + 1 := if_pos rfl
      rcases R_lt_cases a b h4 with ⟨c, t, h5, h6⟩ | ⟨p, s, t, h5, h6, h7⟩
      · exact .inl ⟨c, t, by rw [List.cons_append, ← h5], by rw [hc, h6]; rfl⟩
      · exact .inr ⟨x :: p, s, t, by rw [List.cons_append, ← h5], by rw [List.cons_append, ← h6], by rw [hc, h7]; rfl⟩
theorem R_lt_pre {a : List Bool} {c : Bool} {t : List Bool} : R a < R (a ++ c :: t) := by rw [R_app]; exact lt_pre
theorem R_lt_split {p s t : List Bool} : R (p ++ false :: s) < R (p ++ true :: t) := by rw [R_app, R_app]; exact lt_split
theorem R_not_lt_pre {p t : List Bool} : ¬ R (p ++ t) < R p := by rw [R_app]; exact not_lt_pre _ _
end Kr
namespace Kr
open PySem PySem.Spec PyProof.Rows L2 Evl
local macro_rules | `(tactic| k_subL) => `(tactic| first
  | with_reducible exact ev_c
  | ((with_reducible apply ev_var); exact rfl)
  | with_reducible apply ev_addI
  | with_reducible apply ev_subI
  | with_reducible apply ev_modI
  | with_reducible apply ev_divI
  | with_reducible apply ev_mulI
  | with_reducible apply ev_shrI
  | with_reducible apply ev_shlI
  | with_reducible apply ev_powI
  | with_reducible apply ev_andI
  | with_reducible apply ev_ltI
  | with_reducible apply ev_leI
  | with_reducible apply ev_gtI
  | with_reducible apply ev_geI
  | with_reducible apply ev_addT
  | with_reducible apply ev_ltT
  | with_reducible apply ev_leT
  | with_reducible apply ev_mulT
  | with_reducible apply ev_ixT
  | with_reducible apply ev_isN
  | with_reducible apply ev_notN
  | with_reducible apply ev_neg
  | with_reducible apply ev_bits
  | with_reducible apply ev_slT
  | with_reducible apply eo_none
  | with_reducible apply eo_some
  | with_reducible apply ev_call
  | with_reducible apply ea_nil
  | with_reducible apply ea_cons
  | with_reducible apply et_test
  | with_reducible apply et_B
  | with_reducible apply et_not
  | with_reducible apply ev_notV)
local macro_rules | `(tactic| k_clsL) => `(tactic| repeat' k_subL)
def exL : List Str := ["NotAhead"]
abbrev Kx (K : PySem.W.Frag) : Prop := KxL exL K
def N__law_mixed : List Str := ["_law_cell", "_law_k", "_law_number"]
def t__law_mixed (K : PySem.W.Frag) : TS :=
  (tSeq (tAsg (tOp rModI (tOp rAddI (tOp rAddI (tOp rMulI (tOp rModI (tVar 0) (tC (.int 2147483647))) (tC (.int 48271))) (tOp rMulI (tVar 1) (tC (.int 69621)))) (tC (.int 11))) (tC (.int 2147483647))) (gName 2))
    (tSeq (tAsg (tOp rModI (tOp rMulI (tVar 2) (tVar 2)) (tC (.int 2147483629))) (gName 2))
    (tRet (tOp rModI (tOp rMulI (tVar 2) (tVar 2)) (tC (.int 2147483587))))))
def mixed (c k : Int) : Int :=
  let n := (c % 2147483647 * 48271 + k * 69621 + 11) % 2147483647
  let m := n * n % 2147483629
  m * m % 2147483587
theorem mixed_lo (c k : Int) : 0 ≤ mixed c k := Int.emod_nonneg _ (by decide)
theorem mixed_hi (c k : Int) : mixed c k < 2147483587 := Int.emod_lt_of_pos _ (by decide)
def sp__law_mixed (_ : PySem.W.Frag) : Sp := fun vs H Q _ => ∃ c k : Int, vs = [.int c, .int k] ∧ k.natAbs < 2 ^ 40 ∧ RetV (.int (mixed c k)) H Q
theorem len__law_mixed {K : PySem.W.Frag} {vs H Q E} (h : sp__law_mixed K vs H Q E) : vs.length = 2 := by
  obtain ⟨c, k, rfl, _⟩ := h
  rfl
theorem u__law_mixed {K : PySem.W.Frag} {H : Hp} {c k : Int} (h : k.natAbs < 2 ^ 40) : SpV (sp__law_mixed K) [.int c, .int k] H (.int (mixed c k)) := fun H1 e Q q E => ⟨c, k, rfl, h, q⟩
theorem rd__law_mixed {K : PySem.W.Frag} (vs : List V) (H : Hp) (Q : VK) (E : XK) (h : sp__law_mixed K vs H Q E) : t__law_mixed K { nx := fun _ H' => Q .non H', rt := Q } (start N__law_mixed vs) H := by
  obtain ⟨c, k, rfl, hk, q⟩ := h
  have hm : ∀ x m : Int, 0 < m → m < 2 ^ 40 → (x % m).natAbs < 2 ^ 40 := fun x m h1 h2 => by
    have := Int.emod_nonneg x (show m ≠ 0 by omega)
    have := Int.emod_lt_of_pos x h1
    omega
  refine q_asg (by
    k_clsL
    all_goals first
      | decide
      | exact mulx_ok (a := 40) (b := 40) (hm _ _ (by decide) (by decide)) (by decide) (by decide)
      | exact mulx_ok (a := 40) (b := 40) hk (by decide) (by decide)) fun H1 e1 => ?_
  refine q_asg (by
    k_clsL
    all_goals first
      | decide
      | exact mulx_ok (a := 40) (b := 40) (hm _ _ (by decide) (by decide)) (hm _ _ (by decide) (by decide)) (by decide)) fun H2 e2 => ?_
  refine s_ret (by
    k_clsL
    all_goals first
      | decide
      | exact mulx_ok (a := 40) (b := 40) (hm _ _ (by decide) (by decide)) (hm _ _ (by decide) (by decide)) (by decide)) fun H3 e3 => ?_
  exact q H3 ((e1.trans e2).trans e3)
def N__law_bits : List Str := ["_law_script", "_law_salt", "_law_bits_here", "_law_k", "_law_number"]
def t__law_bits (K : PySem.W.Frag) : TS :=
  (tSeq (tAsg (tC (.str (T []))) (gName 2))
    (tSeq (tFor (iRng1 (tCons (tCB (rLenK K) (tCons (tSl (rSlL K) (tVar 0) tNoPart (tPart (tC (.int 63)))) tNil)) tNil)) (gName 3)
    (tSeq (tAsg (tCall (sp__law_mixed K) [] E0 (tCons (tOp (rIxL K) (tVar 0) (tVar 3)) (tCons (tOp rAddI (tVar 3) (tVar 1)) tNil))) (gName 4))
    (tAsg (tOp rAddT (tVar 2) (tOp (rIxL K) (tLst (tCons (tC (.str (T [48]))) (tCons (tC (.str (T [49]))) (tCons (tC (.str (T [48, 48]))) (tCons (tC (.str (T [48, 49]))) (tCons (tC (.str (T [49, 48]))) (tCons (tC (.str (T [49, 49]))) (tCons (tC (.str (T [49, 49, 49, 49]))) (tCons (tC (.str (T [48, 48, 48, 48]))) tNil))))))))) (tOp rModI (tVar 4) (tC (.int 8))))) (gName 2))))
    (tRet (tVar 2))))
def tab8 (x : Int) : List Bool := match x.toNat with
  | 0 => [false] | 1 => [true] | 2 => [false, false] | 3 => [false, true] | 4 => [true, false] | 5 => [true, true] | 6 => [true, true, true, true] | _ => [false, false, false, false]
theorem tab8_len (x : Int) : (tab8 x).length ≤ 4 := by
  unfold tab8
  split <;> decide
def bitsTo (ns : List Int) (s : Int) : Nat → List Bool
  | 0 => []
  | i + 1 => bitsTo ns s i ++ tab8 (mixed (cellAt ns i) (i + s) % 8)
theorem bitsTo_len (ns : List Int) (s : Int) (i : Nat) : (bitsTo ns s i).length ≤ 4 * i := by
  induction i with
  | zero => exact Nat.le_refl _
  | succ i ih =>
    have := tab8_len (mixed (cellAt ns i) (i + s) % 8)
    rw [bitsTo, List.length_append]
    omega
def bitsOf (ns : List Int) (s : Int) : List Bool := bitsTo ns s ns.length
def sp__law_bits (K : PySem.W.Frag) : Sp := fun vs H Q _ => ∃ (a : Addr) (ns : List Int) (s : Int), vs = [.ref a, .int s] ∧ SqL K H a (ns.map V.int) ∧ ns.length ≤ 63 ∧ s.natAbs < 2 ^ 30 ∧ RetV (.str (T (R (bitsOf ns s)))) H Q
theorem len__law_bits {K : PySem.W.Frag} {vs H Q E} (h : sp__law_bits K vs H Q E) : vs.length = 2 := by
  obtain ⟨a, ns, k, rfl, _⟩ := h
  rfl
theorem u__law_bits {K : PySem.W.Frag} {H : Hp} {a : Addr} {ns : List Int} {s : Int} (hs : SqL K H a (ns.map V.int)) (h : ns.length ≤ 63) (h2 : s.natAbs < 2 ^ 30) : SpV (sp__law_bits K) [.ref a, .int s] H (.str (T (R (bitsOf ns s)))) := fun H1 e Q q E => ⟨a, ns, s, rfl, ex_l e hs, h, h2, q⟩
theorem rd__law_bits {K : PySem.W.Frag} (vs : List V) (H : Hp) (Q : VK) (E : XK) (h : sp__law_bits K vs H Q E) : t__law_bits K { nx := fun _ H' => Q .non H', rt := Q } (start N__law_bits vs) H := by
  obtain ⟨a, ns, s, rfl, hs, hl, hz, q⟩ := h
  refine q_asg ev_c fun H1 e1 => ?_
  refine q_forR1 (n := ns.length) (ea_cons (ev_len63 (ev_var rfl) (ex_l e1 hs) hl) ea_nil) (by omega)
    (fun i σ' H' => Ex H H' ∧ ∃ x y, σ' = [some (.ref a), some (.int s), some (.str (T (R (bitsTo ns s i)))), x, y]) (fun H2 e2 => ⟨e1.trans e2, none, none, rfl⟩) (fun i σ' H' hi hP => ?_) (fun σ' H' hP => ?_)
  · obtain ⟨eH, x, y, rfl⟩ := hP
    have hi2 : i < ns.length := by omega
    refine q_asg (ev_call (ea_cons (ev_op (ev_var rfl) (ev_var rfl) (rv_ixL (ex_l eH hs) (at_int hi2))) (ea_cons (ev_op (ev_var rfl) (ev_var rfl) rv_addI) ea_nil)) (u__law_mixed (by omega))) fun H3 e3 => ?_
    have h1 : ∀ m : Int, atI ([.str (T [48]), .str (T [49]), .str (T [48, 48]), .str (T [48, 49]), .str (T [49, 48]), .str (T [49, 49]), .str (T [49, 49, 49, 49]), .str (T [48, 48, 48, 48])] : List V) (m % 8) = some (.str (T (R (tab8 (m % 8))))) := by
      intro m
      have : m % 8 = 0 ∨ m % 8 = 1 ∨ m % 8 = 2 ∨ m % 8 = 3 ∨ m % 8 = 4 ∨ m % 8 = 5 ∨ m % 8 = 6 ∨ m % 8 = 7 := by omega
      rcases this with h | h | h | h | h | h | h | h <;> rw [h] <;> rfl
    have hb := bitsTo_len ns s i
    have ht := tab8_len (mixed (cellAt ns i) (i + s) % 8)
    refine s_asg (ev_op (ev_var rfl) (ev_ixNL (el_lst (by k_clsL) (by decide)) (fun H5 e5 => ev_op (ev_var rfl) ev_c (rv_modI (by decide))) (h1 (mixed (cellAt ns i) (i + s)))) (rv_addT (by rw [R_len, R_len]; omega))) fun H4 e4 => ?_
    refine ⟨(eH.trans e3).trans e4, some (.int i), some (.int (mixed (cellAt ns i) (i + s))), ?_⟩
    rw [bitsTo, R_app]
    rfl
  · obtain ⟨eH, x, y, rfl⟩ := hP
    exact s_ret (ev_var rfl) fun H2 e2 => q H2 (eH.trans e2)
def N__law_two : List Str := ["_law_script", "_law_bits_here", "_law_k", "_law_number", "_law_head", "_law_one", "_law_other", "_law_way"]
def t__law_two (K : PySem.W.Frag) : TS :=
  (tSeq (tAsg (tCall (sp__law_mixed K) [] E0 (tCons (tOp (rIxL K) (tVar 0) (tVar 2)) (tCons (tOp rAddI (tVar 2) (tC (.int 100))) tNil))) (gName 3))
    (tSeq (tAsg (tSl rSlS (tVar 1) tNoPart (tPart (tOp rModI (tVar 3) (tOp rAddI (tCB (rLenK K) (tCons (tVar 1) tNil)) (tC (.int 1)))))) (gName 4))
    (tSeq (tAsg (tOp rAddT (tVar 4) (tCall (sp__law_bits K) [] E0 (tCons (tLst (tCons (tOp (rIxL K) (tVar 0) (tVar 2)) tNil)) (tCons (tOp rAddI (tC (.int 300)) (tVar 2)) tNil)))) (gName 5))
    (tSeq (tAsg (tOp rAddT (tOp rAddT (tVar 4) (tCall (sp__law_bits K) [] E0 (tCons (tLst (tCons (tOp (rIxL K) (tVar 0) (tVar 2)) tNil)) (tCons (tOp rAddI (tC (.int 400)) (tVar 2)) tNil)))) (tCall (sp__law_bits K) [] E0 (tCons (tSl (rSlL K) (tVar 0) tNoPart (tPart (tOp rModI (tOp rDivI (tVar 3) (tC (.int 1000))) (tC (.int 9))))) (tCons (tC (.int 500)) tNil)))) (gName 6))
    (tSeq (tAsg (tOp rModI (tOp rDivI (tVar 3) (tC (.int 10000))) (tC (.int 6))) (gName 7))
    (tSeq (tIfS (tTest (tOp rEq (tVar 7) (tC (.int 1)))) (tAsg (tVar 5) (gName 6)) tNext)
    (tSeq (tIfS (tTest (tOp rEq (tVar 7) (tC (.int 2)))) (tAsg (tVar 4) (gName 5)) tNext)
    (tSeq (tIfS (tTest (tOp rEq (tVar 7) (tC (.int 3)))) (tSeq (tAsg (tOp rAddT (tOp rAddT (tVar 4) (tC (.str (T [48])))) (tVar 1)) (gName 5))
    (tAsg (tOp rAddT (tOp rAddT (tVar 4) (tC (.str (T [49])))) (tVar 5)) (gName 6))) tNext)
    (tRet (tLst (tCons (tVar 5) (tCons (tVar 6) tNil))))))))))))
def TwoRows (xs : List V) : Prop := ∃ x y, xs = [x, y] ∧ ∃ a b : List Bool, x = .str (T (R a)) ∧ y = .str (T (R b)) ∧ a.length ≤ 2000 ∧ b.length ≤ 2000
def sp__law_two (K : PySem.W.Frag) : Sp := fun vs H Q _ => ∃ (p : Addr) (ns : List Int) (bs : List Bool) (k : Nat), vs = [.ref p, .str (T (R bs)), .int k] ∧ SqL K H p (ns.map V.int) ∧ ns.length ≤ 63 ∧ bs.length ≤ 252 ∧ k < ns.length ∧ ∀ xs, TwoRows xs → RetL xs H Q
theorem len__law_two {K : PySem.W.Frag} {vs H Q E} (h : sp__law_two K vs H Q E) : vs.length = 3 := by
  obtain ⟨p, ns, bs, k, rfl, _⟩ := h
  rfl
theorem em_two {K : PySem.W.Frag} {σ : L2.St} {H : Hp} {t1 t2 t3 : TE} {p : Addr} {ns : List Int} {bs : List Bool} {k : Nat} (h1 : Ev t1 σ H (.ref p)) (h2 : Ev t2 σ H (.str (T (R bs)))) (h3 : Ev t3 σ H (.int k)) (hs : SqL K H p (ns.map V.int)) (hl : ns.length ≤ 63) (hb : bs.length ≤ 252) (hk : k < ns.length) :
    EvM (tCall (sp__law_two K) [] E0 (tCons t1 (tCons t2 (tCons t3 tNil)))) σ H TwoRows := fun H1 e Q q =>
  (ea_cons h1 (ea_cons h2 (ea_cons h3 ea_nil)) : EvA _ σ H _) H1 e _ fun H2 e2 => ⟨p, ns, bs, k, rfl, ex_l (e.trans e2) hs, hl, hb, hk, fun xs hx a H3 ha e3 h3 => q xs a H3 hx (fresh_back e2 ha) (e2.trans e3) h3⟩
theorem rd__law_two {K : PySem.W.Frag} (vs : List V) (H : Hp) (Q : VK) (E : XK) (h : sp__law_two K vs H Q E) : t__law_two K { nx := fun _ H' => Q .non H', rt := Q } (start N__law_two vs) H := by
  obtain ⟨p, ns, bs, k, rfl, hs, hl, hbs, hk, q⟩ := h
  have c1 : ∀ (σ : L2.St) (H1 : Hp), Ex H H1 → σ[0]? = some (some (.ref p)) → σ[2]? = some (some (.int (k : Int))) → Ev (tOp (rIxL K) (tVar 0) (tVar 2)) σ H1 (.int (cellAt ns k)) := fun σ H1 e h0 h2 => ev_op (ev_var h0) (ev_var h2) (rv_ixL (ex_l e hs) (at_int hk))
  refine q_asg (ev_call (ea_cons (c1 _ _ (Ex.refl H) rfl rfl) (ea_cons (ev_addI (ev_var rfl) ev_c) ea_nil)) (u__law_mixed (by omega))) fun H1 e1 => ?_
  generalize mixed (cellAt ns k) ((k : Int) + 100) = n
  obtain ⟨j, hj⟩ := Int.eq_ofNat_of_zero_le (Int.emod_nonneg n (show ((R bs).length : Int) + 1 ≠ 0 by omega))
  refine q_asg (v := .str (T (R (bs.take j)))) (ev_is (ev_slT (ev_var rfl) (by rw [R_len]; omega) eo_none (eo_some (ev_modI (ev_var rfl) (ev_addI (ev_lenT (ev_var rfl) (by rw [R_len]; omega)) ev_c) (by omega)))) (by rw [hj, cutL_pre, R_take])) fun H2 e2 => ?_
  have hh : (bs.take j).length ≤ 252 := by rw [List.length_take]; omega
  generalize bs.take j = hd at hh ⊢
  have one : ∀ (s : Int) (σ : L2.St) (H1 : Hp) (t : TE), Ex H H1 → σ[0]? = some (some (.ref p)) → σ[2]? = some (some (.int (k : Int))) → Ev t σ H1 (.int s) → s.natAbs < 2 ^ 30 → Ev (tCall (sp__law_bits K) [] E0 (tCons (tLst (tCons (tOp (rIxL K) (tVar 0) (tVar 2)) tNil)) (tCons t tNil))) σ H1 (.str (T (R (bitsOf [cellAt ns k] s)))) := fun s σ H1 t e h0 h2 ht hz =>
    ev_callL1 (el_lst (ea_cons (c1 σ H1 e h0 h2) ea_nil) (by simp)) (fun H2 e2 => ht.mono e2) fun p H2 e2 hp => u__law_bits (ns := [cellAt ns k]) (sq_of hp) (by simp) hz
  have l1 : ∀ s : Int, (bitsOf [cellAt ns k] s).length ≤ 4 := fun s => bitsTo_len [cellAt ns k] s 1
  refine q_asg (v := .str (T (R (hd ++ bitsOf [cellAt ns k] (300 + k))))) (ev_is (ev_addT (ev_var rfl) (one _ _ _ _ (e1.trans e2) rfl rfl (ev_addI ev_c (ev_var rfl)) (by omega)) (by rw [R_len, R_len]; have := l1 (300 + k); omega)) (by rw [R_app])) fun H3 e3 => ?_
  have h1 : (hd ++ bitsOf [cellAt ns k] (300 + k)).length ≤ 256 := by rw [List.length_append]; have := l1 (300 + k); omega
  generalize hd ++ bitsOf [cellAt ns k] (300 + k) = r1 at h1 ⊢
  have hc0 := Int.emod_nonneg (n / 1000) (show (9 : Int) ≠ 0 by decide)
  obtain ⟨m, hm⟩ := Int.eq_ofNat_of_zero_le hc0
  have hcut : cutV (ns.map V.int) none (some (m : Int)) = (ns.take m).map V.int := by
    unfold cutV
    rw [HT.sIx_none, HT.sIx_nat, List.drop_zero, Nat.sub_zero, ← List.map_take]
    by_cases hmn : m ≤ (ns.map V.int).length
    · rw [Nat.min_eq_left hmn]
    · rw [Nat.min_eq_right (by omega), List.length_map, List.take_of_length_le (Nat.le_refl _), List.take_of_length_le (by rw [List.length_map] at hmn; omega)]
  have hsl : EvL (tSl (rSlL K) (tVar 0) tNoPart (tPart (tOp rModI (tOp rDivI (tVar 3) (tC (.int 1000))) (tC (.int 9))))) [some (.ref p), some (.str (T (R bs))), some (.int (k : Int)), some (.int n), some (.str (T (R hd))), some (.str (T (R r1))), none, none] H3 ((ns.take m).map V.int) := by
    rw [← hcut]
    exact el_sl (ev_var rfl) eo_none (eo_some (ev_is (ev_modI (ev_divI (ev_var rfl) ev_c (wide_div (b := 20) (by decide) (by decide) (by decide) (by decide))) ev_c (by decide)) (by rw [hm]))) (ex_l ((e1.trans e2).trans e3) hs)
  have h5 : (bitsOf (ns.take m) 500).length ≤ 252 := by
    have := bitsTo_len (ns.take m) 500 (ns.take m).length
    rw [List.length_take] at this
    unfold bitsOf
    rw [List.length_take]
    omega
  refine q_asg (v := .str (T (R (hd ++ bitsOf [cellAt ns k] (400 + k) ++ bitsOf (ns.take m) 500)))) (ev_is (ev_addT (ev_addT (ev_var rfl) (one _ _ _ _ ((e1.trans e2).trans e3) rfl rfl (ev_addI ev_c (ev_var rfl)) (by omega)) (by rw [R_len, R_len]; have := l1 (400 + k); omega))
    (ev_callL1 hsl (fun H2 e2 => ev_c) fun p H2 e2 hp => u__law_bits (ns := ns.take m) (sq_of hp) (by rw [List.length_take]; omega) (by decide)) (by rw [List.length_append, R_len, R_len, R_len]; have := l1 (400 + k); omega)) (by rw [R_app, R_app])) fun H4 e4 => ?_
  have h2 : (hd ++ bitsOf [cellAt ns k] (400 + k) ++ bitsOf (ns.take m) 500).length ≤ 1000 := by rw [List.length_append, List.length_append]; have := l1 (400 + k); omega
  generalize hd ++ bitsOf [cellAt ns k] (400 + k) ++ bitsOf (ns.take m) 500 = r2 at h2 ⊢
  refine q_asg (ev_modI (ev_divI (ev_var rfl) ev_c (wide_div (b := 20) (by decide) (by decide) (by decide) (by decide))) ev_c (by decide)) fun H5 e5 => ?_
  generalize n / 10000 % 6 = way
  have fin : ∀ (x y : List Bool) (H6 : Hp), Ex H H6 → x.length ≤ 2000 → y.length ≤ 2000 → tRet (tLst (tCons (tVar 5) (tCons (tVar 6) tNil))) { nx := fun _ H' => Q .non H', rt := Q } [some (.ref p), some (.str (T (R bs))), some (.int (k : Int)), some (.int n), some (.str (T (R hd))), some (.str (T (R x))), some (.str (T (R y))), some (.int way)] H6 := fun x y H6 e6 hx hy =>
    s_retL (el_lst (ea_cons (ev_var rfl) (ea_cons (ev_var rfl) ea_nil)) (by simp)) (RetL.mono (q _ ⟨_, _, rfl, x, y, rfl, rfl, hx, hy⟩) e6)
  have tst : ∀ (c : Int) (x y : List Bool) (H6 : Hp), EvT (tTest (tOp rEq (tVar 7) (tC (.int c)))) [some (.ref p), some (.str (T (R bs))), some (.int (k : Int)), some (.int n), some (.str (T (R hd))), some (.str (T (R x))), some (.str (T (R y))), some (.int way)] H6 (decide (way = c)) := fun c x y H6 => et_test (ev_eqI (ev_var rfl) ev_c)
  have third : ∀ (x y : List Bool) (H6 : Hp), Ex H H6 → x.length ≤ 1000 → y.length ≤ 1000 → tSeq (tIfS (tTest (tOp rEq (tVar 7) (tC (.int 3)))) (tSeq (tAsg (tOp rAddT (tOp rAddT (tVar 4) (tC (.str (T [48])))) (tVar 1)) (gName 5))
    (tAsg (tOp rAddT (tOp rAddT (tVar 4) (tC (.str (T [49])))) (tVar 5)) (gName 6))) tNext) (tRet (tLst (tCons (tVar 5) (tCons (tVar 6) tNil)))) { nx := fun _ H' => Q .non H', rt := Q } [some (.ref p), some (.str (T (R bs))), some (.int (k : Int)), some (.int n), some (.str (T (R hd))), some (.str (T (R x))), some (.str (T (R y))), some (.int way)] H6 := fun x y H6 e6 hx hy => by
    refine q_when (tst 3 x y H6) (fun _ H7 e7 => ?_) (fun _ H7 e7 => fin x y H7 (e6.trans e7) (by omega) (by omega))
    refine q_asg (v := .str (T (R (hd ++ [false] ++ bs)))) (ev_is (ev_addT (ev_addT (b := R [false]) (ev_var rfl) ev_c (by rw [R_len, R_len]; simp; omega)) (ev_var rfl) (by rw [List.length_append, R_len, R_len, R_len]; simp; omega)) (by rw [R_app, R_app])) fun H8 e8 => ?_
    have l3 : (hd ++ [false] ++ bs).length ≤ 600 := by simp; omega
    generalize hd ++ [false] ++ bs = r3 at l3 ⊢
    refine s_asg (v := .str (T (R (hd ++ [true] ++ r3)))) (ev_is (ev_addT (ev_addT (b := R [true]) (ev_var rfl) ev_c (by rw [R_len, R_len]; simp; omega)) (ev_var rfl) (by rw [List.length_append, R_len, R_len, R_len]; simp; omega)) (by rw [R_app, R_app])) fun H9 e9 => ?_
    exact fin r3 (hd ++ [true] ++ r3) H9 (((e6.trans e7).trans e8).trans e9) (by omega) (by simp; omega)
  have second : ∀ (x y : List Bool) (H6 : Hp), Ex H H6 → x.length ≤ 1000 → y.length ≤ 1000 → tSeq (tIfS (tTest (tOp rEq (tVar 7) (tC (.int 2)))) (tAsg (tVar 4) (gName 5)) tNext) (tSeq (tIfS (tTest (tOp rEq (tVar 7) (tC (.int 3)))) (tSeq (tAsg (tOp rAddT (tOp rAddT (tVar 4) (tC (.str (T [48])))) (tVar 1)) (gName 5))
    (tAsg (tOp rAddT (tOp rAddT (tVar 4) (tC (.str (T [49])))) (tVar 5)) (gName 6))) tNext) (tRet (tLst (tCons (tVar 5) (tCons (tVar 6) tNil))))) { nx := fun _ H' => Q .non H', rt := Q } [some (.ref p), some (.str (T (R bs))), some (.int (k : Int)), some (.int n), some (.str (T (R hd))), some (.str (T (R x))), some (.str (T (R y))), some (.int way)] H6 := fun x y H6 e6 hx hy =>
    q_when (tst 2 x y H6) (fun _ H7 e7 => s_asg (ev_var rfl) fun H8 e8 => third hd y H8 ((e6.trans e7).trans e8) (by omega) hy) (fun _ H7 e7 => third x y H7 (e6.trans e7) hx hy)
  have e05 := (((e1.trans e2).trans e3).trans e4).trans e5
  exact q_when (tst 1 r1 r2 H5) (fun _ H7 e7 => s_asg (ev_var rfl) fun H8 e8 => second r1 r1 H8 ((e05.trans e7).trans e8) (by omega) (by omega)) (fun _ H7 e7 => second r1 r2 H7 (e05.trans e7) (by omega) (by omega))
def N__law_free_row : List Str := ["_law_rest", "_law_most", "_law_row", "_law_size", "_law_j"]
def t__law_free_row (K : PySem.W.Frag) : TS :=
  (tSeq (tAsg (tC (.str (T []))) (gName 2))
    (tSeq (tAsg (tOp rModI (tVar 0) (tOp rAddI (tVar 1) (tC (.int 1)))) (gName 3))
    (tSeq (tAsg (tOp rDivI (tVar 0) (tOp rAddI (tVar 1) (tC (.int 1)))) (gName 0))
    (tSeq (tFor (iRng1 (tCons (tVar 3) tNil)) (gName 4)
    (tAsg (tOp rAddT (tVar 2) (tOp rIxS (tC (.str (T [48, 49]))) (tOp rAndI (tOp rShrI (tVar 0) (tVar 4)) (tC (.int 1))))) (gName 2)))
    (tRet (tVar 2))))))
/-- the lower digits of a number, the lower ones first -/
def lowBits (x : Int) : Nat → List Bool
  | 0 => []
  | i + 1 => lowBits x i ++ [decide (x / 2 ^ i % 2 = 1)]
theorem lowBits_len (x : Int) (i : Nat) : (lowBits x i).length = i := by
  induction i with
  | zero => rfl
  | succ i ih => rw [lowBits, List.length_append, ih]; rfl
def freeRow (x m : Int) : List Bool := lowBits (x / (m + 1)) (x % (m + 1)).toNat
def sp__law_free_row (_ : PySem.W.Frag) : Sp := fun vs H Q _ => ∃ (x m : Int), vs = [.int x, .int m] ∧ 0 ≤ m ∧ m ≤ 1000 ∧ RetV (.str (T (R (freeRow x m)))) H Q
theorem len__law_free_row {K : PySem.W.Frag} {vs H Q E} (h : sp__law_free_row K vs H Q E) : vs.length = 2 := by
  obtain ⟨x, m, rfl, _⟩ := h
  rfl
theorem u__law_free_row {K : PySem.W.Frag} {H : Hp} {x m : Int} (h0 : 0 ≤ m) (h1 : m ≤ 1000) : SpV (sp__law_free_row K) [.int x, .int m] H (.str (T (R (freeRow x m)))) := fun H1 e Q q E => ⟨x, m, rfl, h0, h1, q⟩
theorem freeRow_len {x m : Int} (h0 : 0 ≤ m) : ((freeRow x m).length : Int) ≤ m := by
  unfold freeRow
  rw [lowBits_len]
  have := Int.emod_nonneg x (show m + 1 ≠ 0 by omega)
  have := Int.emod_lt_of_pos x (show 0 < m + 1 by omega)
  omega
theorem rd__law_free_row {K : PySem.W.Frag} (vs : List V) (H : Hp) (Q : VK) (E : XK) (h : sp__law_free_row K vs H Q E) : t__law_free_row K { nx := fun _ H' => Q .non H', rt := Q } (start N__law_free_row vs) H := by
  obtain ⟨x, m, rfl, h0, h1, q⟩ := h
  have hm := Int.emod_nonneg x (show m + 1 ≠ 0 by omega)
  have hm2 := Int.emod_lt_of_pos x (show 0 < m + 1 by omega)
  refine q_asg ev_c fun H1 e1 => ?_
  refine q_asg (v := .int (x % (m + 1))) (by
    k_clsL
    omega) fun H2 e2 => ?_
  refine q_asg (v := .int (x / (m + 1))) (by
    k_clsL
    exact wide_div (b := 20) (by omega) (by omega) (by decide) (by decide)) fun H3 e3 => ?_
  refine q_forR1 (n := x % (m + 1)) (ea_cons (ev_var rfl) ea_nil) (by omega)
    (fun i σ' H' => Ex H H' ∧ ∃ z, σ' = [some (.int (x / (m + 1))), some (.int m), some (.str (T (R (lowBits (x / (m + 1)) i)))), some (.int (x % (m + 1))), z]) (fun H4 e4 => ⟨((e1.trans e2).trans e3).trans e4, none, rfl⟩) (fun i σ' H' hi hP => ?_) (fun σ' H' hP => ?_)
  · obtain ⟨eH, z, rfl⟩ := hP
    refine s_asg (ev_op (ev_var rfl) (ev_op ev_c (ev_op (ev_op (ev_var rfl) (ev_var rfl) (rv_shrI (by omega))) ev_c rv_andI) (rv_ixT (by decide) (bit_at _ i))) (rv_addT (by rw [R_len, lowBits_len]; simp; omega))) fun H4 e4 => ?_
    refine ⟨eH.trans e4, some (.int i), ?_⟩
    rw [lowBits, R_app]
    rfl
  · obtain ⟨eH, z, rfl⟩ := hP
    exact s_ret (ev_var rfl) fun H2 e2 => q H2 (eH.trans e2)
def N_shared_signs : List Str := ["one", "other", "many"]
def t_shared_signs (K : PySem.W.Frag) : TS :=
  (tSeq (tAsg (tC (.int 0)) (gName 2))
    (tSeq (tWhile (tAnd (tTest (tOp rLtI (tVar 2) (tCB (rLenK K) (tCons (tVar 0) tNil)))) (tAnd (tTest (tOp rLtI (tVar 2) (tCB (rLenK K) (tCons (tVar 1) tNil)))) (tTest (tOp rEq (tOp rIxS (tVar 0) (tVar 2)) (tOp rIxS (tVar 1) (tVar 2))))))
    (tAug 2 (tC (.int 1)) (ipI fun i j => i + j)))
    (tRet (tVar 2))))
def sp_shared_signs (_ : PySem.W.Frag) : Sp := fun vs H Q _ => ∃ a b : List Bool, vs = [.str (T (R a)), .str (T (R b))] ∧ a.length ≤ 1000000 ∧ b.length ≤ 1000000 ∧ RetV (.int (com a b : Nat)) H Q
theorem len_shared_signs {K : PySem.W.Frag} {vs H Q E} (h : sp_shared_signs K vs H Q E) : vs.length = 2 := by
  obtain ⟨a, b, rfl, _⟩ := h
  rfl
theorem u_shared_signs {K : PySem.W.Frag} {H : Hp} {a b : List Bool} (h : a.length ≤ 1000000) (h2 : b.length ≤ 1000000) : SpV (sp_shared_signs K) [.str (T (R a)), .str (T (R b))] H (.int (com a b : Nat)) := fun H1 e Q q E => ⟨a, b, rfl, h, h2, q⟩
theorem rd_shared_signs {K : PySem.W.Frag} (vs : List V) (H : Hp) (Q : VK) (E : XK) (h : sp_shared_signs K vs H Q E) : t_shared_signs K { nx := fun _ H' => Q .non H', rt := Q } (start N_shared_signs vs) H := by
  obtain ⟨a, b, rfl, ha, hb, q⟩ := h
  have la : ∀ (σ : L2.St) (H : Hp), σ[0]? = some (some (.str (T (R a)))) → Ev (tCB (rLenK K) (tCons (tVar 0) tNil)) σ H (.int (a.length : Int)) := fun σ H h => by
    rw [← R_len a]; exact ev_lenT (ev_var h) (by rw [R_len]; omega)
  have lb : ∀ (σ : L2.St) (H : Hp), σ[1]? = some (some (.str (T (R b)))) → Ev (tCB (rLenK K) (tCons (tVar 1) tNil)) σ H (.int (b.length : Int)) := fun σ H h => by
    rw [← R_len b]; exact ev_lenT (ev_var h) (by rw [R_len]; omega)
  refine q_asg ev_c fun H1 e1 => ?_
  refine q_while (fun m σ' H' => Ex H H' ∧ ∃ i : Nat, m = a.length - i ∧ i ≤ a.length ∧ σ' = [some (.str (T (R a))), some (.str (T (R b))), some (.int (i : Int))] ∧ com a b = i + com (a.drop i) (b.drop i)) a.length ⟨e1, 0, rfl, Nat.zero_le _, rfl, (Nat.zero_add _).symm⟩ ?_
  rintro m σ' H' ⟨eH, i, rfl, hi, rfl, hc⟩
  by_cases hh : i < a.length ∧ i < b.length
  · have h1 := hh.1
    have h2 := hh.2
    have e3 := com_at h1 h2
    refine ⟨decide (a[i] = b[i]), ?_, fun hb2 H2 e2 => ?_, fun hb2 H2 e2 => ?_⟩
    · refine et_is (et_and (a := true) (et_test (ev_is (ev_ltI (ev_var rfl) (la _ _ rfl)) (by simpa using h1))) fun _ => et_and (a := true) (et_test (ev_is (ev_ltI (ev_var rfl) (lb _ _ rfl)) (by simpa using h2))) fun _ =>
        et_test (ev_eqT (ev_ixT (ev_var rfl) (ev_var rfl) (by rw [R_len]; omega) (R_at h1)) (ev_ixT (ev_var rfl) (ev_var rfl) (by rw [R_len]; omega) (R_at h2)))) ?_
      cases a[i] <;> cases b[i] <;> rfl
    · have hab : a[i] = b[i] := of_decide_eq_true hb2
      rw [if_pos hab] at e3
      refine ⟨_, fun σ2 H2 h => h, s_aug rfl ev_c fun H3 e4 => ⟨a.length - (i + 1), by omega, (eH.trans e2).trans e4, i + 1, rfl, h1, rfl, by omega⟩⟩
    · have hab : ¬ a[i] = b[i] := of_decide_eq_false hb2
      rw [if_neg hab] at e3
      refine s_ret (ev_var rfl) fun H3 e4 => ?_
      have : com a b = i := by omega
      rw [this] at q
      exact q H3 ((eH.trans e2).trans e4)
  · have e3 := com_end hh
    refine ⟨false, ?_, (fun hb2 => nomatch hb2), fun hb2 H2 e2 => ?_⟩
    · by_cases h1 : i < a.length
      · exact et_and (a := true) (b := false) (et_test (ev_is (ev_ltI (ev_var rfl) (la _ _ rfl)) (by simpa using h1))) fun _ => et_and (a := false) (b := false) (et_test (ev_is (ev_ltI (ev_var rfl) (lb _ _ rfl)) (by simpa using (show ¬ i < b.length by omega)))) fun z => nomatch z
      · exact et_and (a := false) (b := false) (et_test (ev_is (ev_ltI (ev_var rfl) (la _ _ rfl)) (by simpa using h1))) fun z => nomatch z
    · refine s_ret (ev_var rfl) fun H3 e4 => ?_
      have : com a b = i := by omega
      rw [this] at q
      exact q H3 ((eH.trans e2).trans e4)
def N_parting_of : List Str := ["one", "other"]
def t_parting_of (K : PySem.W.Frag) (E : XK) : TS :=
  (tSeq (tIfS (tNot (tTest (tOp rLtT (tVar 0) (tVar 1)))) (tRaiseX (.ref (He.ga K "NotAhead")) E) tNext)
    (tRet (tSl rSlS (tVar 1) tNoPart (tPart (tOp rAddI (tCall (sp_shared_signs K) [] E0 (tCons (tVar 0) (tCons (tVar 1) tNil))) (tC (.int 1)))))))
def sp_parting_of (K : PySem.W.Frag) : Sp := fun vs H Q E => ∃ a b : List Bool, vs = [.str (T (R a)), .str (T (R b))] ∧ a.length ≤ 1000000 ∧ b.length ≤ 1000000 ∧ (R a < R b → RetV (.str (T (R (b.take (com a b + 1))))) H Q) ∧ (¬ R a < R b → RaiseX (.ref (He.ga K "NotAhead")) H E)
theorem len_parting_of {K : PySem.W.Frag} {vs H Q E} (h : sp_parting_of K vs H Q E) : vs.length = 2 := by
  obtain ⟨a, b, rfl, _⟩ := h
  rfl
theorem u_parting_of {K : PySem.W.Frag} {H : Hp} {a b : List Bool} (h : a.length ≤ 1000000) (h2 : b.length ≤ 1000000) (h3 : R a < R b) : SpV (sp_parting_of K) [.str (T (R a)), .str (T (R b))] H (.str (T (R (b.take (com a b + 1))))) := fun H1 e Q q E => ⟨a, b, rfl, h, h2, fun _ => q, fun z => absurd h3 z⟩
theorem rd_parting_of {K : PySem.W.Frag} (vs : List V) (H : Hp) (Q : VK) (E : XK) (h : sp_parting_of K vs H Q E) : t_parting_of K E { nx := fun _ H' => Q .non H', rt := Q } (start N_parting_of vs) H := by
  obtain ⟨a, b, rfl, ha, hb, q, x⟩ := h
  by_cases hlt : R a < R b
  · refine q_when (b := false) (et_not (a := true) (et_test (ev_is (ev_ltT (ev_var rfl) (ev_var rfl)) (by simpa using hlt)))) (fun hf => nomatch hf) (fun _ H1 e1 => ?_)
    have e3 : cutL (R b) none (some ((com a b : Nat) + 1 : Int)) = R (b.take (com a b + 1)) := by
      rw [show ((com a b : Nat) + 1 : Int) = ((com a b + 1 : Nat) : Int) by simp, cutL_pre, R_take]
    exact s_ret (v := .str (T (R (b.take (com a b + 1))))) (ev_is (ev_slT (ev_var rfl) (by rw [R_len]; omega) eo_none (eo_some (ev_addI (ev_call (ea_cons (ev_var rfl) (ea_cons (ev_var rfl) ea_nil)) (u_shared_signs ha hb)) ev_c))) (by rw [e3])) fun H2 e2 => q hlt H2 (e1.trans e2)
  · refine q_when (b := true) (et_not (a := false) (et_test (ev_is (ev_ltT (ev_var rfl) (ev_var rfl)) (by simpa using hlt)))) (fun _ H1 e1 => ?_) (fun hf => nomatch hf)
    exact x hlt H1 e1
def N__law_good : List Str := ["_law_one", "_law_other", "_law_found", "_law_size"]
def t__law_good (K : PySem.W.Frag) : TS :=
  (tSeq (tAsg (tCall (sp_parting_of K) [] E0 (tCons (tVar 0) (tCons (tVar 1) tNil))) (gName 2))
    (tSeq (tIfS (tOr (tNot (tB (tCB (rIsi K) (tCons (tVar 2) (tCons (tC (.ty "str")) tNil))))) (tOr (tTest (tOp rLeT (tVar 2) (tVar 0))) (tOr (tTest (tOp rGtT (tVar 2) (tVar 1))) (tTest (tOp rNe (tBM K "str" rStripC (tVar 2) (tCons (tC (.str (T [48, 49]))) tNil)) (tC (.str (T [])))))))) (tRet (tC (.bl false))) tNext)
    (tSeq (tFor (iRng1 (tCons (tCB (rLenK K) (tCons (tVar 2) tNil)) tNil)) (gName 3)
    (tIfS (tTest (tOp rGtT (tSl rSlS (tVar 1) tNoPart (tPart (tVar 3))) (tVar 0))) (tRet (tC (.bl false))) tNext))
    (tRet (tC (.bl true))))))
def sp__law_good (_ : PySem.W.Frag) : Sp := fun vs H Q _ => ∃ a b : List Bool, vs = [.str (T (R a)), .str (T (R b))] ∧ a.length ≤ 2000 ∧ b.length ≤ 2000 ∧ R a < R b ∧ RetV (.bl true) H Q
theorem len__law_good {K : PySem.W.Frag} {vs H Q E} (h : sp__law_good K vs H Q E) : vs.length = 2 := by
  obtain ⟨a, b, rfl, _⟩ := h
  rfl
theorem u__law_good {K : PySem.W.Frag} {H : Hp} {a b : List Bool} (h : a.length ≤ 2000) (h2 : b.length ≤ 2000) (h3 : R a < R b) : SpV (sp__law_good K) [.str (T (R a)), .str (T (R b))] H (.bl true) := fun H1 e Q q E => ⟨a, b, rfl, h, h2, h3, q⟩
/-- the beginning that is told: behind the first, no more than the second, and all shorter ones no more than the first -/
theorem part_facts {a b : List Bool} (h : R a < R b) : R a < R (b.take (com a b + 1)) ∧ ¬ R b < R (b.take (com a b + 1)) ∧ (b.take (com a b + 1)).length = com a b + 1 ∧ ∀ k ≤ com a b, ¬ R a < R (b.take k) := by
  rcases R_lt_cases a b h with ⟨c, t, rfl, hc⟩ | ⟨p, s, t, rfl, rfl, hc⟩
  · have e : (a ++ c :: t).take (com a (a ++ c :: t) + 1) = a ++ c :: [] := by
      rw [hc, List.take_append, List.take_of_length_le (by omega), show a.length + 1 - a.length = 1 by omega]
      rfl
    rw [e]
    refine ⟨R_lt_pre, ?_, by rw [hc]; simp, fun k hk => ?_⟩
    · have : a ++ c :: t = (a ++ [c]) ++ t := by simp
      rw [this]
      exact R_not_lt_pre
    · rw [hc] at hk
      rw [List.take_append_of_le_length hk]
      have := R_not_lt_pre (p := a.take k) (t := a.drop k)
      rwa [List.take_append_drop] at this
  · have e : (p ++ true :: t).take (com (p ++ false :: s) (p ++ true :: t) + 1) = p ++ true :: [] := by
      rw [hc, List.take_append, List.take_of_length_le (by omega), show p.length + 1 - p.length = 1 by omega]
      rfl
    rw [e]
    refine ⟨R_lt_split, ?_, by rw [hc]; simp, fun k hk => ?_⟩
    · have : p ++ true :: t = (p ++ [true]) ++ t := by simp
      rw [this]
      exact R_not_lt_pre
    · rw [hc] at hk
      rw [List.take_append_of_le_length hk]
      have := R_not_lt_pre (p := p.take k) (t := p.drop k ++ false :: s)
      rwa [← List.append_assoc, List.take_append_drop] at this
theorem rd__law_good {K : PySem.W.Frag} (vs : List V) (H : Hp) (Q : VK) (E : XK) (h : sp__law_good K vs H Q E) : t__law_good K { nx := fun _ H' => Q .non H', rt := Q } (start N__law_good vs) H := by
  obtain ⟨a, b, rfl, ha, hb, hlt, q⟩ := h
  obtain ⟨f1, f2, f3, f4⟩ := part_facts hlt
  refine q_asg (ev_call (ea_cons (ev_var rfl) (ea_cons (ev_var rfl) ea_nil)) (u_parting_of (by omega) (by omega) hlt)) fun H1 e1 => ?_
  have l3 := com_le2 a b
  generalize hg : b.take (com a b + 1) = r at f1 f2 f3 ⊢
  refine q_when (b := false) (et_or (a := false) (b := false) (et_not (a := true) (et_B (ev_isi (ev_var rfl) rfl (by decide +kernel)))) fun _ => et_or (a := false) (b := false) (et_test (ev_is (ev_leT (ev_var rfl) (ev_var rfl)) (by simpa using f1)))
    fun _ => et_or (a := false) (b := false) (et_test (ev_is (ev_gtT (ev_var rfl) (ev_var rfl)) (by simpa using f2))) fun _ => et_test (ev_is (ev_neT (ev_stripR (ev_var rfl) (by omega)) ev_c) (by simp))) (fun hf => nomatch hf) (fun _ H2 e2 => ?_)
  refine q_forR1 (n := r.length) (ea_cons (by rw [← R_len r]; exact ev_lenT (ev_var rfl) (by rw [R_len]; omega)) ea_nil) (by omega)
    (fun i σ' H' => Ex H H' ∧ ∃ x, σ' = [some (.str (T (R a))), some (.str (T (R b))), some (.str (T (R r))), x]) (fun H3 e3 => ⟨(e1.trans e2).trans e3, none, rfl⟩) (fun i σ' H' hi hP => ?_) (fun σ' H' hP => ?_)
  · obtain ⟨eH, x, rfl⟩ := hP
    have e : cutL (R b) none (some (i : Int)) = R (b.take i) := by rw [cutL_pre, R_take]
    refine s_when (b := false) (et_test (ev_is (ev_gtT (ev_slT (ev_var rfl) (by rw [R_len]; omega) eo_none (eo_some (ev_var rfl))) (ev_var rfl)) (by rw [e]; simpa using f4 i (by omega)))) (fun hf => nomatch hf) (fun _ H3 e3 => ⟨eH.trans e3, _, rfl⟩)
  · obtain ⟨eH, x, rfl⟩ := hP
    exact s_ret ev_c fun H3 e3 => q H3 (eH.trans e3)
def N_law : List Str := ["_law_script", "_law_bits_here", "_law_k", "_law_one", "_law_other"]
def t_law (K : PySem.W.Frag) : TS :=
  (tSeq (tAsg (tCall (sp__law_bits K) [] E0 (tCons (tVar 0) (tCons (tC (.int 0)) tNil))) (gName 1))
    (tSeq (tFor (iRng1 (tCons (tCB (rLenK K) (tCons (tSl (rSlL K) (tVar 0) tNoPart (tPart (tC (.int 63)))) tNil)) tNil)) (gName 2)
    (tSeq (tAsg (tCall (sp__law_two K) [] E0 (tCons (tVar 0) (tCons (tVar 1) (tCons (tVar 2) tNil)))) (gLst K 2 (gCons (gName 3) (gCons (gName 4) gNil))))
    (tSeq (tIfS (tAnd (tTest (tOp rNe (tVar 3) (tVar 4))) (tNot (tB (tCall (sp__law_good K) [] E0 (tCons (tCB rMinT (tCons (tVar 3) (tCons (tVar 4) tNil))) (tCons (tCB rMaxT (tCons (tVar 3) (tCons (tVar 4) tNil))) tNil)))))) (tRet (tC (.bl false))) tNext)
    (tSeq (tAsg (tCall (sp__law_free_row K) [] E0 (tCons (tOp (rIxL K) (tVar 0) (tVar 2)) (tCons (tC (.int 30)) tNil))) (gName 3))
    (tSeq (tAsg (tCall (sp__law_free_row K) [] E0 (tCons (tOp rShrI (tOp (rIxL K) (tVar 0) (tVar 2)) (tC (.int 40))) (tCons (tC (.int 30)) tNil))) (gName 4))
    (tIfS (tAnd (tTest (tOp rNe (tVar 3) (tVar 4))) (tNot (tB (tCall (sp__law_good K) [] E0 (tCons (tCB rMinT (tCons (tVar 3) (tCons (tVar 4) tNil))) (tCons (tCB rMaxT (tCons (tVar 3) (tCons (tVar 4) tNil))) tNil)))))) (tRet (tC (.bl false))) tNext))))))
    (tRet (tC (.bl true)))))
def sp_law (K : PySem.W.Frag) : Sp := lawSp K
theorem len_law {K : PySem.W.Frag} {vs H Q E} (h : sp_law K vs H Q E) : vs.length = 1 := lawSp_len h
theorem rd_law {K : PySem.W.Frag} (vs : List V) (H : Hp) (Q : VK) (E : XK) (h : sp_law K vs H Q E) : t_law K { nx := fun _ H' => Q .non H', rt := Q } (start N_law vs) H := by
  obtain ⟨a, ns, rfl, hs, hl, _, q⟩ := h
  have hbl := bitsTo_len ns 0 ns.length
  refine q_asg (ev_call (ea_cons (ev_var rfl) (ea_cons ev_c ea_nil)) (u__law_bits hs hl (by decide))) fun H1 e1 => ?_
  have hb4 : (bitsOf ns 0).length ≤ 252 := by unfold bitsOf; omega
  generalize bitsOf ns 0 = bs at hb4 ⊢
  -- two rows asked, whichever the lesser one is
  have ask : ∀ (i : Nat) (r1 r2 : List Bool) (H3 : Hp), r1.length ≤ 2000 → r2.length ≤ 2000 → EvT (tAnd (tTest (tOp rNe (tVar 3) (tVar 4))) (tNot (tB (tCall (sp__law_good K) [] E0 (tCons (tCB rMinT (tCons (tVar 3) (tCons (tVar 4) tNil))) (tCons (tCB rMaxT (tCons (tVar 3) (tCons (tVar 4) tNil))) tNil))))))
      [some (.ref a), some (.str (T (R bs))), some (.int (i : Int)), some (.str (T (R r1))), some (.str (T (R r2)))] H3 false := fun i r1 r2 H3 l1 l2 => by
    refine et_is (et_and (a := !decide (R r1 = R r2)) (b := false) (et_test (ev_neT (ev_var rfl) (ev_var rfl))) fun hne => et_not (a := true) (et_B (ev_call (ea_cons (ev_minT (ev_var rfl) (ev_var rfl)) (ea_cons (ev_maxT (ev_var rfl) (ev_var rfl)) ea_nil)) ?_))) (by simp)
    have hne2 : R r1 ≠ R r2 := by simpa using hne
    by_cases h12 : R r1 < R r2
    · have h21 : ¬ R r2 < R r1 := List.lt_asymm h12
      rw [if_pos h12, if_neg h21]
      exact u__law_good l1 l2 h12
    · have h21 := R_lt_or r1 r2 h12 hne2
      rw [if_neg h12, if_pos h21]
      exact u__law_good l2 l1 h21
  refine q_forR1 (n := ns.length) (ea_cons (ev_len63 (ev_var rfl) (ex_l e1 hs) hl) ea_nil) (by omega)
    (fun i σ' H' => Ex H H' ∧ ∃ x y z, σ' = [some (.ref a), some (.str (T (R bs))), x, y, z]) (fun H2 e2 => ⟨e1.trans e2, none, none, none, rfl⟩) (fun i σ' H' hi hP => ?_) (fun σ' H' hP => ?_)
  · obtain ⟨eH, x, y, z, rfl⟩ := hP
    have hi2 : i < ns.length := by omega
    refine q_two (em_two (ev_var rfl) (ev_var rfl) (ev_var rfl) (ex_l eH hs) hl hb4 hi2) fun x y H2 hP e2 => ?_
    obtain ⟨r1, r2, rfl, rfl, l1, l2⟩ := hP
    refine q_when (b := false) (ask i r1 r2 H2 l1 l2) (fun hf => nomatch hf) (fun _ H3 e3 => ?_)
    refine q_asg (ev_call (ea_cons (ev_op (ev_var rfl) (ev_var rfl) (rv_ixL (ex_l ((eH.trans e2).trans e3) hs) (at_int hi2))) (ea_cons ev_c ea_nil)) (u__law_free_row (by decide) (by decide))) fun H4 e4 => ?_
    refine q_asg (ev_call (ea_cons (ev_shrI (ev_op (ev_var rfl) (ev_var rfl) (rv_ixL (ex_l (((eH.trans e2).trans e3).trans e4) hs) (at_int hi2))) ev_c (by decide)) (ea_cons ev_c ea_nil)) (u__law_free_row (by decide) (by decide))) fun H5 e5 => ?_
    have f1 := freeRow_len (x := cellAt ns i) (m := 30) (by decide)
    have f2 := freeRow_len (x := cellAt ns i / 2 ^ ((40 : Int)).toNat) (m := 30) (by decide)
    exact s_when (b := false) (ask i _ _ H5 (by omega) (by omega)) (fun hf => nomatch hf) (fun _ H6 e6 => ⟨((((eH.trans e2).trans e3).trans e4).trans e5).trans e6, _, _, _, rfl⟩)
  · obtain ⟨eH, x, y, z, rfl⟩ := hP
    exact s_ret ev_c fun H5 _ => q H5
/-! ### the text, def by def -/
def topS (i : Nat) : Stmt := PySem.Challenge.pw_keyrise_k53_parting_is_shortest.main.body.getD i (.Pass ⟨0, 0, 0, 0⟩)
abbrev s__law_mixed : Stmt := topS 8
theorem sc__law_mixed : FnScope N__law_mixed ["_law_cell", "_law_k"] (defScope s__law_mixed) := ⟨rfl, rfl, rfl, by decide +kernel, rfl, by decide +kernel, by decide +kernel⟩
def d__law_mixed : He.DefD := ⟨("_law_mixed", none), "_law_mixed", "_law_mixed", defArgs s__law_mixed, defBody s__law_mixed, defScope s__law_mixed, [], []⟩
abbrev s__law_bits : Stmt := topS 9
theorem sc__law_bits : FnScope N__law_bits ["_law_script", "_law_salt"] (defScope s__law_bits) := ⟨rfl, rfl, rfl, by decide +kernel, rfl, by decide +kernel, by decide +kernel⟩
def d__law_bits : He.DefD := ⟨("_law_bits", none), "_law_bits", "_law_bits", defArgs s__law_bits, defBody s__law_bits, defScope s__law_bits, [], []⟩
abbrev s__law_two : Stmt := topS 11
theorem sc__law_two : FnScope N__law_two ["_law_script", "_law_bits_here", "_law_k"] (defScope s__law_two) := ⟨rfl, rfl, rfl, by decide +kernel, rfl, by decide +kernel, by decide +kernel⟩
def d__law_two : He.DefD := ⟨("_law_two", none), "_law_two", "_law_two", defArgs s__law_two, defBody s__law_two, defScope s__law_two, [], []⟩
abbrev s__law_free_row : Stmt := topS 10
theorem sc__law_free_row : FnScope N__law_free_row ["_law_rest", "_law_most"] (defScope s__law_free_row) := ⟨rfl, rfl, rfl, by decide +kernel, rfl, by decide +kernel, by decide +kernel⟩
def d__law_free_row : He.DefD := ⟨("_law_free_row", none), "_law_free_row", "_law_free_row", defArgs s__law_free_row, defBody s__law_free_row, defScope s__law_free_row, [], []⟩
abbrev s_shared_signs : Stmt := topS 4
theorem sc_shared_signs : FnScope N_shared_signs ["one", "other"] (defScope s_shared_signs) := ⟨rfl, rfl, rfl, by decide +kernel, rfl, by decide +kernel, by decide +kernel⟩
def d_shared_signs : He.DefD := ⟨("shared_signs", none), "shared_signs", "shared_signs", defArgs s_shared_signs, defBody s_shared_signs, defScope s_shared_signs, [], []⟩
abbrev s_parting_of : Stmt := topS 5
theorem sc_parting_of : FnScope N_parting_of ["one", "other"] (defScope s_parting_of) := ⟨rfl, rfl, rfl, by decide +kernel, rfl, by decide +kernel, by decide +kernel⟩
def d_parting_of : He.DefD := ⟨("parting_of", none), "parting_of", "parting_of", defArgs s_parting_of, defBody s_parting_of, defScope s_parting_of, [], []⟩
abbrev s__law_good : Stmt := topS 12
theorem sc__law_good : FnScope N__law_good ["_law_one", "_law_other"] (defScope s__law_good) := ⟨rfl, rfl, rfl, by decide +kernel, rfl, by decide +kernel, by decide +kernel⟩
def d__law_good : He.DefD := ⟨("_law_good", none), "_law_good", "_law_good", defArgs s__law_good, defBody s__law_good, defScope s__law_good, [], []⟩
abbrev s_law : Stmt := topS 13
theorem sc_law : FnScope N_law ["_law_script"] (defScope s_law) := ⟨rfl, rfl, rfl, by decide +kernel, rfl, by decide +kernel, by decide +kernel⟩
def d_law : He.DefD := ⟨("law", none), "law", "law", defArgs s_law, defBody s_law, defScope s_law, [], []⟩
def exAll (K : PySem.W.Frag) : Bool := exsB K exL
def fa : List He.Fa := [.free "len", .free "range", .glo "_law_mixed", .glo "_law_bits", .exc "NotAhead", .glo "NotAhead", .glo "shared_signs", .glo "parting_of", .free "str", .free "isinstance", .glo "_law_two", .free "max", .free "min", .glo "_law_good", .glo "_law_free_row", .glo "law"]
def fn : List He.DefD := [d__law_mixed, d__law_bits, d__law_two, d__law_free_row, d_shared_signs, d_parting_of, d__law_good, d_law]
/-- what the top has written -/
structure Tx (K : PySem.W.Frag) (mg : Str → Option Value) : Prop where
  c : He.SaysD fa fn K
  x : exAll K = true
  h : ∃ h : Heap, K.In h ∧ h.Ns mainGlobals mg
section
variable {K : PySem.W.Frag} {mg : Str → Option Value}
theorem Tx.free_len (T : Tx K mg) : mg "len" = none := by
  obtain ⟨h, X, G⟩ := T.h
  exact He.free_ok X G (T.c.fact 0 (f := .free "len") rfl)
theorem Tx.free_range (T : Tx K mg) : mg "range" = none := by
  obtain ⟨h, X, G⟩ := T.h
  exact He.free_ok X G (T.c.fact 1 (f := .free "range") rfl)
theorem Tx.glo__law_mixed (T : Tx K mg) : mg "_law_mixed" = some (.ref (He.ga K "_law_mixed")) := by
  obtain ⟨h, X, G⟩ := T.h
  exact He.glo_ok X G (T.c.fact 2 (f := .glo "_law_mixed") rfl)
theorem Tx.glo__law_bits (T : Tx K mg) : mg "_law_bits" = some (.ref (He.ga K "_law_bits")) := by
  obtain ⟨h, X, G⟩ := T.h
  exact He.glo_ok X G (T.c.fact 3 (f := .glo "_law_bits") rfl)
theorem Tx.exc_NotAhead (T : Tx K mg) : PySem.W.excIn K (He.ga K "NotAhead") He.veBase "ValueError.__new__" = true ∧ PySem.W.keepIn K (.ref (He.ga K "NotAhead")) = true ∧ PySem.W.subIn K (.ref (He.ga K "NotAhead")) (.type "BaseException") = some true ∧ PySem.W.typeIn K (.ref (He.ga K "NotAhead")) = some (.type "type") := He.exc_ok (T.c.fact 4 (f := .exc "NotAhead") rfl)
theorem Tx.glo_NotAhead (T : Tx K mg) : mg "NotAhead" = some (.ref (He.ga K "NotAhead")) := by
  obtain ⟨h, X, G⟩ := T.h
  exact He.glo_ok X G (T.c.fact 5 (f := .glo "NotAhead") rfl)
theorem Tx.glo_shared_signs (T : Tx K mg) : mg "shared_signs" = some (.ref (He.ga K "shared_signs")) := by
  obtain ⟨h, X, G⟩ := T.h
  exact He.glo_ok X G (T.c.fact 6 (f := .glo "shared_signs") rfl)
theorem Tx.glo_parting_of (T : Tx K mg) : mg "parting_of" = some (.ref (He.ga K "parting_of")) := by
  obtain ⟨h, X, G⟩ := T.h
  exact He.glo_ok X G (T.c.fact 7 (f := .glo "parting_of") rfl)
theorem Tx.free_str (T : Tx K mg) : mg "str" = none := by
  obtain ⟨h, X, G⟩ := T.h
  exact He.free_ok X G (T.c.fact 8 (f := .free "str") rfl)
theorem Tx.free_isinstance (T : Tx K mg) : mg "isinstance" = none := by
  obtain ⟨h, X, G⟩ := T.h
  exact He.free_ok X G (T.c.fact 9 (f := .free "isinstance") rfl)
theorem Tx.glo__law_two (T : Tx K mg) : mg "_law_two" = some (.ref (He.ga K "_law_two")) := by
  obtain ⟨h, X, G⟩ := T.h
  exact He.glo_ok X G (T.c.fact 10 (f := .glo "_law_two") rfl)
theorem Tx.free_max (T : Tx K mg) : mg "max" = none := by
  obtain ⟨h, X, G⟩ := T.h
  exact He.free_ok X G (T.c.fact 11 (f := .free "max") rfl)
theorem Tx.free_min (T : Tx K mg) : mg "min" = none := by
  obtain ⟨h, X, G⟩ := T.h
  exact He.free_ok X G (T.c.fact 12 (f := .free "min") rfl)
theorem Tx.glo__law_good (T : Tx K mg) : mg "_law_good" = some (.ref (He.ga K "_law_good")) := by
  obtain ⟨h, X, G⟩ := T.h
  exact He.glo_ok X G (T.c.fact 13 (f := .glo "_law_good") rfl)
theorem Tx.glo__law_free_row (T : Tx K mg) : mg "_law_free_row" = some (.ref (He.ga K "_law_free_row")) := by
  obtain ⟨h, X, G⟩ := T.h
  exact He.glo_ok X G (T.c.fact 14 (f := .glo "_law_free_row") rfl)
theorem Tx.glo_law (T : Tx K mg) : mg "law" = some (.ref (He.ga K "law")) := by
  obtain ⟨h, X, G⟩ := T.h
  exact He.glo_ok X G (T.c.fact 15 (f := .glo "law") rfl)
theorem Tx.kx (T : Tx K mg) : Kx K := ⟨T.x⟩
theorem F__law_mixed (T : Tx K mg) : FunD K "_law_mixed" "_law_mixed" (defArgs s__law_mixed) (defBody s__law_mixed) (defScope s__law_mixed) [] [] (He.fAd K d__law_mixed.at_) (fdOf K d__law_mixed.at_) := fun_fdOf (T.c.def_ 0 (d := d__law_mixed) rfl)
theorem b__law_mixed (T : Tx K mg) : Binds K (fdOf K d__law_mixed.at_) ["_law_cell", "_law_k"] [] := (F__law_mixed T).bindsN fun _ _ _ _ _ _ us hl => match us, hl with | [_, _], _ => rfl
theorem F__law_bits (T : Tx K mg) : FunD K "_law_bits" "_law_bits" (defArgs s__law_bits) (defBody s__law_bits) (defScope s__law_bits) [] [] (He.fAd K d__law_bits.at_) (fdOf K d__law_bits.at_) := fun_fdOf (T.c.def_ 1 (d := d__law_bits) rfl)
theorem b__law_bits (T : Tx K mg) : Binds K (fdOf K d__law_bits.at_) ["_law_script", "_law_salt"] [] := (F__law_bits T).bindsN fun _ _ _ _ _ _ us hl => match us, hl with | [_, _], _ => rfl
theorem F__law_two (T : Tx K mg) : FunD K "_law_two" "_law_two" (defArgs s__law_two) (defBody s__law_two) (defScope s__law_two) [] [] (He.fAd K d__law_two.at_) (fdOf K d__law_two.at_) := fun_fdOf (T.c.def_ 2 (d := d__law_two) rfl)
theorem b__law_two (T : Tx K mg) : Binds K (fdOf K d__law_two.at_) ["_law_script", "_law_bits_here", "_law_k"] [] := (F__law_two T).bindsN fun _ _ _ _ _ _ us hl => match us, hl with | [_, _, _], _ => rfl
theorem F__law_free_row (T : Tx K mg) : FunD K "_law_free_row" "_law_free_row" (defArgs s__law_free_row) (defBody s__law_free_row) (defScope s__law_free_row) [] [] (He.fAd K d__law_free_row.at_) (fdOf K d__law_free_row.at_) := fun_fdOf (T.c.def_ 3 (d := d__law_free_row) rfl)
theorem b__law_free_row (T : Tx K mg) : Binds K (fdOf K d__law_free_row.at_) ["_law_rest", "_law_most"] [] := (F__law_free_row T).bindsN fun _ _ _ _ _ _ us hl => match us, hl with | [_, _], _ => rfl
theorem F_shared_signs (T : Tx K mg) : FunD K "shared_signs" "shared_signs" (defArgs s_shared_signs) (defBody s_shared_signs) (defScope s_shared_signs) [] [] (He.fAd K d_shared_signs.at_) (fdOf K d_shared_signs.at_) := fun_fdOf (T.c.def_ 4 (d := d_shared_signs) rfl)
theorem b_shared_signs (T : Tx K mg) : Binds K (fdOf K d_shared_signs.at_) ["one", "other"] [] := (F_shared_signs T).bindsN fun _ _ _ _ _ _ us hl => match us, hl with | [_, _], _ => rfl
theorem F_parting_of (T : Tx K mg) : FunD K "parting_of" "parting_of" (defArgs s_parting_of) (defBody s_parting_of) (defScope s_parting_of) [] [] (He.fAd K d_parting_of.at_) (fdOf K d_parting_of.at_) := fun_fdOf (T.c.def_ 5 (d := d_parting_of) rfl)
theorem b_parting_of (T : Tx K mg) : Binds K (fdOf K d_parting_of.at_) ["one", "other"] [] := (F_parting_of T).bindsN fun _ _ _ _ _ _ us hl => match us, hl with | [_, _], _ => rfl
theorem F__law_good (T : Tx K mg) : FunD K "_law_good" "_law_good" (defArgs s__law_good) (defBody s__law_good) (defScope s__law_good) [] [] (He.fAd K d__law_good.at_) (fdOf K d__law_good.at_) := fun_fdOf (T.c.def_ 6 (d := d__law_good) rfl)
theorem b__law_good (T : Tx K mg) : Binds K (fdOf K d__law_good.at_) ["_law_one", "_law_other"] [] := (F__law_good T).bindsN fun _ _ _ _ _ _ us hl => match us, hl with | [_, _], _ => rfl
theorem F_law (T : Tx K mg) : FunD K "law" "law" (defArgs s_law) (defBody s_law) (defScope s_law) [] [] (He.fAd K d_law.at_) (fdOf K d_law.at_) := fun_fdOf (T.c.def_ 7 (d := d_law) rfl)
theorem b_law (T : Tx K mg) : Binds K (fdOf K d_law.at_) ["_law_script"] [] := (F_law T).bindsN fun _ _ _ _ _ _ us hl => match us, hl with | [_], _ => rfl
end
section
variable {P : Program} {w : World} {K : PySem.W.Frag} {mg : Str → Option Value} {base : Heap}
theorem ok__law_mixed (T : Tx K mg) : FnOk P w K mg base (L2.CX P w) 1 (He.fAd K d__law_mixed.at_) (fdOf K d__law_mixed.at_) ["_law_cell", "_law_k"] (sp__law_mixed K) := by
  refine (F__law_mixed T).ok (k := 0) sc__law_mixed (fun vs H Q E h => len__law_mixed h) (fun cdv A outer s H vs Q E hr h => ⟨t__law_mixed K, ?_, rd__law_mixed vs H Q E h⟩)
  exact PSs.nox (pss_cons (ps_set (i := 2) sc__law_mixed.nd rfl (.inl rfl) (pe_op op_mod (pe_op op_add (pe_op op_add (pe_op op_mulX (pe_op op_mod (pv 0) pe_int) pe_int) (pe_op op_mulX (pv 1) pe_int)) pe_int) pe_int))
    (pss_cons (ps_set (i := 2) sc__law_mixed.nd rfl (.inl rfl) (pe_op op_mod (pe_op op_mulX (pv 2) (pv 2)) pe_int))
    (pss_one (ps_ret (pe_op op_mod (pe_op op_mulX (pv 2) (pv 2)) pe_int)))))
theorem ok__law_bits (T : Tx K mg) : FnOk P w K mg base (L2.CX P w) 2 (He.fAd K d__law_bits.at_) (fdOf K d__law_bits.at_) ["_law_script", "_law_salt"] (sp__law_bits K) := by
  refine (F__law_bits T).ok (k := 1) sc__law_bits (fun vs H Q E h => len__law_bits h) (fun cdv A outer s H vs Q E hr h => ⟨t__law_bits K, ?_, rd__law_bits vs H Q E h⟩)
  exact PSs.nox (pss_cons (ps_set (i := 2) sc__law_bits.nd rfl (.inl rfl) (pe_T (l := []) (by decide +kernel)))
    (pss_cons (ps_for PassesOwn.never rfl (pi_range1 (by rfl) T.free_range (pa_cons (pe_callB call_lenK (by rfl) T.free_len (by decide +kernel) (pa_cons (pe_slice sl_list (pv 0) po_none (po_some pe_int)) pa_nil)) pa_nil)) (pg_name (i := 3) sc__law_bits.nd rfl (.inl rfl)) (pss_cons (ps_set (i := 4) sc__law_bits.nd rfl (.inl rfl) (pe_call (ok__law_mixed T) hr (by rfl) T.glo__law_mixed (F__law_mixed T).kp (b__law_mixed T) .nil passL (pa_cons (pe_ix ix_list (pv 0) (pv 3) (fun _ _ => rfl)) (pa_cons (pe_op op_add (pv 3) (pv 1)) pa_nil))))
    (pss_one (ps_set (i := 2) sc__law_bits.nd rfl (.inl rfl) (pe_op op_addT (pv 2) (pe_ix ix_list (pe_lst (pa_cons (pe_T (l := [48]) (by decide +kernel)) (pa_cons (pe_T (l := [49]) (by decide +kernel)) (pa_cons (pe_T (l := [48, 48]) (by decide +kernel)) (pa_cons (pe_T (l := [48, 49]) (by decide +kernel)) (pa_cons (pe_T (l := [49, 48]) (by decide +kernel)) (pa_cons (pe_T (l := [49, 49]) (by decide +kernel)) (pa_cons (pe_T (l := [49, 49, 49, 49]) (by decide +kernel)) (pa_cons (pe_T (l := [48, 48, 48, 48]) (by decide +kernel)) pa_nil))))))))) (pe_op op_mod (pv 4) pe_int) (fun _ _ => rfl)))))))
    (pss_one (ps_ret (pv 2)))))
theorem ok__law_two (T : Tx K mg) : FnOk P w K mg base (L2.CX P w) 3 (He.fAd K d__law_two.at_) (fdOf K d__law_two.at_) ["_law_script", "_law_bits_here", "_law_k"] (sp__law_two K) := by
  refine (F__law_two T).ok (k := 2) sc__law_two (fun vs H Q E h => len__law_two h) (fun cdv A outer s H vs Q E hr h => ⟨t__law_two K, ?_, rd__law_two vs H Q E h⟩)
  exact PSs.nox (pss_cons (ps_set (i := 3) sc__law_two.nd rfl (.inl rfl) (pe_call (ok__law_mixed T) (hr.mono (by decide)) (by rfl) T.glo__law_mixed (F__law_mixed T).kp (b__law_mixed T) .nil passL (pa_cons (pe_ix ix_list (pv 0) (pv 2) (fun _ _ => rfl)) (pa_cons (pe_op op_add (pv 2) pe_int) pa_nil))))
    (pss_cons (ps_set (i := 4) sc__law_two.nd rfl (.inl rfl) (pe_slice sl_str (pv 1) po_none (po_some (pe_op op_mod (pv 3) (pe_op op_add (pe_callB call_lenK (by rfl) T.free_len (by decide +kernel) (pa_cons (pv 1) pa_nil)) pe_int)))))
    (pss_cons (ps_set (i := 5) sc__law_two.nd rfl (.inl rfl) (pe_op op_addT (pv 4) (pe_call (ok__law_bits T) hr (by rfl) T.glo__law_bits (F__law_bits T).kp (b__law_bits T) .nil passL (pa_cons (pe_lst (pa_cons (pe_ix ix_list (pv 0) (pv 2) (fun _ _ => rfl)) pa_nil)) (pa_cons (pe_op op_add pe_int (pv 2)) pa_nil)))))
    (pss_cons (ps_set (i := 6) sc__law_two.nd rfl (.inl rfl) (pe_op op_addT (pe_op op_addT (pv 4) (pe_call (ok__law_bits T) hr (by rfl) T.glo__law_bits (F__law_bits T).kp (b__law_bits T) .nil passL (pa_cons (pe_lst (pa_cons (pe_ix ix_list (pv 0) (pv 2) (fun _ _ => rfl)) pa_nil)) (pa_cons (pe_op op_add pe_int (pv 2)) pa_nil)))) (pe_call (ok__law_bits T) hr (by rfl) T.glo__law_bits (F__law_bits T).kp (b__law_bits T) .nil passL (pa_cons (pe_slice sl_list (pv 0) po_none (po_some (pe_op op_mod (pe_op op_fdivW (pv 3) pe_int) pe_int))) (pa_cons pe_int pa_nil)))))
    (pss_cons (ps_set (i := 7) sc__law_two.nd rfl (.inl rfl) (pe_op op_mod (pe_op op_fdivW (pv 3) pe_int) pe_int))
    (pss_cons (ps_if (pt_cmpR op_eq (pv 7) pe_int (nomark _)) (pss_one (ps_set (i := 6) sc__law_two.nd rfl (.inl rfl) (pv 5))) pss_nil)
    (pss_cons (ps_if (pt_cmpR op_eq (pv 7) pe_int (nomark _)) (pss_one (ps_set (i := 5) sc__law_two.nd rfl (.inl rfl) (pv 4))) pss_nil)
    (pss_cons (ps_if (pt_cmpR op_eq (pv 7) pe_int (nomark _)) (pss_cons (ps_set (i := 5) sc__law_two.nd rfl (.inl rfl) (pe_op op_addT (pe_op op_addT (pv 4) (pe_T (l := [48]) (by decide +kernel))) (pv 1)))
    (pss_one (ps_set (i := 6) sc__law_two.nd rfl (.inl rfl) (pe_op op_addT (pe_op op_addT (pv 4) (pe_T (l := [49]) (by decide +kernel))) (pv 5))))) pss_nil)
    (pss_one (ps_ret (pe_lst (pa_cons (pv 5) (pa_cons (pv 6) pa_nil)))))))))))))
theorem ok__law_free_row (T : Tx K mg) : FnOk P w K mg base (L2.CX P w) 1 (He.fAd K d__law_free_row.at_) (fdOf K d__law_free_row.at_) ["_law_rest", "_law_most"] (sp__law_free_row K) := by
  refine (F__law_free_row T).ok (k := 0) sc__law_free_row (fun vs H Q E h => len__law_free_row h) (fun cdv A outer s H vs Q E hr h => ⟨t__law_free_row K, ?_, rd__law_free_row vs H Q E h⟩)
  exact PSs.nox (pss_cons (ps_set (i := 2) sc__law_free_row.nd rfl (.inl rfl) (pe_T (l := []) (by decide +kernel)))
    (pss_cons (ps_set (i := 3) sc__law_free_row.nd rfl (.inl rfl) (pe_op op_mod (pv 0) (pe_op op_add (pv 1) pe_int)))
    (pss_cons (ps_set (i := 0) sc__law_free_row.nd rfl (.inl rfl) (pe_op op_fdivW (pv 0) (pe_op op_add (pv 1) pe_int)))
    (pss_cons (ps_for PassesOwn.never rfl (pi_range1 (by rfl) T.free_range (pa_cons (pv 3) pa_nil)) (pg_name (i := 4) sc__law_free_row.nd rfl (.inl rfl)) (pss_one (ps_set (i := 2) sc__law_free_row.nd rfl (.inl rfl) (pe_op op_addT (pv 2) (pe_ix ix_str (pe_T (l := [48, 49]) (by decide +kernel)) (pe_op op_and (pe_op op_shr (pv 0) (pv 4)) pe_int) (fun _ _ => rfl))))))
    (pss_one (ps_ret (pv 2)))))))
theorem ok_shared_signs (T : Tx K mg) : FnOk P w K mg base (L2.CX P w) 1 (He.fAd K d_shared_signs.at_) (fdOf K d_shared_signs.at_) ["one", "other"] (sp_shared_signs K) := by
  refine (F_shared_signs T).ok (k := 0) sc_shared_signs (fun vs H Q E h => len_shared_signs h) (fun cdv A outer s H vs Q E hr h => ⟨t_shared_signs K, ?_, rd_shared_signs vs H Q E h⟩)
  exact PSs.nox (pss_cons (ps_set (i := 2) sc_shared_signs.nd rfl (.inl rfl) pe_int)
    (pss_cons (ps_while PassesOwn.never (PW.pt (pw_and (pt_cmpR op_lt (pv 2) (pe_callB call_lenK (by rfl) T.free_len (by decide +kernel) (pa_cons (pv 0) pa_nil)) (nomark _)) (pw_and (pt_cmpR op_lt (pv 2) (pe_callB call_lenK (by rfl) T.free_len (by decide +kernel) (pa_cons (pv 1) pa_nil)) (nomark _)) (pw_and1 (pt_cmpR op_eq (pe_ix ix_str (pv 0) (pv 2) (fun _ _ => rfl)) (pe_ix ix_str (pv 1) (pv 2) (fun _ _ => rfl)) (nomark _)))))) (pss_one (ps_aug (i := 2) sc_shared_signs.nd rfl (.inl rfl) pe_int ip_add)))
    (pss_one (ps_ret (pv 2)))))
theorem ok_parting_of (T : Tx K mg) : FnOk P w K mg base (L2.CX P w) 2 (He.fAd K d_parting_of.at_) (fdOf K d_parting_of.at_) ["one", "other"] (sp_parting_of K) := by
  refine (F_parting_of T).ok (k := 1) sc_parting_of (fun vs H Q E h => len_parting_of h) (fun cdv A outer s H vs Q E hr h => ⟨t_parting_of K E, ?_, rd_parting_of vs H Q E h⟩)
  exact (pss_cons (ps_if (pt_not (pt_cmpR op_ltT' (pv 0) (pv 1) (nomark _))) (pss_one (ps_raise rfl (takes_of rfl rfl rfl rfl) (pmk_txt T.exc_NotAhead T.glo_NotAhead))) pss_nil)
    (pss_one (ps_ret (pe_slice sl_str (pv 1) po_none (po_some (pe_op op_add (pe_call (ok_shared_signs T) hr (by rfl) T.glo_shared_signs (F_shared_signs T).kp (b_shared_signs T) .nil passL (pa_cons (pv 0) (pa_cons (pv 1) pa_nil))) pe_int))))))
theorem ok__law_good (T : Tx K mg) : FnOk P w K mg base (L2.CX P w) 3 (He.fAd K d__law_good.at_) (fdOf K d__law_good.at_) ["_law_one", "_law_other"] (sp__law_good K) := by
  refine (F__law_good T).ok (k := 2) sc__law_good (fun vs H Q E h => len__law_good h) (fun cdv A outer s H vs Q E hr h => ⟨t__law_good K, ?_, rd__law_good vs H Q E h⟩)
  exact PSs.nox (pss_cons (ps_set (i := 2) sc__law_good.nd rfl (.inl rfl) (pe_call (ok_parting_of T) hr (by rfl) T.glo_parting_of (F_parting_of T).kp (b_parting_of T) .nil passL (pa_cons (pv 0) (pa_cons (pv 1) pa_nil))))
    (pss_cons (ps_if (PW.pt (pw_or (pt_not (pt_val (pe_callB call_isi (by rfl) T.free_isinstance (by decide +kernel) (pa_cons (pv 2) (pa_cons (pe_bltn (v := .ty "str") (by rfl) T.free_str (by decide +kernel) rfl) pa_nil))))) (pw_or (pt_cmpR op_leT' (pv 2) (pv 0) (nomark _)) (pw_or (pt_cmpR op_gtT' (pv 2) (pv 1) (nomark _)) (pw_or1 (pt_cmpR op_ne (pe_bm PySem.F.plainAttrs_str PySem.F.slot_str_strip PySem.F.type_str_strip mt_stripC (pv 2) (pa_cons (pe_T (l := [48, 49]) (by decide +kernel)) pa_nil)) (pe_T (l := []) (by decide +kernel)) (nomark _))))))) (pss_one (ps_ret pe_bl)) pss_nil)
    (pss_cons (ps_for PassesOwn.never rfl (pi_range1 (by rfl) T.free_range (pa_cons (pe_callB call_lenK (by rfl) T.free_len (by decide +kernel) (pa_cons (pv 2) pa_nil)) pa_nil)) (pg_name (i := 3) sc__law_good.nd rfl (.inl rfl)) (pss_one (ps_if (pt_cmpR op_gtT' (pe_slice sl_str (pv 1) po_none (po_some (pv 3))) (pv 0) (nomark _)) (pss_one (ps_ret pe_bl)) pss_nil)))
    (pss_one (ps_ret pe_bl)))))
theorem ok_law (T : Tx K mg) : FnOk P w K mg base (L2.CX P w) 4 (He.fAd K d_law.at_) (fdOf K d_law.at_) ["_law_script"] (sp_law K) := by
  refine (F_law T).ok (k := 3) sc_law (fun vs H Q E h => len_law h) (fun cdv A outer s H vs Q E hr h => ⟨t_law K, ?_, rd_law vs H Q E h⟩)
  exact PSs.nox (pss_cons (ps_set (i := 1) sc_law.nd rfl (.inl rfl) (pe_call (ok__law_bits T) (hr.mono (by decide)) (by rfl) T.glo__law_bits (F__law_bits T).kp (b__law_bits T) .nil passL (pa_cons (pv 0) (pa_cons pe_int pa_nil))))
    (pss_cons (ps_for PassesOwn.never rfl (pi_range1 (by rfl) T.free_range (pa_cons (pe_callB call_lenK (by rfl) T.free_len (by decide +kernel) (pa_cons (pe_slice sl_list (pv 0) po_none (po_some pe_int)) pa_nil)) pa_nil)) (pg_name (i := 2) sc_law.nd rfl (.inl rfl)) (pss_cons (ps_asg (pe_call (ok__law_two T) hr (by rfl) T.glo__law_two (F__law_two T).kp (b__law_two T) .nil passL (pa_cons (pv 0) (pa_cons (pv 1) (pa_cons (pv 2) pa_nil)))) (pg_lst rfl (pgs_cons (pg_name (i := 3) sc_law.nd rfl (.inl rfl)) (pgs_cons (pg_name (i := 4) sc_law.nd rfl (.inl rfl)) pgs_nil))))
    (pss_cons (ps_if (PW.pt (pw_and (pt_cmpR op_ne (pv 3) (pv 4) (nomark _)) (pw_and1 (pt_not (pt_val (pe_call (ok__law_good T) hr (by rfl) T.glo__law_good (F__law_good T).kp (b__law_good T) .nil passL (pa_cons (pe_callB (call_minT rfl) (by rfl) T.free_min (by decide +kernel) (pa_cons (pv 3) (pa_cons (pv 4) pa_nil))) (pa_cons (pe_callB (call_maxT rfl) (by rfl) T.free_max (by decide +kernel) (pa_cons (pv 3) (pa_cons (pv 4) pa_nil))) pa_nil)))))))) (pss_one (ps_ret pe_bl)) pss_nil)
    (pss_cons (ps_set (i := 3) sc_law.nd rfl (.inl rfl) (pe_call (ok__law_free_row T) (hr.mono (by decide)) (by rfl) T.glo__law_free_row (F__law_free_row T).kp (b__law_free_row T) .nil passL (pa_cons (pe_ix ix_list (pv 0) (pv 2) (fun _ _ => rfl)) (pa_cons pe_int pa_nil))))
    (pss_cons (ps_set (i := 4) sc_law.nd rfl (.inl rfl) (pe_call (ok__law_free_row T) (hr.mono (by decide)) (by rfl) T.glo__law_free_row (F__law_free_row T).kp (b__law_free_row T) .nil passL (pa_cons (pe_op op_shr (pe_ix ix_list (pv 0) (pv 2) (fun _ _ => rfl)) pe_int) (pa_cons pe_int pa_nil))))
    (pss_one (ps_if (PW.pt (pw_and (pt_cmpR op_ne (pv 3) (pv 4) (nomark _)) (pw_and1 (pt_not (pt_val (pe_call (ok__law_good T) hr (by rfl) T.glo__law_good (F__law_good T).kp (b__law_good T) .nil passL (pa_cons (pe_callB (call_minT rfl) (by rfl) T.free_min (by decide +kernel) (pa_cons (pv 3) (pa_cons (pv 4) pa_nil))) (pa_cons (pe_callB (call_maxT rfl) (by rfl) T.free_max (by decide +kernel) (pa_cons (pv 3) (pa_cons (pv 4) pa_nil))) pa_nil)))))))) (pss_one (ps_ret pe_bl)) pss_nil)))))))
    (pss_one (ps_ret pe_bl))))
end
def loose0 : List Str := ["RiseError", "NotAhead", "shared_signs", "parting_of", "_law_cell_at", "_law_mixed", "_law_bits", "_law_free_row", "_law_two", "_law_good"]
def looseAll : List Str := loose0
/-! ### the top -/
abbrev Rw : PySem.W.OpenRow := PySem.W.OpenLaw.row PySem.Challenge.rw_keyrise_k53_parting_is_shortest
abbrev hk : PySem.W.Hook := hookM 5 fa fn exAll
def ob (s : PySem.W.SharedT) : AlM := obsM 5 fa fn exAll (HandSHeadRun.getT s)
theorem ob_eq (s : PySem.W.SharedT) : ob s = hk.obs s.abs := obsM_eq (HandSHeadRun.getT_eq s)
theorem run (w : World) : HandSHeadRun.RunEq Rw (PySem.W.view Rw.prog [13]) hk ob 4000 looseAll w := by
  intro os
  kernel_rfl
theorem facts {P : Program} {w : World} {K : PySem.W.Frag} {h : Heap} {mg : Str → Option Value} {f : Addr} (X : K.In h) (G : h.Ns mainGlobals mg) (hfa : mg ("law" : Str) = some (.ref f)) (c : He.SaysD fa fn K) (cx : exAll K = true) :
    ∃ fd : FuncData, (∀ (s : Shared) (v : Value), BindsTo s fd ⟨[v], []⟩ [("_law_script", v)]) ∧ ∀ base : Heap, K.In base → base.Ns mainGlobals mg → FnOk P w K mg base (L2.CX P w) 4 f fd ["_law_script"] (sp_law K) := by
  have T : Tx K mg := ⟨c, cx, h, X, G⟩
  have e := hfa.symm.trans T.glo_law
  cases e
  have b := FunD.bindsA (ps := ["_law_script"]) (F_law T) fun _ _ _ _ _ _ us hl => match us, hl with | [_], _ => rfl
  exact ⟨_, fun s v => b s [v] rfl, fun base _ _ => ok_law T⟩
end Kr
open PySem PySem.W PySem.Calls PyProof.Rows
theorem PySem.Challenge.cw_keyrise_k53_parting_is_shortest_holds : PySem.Challenge.rw_keyrise_k53_parting_is_shortest.Holds := by
  w_on; o_law
  refine HandSHeadRun.head_any (r := OpenLaw.row PySem.Challenge.rw_keyrise_k53_parting_is_shortest) (q := view (OpenLaw.row PySem.Challenge.rw_keyrise_k53_parting_is_shortest).prog [13]) (H := Kr.hk) (ob := Kr.ob) (M := 4000) (loose := Kr.looseAll) (d := HandSHeadRun.topDef (OpenLaw.row PySem.Challenge.rw_keyrise_k53_parting_is_shortest).prog 13) (kwd := []) Kr.ob_eq
    (by kernel_rfl) (fun s => by kernel_rfl) Kr.run (by kernel_rfl) (by kernel_rfl) (by kernel_rfl) (by rfl) (by first | assumption | decide +kernel) (by decide +kernel) ⟨rfl, rfl, rfl, rfl, rfl, by decide +kernel⟩ ?hw ?hc
  case hw => w_witness2
  case hc =>
    refine Kr.walk_w (l := PySem.Challenge.rw_keyrise_k53_parting_is_shortest) (n := 63) (k := 4) (x := "_law_script") rfl (by decide) (by kernel_rfl) ⟨rfl, by decide, by decide⟩ ?F
    case F =>
      intro w mg fa h Y G hmg0
      obtain ⟨K, KX, c, cx⟩ := Y
      have hmg : mg ("law" : PySem.Str) = some (.ref fa) := by
        have e : (HandSHeadRun.topDef (OpenLaw.row PySem.Challenge.rw_keyrise_k53_parting_is_shortest).prog 13).name = ("law" : PySem.Str) := by kernel_rfl
        rw [← e]
        exact hmg0
      obtain ⟨fd, hb, hF⟩ := Kr.facts (P := (PySem.Challenge.rw_keyrise_k53_parting_is_shortest).prog) (w := w) KX G hmg c cx
      exact ⟨K, fd, KX, hb, fun H a ns hl hO hS => Kr.law_in hl hO hS, hF⟩

