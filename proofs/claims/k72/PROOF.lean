import PyProof.Rows.All
import Wide.All
import OpenK.AllK
import Wide.FinOn
import KE.KStateDown
import HandS.ForMost
import HandS.ForExc
import HandS.Evl
import HandS.Wide
import HandS.WideBits
import HandS.IsInst
import HandS.StrMore
import HandS.Defaults
import HandS.Flow
import HandS.TryOnly
import HandS.HeadEnd
import HandS.Head0
import HandS.Head1
import HandS.Head2
import HandS.HeadHook1
import HandS.HeadHook2
import HandS.ExcIs
import HandS.ExcField
import HandS.ExcInit
import HandS.SuiteRaise
import HandS.ExcInitHot
import PyProof.Rows.StrMeet
import HandS.TryMany
import HandS.Rev
import HandS.EndBits
import PyProof.Rows.SortShellAny
import HandS.SetFor
import HandS.Text
import PyProof.SeqRoads2
import OpenK.KMake
import PySem.Challenge.RW_keyrise_k72_pages_and_partings
set_option Elab.async false
set_option linter.all false
set_option maxRecDepth 100000
set_option maxHeartbeats 4000000
namespace Kr
open PySem PySem.Spec PyProof.Rows L2 Evl
/-! ### texts by their codes -/
def T (l : List Nat) : Str := ⟨l.toArray⟩
theorem T_cps (l : List Nat) : (T l).cps.toList = l := rfl
theorem T_len (l : List Nat) : (T l).length = l.length := by
  show l.toArray.size = l.length
  simp
theorem T_add (a b : List Nat) : T a ++ T b = T (a ++ b) := by
  show (⟨a.toArray ++ b.toArray⟩ : Str) = ⟨(a ++ b).toArray⟩
  simp
theorem T_inj {a b : List Nat} : T a = T b ↔ a = b := by
  constructor
  · intro h
    have := congrArg (fun z : Str => z.cps.toList) h
    exact this
  · rintro rfl; rfl
theorem T_eta (z : Str) : ∃ l, z = T l := ⟨z.cps.toList, by cases z; rename_i c; cases c; rfl⟩

/-! ### operations on values, named -/
abbrev rAddI : R2 := rI0 fun i j => .int (i + j)
abbrev rSubI : R2 := rI0 fun i j => .int (i - j)
abbrev rMulI : R2 := rI CMulX fun i j => .int (i * j)
abbrev rDivI : R2 := rI CDivW fun i j => .int (i / j)
abbrev rModI : R2 := rI (fun _ j => 0 < j) fun i j => .int (i % j)
abbrev rShrI : R2 := rI (fun _ j => 0 ≤ j) fun i j => .int (i / 2 ^ j.toNat)
abbrev rShlI : R2 := rI CShl fun i j => .int (i * 2 ^ j.toNat)
abbrev rPowI : R2 := rI CPow fun i j => .int (i ^ j.toNat)
abbrev rAndI : R2 := rI0 fun i j => .int (Builtin.bitAnd i j)
abbrev rLtI : R2 := rI0 fun i j => .bl (decide (i < j))
abbrev rLeI : R2 := rI0 fun i j => .bl (decide (i ≤ j))
abbrev rGtI : R2 := rI0 fun i j => .bl (decide (j < i))
abbrev rGeI : R2 := rI0 fun i j => .bl (decide (j ≤ i))
def rAddT : R2 := fun x y H Q => ∃ i j, x = .str i ∧ y = .str j ∧ i.length + j.length ≤ sizeLine ∧ Q (.str (i ++ j)) H
def rLtT : R2 := fun x y H Q => ∃ i j, x = .str i ∧ y = .str j ∧ Q (.bl (decide (i.cps.toList < j.cps.toList))) H
def rLeT : R2 := fun x y H Q => ∃ i j, x = .str i ∧ y = .str j ∧ Q (.bl (!decide (j.cps.toList < i.cps.toList))) H
def rMulT : R2 := fun x y H Q => ∃ (i : Str) (n : Int), x = .str i ∧ y = .int n ∧ -(2 ^ 62) ≤ n ∧ n < 2 ^ 62 ∧ i.length * n.toNat ≤ sizeLine ∧ Q (.str (T (List.replicate n.toNat i.cps.toList).flatten)) H
def rStrip : V → List V → Hp → VK → Prop := fun x xs H Q => ∃ a b, x = .str a ∧ xs = [.str b] ∧ a.length ≤ sizeLine ∧ Q (.str (Txt.rstripChars a b)) H
def rJoin (K : PySem.W.Frag) : V → List V → Hp → VK → Prop := fun x xs H Q => ∃ a p, ∃ ys : List Str, x = .str a ∧ xs = [.ref p] ∧ (SqL K H p (ys.map V.str) ∨ SqT K H p (ys.map V.str)) ∧ (ys.map (·.length)).sum + ys.length * a.length ≤ 16777216 ∧ Q (.str (Txt.join a ys)) H
section
variable {X : Cx}
theorem op_addT : OpR X (binaryOp .Add) rAddT := op_add_str
theorem op_ltT' : OpR X (compareOp .Lt) rLtT := op_lt_str
theorem op_leT' : OpR X (compareOp .LtE) rLeT := op_le_str
theorem mt_rstripC : MtR X "str.rstrip" rStrip := mt_rstripChars
theorem mt_joinK : MtR X "str.join" (rJoin X.K) := mt_join
theorem flat_rep (k : Nat) (c : Array Nat) : ((List.replicate k c).foldl (· ++ ·) #[]).toList = (List.replicate k c.toList).flatten := by
  have key : ∀ (k : Nat) (a : Array Nat), ((List.replicate k c).foldl (· ++ ·) a).toList = a.toList ++ (List.replicate k c.toList).flatten := by
    intro k
    induction k with
    | zero => intro a; simp
    | succ k ih =>
      intro a
      rw [List.replicate_succ, List.foldl_cons, ih]
      simp [List.replicate_succ]
  rw [key]
  simp
theorem op_mulT : OpR X (binaryOp .Mult) rMulT := by
  intro pins s σ H x y v u Q I rx ry h
  obtain ⟨i, n, rfl, rfl, h1, h2, h3, q⟩ := h
  obtain ⟨t, rfl⟩ := rx
  obtain ⟨t', rfl⟩ := ry
  have hsz : sizeLine = 16777216 := sizeLine_eq
  refine PySem.P.mul_str ?_ (fun g1 g2 => ?_) (fun g1 g2 => ?_) ?_
  · have e1 : decide (n < -(2 ^ 63 : Int)) = false := decide_eq_false (by omega)
    have e2 : decide (n ≥ 2 ^ 63) = false := decide_eq_false (by omega)
    rw [e1, e2] <;> rfl
  · have hn : 1 ≤ n := by omega
    intro g
    have h5 : (i.length : Int) * n ≤ 16777216 := by
      have e : n = (n.toNat : Int) := by omega
      rw [e, ← Int.natCast_mul]
      omega
    have h6 : (2 ^ 63 - 1 : Int) / n < (i.length : Int) := g
    have h7 := (Int.ediv_lt_iff_lt_mul (show 0 < n by omega)).mp h6
    omega
  · have : ¬ (i.length * n.toNat > 2 ^ 24) := by
      have e : (2 : Nat) ^ 24 = 16777216 := by decide
      rw [e]; omega
    simpa [Builtin.Str.tooLong, hsz] using this
  · by_cases g : n < 1
    · rw [if_pos g]
      refine ⟨by rw [hsz]; decide, ?_⟩
      refine ⟨.str _, H, I.tok _, ⟨_, rfl⟩, ?_⟩
      have e : n.toNat = 0 := by omega
      rw [e] at q
      exact q
    · rw [if_neg g]
      by_cases g2 : (n == 1 || i.length == 0) = true
      · rw [if_pos g2]
        refine ⟨.str _, H, I, ⟨_, rfl⟩, ?_⟩
        have e : T (List.replicate n.toNat i.cps.toList).flatten = i := by
          obtain ⟨l, rfl⟩ := T_eta i
          rw [T_inj, T_cps]
          rw [Bool.or_eq_true] at g2
          rcases g2 with g2 | g2
          · have : n = 1 := by simpa using g2
            subst this
            simp
          · have : l = [] := by
              have := T_len l
              rw [beq_iff_eq] at g2
              rw [g2] at this
              exact List.eq_nil_of_length_eq_zero this.symm
            subst this
            simp
        rw [e] at q
        exact q
      · rw [if_neg g2]
        have e : (⟨(List.replicate n.toNat i.cps).foldl (· ++ ·) #[]⟩ : Str) = T (List.replicate n.toNat i.cps.toList).flatten := by
          rw [← flat_rep]
          rfl
        rw [e]
        refine ⟨?_, ⟨.str _, H, I.tok _, ⟨_, rfl⟩, q⟩⟩
        rw [T_len]
        have key : ∀ k : Nat, (List.replicate k i.cps.toList).flatten.length = k * i.cps.size := by
          intro k
          induction k with
          | zero => simp
          | succ k ih => rw [List.replicate_succ, List.flatten_cons, List.length_append, ih, Array.length_toList, Nat.succ_mul, Nat.add_comm]
        rw [key]
        have : n.toNat * i.cps.size = i.cps.size * n.toNat := Nat.mul_comm _ _
        have h8 : i.length = i.cps.size := rfl
        rw [h8] at h3
        omega
end
end Kr
namespace Kr
open PySem PySem.Spec PyProof.Rows L2 Evl
/-! ### rules that the hand layer lacks -/
section
variable {X : Cx}
theorem pe_T {x : Str} {l : List Nat} {j : Nat} {pos : Pos} (h : x = T l) : PE X (.Constant (.str x) j pos) (tC (.str (T l))) := by
  subst h
  exact pe_str
def rIsN0 : R2 := fun x y H Q => y = .non ∧ Q (.bl (decide (x = .non))) H
def rNotN0 : R2 := fun x y H Q => y = .non ∧ Q (.bl (!decide (x = .non))) H
theorem op_isN0 : OpR X (compareOp .Is) rIsN0 := op_isN
theorem op_notN0 : OpR X (compareOp .IsNot) rNotN0 := op_notN
/-- len -/
def rLenK (K : PySem.W.Frag) : List V → Hp → VK → Prop := fun xs H Q => ∃ x n, xs = [x] ∧ LenV K x H n ∧ Q (.int n) H
theorem call_lenK : CallR X (.builtin "len") (rLenK X.K) := call_len
/-- int of a truth, of a number -/
def rIntB : List V → Hp → VK → Prop := fun xs H Q => (∃ i, xs = [.int i] ∧ Q (.int i) H) ∨ ∃ k, xs = [.bl k] ∧ Q (.int (if k then 1 else 0)) H
theorem call_intB : CallR X (.type "int") rIntB := call_int1
end
/-! ### values of expressions: what the parts are worth, the whole is worth -/
section
variable {K : PySem.W.Frag} {σ : L2.St} {H : Hp} {ta tb te : TE} {t u : TT} {x y z v : V}
theorem rv_addI {i j : Int} : RV rAddI (.int i) (.int j) H (.int (i + j)) := rv_I0
theorem rv_subI {i j : Int} : RV rSubI (.int i) (.int j) H (.int (i - j)) := rv_I0
theorem rv_mulI {i j : Int} (h : CMulX i j) : RV rMulI (.int i) (.int j) H (.int (i * j)) := rv_I h
theorem rv_divI {i j : Int} (h : CDivW i j) : RV rDivI (.int i) (.int j) H (.int (i / j)) := rv_I h
theorem rv_modI {i j : Int} (h : 0 < j) : RV rModI (.int i) (.int j) H (.int (i % j)) := rv_I h
theorem rv_shrI {i j : Int} (h : 0 ≤ j) : RV rShrI (.int i) (.int j) H (.int (i / 2 ^ j.toNat)) := rv_I h
theorem rv_shlI {i j : Int} (h : CShl i j) : RV rShlI (.int i) (.int j) H (.int (i * 2 ^ j.toNat)) := rv_I h
theorem rv_powI {i j : Int} (h : CPow i j) : RV rPowI (.int i) (.int j) H (.int (i ^ j.toNat)) := rv_I h
theorem rv_andI {i j : Int} : RV rAndI (.int i) (.int j) H (.int (Builtin.bitAnd i j)) := rv_I0
theorem rv_ltI {i j : Int} : RV rLtI (.int i) (.int j) H (.bl (decide (i < j))) := rv_I0
theorem rv_leI {i j : Int} : RV rLeI (.int i) (.int j) H (.bl (decide (i ≤ j))) := rv_I0
theorem rv_gtI {i j : Int} : RV rGtI (.int i) (.int j) H (.bl (decide (j < i))) := rv_I0
theorem rv_geI {i j : Int} : RV rGeI (.int i) (.int j) H (.bl (decide (j ≤ i))) := rv_I0
theorem rv_addT {a b : List Nat} (h : a.length + b.length ≤ 16000000) : RV rAddT (.str (T a)) (.str (T b)) H (.str (T (a ++ b))) := fun H1 _ Q q =>
  ⟨T a, T b, rfl, rfl, by rw [T_len, T_len, sizeLine_eq]; omega, by rw [T_add]; exact q H1 (Ex.refl H1)⟩
theorem rv_ltT {a b : List Nat} : RV rLtT (.str (T a)) (.str (T b)) H (.bl (decide (a < b))) := fun H1 _ Q q => ⟨T a, T b, rfl, rfl, q H1 (Ex.refl H1)⟩
theorem rv_leT {a b : List Nat} : RV rLeT (.str (T a)) (.str (T b)) H (.bl (!decide (b < a))) := fun H1 _ Q q => ⟨T a, T b, rfl, rfl, q H1 (Ex.refl H1)⟩
theorem rv_mulT {a : List Nat} {n : Int} (h0 : n < 2 ^ 62) (h1 : -(2 ^ 62) ≤ n) (h : a.length * n.toNat ≤ 16000000) : RV rMulT (.str (T a)) (.int n) H (.str (T (List.replicate n.toNat a).flatten)) := fun H1 _ Q q =>
  ⟨T a, n, rfl, rfl, h1, h0, by rw [T_len, sizeLine_eq]; omega, q H1 (Ex.refl H1)⟩
theorem dec_T {a b : List Nat} : decide (V.str (T a) = V.str (T b)) = decide (a = b) := by
  by_cases h : a = b
  · subst h; simp
  · rw [decide_eq_false h, decide_eq_false (fun e => h (T_inj.mp (V.str.inj e)))]
theorem dec_I {a b : Int} : decide (V.int a = V.int b) = decide (a = b) := by
  by_cases h : a = b
  · subst h; simp
  · rw [decide_eq_false h, decide_eq_false (fun e => h (V.int.inj e))]
theorem dec_B {a b : Bool} : decide (V.bl a = V.bl b) = decide (a = b) := by cases a <;> cases b <;> decide
theorem rv_eqT {a b : List Nat} : RV rEq (.str (T a)) (.str (T b)) H (.bl (decide (a = b))) := by
  rw [← dec_T]; exact rv_eq rfl
theorem rv_neT {a b : List Nat} : RV rNe (.str (T a)) (.str (T b)) H (.bl (!decide (a = b))) := by
  rw [← dec_T]; exact rv_ne rfl
theorem rv_eqI {a b : Int} : RV rEq (.int a) (.int b) H (.bl (decide (a = b))) := by
  rw [← dec_I]; exact rv_eq rfl
theorem rv_neI {a b : Int} : RV rNe (.int a) (.int b) H (.bl (!decide (a = b))) := by
  rw [← dec_I]; exact rv_ne rfl
theorem rv_eqB {a b : Bool} : RV rEq (.bl a) (.bl b) H (.bl (decide (a = b))) := by
  rw [← dec_B]; exact rv_eq rfl
theorem rv_neB {a b : Bool} : RV rNe (.bl a) (.bl b) H (.bl (!decide (a = b))) := by
  rw [← dec_B]; exact rv_ne rfl
theorem rv_isN : RV rIsN0 x .non H (.bl (decide (x = .non))) := fun H1 _ Q q => ⟨rfl, q H1 (Ex.refl H1)⟩
theorem rv_notN : RV rNotN0 x .non H (.bl (!decide (x = .non))) := fun H1 _ Q q => ⟨rfl, q H1 (Ex.refl H1)⟩
/-- texts: an item, a slice, the length -/
theorem rv_ixT {l : List Nat} {i : Int} {c : Nat} (hz : l.length ≤ 16000000) (h : atI l i = some c) : RV rIxS (.str (T l)) (.int i) H (.str (T [c])) := fun H1 _ Q q =>
  ⟨T l, i, c, rfl, rfl, by rw [T_len, sizeLine_eq]; omega, h, q H1 (Ex.refl H1)⟩
def cutL (l : List Nat) (lo hi : Option Int) : List Nat := (l.drop (HT.sIx l.length 0 lo)).take (HT.sIx l.length l.length hi - HT.sIx l.length 0 lo)
theorem cutS_T (l : List Nat) (lo hi : Option Int) : cutS (T l) lo hi = T (cutL l lo hi) := by
  unfold cutS cutL T
  simp [Str.length]
theorem cutL_len (l : List Nat) (lo hi : Option Int) : (cutL l lo hi).length ≤ l.length := by
  unfold cutL
  rw [List.length_take, List.length_drop]
  omega
theorem cutL_pre {l : List Nat} {n : Nat} : cutL l none (some (n : Int)) = l.take n := by
  unfold cutL
  rw [HT.sIx_none, HT.sIx_nat]
  simp
theorem cutL_suf {l : List Nat} {n : Nat} : cutL l (some (n : Int)) none = l.drop n := by
  unfold cutL
  rw [HT.sIx_none, HT.sIx_nat]
  by_cases h : n ≤ l.length
  · rw [Nat.min_eq_left h, List.take_of_length_le (by simp)]
  · rw [Nat.min_eq_right (by omega), Nat.sub_self, List.take_zero, List.drop_eq_nil_of_le (by omega)]
theorem cutL_last {l : List Nat} : cutL l none (some (-1)) = l.dropLast := by
  unfold cutL
  rw [HT.sIx_none, List.dropLast_eq_take]
  show (l.drop 0).take (((-1 : Int) + l.length).toNat - 0) = _
  rw [List.drop_zero, Nat.sub_zero]
  congr 1
  omega
theorem ev_slT {tl th : TO} {l : List Nat} {lo hi : Option Int} (h : Ev te σ H (.str (T l))) (hz : l.length ≤ 16000000) (h1 : EvO tl σ H lo) (h2 : EvO th σ H hi) : Ev (tSl rSlS te tl th) σ H (.str (T (cutL l lo hi))) := fun H1 e Q q =>
  h H1 e _ fun H2 e2 => h1 H2 (e.trans e2) _ fun H3 e3 => h2 H3 ((e.trans e2).trans e3) _ fun H4 e4 =>
    ⟨T l, rfl, by rw [T_len, sizeLine_eq]; omega, by rw [cutS_T]; exact q H4 ((e2.trans e3).trans e4)⟩
theorem ev_lenT {l : List Nat} (h : Ev ta σ H (.str (T l))) (hz : l.length ≤ 16000000) : Ev (tCB (rLenK K) (tCons ta tNil)) σ H (.int (l.length : Int)) := fun H1 e Q q =>
  h H1 e _ fun H2 e2 => ⟨.str (T l), l.length, rfl, ⟨by rw [T_len, sizeLine_eq]; omega, (T_len l).symm⟩, q H2 e2⟩
theorem ev_lenS {p : Addr} {xs : List V} (h : Ev ta σ H (.ref p)) (hs : SqL K H p xs ∨ SqT K H p xs) : Ev (tCB (rLenK K) (tCons ta tNil)) σ H (.int (xs.length : Int)) := fun H1 e Q q =>
  h H1 e _ fun H2 e2 => ⟨.ref p, xs.length, rfl, by
    rcases hs with hs | hs
    · exact .inl ⟨xs, ex_l (e.trans e2) hs, rfl⟩
    · exact .inr ⟨xs, ex_t (e.trans e2) hs, rfl⟩, q H2 e2⟩
theorem ev_lenNL {xs : List V} (h : EvL ta σ H xs) : Ev (tCB (rLenK K) (tCons ta tNil)) σ H (.int (xs.length : Int)) := fun H1 e Q q =>
  h H1 e _ fun p H2 _ e2 hp => ⟨.ref p, xs.length, rfl, .inl ⟨xs, sq_of hp, rfl⟩, q H2 e2⟩
/-- int(b) -/
theorem ev_intB {b : Bool} (h : Ev ta σ H (.bl b)) : Ev (tCB rIntB (tCons ta tNil)) σ H (.int (if b then 1 else 0)) := fun H1 e Q q =>
  h H1 e _ fun H2 e2 => .inr ⟨b, rfl, q H2 e2⟩
theorem ev_intI {i : Int} (h : Ev ta σ H (.int i)) : Ev (tCB rIntB (tCons ta tNil)) σ H (.int i) := fun H1 e Q q =>
  h H1 e _ fun H2 e2 => .inl ⟨i, rfl, q H2 e2⟩
/-- an item of a written list -/
theorem ev_ixNL {xs : List V} {i : Int} (h : EvL ta σ H xs) (hi : ∀ H1, Ex H H1 → Ev tb σ H1 (.int i)) (hv : atI xs i = some v) : Ev (tOp (rIxL K) ta tb) σ H v :=
  ev_opL1 h hi fun p H1 h1 _ => rv_ixL (sq_of h1) hv
/-- isinstance of scalars -/
def tyS : V → Option String
  | .non => some "NoneType"
  | .bl _ => some "bool"
  | .int _ => some "int"
  | .str _ => some "str"
  | _ => none
theorem tyS_ok {x : V} {n : String} (h : tyS x = some n) (H : Hp) : TyX K H x (.type n) := by
  cases x with
  | non => cases h; exact .base .non
  | bl b => cases h; exact .base (.bl b)
  | int i => cases h; exact .base (.int i)
  | str s => cases h; exact .base (.str s)
  | _ => cases h
theorem ev_isi {n m : String} {b : Bool} (h : Ev ta σ H x) (hn : tyS x = some n) (hb : kitB n m = some b) : Ev (tCB (rIsi K) (tCons ta (tCons (tC (.ty m)) tNil))) σ H (.bl b) := fun H1 e Q q =>
  h H1 e _ fun H2 e2 => ⟨x, .ty m, .type n, .type m, b, rfl, .ty m, tyS_ok hn H2, kit_ty hb, q H2 e2⟩
theorem ev_isiL {p : Addr} {xs : List V} {m : String} {b : Bool} (h : Ev ta σ H (.ref p)) (hp : H p = some (.lst xs)) (hb : kitB "list" m = some b) : Ev (tCB (rIsi K) (tCons ta (tCons (tC (.ty m)) tNil))) σ H (.bl b) := fun H1 e Q q =>
  h H1 e _ fun H2 e2 => ⟨.ref p, .ty m, .type "list", .type m, b, rfl, .ty m, .base (.lst ((e.trans e2) _ _ hp)), kit_ty hb, q H2 e2⟩
theorem ev_isiT {p : Addr} {xs : List V} {m : String} {b : Bool} (h : Ev ta σ H (.ref p)) (hp : H p = some (.tup xs)) (hb : kitB "tuple" m = some b) : Ev (tCB (rIsi K) (tCons ta (tCons (tC (.ty m)) tNil))) σ H (.bl b) := fun H1 e Q q =>
  h H1 e _ fun H2 e2 => ⟨.ref p, .ty m, .type "tuple", .type m, b, rfl, .ty m, .base (.tup ((e.trans e2) _ _ hp)), kit_ty hb, q H2 e2⟩
end
/-! ### promises of defs whose answer is a function of their arguments -/
def pureSp (n : Nat) (F : List V → Option V) : Sp := fun vs H Q _ => vs.length = n ∧ ∃ v, F vs = some v ∧ RetV v H Q
theorem use_pure {n : Nat} {F : List V → Option V} {vs : List V} {v : V} {H : Hp} (h : F vs = some v) (hn : vs.length = n) : SpV (pureSp n F) vs H v := fun H1 e Q q E => ⟨hn, v, h, fun H2 e2 => q H2 e2⟩
/-- .. the first argument a list -/
def pureSpL (K : PySem.W.Frag) (n : Nat) (F : List V → List V → Option V) : Sp := fun vs H Q _ => ∃ a xs us, vs = .ref a :: us ∧ us.length = n ∧ SqL K H a xs ∧ ∃ v, F xs us = some v ∧ RetV v H Q
theorem pureSpL_len {K : PySem.W.Frag} {n : Nat} {F : List V → List V → Option V} {vs : List V} {H : Hp} {Q : VK} {E : XK} (h : pureSpL K n F vs H Q E) : vs.length = n + 1 := by
  obtain ⟨a, xs, us, rfl, hn, _⟩ := h
  rw [List.length_cons, hn]
theorem use_pureL {K : PySem.W.Frag} {n : Nat} {F : List V → List V → Option V} {a : Addr} {xs us : List V} {v : V} {H : Hp} (hs : SqL K H a xs) (h : F xs us = some v) (hn : us.length = n) : SpV (pureSpL K n F) (.ref a :: us) H v := fun H1 e Q q E =>
  ⟨a, xs, us, rfl, hn, ex_l e hs, v, h, fun H2 e2 => q H2 e2⟩
section
variable {K : PySem.W.Frag} {σ : L2.St} {H : Hp} {te : TE}
/-- a call whose first argument is a new list -/
theorem ev_callNL {n : Nat} {F : List V → List V → Option V} {E : XK} {tr : TA} {xs us : List V} {v : V} (h : EvL te σ H xs) (hr : ∀ H1, Ex H H1 → EvA tr σ H1 us) (hF : F xs us = some v) (hn : us.length = n) :
    Ev (tCall (pureSpL K n F) [] E (tCons te tr)) σ H v := fun H1 e Q q =>
  h H1 e _ fun p H2 _ e2 hp => hr H2 (e.trans e2) H2 (Ex.refl H2) _ fun H3 e3 => by
    show pureSpL K n F ((.ref p :: us) ++ []) H3 Q E
    rw [List.append_nil]
    exact ⟨p, xs, us, rfl, hn, sq_of (e3 _ _ hp), v, hF, fun H4 e4 => q H4 ((e2.trans e3).trans e4)⟩
end

/-! ### the text's facts -/
def fdOf (K : PySem.W.Frag) (p : Str × Option Str) : FuncData := match K.lookup (He.fAd K p) with
  | some ⟨_, _, .func fd, _⟩ => fd
  | _ => PySem.W.fnOf "" "" ⟨[], [], none, [], [], none, []⟩ [] ⟨.function, [], false, false, []⟩ .none .none .none .none none .none .none
theorem fun_fdOf {K : PySem.W.Frag} {x qual : Str} {params : Arguments} {body : List Stmt} {scope : Scope} {dvs : List V} {kws : List (Str × V)} {p : Str × Option Str}
    (h : ∃ fd, FunD K x qual params body scope dvs kws (He.fAd K p) fd) : FunD K x qual params body scope dvs kws (He.fAd K p) (fdOf K p) := by
  obtain ⟨fd, F⟩ := h
  have e : fdOf K p = fd := by
    obtain ⟨oc, od, dV, kV, doc, pm, an, cdv, ct, osl, _, lk, _⟩ := F.ex
    unfold fdOf
    rw [lk]
  rw [e]
  exact F
theorem cx_none {P : Program} {w : World} {H : Hp} {s : Shared} {e : Value} {s' : Shared} (z : L2.CX P w [] H s (fun _ _ _ => False) e s') : False := by
  obtain ⟨_, _, _, _, _, _, _, _, _, _, _, _, z⟩ := z
  exact z
section
variable {X : Cx}
/-- a module's number, text -/
theorem pe_gint {x : Str} {i : Int} {pos : Pos} (hg : Gl X x) (hm : ∃ t, X.mg x = some (.int i t)) (hd : (x == ("__debug__" : Str)) = false := by decide) : PE X (.Name x pos) (tC (.int i)) := by
  obtain ⟨t, e⟩ := hm
  exact pe_glob hg e ⟨t, rfl⟩ hd
theorem pe_gstr {x : Str} {z : Str} {l : List Nat} {pos : Pos} (hg : Gl X x) (hm : ∃ t, X.mg x = some (.str z t)) (hz : z = T l) (hd : (x == ("__debug__" : Str)) = false := by decide) : PE X (.Name x pos) (tC (.str (T l))) := by
  obtain ⟨t, e⟩ := hm
  subst hz
  exact pe_glob hg e ⟨t, rfl⟩ hd
end
/-- a law's promise: called with the script, it gives True -/
def lawSp (K : PySem.W.Frag) : Sp := fun vs H Q _ => ∃ (a : Addr) (ns : List Int), vs = [.ref a] ∧ SqL K H a (ns.map V.int) ∧ ns.length ≤ 63 ∧ Only H ∧ ∀ H', Q (.bl true) H'
theorem lawSp_len {K : PySem.W.Frag} {vs : List V} {H : Hp} {Q : VK} {E : XK} (h : lawSp K vs H Q E) : vs.length = 1 := by
  obtain ⟨a, ns, rfl, _⟩ := h
  rfl
theorem law_in {K : PySem.W.Frag} {H : Hp} {a : Addr} {ns : List Int} {E : XK} (hl : ns.length ≤ 63) (hO : Only H) (hS : SqL K H a (ns.map V.int)) : lawSp K [.ref a] H (fun v _ => v = .bl true) E := ⟨a, ns, rfl, hS, hl, hO, fun _ => rfl⟩

/-- the end of a law over a head by facts, where what leaves a def depends on the world -/
theorem walk_w {l : PySem.W.OpenLaw} {n k : Nat} {q : Program} {loose : List Str} {XP : (Str → Option Value) → Heap → Prop} {YP : World → Heap → Prop} {d : DefRec} {x : Str}
    (hn : l.most = some n) (hn2 : n ≤ sizeLine) (hdf : d.params.defaults = []) (hr : Room k callerA)
    (F : ∀ (w : World) (mg : Str → Option Value) (fa : Addr) (h : Heap), YP w h → h.Ns mainGlobals mg → mg d.name = some (.ref fa) →
      ∃ (K : PySem.W.Frag) (fd : FuncData), K.In h ∧ (∀ (s : Shared) (u : Value), BindsTo s fd ⟨[u], []⟩ [(x, u)]) ∧
        (∀ (H : Hp) (a : Addr) (ns : List Int), ns.length ≤ n → Only H → SqL K H a (ns.map V.int) → lawSp K [.ref a] H (fun v _ => v = .bl true) fun _ _ _ => False) ∧
        ∀ base : Heap, K.In base → base.Ns mainGlobals mg → FnOk l.prog w K mg base (L2.CX l.prog w) k fa fd [x] (lawSp K)) :
    PySem.W.WalkO q loose XP YP l.row.toRowW d [] (fun f vs => PySem.call f vs) := by
  refine Att.attach_call hn hdf fun w s₀ s₁ mg mb fa o pm cd doc a vs ns G Y ho hd hcd hmg hobj hints hlen hg => ?_
  have Z := F w mg fa s₁.heap Y G.T.g hmg
  obtain ⟨K, fd, KX, hb, hsp, hF⟩ := Z
  exact law_call KX G.T.g G.T.b G.T.builtins G.T.nolimit hg hobj hints (Nat.le_trans hlen hn2) hr hF hb (fun H hO hS => hsp H a ns hlen hO hS)
    (fun H e s' z => cx_none z)
end Kr
/-! rows of two signs as lists of truths; the reading's own tactics -/
namespace Kr
open PySem PySem.Spec PyProof.Rows L2 Evl
/-! ### rows -/
def bc (b : Bool) : Nat := if b then 49 else 48
def R (b : List Bool) : List Nat := b.map bc
theorem R_app (a b : List Bool) : R (a ++ b) = R a ++ R b := List.map_append
theorem R_len (a : List Bool) : (R a).length = a.length := List.length_map _
theorem bc_inj {a b : Bool} (h : bc a = bc b) : a = b := by cases a <;> cases b <;> first | rfl | (exact absurd h (by decide))
theorem R_inj {a b : List Bool} (h : R a = R b) : a = b := by
  induction a generalizing b with
  | nil => cases b with
    | nil => rfl
    | cons y b => simp [R] at h
  | cons x a ih => cases b with
    | nil => simp [R] at h
    | cons y b =>
      simp only [R, List.map_cons, List.cons.injEq] at h
      rw [bc_inj h.1, ih h.2]
theorem R_take (a : List Bool) (n : Nat) : (R a).take n = R (a.take n) := by simp [R, List.map_take]
theorem R_drop (a : List Bool) (n : Nat) : (R a).drop n = R (a.drop n) := by simp [R, List.map_drop]
theorem lt_split {p x y : List Nat} : p ++ 48 :: x < p ++ 49 :: y := by
  induction p with
  | nil => exact List.Lex.rel (by decide)
  | cons c p ih => exact List.Lex.cons ih
theorem lt_pre {p y : List Nat} {c : Nat} : p < p ++ c :: y := by
  induction p with
  | nil => exact List.Lex.nil
  | cons d p ih => exact List.Lex.cons ih
/-! ### the script -/
def cellAt (ns : List Int) (k : Int) : Int := (ns[k.toNat]?).getD 0
theorem cell_at {ns : List Int} {j : Nat} (hj : j < ns.length) : ns[j]? = some (cellAt ns j) := by
  unfold cellAt
  rw [Int.toNat_natCast, List.getElem?_eq_getElem hj]
  rfl
/-- a cell of the script by its place -/
theorem at_int {ns : List Int} {j : Nat} (hj : j < ns.length) : atI (ns.map V.int) (j : Int) = some (.int (cellAt ns j)) := by
  refine atI_nat (j := j) ?_
  rw [List.getElem?_map, cell_at hj]
  rfl
theorem cut_len {ns : List Int} (h : ns.length ≤ 63) : ((cutV (ns.map V.int) none (some 63)).length : Int) = (ns.length : Int) := by
  unfold cutV
  rw [HT.sIx_none, show HT.sIx (ns.map V.int).length (ns.map V.int).length (some 63) = min 63 (ns.map V.int).length from HT.sIx_nat _ _ 63]
  simp
  omega
theorem ev_len63 {K : PySem.W.Frag} {σ : L2.St} {H : Hp} {te : TE} {a : Addr} {ns : List Int} (h : Ev te σ H (.ref a)) (hs : SqL K H a (ns.map V.int)) (hl : ns.length ≤ 63) :
    Ev (tCB (rLenK K) (tCons (tSl (rSlL K) te tNoPart (tPart (tC (.int 63)))) tNil)) σ H (.int (ns.length : Int)) := by
  have := ev_lenNL (K := K) (el_sl (K := K) h eo_none (eo_some (ev_c (v := .int 63))) hs)
  rw [cut_len hl] at this
  exact this
/-! ### one rule an operation, for apply -/
section
variable {K : PySem.W.Frag} {σ : L2.St} {H : Hp} {ta tb te : TE} {x : V}
theorem ev_addI {i j : Int} (ha : Ev ta σ H (.int i)) (hb : Ev tb σ H (.int j)) : Ev (tOp rAddI ta tb) σ H (.int (i + j)) := ev_op ha hb rv_addI
theorem ev_subI {i j : Int} (ha : Ev ta σ H (.int i)) (hb : Ev tb σ H (.int j)) : Ev (tOp rSubI ta tb) σ H (.int (i - j)) := ev_op ha hb rv_subI
theorem ev_mulI {i j : Int} (ha : Ev ta σ H (.int i)) (hb : Ev tb σ H (.int j)) (h : CMulX i j) : Ev (tOp rMulI ta tb) σ H (.int (i * j)) := ev_op ha hb (rv_mulI h)
theorem ev_divI {i j : Int} (ha : Ev ta σ H (.int i)) (hb : Ev tb σ H (.int j)) (h : CDivW i j) : Ev (tOp rDivI ta tb) σ H (.int (i / j)) := ev_op ha hb (rv_divI h)
theorem ev_modI {i j : Int} (ha : Ev ta σ H (.int i)) (hb : Ev tb σ H (.int j)) (h : 0 < j) : Ev (tOp rModI ta tb) σ H (.int (i % j)) := ev_op ha hb (rv_modI h)
theorem ev_shrI {i j : Int} (ha : Ev ta σ H (.int i)) (hb : Ev tb σ H (.int j)) (h : 0 ≤ j) : Ev (tOp rShrI ta tb) σ H (.int (i / 2 ^ j.toNat)) := ev_op ha hb (rv_shrI h)
theorem ev_shlI {i j : Int} (ha : Ev ta σ H (.int i)) (hb : Ev tb σ H (.int j)) (h : CShl i j) : Ev (tOp rShlI ta tb) σ H (.int (i * 2 ^ j.toNat)) := ev_op ha hb (rv_shlI h)
theorem ev_powI {i j : Int} (ha : Ev ta σ H (.int i)) (hb : Ev tb σ H (.int j)) (h : CPow i j) : Ev (tOp rPowI ta tb) σ H (.int (i ^ j.toNat)) := ev_op ha hb (rv_powI h)
theorem ev_andI {i j : Int} (ha : Ev ta σ H (.int i)) (hb : Ev tb σ H (.int j)) : Ev (tOp rAndI ta tb) σ H (.int (Builtin.bitAnd i j)) := ev_op ha hb rv_andI
theorem ev_ltI {i j : Int} (ha : Ev ta σ H (.int i)) (hb : Ev tb σ H (.int j)) : Ev (tOp rLtI ta tb) σ H (.bl (decide (i < j))) := ev_op ha hb rv_ltI
theorem ev_leI {i j : Int} (ha : Ev ta σ H (.int i)) (hb : Ev tb σ H (.int j)) : Ev (tOp rLeI ta tb) σ H (.bl (decide (i ≤ j))) := ev_op ha hb rv_leI
theorem ev_gtI {i j : Int} (ha : Ev ta σ H (.int i)) (hb : Ev tb σ H (.int j)) : Ev (tOp rGtI ta tb) σ H (.bl (decide (j < i))) := ev_op ha hb rv_gtI
theorem ev_geI {i j : Int} (ha : Ev ta σ H (.int i)) (hb : Ev tb σ H (.int j)) : Ev (tOp rGeI ta tb) σ H (.bl (decide (j ≤ i))) := ev_op ha hb rv_geI
theorem ev_eqI {i j : Int} (ha : Ev ta σ H (.int i)) (hb : Ev tb σ H (.int j)) : Ev (tOp rEq ta tb) σ H (.bl (decide (i = j))) := ev_op ha hb rv_eqI
theorem ev_neI {i j : Int} (ha : Ev ta σ H (.int i)) (hb : Ev tb σ H (.int j)) : Ev (tOp rNe ta tb) σ H (.bl (!decide (i = j))) := ev_op ha hb rv_neI
theorem ev_eqB {i j : Bool} (ha : Ev ta σ H (.bl i)) (hb : Ev tb σ H (.bl j)) : Ev (tOp rEq ta tb) σ H (.bl (decide (i = j))) := ev_op ha hb rv_eqB
theorem ev_neB {i j : Bool} (ha : Ev ta σ H (.bl i)) (hb : Ev tb σ H (.bl j)) : Ev (tOp rNe ta tb) σ H (.bl (!decide (i = j))) := ev_op ha hb rv_neB
theorem ev_addT {a b : List Nat} (ha : Ev ta σ H (.str (T a))) (hb : Ev tb σ H (.str (T b))) (h : a.length + b.length ≤ 16000000) : Ev (tOp rAddT ta tb) σ H (.str (T (a ++ b))) := ev_op ha hb (rv_addT h)
theorem ev_ltT {a b : List Nat} (ha : Ev ta σ H (.str (T a))) (hb : Ev tb σ H (.str (T b))) : Ev (tOp rLtT ta tb) σ H (.bl (decide (a < b))) := ev_op ha hb rv_ltT
theorem ev_leT {a b : List Nat} (ha : Ev ta σ H (.str (T a))) (hb : Ev tb σ H (.str (T b))) : Ev (tOp rLeT ta tb) σ H (.bl (!decide (b < a))) := ev_op ha hb rv_leT
theorem ev_eqT {a b : List Nat} (ha : Ev ta σ H (.str (T a))) (hb : Ev tb σ H (.str (T b))) : Ev (tOp rEq ta tb) σ H (.bl (decide (a = b))) := ev_op ha hb rv_eqT
theorem ev_neT {a b : List Nat} (ha : Ev ta σ H (.str (T a))) (hb : Ev tb σ H (.str (T b))) : Ev (tOp rNe ta tb) σ H (.bl (!decide (a = b))) := ev_op ha hb rv_neT
theorem ev_mulT {a : List Nat} {n : Int} (ha : Ev ta σ H (.str (T a))) (hb : Ev tb σ H (.int n)) (h0 : n < 2 ^ 62) (h1 : -(2 ^ 62) ≤ n) (h : a.length * n.toNat ≤ 16000000) : Ev (tOp rMulT ta tb) σ H (.str (T (List.replicate n.toNat a).flatten)) := ev_op ha hb (rv_mulT h0 h1 h)
theorem ev_ixT {l : List Nat} {i : Int} {c : Nat} (ha : Ev ta σ H (.str (T l))) (hb : Ev tb σ H (.int i)) (hz : l.length ≤ 16000000) (h : atI l i = some c) : Ev (tOp rIxS ta tb) σ H (.str (T [c])) := ev_op ha hb (rv_ixT hz h)
theorem ev_isN (ha : Ev ta σ H x) : Ev (tOp rIsN0 ta (tC .non)) σ H (.bl (decide (x = .non))) := ev_op ha ev_c rv_isN
theorem ev_notN (ha : Ev ta σ H x) : Ev (tOp rNotN0 ta (tC .non)) σ H (.bl (!decide (x = .non))) := ev_op ha ev_c rv_notN
theorem ev_neg {i : Int} (ha : Ev ta σ H (.int i)) : Ev (tUn (rU fun i => .int (-i)) ta) σ H (.int (-i)) := ev_un ha ru_neg
theorem ev_bits {i : Int} (ha : Ev ta σ H (.int i)) : Ev (tBits ta) σ H (.int (Builtin.Int.intBits i : Nat)) := fun H1 e Q q => ha H1 e _ fun H2 e2 => ⟨i, rfl, q H2 e2⟩
end
theorem bit_at (x : Int) (j : Nat) : atI [48, 49] (Builtin.bitAnd (x / 2 ^ ((j : Int)).toNat) 1) = some (bc (decide (x / 2 ^ j % 2 = 1))) := by
  have e : Builtin.bitAnd (x / 2 ^ ((j : Int)).toNat) 1 = x / 2 ^ j % 2 := by
    have := PySem.W.kbt_mask (x / 2 ^ j) 1
    rw [Int.toNat_natCast]
    exact this
  rw [e]
  have : x / 2 ^ j % 2 = 0 ∨ x / 2 ^ j % 2 = 1 := by omega
  rcases this with h | h <;> rw [h] <;> rfl
end Kr
/-! errors of the text's own: raised with a text, caught and kept as values, asked for their classes -/
namespace Kr
open PySem PySem.Spec PyProof.Rows L2 Evl
/-! ### facts of the error classes, looked up by the names -/
def exCB (K : PySem.W.Frag) (C : Addr) : Bool :=
  decide (PySem.W.findIn K (.ref C) "__getattribute__" = some (some (.builtin "BaseException.__getattribute__"))) && (decide (PySem.W.findIn K (.ref C) "__getattr__" = some none) &&
  (decide (PySem.W.subIn K (.ref C) (.type "BaseException") = some true) && (PySem.W.hasDictIn K C && (decide (PySem.W.findIn K (.ref C) "__class__" = some (some (.builtin "object.__class__"))) &&
  (decide (PySem.W.specialIn K (.builtin "object.__class__") "__get__" = some (some (.builtin "getset_descriptor.__get__"))) && (decide (PySem.W.takesIn K (.builtin "object.__class__") = some true) &&
  decide (PySem.W.mroIn K C (.type "object") = some true)))))))
theorem exCB_ok {K : PySem.W.Frag} {C : Addr} (h : exCB K C = true) : ExcC K C := by
  obtain ⟨h1, h⟩ := He.ba h
  obtain ⟨h2, h⟩ := He.ba h
  obtain ⟨h3, h⟩ := He.ba h
  obtain ⟨h4, h⟩ := He.ba h
  obtain ⟨h5, h⟩ := He.ba h
  obtain ⟨h6, h⟩ := He.ba h
  obtain ⟨h7, h8⟩ := He.ba h
  exact ⟨of_decide_eq_true h1, of_decide_eq_true h2, of_decide_eq_true h3, h4, of_decide_eq_true h5, of_decide_eq_true h6, of_decide_eq_true h7, of_decide_eq_true h8⟩
/-- RiseError stands above each of L, none of L above another one -/
def exsB (K : PySem.W.Frag) (L : List Str) : Bool := decide (PySem.W.exmOne K (.ref (He.ga K "RiseError")) (.ref (He.ga K "RiseError")) = some true) && L.all fun x => exCB K (He.ga K x) &&
  (decide (PySem.W.kitOne K (.ref (He.ga K x)) (.ref (He.ga K "RiseError")) = some true) && (decide (PySem.W.kitOne K (.ref (He.ga K x)) (.type "ValueError") = some true) && (decide (PySem.W.exmOne K (.ref (He.ga K x)) (.ref (He.ga K "RiseError")) = some true) &&
  L.all fun y => decide (PySem.W.kitOne K (.ref (He.ga K x)) (.ref (He.ga K y)) = some (decide (x = y))) && decide (PySem.W.exmOne K (.ref (He.ga K x)) (.ref (He.ga K y)) = some (decide (x = y))))))
structure KxL (L : List Str) (K : PySem.W.Frag) : Prop where
  ok : exsB K L = true
section
variable {L : List Str} {K : PySem.W.Frag} {x y : Str}
theorem KxL.at_ (k : KxL L K) (hx : x ∈ L) : exCB K (He.ga K x) = true ∧ PySem.W.kitOne K (.ref (He.ga K x)) (.ref (He.ga K "RiseError")) = some true ∧ PySem.W.kitOne K (.ref (He.ga K x)) (.type "ValueError") = some true ∧
    PySem.W.exmOne K (.ref (He.ga K x)) (.ref (He.ga K "RiseError")) = some true ∧ ∀ y ∈ L, PySem.W.kitOne K (.ref (He.ga K x)) (.ref (He.ga K y)) = some (decide (x = y)) ∧ PySem.W.exmOne K (.ref (He.ga K x)) (.ref (He.ga K y)) = some (decide (x = y)) := by
  obtain ⟨_, h⟩ := He.ba k.ok
  have h := List.all_eq_true.mp h x hx
  obtain ⟨h1, h⟩ := He.ba h
  obtain ⟨h2, h⟩ := He.ba h
  obtain ⟨h3, h⟩ := He.ba h
  obtain ⟨h4, h⟩ := He.ba h
  refine ⟨h1, of_decide_eq_true h2, of_decide_eq_true h3, of_decide_eq_true h4, fun y hy => ?_⟩
  obtain ⟨a, b⟩ := He.ba (List.all_eq_true.mp h y hy)
  exact ⟨of_decide_eq_true a, of_decide_eq_true b⟩
theorem KxL.exc (k : KxL L K) (hx : x ∈ L) : ExcC K (He.ga K x) := exCB_ok (k.at_ hx).1
theorem KxL.root (k : KxL L K) (hx : x ∈ L) : PySem.W.kitOne K (.ref (He.ga K x)) (.ref (He.ga K "RiseError")) = some true := (k.at_ hx).2.1
theorem KxL.val (k : KxL L K) (hx : x ∈ L) : PySem.W.kitOne K (.ref (He.ga K x)) (.type "ValueError") = some true := (k.at_ hx).2.2.1
theorem KxL.exR (k : KxL L K) (hx : x ∈ L) : PySem.W.exmOne K (.ref (He.ga K x)) (.ref (He.ga K "RiseError")) = some true := (k.at_ hx).2.2.2.1
theorem KxL.kit (k : KxL L K) (hx : x ∈ L) (hy : y ∈ L) : PySem.W.kitOne K (.ref (He.ga K x)) (.ref (He.ga K y)) = some (decide (x = y)) := ((k.at_ hx).2.2.2.2 y hy).1
theorem KxL.exm (k : KxL L K) (hx : x ∈ L) (hy : y ∈ L) : PySem.W.exmOne K (.ref (He.ga K x)) (.ref (He.ga K y)) = some (decide (x = y)) := ((k.at_ hx).2.2.2.2 y hy).2
end
/-! ### the head's look, one more answer of one's own beside -/
abbrev AlM : Type := He.AlD × Bool
def frM (g : Addr → Option Obj) (n : Nat) : PySem.W.Frag := He.frG g (He.asD g n ++ [cStatics])
def hookM (n : Nat) (fa : List He.Fa) (fn : List He.DefD) (ex : PySem.W.Frag → Bool) : PySem.W.Hook where
  α := AlM
  obs := fun s => (He.obsD fa fn (frM s.heap.get? n), ex (frM s.heap.get? n))
  val := fun _ => (He.valD fn, true)
  says := fun _ h => ∃ K : PySem.W.Frag, K.In h ∧ He.SaysD fa fn K ∧ ex K = true
  of := fun _ _ e => ⟨_, He.frG_in, congrArg (fun z : AlM => z.1) e, congrArg (fun z : AlM => z.2) e⟩
  keeps := fun _ _ _ ⟨K, hK, c⟩ k => ⟨K, PySem.W.Frag.In.keeps hK k, c⟩
def obsM (n : Nat) (fa : List He.Fa) (fn : List He.DefD) (ex : PySem.W.Frag → Bool) (g : Addr → Option Obj) : AlM := (He.obsD fa fn (frM g n), ex (frM g n))
theorem obsM_eq {n : Nat} {fa : List He.Fa} {fn : List He.DefD} {ex : PySem.W.Frag → Bool} {g : Addr → Option Obj} {s : Shared} (h : ∀ a, g a = s.heap.get? a) : obsM n fa fn ex g = (hookM n fa fn ex).obs s := by
  have e : g = s.heap.get? := funext h
  rw [e] <;> rfl
/-! ### raise X('..') -/
def tRaiseX (cls : Value) (E : XK) : TS := fun _ _ H => E cls none H
section
variable {X : Cx}
theorem pmk_txt {x m : Str} {C : Addr} {j : Nat} {p p2 pos : Pos}
    (c : PySem.W.excIn X.K C He.veBase "ValueError.__new__" = true ∧ PySem.W.keepIn X.K (.ref C) = true ∧ PySem.W.subIn X.K (.ref C) (.type "BaseException") = some true ∧ PySem.W.typeIn X.K (.ref C) = some (.type "type"))
    (g : X.mg x = some (.ref C)) (hg : Gl X x := by rfl) (hd : (x == ("__debug__" : Str)) = false := by decide) :
    PMk X (.Call (.Name x p) [.Constant (.str m) j p2] [] pos) (fun _ H Q => Q (.ref C) none H) :=
  pmk_own PySem.F.excBase_ValueError c.1 g c.2.1 (raises_own c.2.2.1 c.2.2.2) hg hd
end
/-- a promise's ways out -/
def RaiseX (cls : Value) (H : Hp) (E : XK) : Prop := ∀ H', Ex H H' → E cls none H'
/-! ### an error that was caught stands as a value -/
def ExK (cls : Value) (d : Option Addr) (a : Addr) : HO := .ext fun h => ∃ oe : Obj, h.get? a = some oe ∧ Zc cls d oe ∧ ∃ vs, oe.data = .fields vs
theorem exK_ok {P : Program} {w : World} {H : Hp} {h : Heap} {a : Addr} {cls : Value} {d : Option Addr} {oe : Obj} (e : h.get? a = some oe) (z : Zc cls d oe) (f : ∃ vs, oe.data = .fields vs) : ObjOk P w H h a (ExK cls d a) :=
  ⟨⟨oe, e, z, f⟩, ⟨oe, e⟩, fun _ _ ⟨o, q, r⟩ k => ⟨o, k o q, r⟩⟩
section
variable {X : Cx} {pins : List (Addr × Obj)} {σ : L2.St} {H : Hp} {s : Shared}
/-- what was pinned, new in this def, is tracked from now on -/
theorem inv_track {a : Addr} {oe : Obj} {cls : Value} {d : Option Addr} (I : Inv X ((a, oe) :: pins) σ H s) (hz : Zc cls d oe) (hv : ∃ vs, oe.data = .fields vs) (hnew : X.s_0.heap.get? a = none)
    (hpn : ∀ p ∈ X.pn ++ pins, p.1 ≠ a) : Inv X pins σ (upd H a (ExK cls d a)) s := by
  have hp : (a, oe) ∈ X.pn ++ (a, oe) :: pins := List.mem_append_right _ List.mem_cons_self
  obtain ⟨hget, hn, hL, hF, hnc⟩ := I.pin _ hp
  have ne0 : ∀ b o, X.s_0.heap.get? b = some o → b ≠ a := fun b o e z => by
    rw [z, hnew] at e
    cases e
  have neH : ∀ b u, H b = some u → b ≠ a := fun b u e z => by
    rw [z, hn] at e
    cases e
  refine ⟨I.ok, I.os, I.bare, ⟨I.base.keep, I.base.slot, fun b o e n hx => ?_, I.base.there, fun b xs e => ?_, fun b o u e => ?_, fun b ps e => ?_⟩, I.loc, I.cell, ?_, fun x c e => ?_, fun p hp' => ?_, fun b u e => ?_, I.len⟩
  · rw [upd_ne (ne0 b o e)]
    exact I.base.free b o e n hx
  · have q := I.base.tups b xs e
    rw [upd_ne (neH b _ q)]
    exact q
  · have q := I.base.frzs b o u e
    rw [upd_ne (neH b _ q)]
    exact q
  · obtain ⟨m, q⟩ := I.base.tbls b ps e
    exact ⟨m, by rw [upd_ne (neH b _ q)]; exact q⟩
  · rw [upd_ne (Ne.symm hL)]
    exact I.free
  · have hc : c ≠ a := fun z => by
      obtain ⟨v, o, ho, hd⟩ := I.cell x c e
      rw [z] at ho
      have := ho.symm.trans hget
      cases this
      exact hnc v hd
    rw [upd_ne hc]
    exact I.freeC x c e
  · have hp2 : p ∈ X.pn ++ (a, oe) :: pins := by
      rcases List.mem_append.mp hp' with z | z
      · exact List.mem_append_left _ z
      · exact List.mem_append_right _ (List.mem_cons_of_mem _ z)
    obtain ⟨p1, p2, p3, p4, p5⟩ := I.pin p hp2
    exact ⟨p1, by rw [upd_ne (hpn p hp')]; exact p2, p3, p4, p5⟩
  · by_cases hb : b = a
    · subst hb
      rw [upd_same] at e
      cases e
      exact exK_ok hget hz hv
    · rw [upd_ne hb] at e
      exact (I.hok b u e).stay (fun c v _ q => q) (fun c q => by rw [upd_ne (neH c _ q)]; exact q) (fun c xs q => by rw [upd_ne (neH c _ q)]; exact q)
end
/-- what the clause 'except x as n' wishes, the error kept behind the suite's end -/
def wKeep (K : PySem.W.Frag) (c : Value) (i : Nat) (ts : Addr → Value → Option Addr → TS) (Wout : WX) (D : Ends) : WX := fun cls d σ H =>
  ∃ b, PySem.W.exmOne K cls c = some b ∧
    (b = true → ∀ a, H a = none → ts a cls d { nx := fun σ' H' => D.nx (σ'.set i none) (upd H' a (ExK cls d a)), rt := fun _ _ => False } (σ.set i (some (.ref a))) H) ∧
    (b = false → Wout cls d σ H)
section
variable {X : Cx} {x n : Str} {c : Value} {i : Nat} {body suite : List Stmt} {b₀ : Stmt} {np pos pos' : Pos} {tb : WX → TS} {ts : Addr → Value → Option Addr → TS} {Wout : WX}
theorem ps_try_keep (hs : X.stack = X.env :: X.outer) (hf : X.env.frame = some X.env.locals) (hex : X.ex = []) (hN : X.N.Nodup) (hi : X.N[i]? = some n) (hln : X.env.kindOf n = some .local) (hc : Names X x c) (tk : Takes X Wout)
    (hb : ∀ (W : WX) (pn : List (Addr × Obj)) (xe : Value → Shared → Prop), Takes (X.tr pn xe) W → PassesOwn (model X.prog X.w) X.A X.env xe → PSs (X.tr pn xe) body (tb W))
    (hsu : ∀ (a : Addr) (oe : Obj) (cls : Value) (d : Option Addr) (pn : List (Addr × Obj)), Zc cls d oe → (∃ vs, oe.data = .fields vs) → PSs (X.suite a ((a, oe) :: pn)) (b₀ :: suite) (ts a cls d)) :
    PS X (.Try body [.ExceptHandler (some (.Name x np)) (some n) (b₀ :: suite) pos'] [] [] pos) (fun D σ H => tb (wKeep X.K c i ts Wout D) D σ H) := by
  refine ⟨fun pins s σ H D I h => ?_⟩
  have okX := I.ok
  have frX : X.A.frames = some (X.env :: X.outer) := by rw [okX.frames, hs]
  refine wpAny_Try_except (wpAny_mono ((hb (wKeep X.K c i ts Wout D) (X.pn ++ pins) _ (fun u s1 air => ?air) PassesOwn.looking).run [] s σ H D (I.toTry _) h) (fun f s1 done => ?done) (fun e s1 he => he))
  case done =>
    cases f with
    | next => obtain ⟨σ1, H1, J, q⟩ := done; exact wpAny_execs_nil ⟨σ1, H1, J.ofTry okX, q⟩
    | brk => obtain ⟨σ1, H1, J, q⟩ := done; exact ⟨σ1, H1, J.ofTry okX, q⟩
    | cont => obtain ⟨σ1, H1, J, q⟩ := done; exact ⟨σ1, H1, J.ofTry okX, q⟩
    | ret u => obtain ⟨v, σ1, H1, J, r, q⟩ := done; exact ⟨v, σ1, H1, J.ofTry okX, r, q⟩
  case air =>
    obtain ⟨a, B, s2, pins2, σ2, H2, cls, d, rfl, J0, nb, up, sky, na, os, ag, b, hb1, hyes, hno⟩ := air
    have J : Inv X pins σ2 H2 s2 := J0.ofTry okX
    rw [show (X.tr (X.pn ++ pins) _).stack = X.env :: X.outer from hs] at sky
    show wpAny (model X.prog X.w) X.A (noteFrame (.ref a) X.env) _ _ _
    refine Sky.land Zc.steady frX hf sky fun h3 fl3 up3 => ?_
    have J3 : Inv X pins σ2 H2 { s1 with heap := h3 } := J.landed nb fl3.1 (up.trans up3) os ag
    obtain ⟨oe3, vs3, he3, hz3, hd3⟩ := fl3.there
    have far : a ∉ frs (X.env :: X.outer) := fun hm => by
      obtain ⟨_, o', e', hnf⟩ := fl3.2.2.1.mem hm
      have e2 := he3.symm.trans e'
      cases e2
      exact hnf _ hd3
    have nL : a ≠ X.env.locals := fun z => far (List.mem_filterMap.mpr ⟨X.env, List.mem_cons_self, by rw [hf, z]⟩)
    have nF : a ∉ X.fs := fun hm => by
      obtain ⟨e, he, q⟩ := List.mem_filterMap.mp hm
      exact far (List.mem_filterMap.mpr ⟨e, List.mem_cons_of_mem _ he, q⟩)
    -- the error is new in this def
    have ground : ∀ o, s2.heap.get? a = some o → False := fun o e => by
      have := nb a o e (by rw [show (X.tr (X.pn ++ pins) _).stack = X.env :: X.outer from hs]; exact far)
      rw [fl3.2.1] at this
      cases this
    have hnew : X.s_0.heap.get? a = none := by
      cases e : X.s_0.heap.get? a with
      | none => rfl
      | some o =>
        obtain ⟨o', e'⟩ := J.base.there a o e (by rw [hex]; exact fun z => nomatch z)
        exact (ground o' e').elim
    have hpn : ∀ p ∈ X.pn ++ pins, p.1 ≠ a := fun p hp z => by
      have e := (J.pin p hp).1
      rw [z] at e
      exact ground _ e
    have S3 := J3.suite he3 hd3 na nL nF
    refine wpAny_handleBy_cons (codeAny_handlers_test ?_) (by intro q; cases q)
    have LT : PySem.W.Looks (model X.prog X.w) h3 (typeOf (.ref a)) cls := fun A Q E s k q => wpAny_typeOf_ref (k _ _ he3) (by rw [hz3.1]; exact q)
    have LM := PySem.W.exm_one (M := model X.prog X.w) J3.kIn LT hb1
    have named : ∀ {Q : Value → Shared → Prop} {E : Value → Shared → Prop}, Q c { s1 with heap := h3 } → wpAny (model X.prog X.w) (X.A.mark (some (.ref a))) (eval (.Name x np) X.env) Q E { s1 with heap := h3 } := fun {Q E} q => by
      obtain ⟨hg, hdbg, hm | ⟨hm, hv, hnn⟩⟩ := hc
      · exact ld_glob (X := X.suite a ((a, oe3) :: (X.pn ++ pins))) S3 hg hm q hdbg
      · exact ld_blt (X := X.suite a ((a, oe3) :: (X.pn ++ pins))) S3 hg hm hv q hnn hdbg
    refine named (LM.here ?_)
    cases b with
    | true =>
      refine codeAny_handlers_suite_as (HandSPX.lands_againZ fl3 fun h4 fl4 up4 => ?_)
      have J4 : Inv X pins σ2 H2 { s1 with heap := h4 } := J.landed nb fl4.1 ((up.trans up3).trans up4) os ag
      obtain ⟨oe4, vs4, he4, hz4, hd4⟩ := fl4.there
      have S4 := J4.suite he4 hd4 na nL nF
      refine store_ok (X := X.suite a ((a, oe4) :: (X.pn ++ pins))) (v := .ref a) S4 hN hi (.inl hln) rfl (fun s5 S5 => ?_) (.inr hln)
      refine wpAny_mono ((hsu a oe4 cls d (X.pn ++ pins) hz4 ⟨_, hd4⟩).run [] s5 _ H2 _ S5 (hyes rfl a na)) (fun f s6 hsp => ?_) (fun _ _ z => False.elim z)
      cases f with
      | next =>
        obtain ⟨σ6, H6, S6, q6⟩ := hsp
        have P6 : Inv X ((a, oe4) :: pins) σ6 H6 s6 := ⟨okX, S6.os, S6.bare, S6.base, S6.loc, S6.cell, S6.free, S6.freeC, fun p hp => S6.pin p (List.mem_append_left _ (by
          rcases List.mem_append.mp hp with z | z
          · exact List.mem_cons_of_mem _ (List.mem_append_left _ z)
          · rcases List.mem_cons.mp z with z | z
            · rw [z]; exact List.mem_cons_self
            · exact List.mem_cons_of_mem _ (List.mem_append_right _ z))), S6.hok, S6.len⟩
        exact gone_ok P6 hN hi hln fun s7 J7 => ⟨_, _, inv_track J7 hz4 ⟨_, hd4⟩ hnew hpn, q6⟩
      | brk => obtain ⟨_, _, _, q6⟩ := hsp; exact q6.elim
      | cont => obtain ⟨_, _, _, q6⟩ := hsp; exact q6.elim
      | ret u => obtain ⟨_, _, _, _, _, q6⟩ := hsp; exact q6.elim
    | false =>
      show wpAny _ X.A (handleBy (.ref a) X.env []) _ _ _
      refine wpAny_handleBy_nil ?_
      obtain ⟨k1, k2, k3, oe, vs, T, oT, ts', he, hz, hd, h1, hr⟩ := id fl3
      unfold PySem.passOn
      refine wpAny_bind (wpAny_field he hd h1 ?_)
      rw [if_neg (show ¬ ((Value.ref T == Value.none) = true) from by simp)]
      have out : wpAny (model X.prog X.w) X.A (setFlight (.ref a) X.env.frame) (fun _ s4 => wpAny (model X.prog X.w) X.A (throw (.ref a) : Sem Flow) (SP X pins D) X.xe s4) X.xe { s1 with heap := h3 } := by
        rw [hf]
        refine HandSPX.setFlight_upZ fl3 fun h4 hh4 up4 => wpAny_throw (tk _ _ ?_)
        exact ⟨a, B, s2, pins, σ2, H2, cls, d, rfl, J, nb, (up.trans up3).trans up4, .inr (.inr (by rw [hs]; exact hh4)), na, os, ag, hno rfl⟩
      first
        | exact wpAny_bind (wpAny_pure (wpAny_bind out))
        | exact wpAny_bind out
end
end Kr
/-! isinstance of kept errors, with a dict of their own or without -/
namespace Kr
open PySem PySem.Spec PyProof.Rows L2 Evl
section
open PySem.W PySem.Calls
variable {prog : Program} {w : World} {A : Around} {E : Value → Shared → Prop} {s : Shared} {K : Frag} {x D : Addr} {ox : Obj} {od : Option Obj}
/-- an error's __class__, whether it has a dict or not -/
theorem cls_of_err {Q : Option Value → Shared → Prop} (c : ExcC K D) (X : K.In s.heap) (I : PySem.W.InstAt s.heap x ox D od) (h : Q (some (.ref D)) { s with toks := s.toks + 1 }) :
    wpAny (model prog w) A (getAttr? (.ref x) "__class__") Q E s := by
  obtain ⟨hga, hgt, hsub, hdct, ha, hn, htk, hm⟩ := c
  have found : findObj K D od "__class__" = some (.bind (.builtin "getset_descriptor.__get__") (.builtin "object.__class__")) := by
    obtain ⟨cd, hc, _⟩ := any_some hdct
    unfold findObj
    rw [hc, Option.bind_some, ha, Option.bind_some]
    simp [hn, htk]
  obtain ⟨hp, g, dr, t, os⟩ := s
  have ty := I.type (M := model prog w)
  have at1 := looks_findIn (M := model prog w) X hga
  have at2 := looks_findIn (M := model prog w) X hgt
  have at3 := looks_find (M := model prog w) X I found
  have isB : Looks (model prog w) hp (isInstance (.ref x) (.type "BaseException")) true := ty.andThen (looks_subIn X hsub)
  have no : (Value.builtin "BaseException.__getattribute__" == Value.builtin "object.__getattribute__") = false := by decide +kernel
  unfold getAttr? getAttrBy? getAttrBy
  refine wpAny_bind (wpAny_mkText (wpAny_bind (wpAny_attempt (wpAny_holding (wpAny_bind (ty.at (wpAny_bind (at1.at ?_))))))))
  have no2 : (onTheHeap (Value.ref D) && Value.builtin "BaseException.__getattribute__" == Value.builtin "object.__getattribute__") = false := by rw [no]; rfl
  show wpAny _ _ (if (onTheHeap (Value.ref D) && Value.builtin "BaseException.__getattribute__" == Value.builtin "object.__getattribute__") = true then _ else _) _ _ _
  rw [no2, if_neg Bool.false_ne_true]
  unfold getAttrByItsOwn hookBefore
  refine wpAny_bind ?_
  rw [if_pos (show onTheHeap (Value.ref D) = true from rfl)]
  refine at2.at (wpAny_bind (wpAny_attempt (wpAny_holding ?_)))
  unfold callGetattribute
  rw [show (false && onTheHeap (Value.builtin "BaseException.__getattribute__")) = false from rfl, if_neg Bool.false_ne_true]
  unfold boundAndCalled
  rw [PySem.F.excAttr_ValueError.ga.bind (.ref x)]
  refine wpAny_bind (wpAny_pure ?_)
  show wpAny _ _ (call (.builtin "BaseException.__getattribute__") [.ref x, .str "__class__" t]) _ _ _
  refine wpAny_call (codeAny_call_builtin PySem.F.excAttr_ValueError.ga.plain PySem.F.entry_bexc_ga ?_)
  refine @check_slot (model prog w) _ _ ⟨hp, g, dr, t + 1, os⟩ "BaseException.__getattribute__" "BaseException" "__getattribute__" (.ref x) [.str "__class__" t] [] _ (by decide +kernel) (by decide +kernel) isB (PySem.F.args_bexc_ga (.ref x) (.str "__class__" t)) ?_
  unfold Builtin.«object.__getattribute__»
  refine wpAny_bind (wpAny_of_eq (a := ((Value.ref x : Value), [Value.str "__class__" t])) (by first | rfl | (simp only [slotArgs]; rfl)) (wpAny_bind (wpAny_pure (wpAny_bind (ty.at (wpAny_bind (at3.at ?_)))))))
  show wpAny _ _ (holding [Value.builtin "object.__class__"] (call (.builtin "getset_descriptor.__get__") [.builtin "object.__class__", .ref x, .ref D]) >>= ret) _ _ _
  refine wpAny_bind (wpAny_holding (wpAny_call (class_get (s := ⟨hp, g, dr, t + 1, os⟩) (ox := ox) (od := od) X I hm (wpAny_pure ?_))))
  show wpAny _ _ (handedOut (.ref D)) _ _ _
  rw [handedOut_of (v := .ref D) rfl]
  first
    | exact wpAny_pure (wpAny_pure h)
    | exact wpAny_pure h
    | exact wpAny_pure (wpAny_bind (wpAny_pure (wpAny_pure h)))
theorem kitx_err (c : ExcC K D) : KitX K (.ref x) (.ref D) (fun h => PySem.W.InstAt h x ox D od) where
  ty := fun _ _ _ I => I.type
  it := fun M h X _ => by
    obtain ⟨cd, e, _⟩ := any_some c.hd
    unfold clsIn at e
    split at e
    · rename_i q
      intro A' Q' E' s' k z
      unfold isType loadHead
      exact wpAny_bind (wpAny_loadPart (k _ _ (X _ _ q)) (wpAny_pure z))
    · cases e
  ne := fun h tp dd its n sl X htp => by
    obtain ⟨cd, e, _⟩ := any_some c.hd
    refine Bool.eq_false_iff.mpr fun z => ?_
    obtain rfl : D = tp := Value.ref.inj (beq_iff_eq.mp z)
    unfold clsIn at e
    split at e
    · rename_i q
      have y := (X _ _ q).symm.trans htp
      cases y
    · cases e
  ca := fun X I k => cls_of_err c X I k
end
/-- a kept error's dict, if it has one, is tracked -/
def XdOk (H : Hp) (d : Option Addr) : Prop := d = none ∨ ∃ dd fs, d = some dd ∧ H dd = some (.xd fs)
/-- isinstance(e, c) of a kept error -/
def rIsX (K : PySem.W.Frag) : List V → Hp → VK → Prop := fun xs H Q => ∃ (a D : Addr) (d : Option Addr) (c : V) (cv : Value) (b : Bool), xs = [.ref a, c] ∧ H a = some (ExK (.ref D) d a) ∧ XdOk H d ∧ ExcC K D ∧ ClsV c cv ∧ PySem.W.kitOne K (.ref D) cv = some b ∧ Q (.bl b) H
section
variable {X : Cx}
theorem inst_of_err {pins : List (Addr × Obj)} {s : Shared} {σ : L2.St} {H : Hp} {a D : Addr} {d : Option Addr} (I : Inv X pins σ H s) (ha : H a = some (ExK (.ref D) d a)) (hd : XdOk H d) : ∃ oe od, PySem.W.InstAt s.heap a oe D od := by
  obtain ⟨⟨oe, e, z, vs, hv⟩, _, _⟩ := I.hok a _ ha
  obtain ⟨oc, odi, oda, osl⟩ := oe
  obtain ⟨h1, h2⟩ := z
  dsimp only at h1 h2 hv
  subst h1 h2 hv
  rcases hd with rfl | ⟨dd, fs, rfl, hx⟩
  · exact ⟨_, none, e, rfl, rfl, trivial⟩
  · obtain ⟨mA, hns, _⟩ := (show ObjOk X.prog X.w H s.heap dd (.xd fs) from I.hok dd _ hx)
    obtain ⟨od, ho, _⟩ := lookIn_ns hns
    exact ⟨_, some od, e, rfl, rfl, ho⟩
theorem call_isX : CallR X (.builtin "isinstance") (rIsX X.K) := by
  intro pins s σ H xs us Q I r h
  obtain ⟨a, D, d, c, cv, b, rfl, ha, hd, hc, hcv, e, q⟩ := h
  obtain ⟨u1, u2, rfl, r1, r2⟩ := vals2 r
  obtain rfl : u1 = Value.ref a := r1
  have e2 := hcv.eq r2
  subst e2
  obtain ⟨oe, od, J⟩ := inst_of_err I ha hd
  exact PySem.W.kia_one (kitx_err hc) I.kIn J e (fun z => nomatch z) fun tk => ⟨.bl b, H, I.tok tk, rfl, q⟩
/-- isinstance of any value: plain, or a kept error -/
def rIsA (K : PySem.W.Frag) : List V → Hp → VK → Prop := fun xs H Q => rIsi K xs H Q ∨ rIsX K xs H Q
theorem call_isA : CallR X (.builtin "isinstance") (rIsA X.K) := by
  intro pins s σ H xs us Q I r h
  rcases h with h | h
  · exact call_isi pins s σ H xs us Q I r h
  · exact call_isX pins s σ H xs us Q I r h
/-- e.f of a kept error -/
def tXfK (K : PySem.W.Frag) (f : Str) (te : TE) : TE := fun σ H Q => te σ H fun x H1 => ∃ (a D dd : Addr) (fs : List (Str × V)) (v : V), x = .ref a ∧ H1 a = some (ExK (.ref D) (some dd) a) ∧ H1 dd = some (.xd fs) ∧ XfC K D ∧ PySem.W.findIn K (.ref D) f = some none ∧
  fs.lookup f = some v ∧ Q v H1
theorem pe_xfk {e : Expr} {te : TE} {pos : Pos} {n : Str} (he : PE X e te) (hb : attributeBase e n X.env (eval e X.env) = eval e X.env := by rfl) : PE X (.Attribute e n pos) (tXfK X.K n te) := by
  refine ⟨fun pins s σ H Q I h => attr_of hb (thn (he.run pins s σ H _ I h) fun u s1 hh => ?_)⟩
  obtain ⟨x, H1, I1, rx, a, D, dd, fs, v, rfl, ha, hx, T, hno, l, q⟩ := hh
  obtain rfl : u = Value.ref a := rx
  obtain ⟨⟨oe, e0, z, vs, hv⟩, _, _⟩ := I1.hok a _ ha
  obtain ⟨mA, hns, hr⟩ := (show ObjOk X.prog X.w H1 s1.heap dd (.xd fs) from I1.hok dd _ hx)
  obtain ⟨od, ho, hl⟩ := lookIn_ns hns
  obtain ⟨u, hu, ru⟩ := RelO.some_of (v := v) (o := mA n) (by rw [← l]; exact hr n)
  have J : PySem.W.InstAt s1.heap a oe D (some od) := ⟨e0, z.1, by unfold PySem.W.notCls; rw [hv] <;> rfl, by rw [z.2]; exact ho⟩
  exact HandSPX.exc_get I1.kIn J T.ga T.gg T.exC (PySem.W.findObj_own T.hdC hno rfl (by rw [hl, hu])) (handed_of ru) ⟨v, H1, I1.tok _, ru, q⟩
end
def tTryKeep (K : PySem.W.Frag) (c : Value) (i : Nat) (tb : WX → TS) (ts : Addr → Value → Option Addr → TS) (Wout : WX) : TS := fun D σ H => tb (wKeep K c i ts Wout D) D σ H
end Kr
/-! comprehensions whose items are functions of what is walked; join; loops over texts -/
namespace Kr
open PySem PySem.Spec PyProof.Rows L2 Evl
section
variable {K : PySem.W.Frag} {σ : L2.St} {H : Hp} {tl te tb : TE} {t : TT}
theorem given_all (n : Nat) (v : Nat → V) : given n (fun _ => true) v = (List.range n).map v := by
  unfold given
  rw [List.filter_eq_self.mpr (fun _ _ => rfl)]
/-- [te for j in range(n)] -/
theorem el_mapR {ta : TA} {j : Nat} {vs : List Nat} {n : Int} (v : Nat → V) (h : EvA ta σ H [.int n]) (hn : 0 ≤ n ∧ n ≤ 40000) (hw : ∀ x, wipe ((wipe σ vs).set j (some x)) vs = wipe σ vs)
    (he : ∀ (i : Nat) H1, Ex H H1 → (i : Int) < n → Ev te ((wipe σ vs).set j (some (.int (i : Int)))) H1 (v i)) : EvL (tLc (iRng1 ta) (gName j) tYes te vs) σ H ((List.range n.toNat).map v) := by
  rw [← given_all]
  exact el_lcR1 (fun _ => true) v h hn hw (fun i H1 _ _ => fun H2 e2 Q q => q H2 (Ex.refl H2)) fun i H1 e hi _ => he i H1 e hi
/-- [te for j in xs] -/
theorem el_mapL {a : Addr} {xs : List V} {j : Nat} {vs : List Nat} (g : V → V) (h : Ev tl σ H (.ref a)) (hx : SqL K H a xs) (hz : xs.length ≤ 40000) (hw : ∀ x, wipe ((wipe σ vs).set j (some x)) vs = wipe σ vs)
    (he : ∀ x ∈ xs, ∀ H1, Ex H H1 → Ev te ((wipe σ vs).set j (some x)) H1 (g x)) : EvL (tLc (iList K tl) (gName j) tYes te vs) σ H (xs.map g) := by
  have key : given xs.length (fun _ => true) (fun i => g (xs.getD i .non)) = xs.map g := by
    rw [given_all]
    apply List.ext_getElem?
    intro i
    rw [List.getElem?_map, List.getElem?_map]
    by_cases hi : i < xs.length
    · rw [List.getElem?_range hi, List.getElem?_eq_getElem hi]
      simp [List.getD, List.getElem?_eq_getElem hi]
    · rw [List.getElem?_eq_none (by simpa using hi), List.getElem?_eq_none (by simpa using hi)]
      rfl
  rw [← key]
  refine el_lcL (fun _ => true) _ h hx hz hw (fun i x H1 _ _ => fun H2 e2 Q q => q H2 (Ex.refl H2)) fun i x H1 e hi _ => ?_
  have e2 : xs.getD i .non = x := by simp [List.getD, hi]
  rw [e2]
  exact he x (List.mem_of_getElem? hi) H1 e
theorem tYes_step {σ : L2.St} {H : Hp} {A B : Hp → Prop} (h : A H) : tYes σ H fun b H3 => if b = true then A H3 else B H3 := by
  show (if true = true then A H else B H)
  rw [if_pos rfl]
  exact h
/-- [te for j in a text] -/
theorem el_mapS {l : List Nat} {j : Nat} {vs : List Nat} (g : Nat → V) (h : Ev tl σ H (.str (T l))) (hz : l.length ≤ 1000000) (hw : ∀ x, wipe ((wipe σ vs).set j (some x)) vs = wipe σ vs)
    (he : ∀ c ∈ l, ∀ H1, Ex H H1 → Ev te ((wipe σ vs).set j (some (.str (T [c])))) H1 (g c)) : EvL (tLc (iStr tl) (gName j) tYes te vs) σ H (l.map g) := fun H0 e Q q => h H0 e _ fun H1 e1 => ⟨T l, rfl, fun Dl hD => by
  have hsz : (T l).cps.size = l.length := by simp [T]
  refine ⟨fun i m H' => m = l.length - i ∧ i ≤ l.length ∧ Ex H1 H' ∧ H' Dl = some (.lst ((l.take i).map g)), ⟨l.length, by simp, Nat.zero_le _, Ex.new hD, upd_same⟩, ?_⟩
  rintro i m H' ⟨rfl, hi, eH, hDl⟩
  by_cases hlt : i < l.length
  · refine .inr ⟨by show i < (T l).cps.size; rw [hsz]; exact hlt, fun H2 => Ex H1 H2 ∧ H2 Dl = some (.lst ((l.take (i + 1)).map g)), fun H2 p => ⟨l.length - (i + 1), by omega, rfl, hlt, p.1, p.2⟩, fun x H2 y => ?_⟩
    obtain ⟨rfl, c, hc, rfl⟩ := y
    have hc2 : l[i]? = some c := by
      have : (T l).cps[i]? = l[i]? := by simp [T]
      rw [← this]; exact hc
    refine ⟨hw _, ?_⟩
    refine tYes_step ?_
    refine he c (List.mem_of_getElem? hc2) H2 ((e.trans e1).trans eH) H2 (Ex.refl H2) _ fun H3 e3 => ⟨(l.take i).map g, e3 _ _ hDl, ?_, Ex.mut (eH.trans e3) hD, ?_⟩
    · rw [List.length_map, List.length_take, sizeLine_eq]
      omega
    · rw [upd_same, List.take_add_one, hc2]
      simp
  · have : i = l.length := by omega
    subst this
    rw [List.take_length] at hDl
    exact .inl ⟨by show (T l).cps.size ≤ l.length; rw [hsz]; exact Nat.le_refl _, q Dl H' (fresh_back e1 hD) (e1.trans eH) hDl⟩⟩
theorem join_T : ∀ ps : List (List Nat), Txt.join (T []) (ps.map T) = T ps.flatten := by
  intro ps
  rw [TL.join_eq]
  refine TL.ext_tl ?_
  have hj := TL.tl_join (T []) (ps.map T)
  rw [hj]
  have : (ps.map T).map TL.tl = ps := by
    rw [List.map_map]
    exact List.map_id' ps
  rw [this]
  show TL.joinL [] ps = ps.flatten
  clear hj this
  induction ps with
  | nil => rfl
  | cons p ps ih => cases ps with
    | nil => simp [TL.joinL]
    | cons r ps =>
      show p ++ ([] ++ TL.joinL [] (r :: ps)) = _
      rw [ih]
      simp
/-- "".join(..) of a new list of texts -/
theorem ev_join {ps : List (List Nat)} (h : EvL tl σ H (ps.map fun p => V.str (T p))) (hz : ps.flatten.length ≤ 16000000) (hn : ps.length ≤ 1000000) :
    Ev (tBM K "str" (rJoin K) (tC (.str (T []))) (tCons tl tNil)) σ H (.str (T ps.flatten)) := fun H1 e Q q => ⟨rfl, h H1 e _ fun p H2 _ e2 hp => ⟨T [], p, ps.map T, rfl, rfl, .inl (by
    rw [List.map_map]
    exact sq_of hp), by
    have e1 : ((ps.map T).map (·.length)).sum = ps.flatten.length := by
      rw [List.map_map, List.length_flatten]
      congr 1
    have e2 : (T []).length = 0 := rfl
    rw [e1, e2]
    omega, by
    rw [join_T]
    exact q H2 e2⟩⟩
theorem R_flat (b : List Bool) : (b.map fun x => [bc x]).flatten = R b := by
  induction b with
  | nil => rfl
  | cons x b ih => simp [R, ih]
end
theorem ones_R (n : Nat) : (List.replicate n [49]).flatten = R (List.replicate n true) := by
  induction n with
  | zero => rfl
  | succ n ih => rw [List.replicate_succ, List.flatten_cons, ih, List.replicate_succ]; rfl
theorem ev_ones {σ : L2.St} {H : Hp} {te : TE} {n : Int} (h : Ev te σ H (.int n)) (h0 : 0 ≤ n) (h1 : n ≤ 1000) : Ev (tOp rMulT (tC (.str (T [49]))) te) σ H (.str (T (R (List.replicate n.toNat true)))) :=
  ev_is (ev_mulT ev_c h (by omega) (by omega) (by simp; omega)) (by rw [ones_R])
/-- a statement whose ways meet again -/
theorem q_cond {tu tz : TS} {D : Ends} {σ : L2.St} {H : Hp} (P : L2.St → Hp → Prop) (h : ∀ M : L2.St → Hp → Prop, (∀ σ' H', P σ' H' → M σ' H') → tu { D with nx := M } σ H) (k : ∀ σ' H', P σ' H' → tz D σ' H') : tSeq tu tz D σ H :=
  h _ k
end Kr
/-! lists of plain values compared; kept errors asked for their classes; tries -/
namespace Kr
open PySem PySem.Spec PyProof.Rows L2 Evl
/-! ### plain values as data -/
def toD : V → PyData
  | .bl b => .bool b
  | .int i => .int i
  | .str s => .str s
  | _ => .none
def plainV : V → Bool
  | .non => true
  | .bl _ => true
  | .int _ => true
  | .str s => s.cps.all (· < 0x110000)
  | _ => false
theorem dp_plain {K : PySem.W.Frag} {H : Hp} {x : V} (h : plainV x = true) : Dp K H x (toD x) := by
  cases x with
  | non => exact .non
  | bl b => exact .bl b
  | int i => exact .int i
  | str s => exact .str s
  | _ => cases h
theorem dpAll_plain {K : PySem.W.Frag} {H : Hp} : ∀ {xs : List V}, xs.all plainV = true → DpAll K H xs (xs.map toD)
  | [], _ => .nil
  | x :: xs, h => by
    rw [List.all_cons, Bool.and_eq_true] at h
    exact .cons (dp_plain h.1) (dpAll_plain h.2)
theorem lay_plain {x : V} (h : plainV x = true) : (toD x).canLay0 = true := by
  cases x with
  | str s => exact h
  | non => rfl
  | bl b => rfl
  | int i => rfl
  | _ => cases h
theorem layAll_plain : ∀ {xs : List V}, xs.all plainV = true → PyData.canLayAll0 (xs.map toD) = true
  | [], _ => by simp [PyData.canLayAll0]
  | x :: xs, h => by
    rw [List.all_cons, Bool.and_eq_true] at h
    rw [List.map_cons, PyData.canLayAll0, lay_plain h.1, layAll_plain h.2]
    rfl
theorem depth_plain {x : V} : (toD x).depth = 0 := by cases x <;> simp [toD, PyData.depth]
theorem depthAll_plain : ∀ {xs : List V}, PyData.depthAll (xs.map toD) = 0
  | [] => by simp [PyData.depthAll]
  | x :: xs => by
    rw [List.map_cons, PyData.depthAll, depth_plain, depthAll_plain]
    rfl
theorem shaped_plain {x : V} (h : plainV x = true) : SeqAt.shaped (toD x) = true := by
  unfold SeqAt.shaped
  rw [lay_plain h, depth_plain]
  rfl
theorem shaped_list {xs : List V} (h : xs.all plainV = true) : SeqAt.shaped (.list (xs.map toD)) = true := by
  unfold SeqAt.shaped
  rw [show (PyData.list (xs.map toD)).canLay0 = true by rw [PyData.canLay0]; exact layAll_plain h]
  rw [show (PyData.list (xs.map toD)).depth = 1 by rw [PyData.depth, depthAll_plain]]
  rfl
theorem shaped_tup {xs : List V} (h : xs.all plainV = true) : SeqAt.shaped (.tuple (xs.map toD)) = true := by
  unfold SeqAt.shaped
  rw [show (PyData.tuple (xs.map toD)).canLay0 = true by rw [PyData.canLay0]; exact layAll_plain h]
  rw [show (PyData.tuple (xs.map toD)).depth = 1 by rw [PyData.depth, depthAll_plain]]
  rfl
theorem eqv_same {d : PyData} (h : SeqAt.shaped d = true) : PyData.eqv d d = true := PySem.SeqAt.eqv_refl d (SeqAt.canLay_of_shaped h)
section
variable {K : PySem.W.Frag} {σ : L2.St} {H : Hp} {ta tb te : TE} {x : V}
theorem rv_eqD {y : V} {d e : PyData} (h : Dp K H x d) (h2 : Dp K H y e) (hd : SeqAt.shaped d = true) (he : SeqAt.shaped e = true) (hm : ∀ H1, Ex H H1 → Dp K H1 x d) (hm2 : ∀ H1, Ex H H1 → Dp K H1 y e) : RV (rEqD K) x y H (.bl (PyData.eqv d e)) := fun H1 e1 Q q =>
  ⟨d, e, hm H1 e1, hm2 H1 e1, hd, he, q H1 (Ex.refl H1)⟩
mutual
theorem dp_mono {H1 : Hp} (e : Ex H H1) : ∀ {v : V} {d : PyData}, Dp K H v d → Dp K H1 v d
  | _, _, .non => .non
  | _, _, .bl b => .bl b
  | _, _, .int i => .int i
  | _, _, .str s => .str s
  | _, _, .lst h a => .lst (ex_l e h) (dpAll_mono e a)
  | _, _, .tup h a => .tup (ex_t e h) (dpAll_mono e a)
theorem dpAll_mono {H1 : Hp} (e : Ex H H1) : ∀ {vs : List V} {ds : List PyData}, DpAll K H vs ds → DpAll K H1 vs ds
  | _, _, .nil => .nil
  | _, _, .cons h a => .cons (dp_mono e h) (dpAll_mono e a)
end
/-- xs == ys, xs != ys of two new lists of like plain values -/
theorem ev_eqNL {xs : List V} (ha : EvL ta σ H xs) (hb : ∀ H1, Ex H H1 → EvL tb σ H1 xs) (h : xs.all plainV = true) : Ev (tOp (rEqD K) ta tb) σ H (.bl true) := fun H1 e Q q =>
  ha H1 e _ fun p H2 _ e2 hp => hb H2 (e.trans e2) H2 (Ex.refl H2) _ fun r H3 _ e3 hr => ⟨.list (xs.map toD), .list (xs.map toD), .lst (sq_of (e3 _ _ hp)) (dpAll_plain h), .lst (sq_of hr) (dpAll_plain h), shaped_list h, shaped_list h, by
    rw [eqv_same (shaped_list h)]
    exact q H3 (e2.trans e3)⟩
theorem ev_neNL {xs : List V} (ha : EvL ta σ H xs) (hb : ∀ H1, Ex H H1 → EvL tb σ H1 xs) (h : xs.all plainV = true) : Ev (tOp (rNeD K) ta tb) σ H (.bl false) := fun H1 e Q q =>
  ha H1 e _ fun p H2 _ e2 hp => hb H2 (e.trans e2) H2 (Ex.refl H2) _ fun r H3 _ e3 hr => ⟨.list (xs.map toD), .list (xs.map toD), .lst (sq_of (e3 _ _ hp)) (dpAll_plain h), .lst (sq_of hr) (dpAll_plain h), shaped_list h, shaped_list h, by
    rw [eqv_same (shaped_list h)]
    exact q H3 (e2.trans e3)⟩
/-- a + b of lists: the first one a name's | new -/
theorem el_cat {p : Addr} {xs ys : List V} (ha : Ev ta σ H (.ref p)) (hp : H p = some (.lst xs)) (hb : EvL tb σ H ys) (hz : xs.length + ys.length ≤ 100000) : EvL (tOp rCat ta tb) σ H (xs ++ ys) := fun H1 e Q q =>
  ha H1 e _ fun H2 e2 => hb H2 (e.trans e2) _ fun r H3 hr e3 h3 => ⟨p, r, xs, ys, rfl, rfl, ((e.trans e2).trans e3) _ _ hp, h3, sz_of hz, fun l hl => q l _ (fresh_back (e2.trans e3) hl) ((e2.trans e3).trans (Ex.new hl)) upd_same⟩
theorem el_catN {xs ys : List V} (ha : EvL ta σ H xs) (hb : ∀ H1, Ex H H1 → EvL tb σ H1 ys) (hz : xs.length + ys.length ≤ 100000) : EvL (tOp rCat ta tb) σ H (xs ++ ys) := fun H1 e Q q =>
  ha H1 e _ fun p H2 _ e2 hp => hb H2 (e.trans e2) H2 (Ex.refl H2) _ fun r H3 _ e3 h3 => ⟨p, r, xs, ys, rfl, rfl, e3 _ _ hp, h3, sz_of hz, fun l hl => q l _ (fresh_back (e2.trans e3) hl) ((e2.trans e3).trans (Ex.new hl)) upd_same⟩
/-- a list * n, the list new -/
theorem el_repN {xs : List V} {n : Int} (ha : EvL ta σ H xs) (hb : ∀ H1, Ex H H1 → Ev tb σ H1 (.int n)) (h0 : -100000 ≤ n) (h1 : n ≤ 100000) (hz : xs.length * n.toNat ≤ 100000) : EvL (tOp rRep ta tb) σ H (List.replicate n.toNat xs).flatten := fun H1 e Q q =>
  ha H1 e _ fun p H2 _ e2 hp => hb H2 (e.trans e2) H2 (Ex.refl H2) _ fun H3 e3 => ⟨p, n, xs, rfl, rfl, e3 _ _ hp, by omega, by omega, sz_of hz, fun l hl => q l _ (fresh_back (e2.trans e3) hl) ((e2.trans e3).trans (Ex.new hl)) upd_same⟩
/-! ### kept errors -/
theorem xd_mono {H1 : Hp} {d : Option Addr} (e : Ex H H1) (h : XdOk H d) : XdOk H1 d := by
  rcases h with rfl | ⟨dd, fs, rfl, h⟩
  · exact .inl rfl
  · exact .inr ⟨dd, fs, rfl, e _ _ h⟩
/-- x is a kept error of the class named n -/
def IsErr (K : PySem.W.Frag) (H : Hp) (x : V) (n : Str) : Prop := ∃ a d, x = .ref a ∧ H a = some (ExK (.ref (He.ga K n)) d a) ∧ XdOk H d
theorem IsErr.mono {H1 : Hp} {n : Str} (e : Ex H H1) (h : IsErr K H x n) : IsErr K H1 x n := by
  obtain ⟨a, d, r, h1, h2⟩ := h
  exact ⟨a, d, r, e _ _ h1, xd_mono e h2⟩
theorem ev_isE {c : V} {cv : Value} {n : Str} {b : Bool} (h : Ev ta σ H x) (hx : IsErr K H x n) (hc : ExcC K (He.ga K n)) (hcv : ClsV c cv) (hb : PySem.W.kitOne K (.ref (He.ga K n)) cv = some b) :
    Ev (tCB (rIsA K) (tCons ta (tCons (tC c) tNil))) σ H (.bl b) := fun H1 e Q q => h H1 e _ fun H2 e2 => by
  obtain ⟨a, d, rfl, h1, h2⟩ := hx.mono (e.trans e2)
  exact .inr ⟨a, He.ga K n, d, c, cv, b, rfl, h1, h2, hc, hcv, hb, q H2 e2⟩
/-- .. of a plain value -/
theorem ev_isP {n m : String} {b : Bool} (h : Ev ta σ H x) (hn : tyS x = some n) (hb : kitB n m = some b) : Ev (tCB (rIsA K) (tCons ta (tCons (tC (.ty m)) tNil))) σ H (.bl b) := fun H1 e Q q =>
  h H1 e _ fun H2 e2 => .inl ⟨x, .ty m, .type n, .type m, b, rfl, .ty m, tyS_ok hn H2, kit_ty hb, q H2 e2⟩
theorem ev_callS {sp : Sp} {vs : List V} {E : L2.St → XK} {ta : TA} {z : V} (h : EvA ta σ H vs) (hs : SpV sp vs H z) : Ev (tCallS sp E ta) σ H z := fun H1 e Q q =>
  h H1 e _ fun H2 e2 => hs H2 (e.trans e2) Q (fun H3 e3 => q H3 (e2.trans e3)) (E σ)
theorem s_dropX {sp : Sp} {vs : List V} {E : L2.St → XK} {ta : TA} {D : Ends} (h : EvA ta σ H vs) (k : ∀ H1, Ex H H1 → sp vs H1 (fun _ H2 => D.nx σ H2) (E σ)) : tDrop (tCallS sp E ta) D σ H := h H (Ex.refl H) _ k
end
/-! ### tries -/
section
variable {K : PySem.W.Frag} {σ : L2.St} {H : Hp} {D : Ends} {tz : TS} {c : Value} {i : Nat} {tb : WX → TS} {ts : Addr → Value → Option Addr → TS} {Wout : WX}
theorem q_try (h : tb (wKeep K c i ts Wout { D with nx := tz D }) { D with nx := tz D } σ H) : tSeq (tTryKeep K c i tb ts Wout) tz D σ H := h
/-- an error comes to a clause that names it, its suite keeps it in slot j -/
theorem keep_err {j : Nat} {cls : Value} {d : Option Addr} (he : PySem.W.exmOne K cls c = some true) (hi : i < σ.length) (h : ∀ a, H a = none → D.nx ((((σ.set i (some (.ref a))).set j (some (.ref a)))).set i none) (upd H a (ExK cls d a))) :
    wKeep K c i (fun _ _ _ => tAsg (tVar i) (gName j)) Wout D cls d σ H :=
  ⟨true, he, fun _ a ha => ⟨.ref a, by rw [List.getElem?_set_self hi], h a ha⟩, fun z => nomatch z⟩
end
theorem RetV.mono {v : V} {H H1 : Hp} {Q : VK} (q : RetV v H Q) (e : Ex H H1) : RetV v H1 Q := fun H2 e2 => q H2 (e.trans e2)
theorem RetL.mono {xs : List V} {H H1 : Hp} {Q : VK} (q : RetL xs H Q) (e : Ex H H1) : RetL xs H1 Q := fun p H2 hp e2 h => q p H2 (fresh_back e hp) (e.trans e2) h
end Kr
/-! what two rows begin with in common; new lists as arguments; answers of which a word is told -/
namespace Kr
open PySem PySem.Spec PyProof.Rows L2 Evl
/-- how many signs two rows begin with in common -/
def com : List Bool → List Bool → Nat
  | x :: a, y :: b => if x = y then com a b + 1 else 0
  | _, _ => 0
theorem com_nil (a : List Bool) : com a [] = 0 := by cases a <;> rfl
theorem com_le : ∀ (a b : List Bool), com a b ≤ a.length
  | [], _ => Nat.zero_le _
  | x :: a, [] => Nat.zero_le _
  | x :: a, y :: b => by
    have := com_le a b
    unfold com
    split
    · exact Nat.succ_le_succ this
    · exact Nat.zero_le _
theorem com_symm : ∀ (a b : List Bool), com a b = com b a
  | [], [] => rfl
  | [], _ :: _ => rfl
  | _ :: _, [] => rfl
  | x :: a, y :: b => by
    unfold com
    rw [com_symm a b]
    by_cases h : x = y
    · subst h; rfl
    · rw [if_neg h, if_neg (fun z => h z.symm)]
theorem com_le2 (a b : List Bool) : com a b ≤ b.length := by rw [com_symm]; exact com_le b a
theorem com_end {a b : List Bool} {i : Nat} (h : ¬ (i < a.length ∧ i < b.length)) : com (a.drop i) (b.drop i) = 0 := by
  by_cases h1 : i < a.length
  · rw [List.drop_eq_nil_of_le (as := b) (i := i) (by omega), com_nil]
  · rw [List.drop_eq_nil_of_le (as := a) (i := i) (by omega)]
    cases b.drop i <;> rfl
theorem com_at {a b : List Bool} {i : Nat} (h1 : i < a.length) (h2 : i < b.length) : com (a.drop i) (b.drop i) = if a[i] = b[i] then com (a.drop (i + 1)) (b.drop (i + 1)) + 1 else 0 := by
  rw [List.drop_eq_getElem_cons h1, List.drop_eq_getElem_cons h2]
  rfl
theorem com_take : ∀ (a b : List Bool), a.take (com a b) = b.take (com a b)
  | [], b => by cases b <;> rfl
  | x :: a, [] => rfl
  | x :: a, y :: b => by
    unfold com
    split
    · rename_i h
      subst h
      rw [List.take_succ_cons, List.take_succ_cons, com_take a b]
    · rfl
theorem R_at {b : List Bool} {i : Nat} (h : i < b.length) : atI (R b) (i : Int) = some (bc b[i]) := by
  refine atI_nat ?_
  rw [R, List.getElem?_map, List.getElem?_eq_getElem h]
  rfl
theorem R_eq {a b : List Bool} : R a = R b ↔ a = b := ⟨R_inj, fun h => by rw [h]⟩
theorem cutL_mid {l : List Nat} {i j : Nat} : cutL l (some (i : Int)) (some (j : Int)) = (l.drop i).take (j - i) := by
  unfold cutL
  rw [HT.sIx_nat, HT.sIx_nat]
  by_cases h : i ≤ l.length
  · rw [Nat.min_eq_left h]
    by_cases h2 : j ≤ l.length
    · rw [Nat.min_eq_left h2]
    · rw [Nat.min_eq_right (by omega), List.take_of_length_le (l := l.drop i) (i := l.length - i) (by simp), List.take_of_length_le (by simp; omega)]
  · rw [Nat.min_eq_right (a := i) (by omega), List.drop_eq_nil_of_le (Nat.le_refl _), List.drop_eq_nil_of_le (by omega)]
    simp
theorem R_mid {b : List Bool} {i j : Nat} : cutL (R b) (some (i : Int)) (some (j : Int)) = R ((b.drop i).take (j - i)) := by rw [cutL_mid, R_drop, R_take]
/-- one sign cut out of each -/
theorem cut1_eq {a b : List Bool} {i : Nat} (h : i < a.length) : ((a.drop i).take 1 = (b.drop i).take 1) ↔ ∃ h2 : i < b.length, a[i] = b[i] := by
  have ha : (a.drop i).take 1 = [a[i]] := by rw [List.drop_eq_getElem_cons h]; rfl
  rw [ha]
  by_cases h2 : i < b.length
  · have hb : (b.drop i).take 1 = [b[i]] := by rw [List.drop_eq_getElem_cons h2]; rfl
    rw [hb]
    simp [h2]
  · rw [List.drop_eq_nil_of_le (as := b) (i := i) (by omega)]
    simp [h2]
section
variable {K : PySem.W.Frag} {σ : L2.St} {H : Hp} {ta tb te : TE} {D : Ends} {tz : TS} {x z : V}
/-- a call one of whose arguments is a new list -/
theorem ev_callL1 {sp : Sp} {E : XK} {xs : List V} (h : EvL ta σ H xs) (hb : ∀ H1, Ex H H1 → Ev tb σ H1 x) (hs : ∀ p H1, Ex H H1 → H1 p = some (.lst xs) → SpV sp [.ref p, x] H1 z) : Ev (tCall sp [] E (tCons ta (tCons tb tNil))) σ H z := fun H1 e Q q =>
  h H1 e _ fun p H2 _ e2 hp => hb H2 (e.trans e2) H2 (Ex.refl H2) _ fun H3 e3 => hs p H3 ((e.trans e2).trans e3) (e3 _ _ hp) H3 (Ex.refl H3) Q (fun H4 e4 => q H4 ((e2.trans e3).trans e4)) E
/-- a new list of which a word holds -/
def EvM (te : TE) (σ : L2.St) (H : Hp) (P : List V → Prop) : Prop := ∀ H1, Ex H H1 → ∀ Q : VK, (∀ xs p H2, P xs → H1 p = none → Ex H1 H2 → H2 p = some (.lst xs) → Q (.ref p) H2) → te σ H1 Q
/-- a value of which a word holds -/
def EvW (te : TE) (σ : L2.St) (H : Hp) (P : V → Prop) : Prop := ∀ H1, Ex H H1 → ∀ Q : VK, (∀ v H2, P v → Ex H1 H2 → Q v H2) → te σ H1 Q
theorem q_asgW {i : Nat} {P : V → Prop} (h : EvW te σ H P) (k : ∀ v H1, P v → Ex H H1 → tz D (σ.set i (some v)) H1) : tSeq (tAsg te (gName i)) tz D σ H := h H (Ex.refl H) _ k
theorem q_asgM {i : Nat} {P : List V → Prop} (h : EvM te σ H P) (k : ∀ xs p H1, P xs → H p = none → Ex H H1 → H1 p = some (.lst xs) → tz D (σ.set i (some (.ref p))) H1) : tSeq (tAsg te (gName i)) tz D σ H := h H (Ex.refl H) _ k
/-- a, b = a new list of two -/
theorem q_two {i j : Nat} {P : V → V → Prop} (h : EvM te σ H (fun xs => ∃ x y, xs = [x, y] ∧ P x y)) (k : ∀ x y H1, P x y → Ex H H1 → tz D ((σ.set i (some x)).set j (some y)) H1) : tSeq (tAsg te (gLst K 2 (gCons (gName i) (gCons (gName j) gNil)))) tz D σ H :=
  h H (Ex.refl H) _ fun xs p H1 ⟨x, y, e, hP⟩ _ e1 h1 => ⟨p, xs, rfl, sq_of h1, by rw [e]; rfl, by
    subst e
    exact ⟨x, [y], rfl, y, [], rfl, rfl, k x y H1 hP e1⟩⟩
/-- a call that may raise, its answer in a name -/
theorem s_asgX {sp : Sp} {vs : List V} {E : L2.St → XK} {ta : TA} {i : Nat} (h : EvA ta σ H vs) (k : ∀ H1, Ex H H1 → sp vs H1 (fun v H2 => D.nx (σ.set i (some v)) H2) (E σ)) : tAsg (tCallS sp E ta) (gName i) D σ H := h H (Ex.refl H) _ k
end
end Kr
/-! min and max of two texts; > and strip of texts; the order of rows -/
namespace PySem.Krt
open PySem Sem
/-- < of two values that are texts -/
def ltS : Value → Value → Bool
  | .str x _, .str y _ => decide (x.cps.toList < y.cps.toList)
  | _, _ => false
def isS : Value → Prop | .str _ _ => True | _ => False
theorem cmpOf_ltS {prog : Program} {w : World} {A : Around} (vs : Array Value) (hn : ∀ v ∈ vs, isS v) :
    CmpOf prog w A .Lt (fun i v => vs[i]? = some v) (fun i j => ltS (vs.getD i .none) (vs.getD j .none)) := fun i j vi vj s Q E hi hj h => by
  have e1 : vs.getD i .none = vi := by simp [Array.getD_eq_getD_getElem?, hi]
  have e2 : vs.getD j .none = vj := by simp [Array.getD_eq_getD_getElem?, hj]
  simp only [e1, e2] at h
  have n1 := hn _ (Array.mem_of_getElem? hi)
  have n2 := hn _ (Array.mem_of_getElem? hj)
  cases vi with
  | str x t => cases vj with
    | str y u => exact richCompare_gives (op := .Lt) (typeIs_str s _ t) (typeIs_str s _ u) F.slot_str_lt F.entry_str_lt (F.args_str_lt_2 _ _) (gives_str_lt _ _ t u) (fun x => nomatch x) h
    | _ => exact n2.elim
  | _ => exact n1.elim
theorem cmpOf_gtS {prog : Program} {w : World} {A : Around} (vs : Array Value) (hn : ∀ v ∈ vs, isS v) :
    CmpOf prog w A .Gt (fun i v => vs[i]? = some v) (fun i j => ltS (vs.getD j .none) (vs.getD i .none)) := fun i j vi vj s Q E hi hj h => by
  have e1 : vs.getD i .none = vi := by simp [Array.getD_eq_getD_getElem?, hi]
  have e2 : vs.getD j .none = vj := by simp [Array.getD_eq_getD_getElem?, hj]
  simp only [e1, e2] at h
  have n1 := hn _ (Array.mem_of_getElem? hi)
  have n2 := hn _ (Array.mem_of_getElem? hj)
  cases vi with
  | str x t => cases vj with
    | str y u => exact richCompare_gives (op := .Gt) (typeIs_str s _ t) (typeIs_str s _ u) F.slot_str_gt F.entry_str_gt (F.args_str_gt_2 _ _) (gives_str_gt _ _ t u) (fun x => nomatch x) h
    | _ => exact n2.elim
  | _ => exact n1.elim
theorem two_old {s : Shared} {a b : Value} {h' : Heap} (hk : ∀ c o, c ∉ [(s.heap.push { cls := .type "tuple", data := .seq #[a, b] }).objs.size] → ((s.heap.push { cls := .type "tuple", data := .seq #[a, b] }).push { cls := .type "tuple_iterator", data := .fields #[.ref s.heap.objs.size, .int 0 0] }).get? c = some o → h'.get? c = some o) :
    ∀ c o, s.heap.get? c = some o → h'.get? c = some o := fun c o e => by
  refine hk c o (fun hm => ?_) (Heap.get?_push_of_some _ (Heap.get?_push_of_some _ e))
  rcases List.mem_cons.mp hm with e1 | hm
  · have := Heap.lt_size e
    rw [e1, Heap.size_push] at this
    exact Nat.lt_irrefl _ (Nat.lt_of_succ_lt this)
  · cases hm
section
variable {prog : Program} {w : World} {A : Around} {E : Value → Shared → Prop} {s : Shared} {Q : Value → Shared → Prop} {a b : Value}
theorem min_two_txt (hh : A.handled = none) (ha : isS a) (hb : isS b)
    (h : ∀ h' tk, (∀ c o, s.heap.get? c = some o → h'.get? c = some o) → Q (if ltS b a then b else a) { s with heap := h', toks := tk }) :
    wpAny (model prog w) A (call (.builtin "min") [a, b]) Q E s := by
  have hT : (s.heap.push { cls := .type "tuple", data := .seq #[a, b] }).IsTuple s.heap.objs.size #[a, b] := ⟨_, Heap.get?_push_size _ rfl, rfl, 0, rfl⟩
  have hsz : (s.heap.push { cls := .type "tuple", data := .seq #[a, b] }).objs.size = s.heap.objs.size + 1 := Heap.size_push ..
  refine call_min_two (wpAny_pyIter_tuple hT ⟨_, [_, s.heap.objs.size], [_], _, _, _, _, rfl, Walks.tuple (A := A.in1) hh _ s.heap.objs.size (by rw [hsz]; exact Nat.ne_of_lt (Nat.lt_succ_self _)) #[a, b],
    ⟨⟨_, Heap.get?_push_size _ rfl, rfl, rfl⟩, hT.push _⟩, fun c hc => ?_, by simp, cmpOf_ltS #[a, b] (by simp [ha, hb]), fun v h' tk hP hk => ?_⟩)
  · show c < ((s.heap.push _).push _).objs.size
    rw [Heap.size_push, hsz]
    rcases List.mem_cons.mp hc with e1 | hc
    · rw [e1, hsz]; exact Nat.lt_succ_self _
    · rcases List.mem_cons.mp hc with e1 | hc
      · rw [e1]; exact Nat.lt_succ_of_lt (Nat.lt_succ_self _)
      · cases hc
  · have := h h' tk (two_old hk)
    have hv : v = if ltS b a then b else a := by
      cases hc : ltS b a <;> simp [argBest, hc] at hP <;> simp [hP]
    rw [hv]
    exact this
theorem max_two_txt (hh : A.handled = none) (ha : isS a) (hb : isS b)
    (h : ∀ h' tk, (∀ c o, s.heap.get? c = some o → h'.get? c = some o) → Q (if ltS a b then b else a) { s with heap := h', toks := tk }) :
    wpAny (model prog w) A (call (.builtin "max") [a, b]) Q E s := by
  have hT : (s.heap.push { cls := .type "tuple", data := .seq #[a, b] }).IsTuple s.heap.objs.size #[a, b] := ⟨_, Heap.get?_push_size _ rfl, rfl, 0, rfl⟩
  have hsz : (s.heap.push { cls := .type "tuple", data := .seq #[a, b] }).objs.size = s.heap.objs.size + 1 := Heap.size_push ..
  refine call_max_two (wpAny_pyIter_tuple hT ⟨_, [_, s.heap.objs.size], [_], _, _, _, _, rfl, Walks.tuple (A := A.in1) hh _ s.heap.objs.size (by rw [hsz]; exact Nat.ne_of_lt (Nat.lt_succ_self _)) #[a, b],
    ⟨⟨_, Heap.get?_push_size _ rfl, rfl, rfl⟩, hT.push _⟩, fun c hc => ?_, by simp, cmpOf_gtS #[a, b] (by simp [ha, hb]), fun v h' tk hP hk => ?_⟩)
  · show c < ((s.heap.push _).push _).objs.size
    rw [Heap.size_push, hsz]
    rcases List.mem_cons.mp hc with e1 | hc
    · rw [e1, hsz]; exact Nat.lt_succ_self _
    · rcases List.mem_cons.mp hc with e1 | hc
      · rw [e1]; exact Nat.lt_succ_of_lt (Nat.lt_succ_self _)
      · cases hc
  · have := h h' tk (two_old hk)
    have hv : v = if ltS a b then b else a := by
      cases hc : ltS a b <;> simp [argBest, hc] at hP <;> simp [hP]
    rw [hv]
    exact this
end
end PySem.Krt
namespace Kr
open PySem PySem.Spec PyProof.Rows L2 Evl
def rMinT : List V → Hp → VK → Prop := fun xs H Q => ∃ i j, xs = [.str i, .str j] ∧ Q (.str (if j.cps.toList < i.cps.toList then j else i)) H
def rMaxT : List V → Hp → VK → Prop := fun xs H Q => ∃ i j, xs = [.str i, .str j] ∧ Q (.str (if i.cps.toList < j.cps.toList then j else i)) H
def rGtT : R2 := fun x y H Q => ∃ i j, x = .str i ∧ y = .str j ∧ Q (.bl (decide (j.cps.toList < i.cps.toList))) H
def rGeT : R2 := fun x y H Q => ∃ i j, x = .str i ∧ y = .str j ∧ Q (.bl (!decide (i.cps.toList < j.cps.toList))) H
def rStripC : V → List V → Hp → VK → Prop := fun x xs H Q => ∃ a b, x = .str a ∧ xs = [.str b] ∧ a.length ≤ sizeLine ∧ Q (.str (Txt.stripChars a b)) H
section
variable {X : Cx}
theorem call_minT (hc : X.calm = true) : CallR X (.builtin "min") rMinT := by
  intro pins s σ H xs us Q I r h
  obtain ⟨i, j, rfl, q⟩ := h
  obtain ⟨u, w', rfl, ⟨t, rfl⟩, ⟨t', rfl⟩⟩ := vals2 r
  refine PySem.Krt.min_two_txt (I.ok.hd hc) trivial trivial fun h' tk k => ⟨_, H, I.kept k, ?_, q⟩
  unfold PySem.Krt.ltS
  by_cases hj : j.cps.toList < i.cps.toList
  · rw [if_pos hj, if_pos (by simpa using hj)]; exact ⟨_, rfl⟩
  · rw [if_neg hj, if_neg (by simpa using hj)]; exact ⟨_, rfl⟩
theorem call_maxT (hc : X.calm = true) : CallR X (.builtin "max") rMaxT := by
  intro pins s σ H xs us Q I r h
  obtain ⟨i, j, rfl, q⟩ := h
  obtain ⟨u, w', rfl, ⟨t, rfl⟩, ⟨t', rfl⟩⟩ := vals2 r
  refine PySem.Krt.max_two_txt (I.ok.hd hc) trivial trivial fun h' tk k => ⟨_, H, I.kept k, ?_, q⟩
  unfold PySem.Krt.ltS
  by_cases hj : i.cps.toList < j.cps.toList
  · rw [if_pos hj, if_pos (by simpa using hj)]; exact ⟨_, rfl⟩
  · rw [if_neg hj, if_neg (by simpa using hj)]; exact ⟨_, rfl⟩
theorem op_gtT' : OpR X (compareOp .Gt) rGtT := op_gt_str
theorem op_geT' : OpR X (compareOp .GtE) rGeT := op_ge_str
theorem mt_stripC : MtR X "str.strip" rStripC := mt_stripChars
end
section
variable {K : PySem.W.Frag} {σ : L2.St} {H : Hp} {ta tb te : TE} {x : V}
theorem ev_minT {a b : List Nat} (ha : Ev ta σ H (.str (T a))) (hb : Ev tb σ H (.str (T b))) : Ev (tCB rMinT (tCons ta (tCons tb tNil))) σ H (.str (T (if b < a then b else a))) := fun H1 e Q q =>
  ha H1 e _ fun H2 e2 => hb H2 (e.trans e2) _ fun H3 e3 => ⟨T a, T b, rfl, by
    have := q H3 (e2.trans e3)
    by_cases h : b < a
    · rw [if_pos h] at this; rw [if_pos (show (T b).cps.toList < (T a).cps.toList from h)]; exact this
    · rw [if_neg h] at this; rw [if_neg (show ¬ (T b).cps.toList < (T a).cps.toList from h)]; exact this⟩
theorem ev_maxT {a b : List Nat} (ha : Ev ta σ H (.str (T a))) (hb : Ev tb σ H (.str (T b))) : Ev (tCB rMaxT (tCons ta (tCons tb tNil))) σ H (.str (T (if a < b then b else a))) := fun H1 e Q q =>
  ha H1 e _ fun H2 e2 => hb H2 (e.trans e2) _ fun H3 e3 => ⟨T a, T b, rfl, by
    have := q H3 (e2.trans e3)
    by_cases h : a < b
    · rw [if_pos h] at this; rw [if_pos (show (T a).cps.toList < (T b).cps.toList from h)]; exact this
    · rw [if_neg h] at this; rw [if_neg (show ¬ (T a).cps.toList < (T b).cps.toList from h)]; exact this⟩
theorem rv_gtT {a b : List Nat} : RV rGtT (.str (T a)) (.str (T b)) H (.bl (decide (b < a))) := fun H1 _ Q q => ⟨T a, T b, rfl, rfl, q H1 (Ex.refl H1)⟩
theorem ev_gtT {a b : List Nat} (ha : Ev ta σ H (.str (T a))) (hb : Ev tb σ H (.str (T b))) : Ev (tOp rGtT ta tb) σ H (.bl (decide (b < a))) := ev_op ha hb rv_gtT
theorem rv_geT {a b : List Nat} : RV rGeT (.str (T a)) (.str (T b)) H (.bl (!decide (a < b))) := fun H1 _ Q q => ⟨T a, T b, rfl, rfl, q H1 (Ex.refl H1)⟩
theorem ev_geT {a b : List Nat} (ha : Ev ta σ H (.str (T a))) (hb : Ev tb σ H (.str (T b))) : Ev (tOp rGeT ta tb) σ H (.bl (!decide (a < b))) := ev_op ha hb rv_geT
theorem strip_R (b : List Bool) : Txt.stripChars (T (R b)) (T [48, 49]) = T [] := by
  have hg : ∀ c ∈ R b, (T [48, 49]).cps.contains c = true := by
    intro c hc
    obtain ⟨x, _, rfl⟩ := List.mem_map.mp hc
    cases x <;> simp [T, bc]
  show Txt.stripBy (fun c => (T [48, 49]).cps.contains c) true true (T (R b)) = _
  rw [stripBy_eq]
  have e : stripLo (fun c => (T [48, 49]).cps.contains c) true (T (R b)) = (R b).length := by
    unfold stripLo
    rw [if_pos rfl]
    show ((R b).takeWhile _).length = _
    congr 1
    generalize R b = l at hg
    induction l with
    | nil => rfl
    | cons c l ih => rw [List.takeWhile_cons, if_pos (hg c (List.mem_cons_self ..)), ih fun d hd => hg d (List.mem_cons_of_mem _ hd)]
  rw [e]
  unfold Builtin.Str.strSub T
  simp
theorem ev_stripR {b : List Bool} (h : Ev ta σ H (.str (T (R b)))) (hl : b.length ≤ 1000000) : Ev (tBM K "str" rStripC ta (tCons (tC (.str (T [48, 49]))) tNil)) σ H (.str (T [])) := fun H1 e Q q =>
  h H1 e _ fun H2 e2 => ⟨rfl, T (R b), T [48, 49], rfl, rfl, by rw [T_len, R_len, sizeLine_eq]; omega, by
    rw [strip_R]
    exact q H2 e2⟩
end
/-! ### the order of rows -/
theorem not_lt_pre : ∀ (p t : List Nat), ¬ p ++ t < p
  | [], t => by simp
  | c :: p, t => by
    rw [List.cons_append, List.cons_lt_cons_iff]
    rintro (h | ⟨_, h⟩)
    · exact Nat.lt_irrefl _ h
    · exact not_lt_pre p t h
theorem R_lt_or : ∀ (a b : List Bool), ¬ R a < R b → R a ≠ R b → R b < R a
  | [], [], _, h => absurd rfl h
  | [], y :: b, h, _ => absurd (List.Lex.nil) h
  | x :: a, [], _, _ => List.Lex.nil
  | x :: a, y :: b, h, h2 => by
    show bc y :: R b < bc x :: R a
    have h3 : ¬ bc x :: R a < bc y :: R b := h
    have h4 : ¬ bc x :: R a = bc y :: R b := h2
    rw [List.cons_lt_cons_iff] at h3 ⊢
    by_cases hb : bc x = bc y
    · rw [hb] at h3 h4
      exact .inr ⟨hb.symm, R_lt_or a b (fun z => h3 (.inr ⟨rfl, z⟩)) (fun z => h4 (by rw [z]))⟩
    · have : ¬ bc x < bc y := fun z => h3 (.inl z)
      exact .inl (by omega)
/-- how the lesser of two rows comes to be the lesser -/
theorem R_lt_cases : ∀ (a b : List Bool), R a < R b → (∃ c t, b = a ++ c :: t ∧ com a b = a.length) ∨ ∃ p s t, a = p ++ false :: s ∧ b = p ++ true :: t ∧ com a b = p.length
  | [], [], h => by cases h
  | [], y :: b, _ => .inl ⟨y, b, rfl, rfl⟩
  | x :: a, [], h => by cases h
  | x :: a, y :: b, h => by
    have h3 : bc x :: R a < bc y :: R b := h
    rw [List.cons_lt_cons_iff] at h3
    rcases h3 with h3 | ⟨h3, h4⟩
    · cases x with
      | true => cases y <;> exact absurd h3 (by decide)
      | false => cases y with
        | false => exact absurd h3 (by decide)
        | true => exact .inr ⟨[], a, b, rfl, rfl, rfl⟩
    · have hxy := bc_inj h3
      subst hxy
      have hc : com (x :: a) (x :: b) = com a b + 1 := if_pos rfl
      rcases R_lt_cases a b h4 with ⟨c, t, h5, h6⟩ | ⟨p, s, t, h5, h6, h7⟩
      · exact .inl ⟨c, t, by rw [List.cons_append, ← h5], by rw [hc, h6]; rfl⟩
      · exact .inr ⟨x :: p, s, t, by rw [List.cons_append, ← h5], by rw [List.cons_append, ← h6], by rw [hc, h7]; rfl⟩
theorem R_lt_pre {a : List Bool} {c : Bool} {t : List Bool} : R a < R (a ++ c :: t) := by rw [R_app]; exact lt_pre
theorem R_lt_split {p s t : List Bool} : R (p ++ false :: s) < R (p ++ true :: t) := by rw [R_app, R_app]; exact lt_split
theorem R_not_lt_pre {p t : List Bool} : ¬ R (p ++ t) < R p := by rw [R_app]; exact not_lt_pre _ _
end Kr
/-! fields of instances of one class, a method of one of two classes, errors with an __init__ of their own that calls RiseError's -/
namespace Kr
open PySem PySem.Spec PyProof.Rows L2 Evl
section
variable {X : Cx} {o e value : Expr} {f : Str} {pos pos' tpos : Pos} {ta tv : TE} {C : Addr}
def tFldC (C : Addr) (ta : TE) (f : Str) : TE := fun σ H Q => ta σ H fun x H1 => ∃ a dx fs v, x = .ref a ∧ H1 a = some (.ins C dx fs) ∧ fs.lookup f = some v ∧ Q v H1
def sFldC (C : Addr) (ta tv : TE) (f : Str) : TS := fun D σ H => tv σ H fun y H1 => ta σ H1 fun x H2 => ∃ a dx fs, x = .ref a ∧ H2 a = some (.ins C dx fs) ∧ fs.length < 1000 ∧ D.nx σ (upd H2 a (.ins C dx (putF f y fs)))
def sFldAugC (C : Addr) (ta tv : TE) (rd : V → V → Hp → VK → Prop) (f : Str) : TS := fun D σ H => ta σ H fun x H1 => ∃ a dx fs v, x = .ref a ∧ H1 a = some (.ins C dx fs) ∧ fs.lookup f = some v ∧
  tv σ H1 fun y H2 => rd v y H2 fun z H3 => ∃ dx' fs', H3 a = some (.ins C dx' fs') ∧ fs'.length < 1000 ∧ D.nx σ (upd H3 a (.ins C dx' (putF f z fs')))
theorem pe_fldC (c : Cls X.K C) (n : NoAttr X.K C f) (he : PE X e ta) (hb : attributeBase e f X.env (eval e X.env) = eval e X.env := by rfl) : PE X (.Attribute e f pos) (tFldC C ta f) := by
  refine ⟨fun pins s σ H Q I h => ?_⟩
  refine attr_of hb (thn (he.run pins s σ H _ I h) fun u s1 ⟨x, H1, I1, rx, a, dx, fs, v, ex, ea, l, q⟩ => ?_)
  subst ex
  obtain rfl : u = Value.ref a := rx
  exact getattr_ok I1 ea c n l fun u' s2 I2 ru => ⟨v, H1, I2, ru, q⟩
theorem ps_fldC (c : Cls X.K C) (n : NoAttr X.K C f) (ha : PE X o ta) (hv : PE X value tv) (hs : swapsWith value (some (.Attribute o f pos')) pos.line X.env = pure false := by rfl) : PS X (.Assign [.Attribute o f pos'] value pos) (sFldC C ta tv f) := by
  refine ⟨fun pins s σ H D I h => ?_⟩
  refine plainObj_wpAny_Assign_Attribute (thn (hv.run pins s σ H _ I h) fun u s1 ⟨y, H1, I1, ry, q⟩ => thn (ha.run pins s1 σ H1 _ I1 q) fun ov s2 ⟨x, H2, I2, rx, a, dx, fs, ex, ea, l, q2⟩ => ?_) hs
  subst ex
  obtain rfl : ov = Value.ref a := rx
  exact setattr_ok I2 ea c n l ry fun s3 I3 => ⟨σ, _, I3, q2⟩
theorem ps_fldaugC {op : Operator} {rd : V → V → Hp → VK → Prop} (c : Cls X.K C) (n : NoAttr X.K C f) (ha : PE X o ta) (hv : PE X value tv) (hop : InOp X op rd) : PS X (.AugAssign (.Attribute o f tpos) op value pos) (sFldAugC C ta tv rd f) := by
  refine ⟨fun pins s σ H D I h => ?_⟩
  refine wpAny_AugAssign_AttributeAny (thn (ha.run pins s σ H _ I h) fun ov s1 ⟨x, H1, I1, rx, a, dx, fs, v, ex, ea, l, q⟩ => ?_)
  subst ex
  obtain rfl : ov = Value.ref a := rx
  refine getattr_ok I1 ea c n l fun u s2 I2 ru => thn (hv.run pins s2 σ H1 _ I2 q) fun w3 s3 ⟨y, H2, I3, ry, q3⟩ => thn (hop pins s3 σ H2 v y u w3 _ I3 ru ry q3) fun w4 s4 ⟨z, H3, I4, rz, dx', fs', ea', l', q4⟩ => ?_
  exact setattr_ok I4 ea' c n l' rz fun s5 I5 => ⟨σ, _, I5, q4⟩
/-- one of two readings, whichever is known to hold -/
def tOr2 (t u : TE) : TE := fun σ H Q => t σ H Q ∨ u σ H Q
theorem pe_or2 {t u : TE} (h1 : PE X e t) (h2 : PE X e u) : PE X e (tOr2 t u) :=
  ⟨fun pins s σ H Q I h => h.elim (fun h => h1.run pins s σ H Q I h) fun h => h2.run pins s σ H Q I h⟩
end
/-! ### errors with an own __init__ -/
def oexB (K : PySem.W.Frag) (C : Addr) : Bool := (match K.lookup C with
  | some ⟨.type "type", _, .cls cd, sl⟩ => (match cd.mro, sl.toList with
    | .ref C' :: bm, [_, _, _, _, some (.builtin n), _] => decide (C' = C) && (decide (n = "ValueError.__new__") && (!cd.hasDel && (cd.hasDict && PySem.HandSPX.refsVE bm)))
    | _, _ => false)
  | _ => false) && (decide (PySem.W.findIn K (.ref C) "__setattr__" = some (some (.builtin "object.__setattr__"))) && (decide (PySem.W.subIn K (.ref C) (.type "BaseException") = some true) && (decide (PySem.W.typeIn K (.ref C) = some (.type "type")) && PySem.W.keepIn K (.ref C))))
theorem oexB_ok {K : PySem.W.Frag} {C : Addr} (h : oexB K C = true) : OexC K C := by
  obtain ⟨h0, h⟩ := He.ba h
  obtain ⟨h1, h⟩ := He.ba h
  obtain ⟨h2, h⟩ := He.ba h
  obtain ⟨h3, h4⟩ := He.ba h
  refine ⟨?_, of_decide_eq_true h1, of_decide_eq_true h2, of_decide_eq_true h3, h4⟩
  split at h0
  · rename_i dd cd sl ho
    split at h0
    · rename_i C' bm k0 k1 k2 k3 n k5 hm hs
      obtain ⟨e1, h0⟩ := He.ba h0
      obtain ⟨e2, h0⟩ := He.ba h0
      obtain ⟨e3, h0⟩ := He.ba h0
      obtain ⟨e4, e5⟩ := He.ba h0
      have e1 := of_decide_eq_true e1
      have e2 := of_decide_eq_true e2
      subst e1 e2
      obtain ⟨nm, bs, mro, ns, qn, hd, sn, sub, ab, col, del⟩ := cd
      dsimp only at hm e3 e4
      have e3 : del = false := by simpa using e3
      subst hm e3 e4
      have hsl : sl = #[k0, k1, k2, k3, some (.builtin "ValueError.__new__"), k5] := by
        obtain ⟨l⟩ := sl
        simp only at hs
        rw [hs]
      subst hsl
      exact ⟨_, _, _, _, _, _, _, _, _, _, _, _, _, _, _, ho, e5⟩
    · cases h0
  · cases h0
/-- what the text's errors with own __init__ are asked for, by the names -/
def ownB (K : PySem.W.Frag) (x : Str) : Bool := oexB K (He.ga K x) && (decide (PySem.W.findIn K (.ref (He.ga K x)) "__init__" = some (some (.ref (He.ma K (He.ga K x) "__init__")))) && (decide (PySem.W.typeIn K (.ref (He.ma K (He.ga K x) "__init__")) = some (.type "function")) &&
  decide (PySem.W.findIn K (.ref (He.ga K x)) "place" = some none)))
def rootB (K : PySem.W.Frag) : Bool := decide (PySem.W.specialIn K (.ref (He.ga K "RiseError")) "__getattribute__" = some (some (.builtin "type.__getattribute__"))) && (PySem.W.readsIn K (He.ga K "RiseError") (.type "type") &&
  (match PySem.W.findCls K (.ref (He.ga K "RiseError")) (.type "type") "__init__" with
  | some (.val (.builtin n)) => decide (n = "ValueError.__init__")
  | _ => false))
structure OwnX (K : PySem.W.Frag) (C fI : Addr) : Prop where
  T : OexC K C
  i : PySem.W.findIn K (.ref C) "__init__" = some (some (.ref fI))
  t : PySem.W.typeIn K (.ref fI) = some (.type "function")
  p : PySem.W.findIn K (.ref C) "place" = some none
theorem ownB_ok {K : PySem.W.Frag} {x : Str} (h : ownB K x = true) : OwnX K (He.ga K x) (He.ma K (He.ga K x) "__init__") := by
  obtain ⟨h1, h⟩ := He.ba h
  obtain ⟨h2, h⟩ := He.ba h
  obtain ⟨h3, h4⟩ := He.ba h
  exact ⟨oexB_ok h1, of_decide_eq_true h2, of_decide_eq_true h3, of_decide_eq_true h4⟩
structure RootX (K : PySem.W.Frag) : Prop where
  g : PySem.W.specialIn K (.ref (He.ga K "RiseError")) "__getattribute__" = some (some (.builtin "type.__getattribute__"))
  r : PySem.W.readsIn K (He.ga K "RiseError") (.type "type") = true
  f : PySem.W.findCls K (.ref (He.ga K "RiseError")) (.type "type") "__init__" = some (.val (.builtin "ValueError.__init__"))
theorem rootB_ok {K : PySem.W.Frag} (h : rootB K = true) : RootX K := by
  obtain ⟨h1, h⟩ := He.ba h
  obtain ⟨h2, h3⟩ := He.ba h
  refine ⟨of_decide_eq_true h1, h2, ?_⟩
  split at h3
  · rename_i n e
    rw [e, of_decide_eq_true h3]
  · cases h3
/-- RiseError.__init__(self, ..), self a new error of the class at C -/
def tRinit (C : Addr) (ta : TA) : TE := fun σ H Q => ta σ H fun vs H1 => ∃ (a : Addr) (ws : List V), vs = .ref a :: ws ∧ ws.length ≤ 1000 ∧ H1 a = some (exo a C none) ∧ Q .non H1
def tOstC (C : Addr) (f : Str) (to te : TE) : TS := fun D σ H => te σ H fun y H1 => to σ H1 fun x H2 => ∃ a : Addr, x = .ref a ∧ H2 a = some (exo a C none) ∧ ∀ dx, H2 dx = none → dx ≠ a → D.nx σ (upd (upd H2 dx (exd dx [(f, y)])) a (exo a C (some dx)))
section
variable {X : Cx} {o e : Expr} {es : List Expr} {to te : TE} {ta : TA} {f x : Str} {p p' p1 p2 pos : Pos} {C fI : Addr}
theorem pe_rinit {pl : Sem Bool} (T : OwnX X.K C fI) (R : RootX X.K) (hg : Gl X "RiseError") (hm : X.mg "RiseError" = some (.ref (He.ga X.K "RiseError"))) (ha : PA X (e :: es) ta)
    (hc : eval (.Call (.Attribute (.Name "RiseError" p1) "__init__" p2) (e :: es) [] pos) X.env = (do
      let ov ← eval (.Name "RiseError" p1) X.env
      standAt p2.atName
      let (f, first) ← holding [ov] (getMethod ov "__init__" pl)
      callWith pos f first (backTo pos (starEach (e :: es) X.env)) (backToKw pos (keywordEach [] X.env))) := by rfl)
    (he : starEach (e :: es) X.env = (false, eval e X.env) :: starEach es X.env := by rfl) (hpl : (backTo pos (starEach es X.env)).any (·.1) = false := by rfl) :
    PE X (.Call (.Attribute (.Name "RiseError" p1) "__init__" p2) (e :: es) [] pos) (tRinit C ta) := by
  refine ⟨fun pins s σ H Q I h => ?_⟩
  refine PySem.W.methodCall_KW (ld_glob I hg hm ?_ (by decide)) hc
  refine PySem.W.method_cls I.kIn R.g (PySem.W.cls_value I.kIn R.r R.f (by decide +kernel) ?_)
  show wpAny _ _ (callWith pos (Value.builtin "ValueError.__init__") [] (backTo pos (starEach (e :: es) X.env)) []) _ _ _
  refine PyProof.Rows.callWith_method1 (thn (ha.run pos pins _ σ H _ (I.tok _) h) fun us s1 ⟨vs, H1, I1, r1, a, ws, ev, hl, ea, q⟩ => ?_) he hpl
  subst ev
  cases r1 with
  | @cons _ u0 _ ur ra rw' =>
    obtain rfl : u0 = Value.ref a := ra
    have hlen : ur.length ≤ sizeLine := by
      rw [← Paired.length rw', sizeLine_eq]
      omega
    exact oinit_ok T.T I1 ea hlen fun s' J => ⟨.non, H1, J, rfl, q⟩
theorem ps_ostC (T : OwnX X.K C fI) (ho : PE X o to) (he : PE X e te) (hs : swapsWith e (some (.Attribute o "place" p')) pos.line X.env = pure false := by rfl) : PS X (.Assign [.Attribute o "place" p'] e pos) (tOstC C "place" to te) := by
  refine ⟨fun pins s σ H D I h => ?_⟩
  refine plainObj_wpAny_Assign_Attribute (thn (he.run pins s σ H _ I h) fun v s1 ⟨y, H1, I1, r1, q1⟩ => thn (ho.run pins s1 σ H1 _ I1 q1) fun u s2 ⟨x, H2, I2, r2, a, ex, ea, q⟩ => ?_) hs
  subst ex
  obtain rfl : u = Value.ref a := r2
  exact ost_new T.T I2 ea T.p r1 fun dx s' n ne J => ⟨σ, _, J, q dx n ne⟩
end
/-- raise C(..) -/
def tRaiseO (C : Addr) (sp : Sp) (ta : TA) (E : XK) : TS := fun _ σ H => tMkO C sp [] ta σ H E
/-- the promise of __init__(self, place) of such a class -/
def placeSp (C : Addr) : Sp := fun vs H Q _ => ∃ (a : Addr) (y : V), vs = [.ref a, y] ∧ H a = some (exo a C none) ∧ ∀ dx H1, Ex H H1 → H1 dx = none → dx ≠ a → Q .non (upd (upd H1 dx (exd dx [("place", y)])) a (exo a C (some dx)))
theorem placeSp_len {C : Addr} {vs H Q E} (h : placeSp C vs H Q E) : vs.length = 2 := by
  obtain ⟨a, y, rfl, _⟩ := h
  rfl
/-- a promise's ways out: an error with a place -/
def RaiseD (cls : Value) (p : Int) (H : Hp) (E : XK) : Prop := ∀ d H', H d = none → Ex H H' → H' d = some (.xd [("place", .int p)]) → E cls (some d) H'
theorem RaiseD.mono {cls : Value} {p : Int} {H H1 : Hp} {E : XK} (h : RaiseD cls p H E) (e : Ex H H1) : RaiseD cls p H1 E := fun d H' hd e2 h2 => h d H' (fresh_back e hd) (e.trans e2) h2
theorem ev_rinit {C a : Addr} {ws : List V} {ta : TA} {σ : L2.St} {H : Hp} (h : EvA ta σ H (.ref a :: ws)) (hl : ws.length ≤ 1000) (ha : H a = some (exo a C none)) : Ev (tRinit C ta) σ H .non := fun H1 e Q q =>
  h H1 e _ fun H2 e2 => ⟨a, ws, rfl, hl, (e.trans e2) _ _ ha, q H2 e2⟩
theorem s_ostC {C a : Addr} {f : Str} {to te : TE} {y : V} {σ : L2.St} {H : Hp} {D : Ends} (h1 : Ev te σ H y) (h2 : Ev to σ H (.ref a)) (ha : H a = some (exo a C none)) (k : ∀ dx H1, Ex H H1 → H1 dx = none → dx ≠ a → D.nx σ (upd (upd H1 dx (exd dx [(f, y)])) a (exo a C (some dx)))) : tOstC C f to te D σ H :=
  h1 H (Ex.refl H) _ fun H1 e1 => h2 H1 e1 _ fun H2 e2 => ⟨a, rfl, (e1.trans e2) _ _ ha, fun dx hd hne => k dx H2 (e1.trans e2) hd hne⟩
theorem rd_place {C : Addr} {m : List Nat} (vs : List V) (H : Hp) (Q : VK) (E : XK) (h : placeSp C vs H Q E) :
    (tSeq (tDrop (tRinit C (tCons (tVar 0) (tCons (tC (.str (T m))) tNil)))) (tOstC C "place" (tVar 0) (tVar 1))) { nx := fun _ H' => Q .non H', rt := Q } (start ["self", "place"] vs) H := by
  obtain ⟨a, y, rfl, ha, q⟩ := h
  refine q_drop (ev_rinit (a := a) (ws := [.str (T m)]) (ea_cons (ev_var rfl) (ea_cons ev_c ea_nil)) (by simp) ha) fun H1 e1 => ?_
  exact s_ostC (y := y) (ev_var rfl) (ev_var rfl) (e1 _ _ ha) fun dx H2 e2 hd hne => q dx H2 (e1.trans e2) hd hne
theorem s_raiseO {C : Addr} {ta : TA} {E : XK} {D : Ends} {σ : L2.St} {H : Hp} {p : Int} (h : EvA ta σ H [.int p]) (k : RaiseD (.ref C) p H E) : tRaiseO C (placeSp C) ta E D σ H :=
  h H (Ex.refl H) _ fun H1 e1 => ⟨by simp, fun a ha => ⟨a, .int p, rfl, upd_same, fun dx H2 e2 hd hne => ⟨rfl, dx, [("place", .int p)], upd_same, by rw [upd_ne hne, upd_same], by
    have := fresh_back e2 hd
    rwa [upd_ne hne] at this, by
    refine k dx _ ?_ ?_ upd_same
    · have := fresh_back e2 hd
      rw [upd_ne hne] at this
      exact fresh_back e1 this
    · intro b o hb
      have h1 := e1 _ _ hb
      have hba : b ≠ a := fun z => by rw [z, ha] at h1; cases h1
      have h2 : H2 b = some o := e2 _ _ (by rw [upd_ne hba]; exact h1)
      have hbd : b ≠ dx := fun z => by rw [z, hd] at h2; cases h2
      rw [upd_ne hbd, del_ne hba, upd_ne hba, upd_ne hbd]
      exact h2⟩⟩⟩
def KoL (L : List Str) (K : PySem.W.Frag) : Prop := ∀ x ∈ L, OwnX K (He.ga K x) (He.ma K (He.ga K x) "__init__")
end Kr
/-! signs as they are read: the object, what is read of it, how a promise that reads ends -/
namespace Kr
open PySem PySem.Spec PyProof.Rows L2 Evl
/-- all but the object at a stays -/
def ExU (a : Addr) (H H' : Hp) : Prop := ∀ b o, b ≠ a → H b = some o → H' b = some o
theorem ExU.refl (a : Addr) (H : Hp) : ExU a H H := fun _ _ _ h => h
theorem ExU.trans {a : Addr} {H H1 H2 : Hp} (x : ExU a H H1) (y : ExU a H1 H2) : ExU a H H2 := fun b o n h => y b o n (x b o n h)
theorem exu {a : Addr} {H H1 : Hp} (e : Ex H H1) : ExU a H H1 := fun b o _ h => e b o h
theorem ExU.upd {a : Addr} {H H1 : Hp} {o : HO} (e : ExU a H H1) : ExU a H (upd H1 a o) := fun b u n h => by rw [upd_ne n]; exact e b u n h
/-- what H does not know may have changed -/
theorem ExU.ex {a : Addr} {H H1 : Hp} (e : ExU a H H1) (h : H a = none) : Ex H H1 := fun b o hb => e b o (fun z => by rw [z, h] at hb; cases hb) hb
/-- the signs that are read, at the object a -/
def SrcB (K : PySem.W.Frag) (H : Hp) (a : Addr) (b : List Bool) (t : Nat) (f : Bool) : Prop := ∃ dx, H a = some (.ins (He.ga K "Source") dx [("signs", .str (T (R b))), ("at", .int (t : Int)), ("fills", .bl f)])
/-- x reads the object at a, each sign exchanged or not, through k others -/
inductive Src (K : PySem.W.Frag) (H : Hp) (a : Addr) : V → Bool → Nat → Prop
  | base : Src K H a (.ref a) false 0
  | turn {t dx : Addr} {y : V} {n : Bool} {k : Nat} (h : H t = some (.ins (He.ga K "TurnedSource") dx [("inner", y)])) (ne : t ≠ a) (r : Src K H a y n k) : Src K H a (.ref t) (!n) (k + 1)
theorem Src.mono {K : PySem.W.Frag} {H H1 : Hp} {a : Addr} {x : V} {n : Bool} {k : Nat} (e : ExU a H H1) (s : Src K H a x n k) : Src K H1 a x n k := by
  induction s with
  | base => exact .base
  | turn h ne r ih => exact .turn (e _ _ ne h) ne ih
theorem SrcB.mono {K : PySem.W.Frag} {H H1 : Hp} {a : Addr} {b : List Bool} {t : Nat} {f : Bool} (e : Ex H H1) (s : SrcB K H a b t f) : SrcB K H1 a b t f := by
  obtain ⟨dx, h⟩ := s
  exact ⟨dx, e _ _ h⟩
theorem SrcB.some {K : PySem.W.Frag} {H : Hp} {a : Addr} {b : List Bool} {t : Nat} {f : Bool} (s : SrcB K H a b t f) : H a ≠ none := by
  obtain ⟨dx, h⟩ := s
  rw [h]
  exact fun z => nomatch z
/-! ### what is read -/
inductive Res (α : Type) where
  | ok (v : α) (t : Nat)
  | bad (c : Str) (p : Int)
def Res.bind {α β : Type} (r : Res α) (g : α → Nat → Res β) : Res β := match r with
  | .ok v t => g v t
  | .bad c p => .bad c p
/-- the next sign -/
def takeB (b : List Bool) (f n w : Bool) (t : Nat) : Res Bool := match b[t]? with
  | some c => .ok (c != n) (t + 1)
  | none => if f then .ok w (t + 1) else .bad "Short" b.length
theorem takeB_turn (b : List Bool) (f n w : Bool) (t : Nat) : takeB b f (!n) w t = (takeB b f n (!w) t).bind fun c t' => .ok (!c) t' := by
  unfold takeB
  cases b[t]? with
  | some c => cases c <;> cases n <;> rfl
  | none => cases f <;> simp [Res.bind]
/-- more binary digits -/
def tdig (b : List Bool) (f n : Bool) : Nat → Int → Nat → Res Int
  | 0, x, t => .ok x t
  | k + 1, x, t => (takeB b f n false t).bind fun c t' => tdig b f n k (x * 2 + (if c then 1 else 0)) t'
def tones (b : List Bool) (f n : Bool) : Nat → Bool → Nat → Nat → Res Nat
  | 0, _, o, t => .ok o t
  | k + 1, w, o, t => (takeB b f n w t).bind fun c t' => if c then tones b f n k false (o + 1) t' else .ok o t'
def tcount (b : List Bool) (f n w : Bool) (t : Nat) : Res Int :=
  (tones b f n 7 w 0 t).bind fun o t1 => (tdig b f n o 1 t1).bind fun s t2 => (tdig b f n (s - 1).toNat 1 t2).bind fun x t3 => .ok (x - 1) t3
def twhole (b : List Bool) (f n : Bool) (t : Nat) : Res Int :=
  (takeB b f n true t).bind fun c t1 => if c then tcount b f n false t1 else (tcount b f (!n) false t1).bind fun x t2 => .ok (-1 - x) t2
def tfix (b : List Bool) (f n : Bool) (most : Int) : Nat → Int → Nat → Res Int
  | 0, x, t => .ok x t
  | k + 1, x, t => (takeB b f n false t).bind fun c t' => if x * 2 + (if c then 1 else 0) > most / 2 ^ k then .bad "Wrong" ((t' : Int) - 1) else tfix b f n most k (x * 2 + (if c then 1 else 0)) t'
/-! ### how a promise that reads ends -/
def RaiseU (a : Addr) (cls : Value) (p : Int) (H : Hp) (E : XK) : Prop := ∀ d H', d ≠ a → H d = none → ExU a H H' → H' d = some (.xd [("place", .int p)]) → E cls (some d) H'
theorem RaiseU.mono {a : Addr} {cls : Value} {p : Int} {H H1 : Hp} {E : XK} (e : ExU a H H1) (h : RaiseU a cls p H E) : RaiseU a cls p H1 E := fun d H' hn hd e2 h2 =>
  h d H' hn (by
    cases q : H d with
    | none => rfl
    | some o => rw [e d o hn q] at hd; cases hd) (e.trans e2) h2
theorem RaiseU.d {a : Addr} {cls : Value} {p : Int} {H : Hp} {E : XK} (h : RaiseU a cls p H E) (ha : H a ≠ none) : RaiseD cls p H E := fun d H' hd e h2 =>
  h d H' (fun z => ha (by rw [← z]; exact hd)) hd (exu e) h2
def Fin {α : Type} (K : PySem.W.Frag) (val : α → V) (a : Addr) (b : List Bool) (f : Bool) (H : Hp) (Q : VK) (E : XK) : Res α → Prop
  | .ok v t => ∀ H', ExU a H H' → SrcB K H' a b t f → Q (val v) H'
  | .bad c p => RaiseU a (.ref (He.ga K c)) p H E
theorem Fin.mono {α : Type} {K : PySem.W.Frag} {val : α → V} {a : Addr} {b : List Bool} {f : Bool} {H H1 : Hp} {Q : VK} {E : XK} {r : Res α} (h : Fin K val a b f H Q E r) (e : ExU a H H1) : Fin K val a b f H1 Q E r := by
  cases r with
  | ok v t => exact fun H' e2 s => h H' (e.trans e2) s
  | bad c p => exact RaiseU.mono e h
/-- a part of what is read, then the rest -/
theorem Fin.step {α β : Type} {K : PySem.W.Frag} {val : α → V} {wal : β → V} {a : Addr} {b : List Bool} {f : Bool} {H : Hp} {Q Q2 : VK} {E : XK} {r : Res α} {g : α → Nat → Res β} (h : Fin K wal a b f H Q E (r.bind g))
    (k : ∀ v t H', r = .ok v t → ExU a H H' → SrcB K H' a b t f → Fin K wal a b f H' Q E (g v t) → Q2 (val v) H') : Fin K val a b f H Q2 E r := by
  cases r with
  | ok v t => exact fun H' e s => k v t H' rfl e s (Fin.mono (show Fin K wal a b f H Q E (g v t) from h) e)
  | bad c p => exact h
abbrev vB (c : Bool) : V := .str (T [bc c])
/-- a new tuple -/
def RetU (xs : List V) (H : Hp) (Q : VK) : Prop := ∀ p H2, H p = none → Ex H H2 → H2 p = some (.tup xs) → Q (.ref p) H2
theorem RetU.mono {xs : List V} {H H1 : Hp} {Q : VK} (q : RetU xs H Q) (e : Ex H H1) : RetU xs H1 Q := fun p H2 hp e2 h => q p H2 (fresh_back e hp) (e.trans e2) h
/-- what is told of a row read from a place on: the number and the place behind it -/
def FinR (K : PySem.W.Frag) (H : Hp) (Q : VK) (E : XK) : Res Int → Prop
  | .ok v t => RetU [.int v, .int (t : Int)] H Q
  | .bad c p => RaiseD (.ref (He.ga K c)) p H E
theorem Res.bind_assoc {α β γ : Type} (r : Res α) (g : α → Nat → Res β) (h : β → Nat → Res γ) : (r.bind g).bind h = r.bind fun v t => (g v t).bind h := by cases r <;> rfl
/-- x reads the signs b from t on, through at most D others -/
structure Rdr (D : Nat) (K : PySem.W.Frag) (H : Hp) (x : V) (a : Addr) (b : List Bool) (f n : Bool) (t : Nat) : Prop where
  j : ∃ j, j ≤ D ∧ Src K H a x n j
  s : SrcB K H a b t f
  l : b.length ≤ 1000000
theorem Rdr.after {D : Nat} {K : PySem.W.Frag} {H H' : Hp} {x : V} {a : Addr} {b : List Bool} {f n : Bool} {t t' : Nat} (r : Rdr D K H x a b f n t) (e : ExU a H H') (s : SrcB K H' a b t' f) : Rdr D K H' x a b f n t' := by
  obtain ⟨⟨j, hj, hx⟩, _, l⟩ := r
  exact ⟨⟨j, hj, hx.mono e⟩, s, l⟩
theorem Rdr.mono {D : Nat} {K : PySem.W.Frag} {H H' : Hp} {x : V} {a : Addr} {b : List Bool} {f n : Bool} {t : Nat} (r : Rdr D K H x a b f n t) (e : Ex H H') : Rdr D K H' x a b f n t := r.after (exu e) (r.s.mono e)
theorem tdig_rng {b : List Bool} {f n : Bool} : ∀ {k : Nat} {x y : Int} {t t' : Nat}, tdig b f n k x t = .ok y t' → x * 2 ^ k ≤ y ∧ y < (x + 1) * 2 ^ k
  | 0, x, y, t, t', h => by
    cases h
    simp
    omega
  | k + 1, x, y, t, t', h => by
    unfold tdig at h
    cases ht : takeB b f n false t with
    | bad c p => rw [ht] at h; cases h
    | ok c t1 =>
      rw [ht] at h
      have := tdig_rng (show tdig b f n k _ t1 = .ok y t' from h)
      have e1 : x * 2 ^ (k + 1) = x * 2 * 2 ^ k := by rw [Int.pow_succ, Int.mul_assoc, Int.mul_comm (2 ^ k) 2]
      have e2 : (x + 1) * 2 ^ (k + 1) = (x * 2 + 2) * 2 ^ k := by rw [Int.pow_succ, Int.mul_comm (2 ^ k) 2, ← Int.mul_assoc, Int.add_mul x 1 2, Int.one_mul]
      have hp : (0 : Int) < 2 ^ k := Int.pow_pos (by decide)
      rw [e1, e2]
      cases c with
      | true =>
        have h1 := Int.mul_le_mul_of_nonneg_right (show x * 2 ≤ x * 2 + 1 by omega) (Int.le_of_lt hp)
        have h2 : (x * 2 + 1 + 1) = x * 2 + 2 := by omega
        simp only [if_true] at this
        rw [h2] at this
        exact ⟨Int.le_trans h1 this.1, this.2⟩
      | false =>
        have h1 := Int.mul_le_mul_of_nonneg_right (show x * 2 + 1 ≤ x * 2 + 2 by omega) (Int.le_of_lt hp)
        simp only [Bool.false_eq_true, if_false, Int.add_zero] at this
        exact ⟨this.1, Int.lt_of_lt_of_le this.2 h1⟩
theorem tones_rng {b : List Bool} {f n : Bool} : ∀ {k : Nat} {w : Bool} {o o' t t' : Nat}, tones b f n k w o t = .ok o' t' → o ≤ o' ∧ o' ≤ o + k
  | 0, w, o, o', t, t', h => by
    cases h
    omega
  | k + 1, w, o, o', t, t', h => by
    unfold tones at h
    cases ht : takeB b f n w t with
    | bad c p => rw [ht] at h; cases h
    | ok c t1 =>
      rw [ht] at h
      cases c with
      | true =>
        have := tones_rng (show tones b f n k false (o + 1) t1 = .ok o' t' from h)
        omega
      | false =>
        cases (show Res.ok o t1 = .ok o' t' from h)
        omega
theorem putF_len (f : Str) (v : V) : ∀ fs : List (Str × V), (putF f v fs).length ≤ fs.length + 1
  | [] => Nat.le_refl _
  | (g, x) :: r => by
    unfold putF
    split
    · simp
    · have := putF_len f v r
      simp
      omega
def rMin2 : List V → Hp → VK → Prop := fun xs H Q => ∃ i j, xs = [.int i, .int j] ∧ Q (.int (if j < i then j else i)) H
theorem ev_min2 {σ : L2.St} {H : Hp} {ta tb : TE} {i j : Int} (ha : Ev ta σ H (.int i)) (hb : Ev tb σ H (.int j)) : Ev (tCB rMin2 (tCons ta (tCons tb tNil))) σ H (.int (if j < i then j else i)) := fun H1 e Q q =>
  ha H1 e _ fun H2 e2 => hb H2 (e.trans e2) _ fun H3 e3 => ⟨i, j, rfl, q H3 (e2.trans e3)⟩
section
variable {K : PySem.W.Frag} {σ : L2.St} {H : Hp} {ta : TE} {v : V} {C a dx : Addr} {fs : List (Str × V)} {f : Str}
theorem ev_fldC (h : Ev ta σ H (.ref a)) (ha : H a = some (.ins C dx fs)) (hl : fs.lookup f = some v) : Ev (tFldC C ta f) σ H v := fun H1 e Q q =>
  h H1 e _ fun H2 e2 => ⟨a, dx, fs, v, rfl, (e.trans e2) _ _ ha, hl, q H2 e2⟩
/-- self.f = value -/
theorem q_fldC {te : TE} {D : Ends} {tz : TS} (h1 : Ev te σ H v) (h2 : Ev ta σ H (.ref a)) (ha : H a = some (.ins C dx fs)) (hn : fs.length < 1000) (k : ∀ H1, ExU a H H1 → H1 a = some (.ins C dx (putF f v fs)) → tz D σ H1) : tSeq (sFldC C ta te f) tz D σ H :=
  h1 H (Ex.refl H) _ fun H1 e1 => h2 H1 e1 _ fun H2 e2 => ⟨a, dx, fs, rfl, (e1.trans e2) _ _ ha, hn, k _ (ExU.upd (exu (e1.trans e2))) upd_same⟩
theorem s_fldC {te : TE} {D : Ends} (h1 : Ev te σ H v) (h2 : Ev ta σ H (.ref a)) (ha : H a = some (.ins C dx fs)) (hn : fs.length < 1000) (k : ∀ H1, ExU a H H1 → H1 a = some (.ins C dx (putF f v fs)) → D.nx σ H1) : sFldC C ta te f D σ H :=
  h1 H (Ex.refl H) _ fun H1 e1 => h2 H1 e1 _ fun H2 e2 => ⟨a, dx, fs, rfl, (e1.trans e2) _ _ ha, hn, k _ (ExU.upd (exu (e1.trans e2))) upd_same⟩
/-- self.f += n -/
theorem q_augC {te : TE} {D : Ends} {tz : TS} {i j : Int} (h2 : Ev ta σ H (.ref a)) (ha : H a = some (.ins C dx fs)) (hl : fs.lookup f = some (.int i)) (h1 : Ev te σ H (.int j)) (hn : fs.length < 1000) (k : ∀ H1, ExU a H H1 → H1 a = some (.ins C dx (putF f (.int (i + j)) fs)) → tz D σ H1) : tSeq (sFldAugC C ta te rAdd f) tz D σ H :=
  h2 H (Ex.refl H) _ fun H1 e1 => ⟨a, dx, fs, .int i, rfl, e1 _ _ ha, hl, h1 H1 e1 _ fun H2 e2 => ⟨i, j, rfl, rfl, dx, fs, (e1.trans e2) _ _ ha, hn, k _ (ExU.upd (exu (e1.trans e2))) upd_same⟩⟩
/-- a method of an instance of C -/
theorem go_meth {m : Str} {sp : Sp} {E : XK} {t : TA} {vs : List V} {Q : VK} (h : Ev ta σ H (.ref a)) (ha : H a = some (.ins C dx fs)) (hl : fs.lookup m = none) (ht : ∀ H1, Ex H H1 → EvA t σ H1 vs) (k : ∀ H1, Ex H H1 → sp (.ref a :: vs) H1 Q E) : tMeth C m sp [] E ta t σ H Q :=
  h H (Ex.refl H) _ fun H1 e1 => ⟨a, dx, fs, rfl, e1 _ _ ha, hl, ht H1 e1 H1 (Ex.refl H1) _ fun H2 e2 => by rw [List.append_nil]; exact k H2 (e1.trans e2)⟩
theorem ev_meth {m : Str} {sp : Sp} {E : XK} {t : TA} {vs : List V} {z : V} (h : Ev ta σ H (.ref a)) (ha : H a = some (.ins C dx fs)) (hl : fs.lookup m = none) (ht : EvA t σ H vs) (hs : SpV sp (.ref a :: vs) H z) : Ev (tMeth C m sp [] E ta t) σ H z := fun H1 e Q q =>
  go_meth (h.mono e) (e _ _ ha) hl (fun H2 e2 => fun H3 e3 => ht H3 ((e.trans e2).trans e3)) fun H2 e2 => hs H2 (e.trans e2) Q (fun H3 e3 => q H3 (e2.trans e3)) E
/-- a sign is read here; P tells what is known then -/
def GoS (tk : TE) (σ : L2.St) (H : Hp) (P : Bool → Hp → Prop) : Prop := ∀ H1, Ex H H1 → ∀ Q : VK, (∀ c H', P c H' → Q (vB c) H') → tk σ H1 Q
theorem bc_one (c : Bool) : decide ([bc c] = [49]) = c := by cases c <;> decide
/-- .. and asked whether it is a one -/
theorem t_one {tk : TE} {P : Bool → Hp → Prop} {Q : Bool → Hp → Prop} (h : GoS tk σ H P) (k : ∀ c H' H2, P c H' → Ex H' H2 → Q c H2) : tTest (tOp rEq tk (tC (.str (T [49])))) σ H Q :=
  h H (Ex.refl H) _ fun c H' p => (ev_c : Ev (tC (.str (T [49]))) σ H' _) H' (Ex.refl H') _ fun H0 e0 => rv_eqT (a := [bc c]) (b := [49]) H0 (Ex.refl H0) _ fun H2 e2 => ⟨c, by rw [bc_one], k c H' H2 p (e0.trans e2)⟩
/-- number = number * 2 + int(sign == '1') -/
theorem s_num {tk : TE} {P : Bool → Hp → Prop} {i : Nat} {x : Int} {D : Ends} (hx : σ[i]? = some (some (.int x))) (hm : CMulX x 2) (h : GoS tk σ H P) (k : ∀ c H' H2, P c H' → Ex H' H2 → D.nx (σ.set i (some (.int (x * 2 + (if c then 1 else 0))))) H2) :
    tAsg (tOp rAddI (tOp rMulI (tVar i) (tC (.int 2))) (tCB rIntB (tCons (tOp rEq tk (tC (.str (T [49])))) tNil))) (gName i) D σ H :=
  (ev_mulI (ev_var hx) ev_c hm : Ev (tOp rMulI (tVar i) (tC (.int 2))) σ H _) H (Ex.refl H) _ fun H1 e1 => h H1 e1 _ fun c H' p => (ev_c : Ev (tC (.str (T [49]))) σ H' _) H' (Ex.refl H') _ fun H0 e0 => rv_eqT (a := [bc c]) (b := [49]) H0 (Ex.refl H0) _ fun H2 e2 =>
    Or.inr ⟨c, by rw [bc_one], ⟨_, _, rfl, rfl, k c H' H2 p (e0.trans e2)⟩⟩
theorem q_num {tk : TE} {P : Bool → Hp → Prop} {i : Nat} {x : Int} {D : Ends} {tz : TS} (hx : σ[i]? = some (some (.int x))) (hm : CMulX x 2) (h : GoS tk σ H P) (k : ∀ c H' H2, P c H' → Ex H' H2 → tz D (σ.set i (some (.int (x * 2 + (if c then 1 else 0))))) H2) :
    tSeq (tAsg (tOp rAddI (tOp rMulI (tVar i) (tC (.int 2))) (tCB rIntB (tCons (tOp rEq tk (tC (.str (T [49])))) tNil))) (gName i)) tz D σ H := s_num (D := { D with nx := tz D }) hx hm h k
/-- name = f(..), f's promise met -/
theorem q_asgF {sp : Sp} {E : XK} {t : TA} {vs : List V} {i : Nat} {D : Ends} {tz : TS} (h : EvA t σ H vs) (k : ∀ H1, Ex H H1 → sp vs H1 (fun v H2 => tz D (σ.set i (some v)) H2) E) : tSeq (tAsg (tCall sp [] E t) (gName i)) tz D σ H :=
  h H (Ex.refl H) _ fun H1 e1 => by rw [List.append_nil]; exact k H1 e1
theorem s_retSubF {sp : Sp} {E : XK} {t : TA} {vs : List V} {D : Ends} {c : Int} (h : EvA t σ H vs) (k : ∀ H1, Ex H H1 → sp vs H1 (fun v H2 => rSubI v (.int c) H2 D.rt) E) : tRet (tOp rSubI (tCall sp [] E t) (tC (.int c))) D σ H :=
  h H (Ex.refl H) _ fun H1 e1 => by rw [List.append_nil]; exact k H1 e1
theorem s_retF {sp : Sp} {E : XK} {t : TA} {vs : List V} {D : Ends} (h : EvA t σ H vs) (k : ∀ H1, Ex H H1 → sp vs H1 D.rt E) : tRet (tCall sp [] E t) D σ H :=
  h H (Ex.refl H) _ fun H1 e1 => by rw [List.append_nil]; exact k H1 e1
/-- C(..): the new instance stands when its __init__ is done -/
theorem go_make {sp : Sp} {E : XK} {t : TA} {vs : List V} {Q : VK} (ht : EvA t σ H vs) (k : ∀ x dx H1, Ex H H1 → H1 x = none → H1 dx = none → dx ≠ x → sp (.ref x :: vs) (upd (upd H1 dx (.own x)) x (.ins C dx [])) (fun v H2 => v = .non ∧ Q (.ref x) H2) E) : tMake C sp [] E t σ H Q :=
  ht H (Ex.refl H) _ fun H1 e1 x dx hx hd hne => by rw [List.append_nil]; exact k x dx H1 e1 hx hd hne
end
end Kr
/-! rows of counts, whole numbers and bounded numbers; what is read of them -/
namespace Kr
open PySem PySem.Spec PyProof.Rows L2 Evl
def neg (b : List Bool) : List Bool := b.map (!·)
theorem neg_len (b : List Bool) : (neg b).length = b.length := List.length_map _
theorem neg_neg (b : List Bool) : neg (neg b) = b := by
  induction b with
  | nil => rfl
  | cons x b ih =>
    show (!!x) :: neg (neg b) = x :: b
    rw [ih, Bool.not_not]
theorem neg_app (a b : List Bool) : neg (a ++ b) = neg a ++ neg b := List.map_append
/-- the k lower binary digits of x, the higher ones first -/
def digs (x : Int) : Nat → List Bool
  | 0 => []
  | k + 1 => decide (x / 2 ^ k % 2 = 1) :: digs x k
theorem digs_len (x : Int) (k : Nat) : (digs x k).length = k := by
  induction k with
  | zero => rfl
  | succ k ih => rw [digs, List.length_cons, ih]
theorem digs_map (x : Int) : ∀ k : Nat, digs x k = (List.range k).map fun i => decide (x / 2 ^ (k - 1 - i) % 2 = 1)
  | 0 => rfl
  | k + 1 => by
    rw [digs, List.range_succ_eq_map, List.map_cons, List.map_map, digs_map x k]
    congr 1
    refine List.map_congr_left fun i hi => ?_
    have : i < k := List.mem_range.mp hi
    show decide (x / 2 ^ (k - 1 - i) % 2 = 1) = decide (x / 2 ^ (k + 1 - 1 - (i + 1)) % 2 = 1)
    rw [show k + 1 - 1 - (i + 1) = k - 1 - i by omega]
/-- how many binary digits a number from one on has -/
def blen (m : Nat) : Nat := m.log2 + 1
theorem bits_nat {m : Nat} (h : 0 < m) : Builtin.Int.intBits (m : Int) = blen m := by
  unfold Builtin.Int.intBits blen
  rw [if_neg (by simp; omega)]
  rfl
/-- the row of a count -/
def countRow (n : Nat) : List Bool :=
  List.replicate (blen (blen (n + 1)) - 1) true ++ (if blen (blen (n + 1)) - 1 < 7 then [false] else []) ++ digs (blen (n + 1) : Nat) (blen (blen (n + 1)) - 1) ++ digs ((n + 1 : Nat) : Int) (blen (n + 1) - 1)
def countOk (n : Int) : Prop := 0 ≤ n ∧ n < 2 ^ 255 - 1
instance (n : Int) : Decidable (countOk n) := by unfold countOk; infer_instance
theorem blen_le {m k : Nat} (h : m < 2 ^ k) (hm : 0 < m) : blen m ≤ k := by
  unfold blen
  have := (Nat.log2_lt (by omega)).mpr h
  omega
theorem blen_gt {m k : Nat} (h : 2 ^ k ≤ m) : k < blen m := by
  unfold blen
  have hm : m ≠ 0 := by
    have := Nat.two_pow_pos k
    omega
  have := (Nat.le_log2 hm).mpr h
  omega
theorem blen_pos (m : Nat) : 0 < blen m := Nat.succ_pos _
theorem countRow_len {n : Nat} (h : countOk n) : (countRow n).length ≤ 300 := by
  have h1 : blen (n + 1) ≤ 255 := blen_le (by have := h.2; omega) (by omega)
  have h2 : blen (blen (n + 1)) ≤ 8 := blen_le (by omega) (blen_pos _)
  unfold countRow
  simp only [List.length_append, List.length_replicate, digs_len]
  split <;> simp <;> omega
def wholeOk (n : Int) : Prop := -(2 ^ 255) < n + 0 ∧ n < 2 ^ 255 - 1
def wholeRow (n : Int) : List Bool := if n < 0 then false :: neg (countRow (-1 - n).toNat) else true :: countRow n.toNat
theorem wholeOk_neg {n : Int} (h : n < 0) : wholeOk n ↔ countOk (-1 - n) := by
  unfold wholeOk countOk
  constructor
  · rintro ⟨a, b⟩; omega
  · rintro ⟨a, b⟩; omega
theorem wholeOk_pos {n : Int} (h : ¬ n < 0) : wholeOk n ↔ countOk n := by
  unfold wholeOk countOk
  constructor
  · rintro ⟨a, b⟩; omega
  · rintro ⟨a, b⟩; omega
/-- the binary digits of most, none for nought -/
def flen (m : Nat) : Nat := if m = 0 then 0 else blen m
theorem bits_all (m : Nat) : Builtin.Int.intBits (m : Int) = flen m := by
  unfold flen
  by_cases h : m = 0
  · subst h; rfl
  · rw [if_neg h, bits_nat (by omega)]
theorem flen_le {m k : Nat} (h : m < 2 ^ k) : flen m ≤ k := by
  unfold flen
  by_cases h0 : m = 0
  · rw [if_pos h0]; exact Nat.zero_le _
  · rw [if_neg h0]; exact blen_le h (by omega)
def fixedRow (n m : Int) : List Bool := digs n (flen m.toNat)
/-! ### rows read -/
/-- a row, turned or not -/
def nz (n : Bool) (l : List Bool) : List Bool := l.map (· != n)
theorem nz_false (l : List Bool) : nz false l = l := by
  induction l with
  | nil => rfl
  | cons x l ih => cases x <;> simp [nz] at ih ⊢ <;> exact ih
theorem nz_true (l : List Bool) : nz true l = neg l := by
  induction l with
  | nil => rfl
  | cons x l ih => cases x <;> simp [nz, neg] at ih ⊢
theorem nz_app (n : Bool) (a b : List Bool) : nz n (a ++ b) = nz n a ++ nz n b := List.map_append
theorem nz_neg (n : Bool) (l : List Bool) : nz n (neg l) = nz (!n) l := by
  unfold nz neg
  rw [List.map_map]
  refine List.map_congr_left fun c _ => ?_
  cases c <;> cases n <;> rfl
theorem nz_len (n : Bool) (l : List Bool) : (nz n l).length = l.length := List.length_map _
theorem takeB_at {b rest : List Bool} {f n w c : Bool} {t : Nat} (h : b.drop t = (c != n) :: rest) : takeB b f n w t = .ok c (t + 1) ∧ b.drop (t + 1) = rest := by
  have ht : b[t]? = some (c != n) := by
    rw [← List.head?_drop, h]
    rfl
  unfold takeB
  rw [ht]
  refine ⟨by cases c <;> cases n <;> rfl, ?_⟩
  rw [← List.tail_drop, h]
  rfl
theorem mod_two_pow (x : Int) (k : Nat) : x % 2 ^ (k + 1) = x / 2 ^ k % 2 * 2 ^ k + x % 2 ^ k := by
  have hp : (0 : Int) < 2 ^ k := Int.pow_pos (by decide)
  have hr0 := Int.emod_nonneg x (Int.ne_of_gt hp)
  have hr1 := Int.emod_lt_of_pos x hp
  have hx := Int.mul_ediv_add_emod x (2 ^ k)
  have hq := Int.mul_ediv_add_emod (x / 2 ^ k) 2
  have hq01 : x / 2 ^ k % 2 = 0 ∨ x / 2 ^ k % 2 = 1 := by omega
  generalize x % 2 ^ k = r at *
  generalize x / 2 ^ k = q at *
  generalize q % 2 = m at *
  generalize q / 2 = d at *
  have e : x = (m * 2 ^ k + r) + 2 ^ (k + 1) * d := by
    rw [Int.pow_succ, ← hx, ← hq]
    rw [Int.mul_add, Int.mul_comm m (2 ^ k), Int.mul_assoc (2 ^ k) 2 d]
    omega
  rw [e, Int.add_mul_emod_self_left]
  have h2 : (2 : Int) ^ (k + 1) = 2 * 2 ^ k := by rw [Int.pow_succ, Int.mul_comm]
  rcases hq01 with rfl | rfl
  · exact Int.emod_eq_of_lt (by omega) (by omega)
  · exact Int.emod_eq_of_lt (by omega) (by omega)
theorem tdig_at {b post : List Bool} {f n : Bool} {x : Int} : ∀ {k : Nat} {y : Int} {t : Nat}, b.drop t = nz n (digs x k) ++ post → tdig b f n k y t = .ok (y * 2 ^ k + x % 2 ^ k) (t + k) ∧ b.drop (t + k) = post
  | 0, y, t, h => by
    refine ⟨?_, h⟩
    unfold tdig
    rw [Int.pow_zero, Int.mul_one, Int.emod_one, Int.add_zero]
    rfl
  | k + 1, y, t, h => by
    obtain ⟨h1, h2⟩ := takeB_at (f := f) (w := false) (show b.drop t = (decide (x / 2 ^ k % 2 = 1) != n) :: (nz n (digs x k) ++ post) from h)
    unfold tdig
    rw [h1]
    obtain ⟨h3, h4⟩ := tdig_at (f := f) (y := y * 2 + (if decide (x / 2 ^ k % 2 = 1) = true then 1 else 0)) h2
    refine ⟨?_, by rw [show t + (k + 1) = t + 1 + k by omega]; exact h4⟩
    show tdig b f n k _ (t + 1) = _
    rw [h3, mod_two_pow, show t + (k + 1) = t + 1 + k by omega]
    congr 1
    have hp : (2 : Int) ^ (k + 1) = 2 * 2 ^ k := by rw [Int.pow_succ, Int.mul_comm]
    have : x / 2 ^ k % 2 = 0 ∨ x / 2 ^ k % 2 = 1 := by omega
    rw [hp, ← Int.mul_assoc]
    rcases this with h | h <;> rw [h] <;> simp
    rw [Int.add_mul, Int.one_mul]
    omega
theorem tones_at {b post : List Bool} {f n : Bool} : ∀ {k j o : Nat} {w : Bool} {t : Nat}, j ≤ k → b.drop t = nz n (List.replicate j true ++ (if j < k then [false] else [])) ++ post → tones b f n k w o t = .ok (o + j) (t + j + (if j < k then 1 else 0)) ∧ b.drop (t + j + (if j < k then 1 else 0)) = post
  | 0, j, o, w, t, hj, h => by
    obtain rfl : j = 0 := by omega
    exact ⟨rfl, h⟩
  | k + 1, 0, o, w, t, hj, h => by
    rw [if_pos (Nat.succ_pos k)] at h ⊢
    obtain ⟨h1, h2⟩ := takeB_at (f := f) (w := w) (c := false) (show b.drop t = (false != n) :: post from h)
    unfold tones
    rw [h1]
    exact ⟨rfl, h2⟩
  | k + 1, j + 1, o, w, t, hj, h => by
    obtain ⟨h1, h2⟩ := takeB_at (f := f) (w := w) (c := true) (show b.drop t = (true != n) :: (nz n (List.replicate j true ++ (if j + 1 < k + 1 then [false] else [])) ++ post) from h)
    have e : (if j + 1 < k + 1 then [false] else []) = (if j < k then [false] else [] : List Bool) := by
      by_cases q : j < k
      · rw [if_pos q, if_pos (by omega)]
      · rw [if_neg q, if_neg (by omega)]
    have e2 : (if j + 1 < k + 1 then 1 else 0) = (if j < k then 1 else 0 : Nat) := by
      by_cases q : j < k
      · rw [if_pos q, if_pos (by omega)]
      · rw [if_neg q, if_neg (by omega)]
    rw [e] at h2
    rw [e2]
    obtain ⟨h3, h4⟩ := tones_at (k := k) (j := j) (o := o + 1) (f := f) (w := false) (by omega) h2
    unfold tones
    rw [h1]
    refine ⟨?_, by rw [show t + (j + 1) = t + 1 + j by omega]; exact h4⟩
    show tones b f n k false (o + 1) (t + 1) = _
    rw [h3, show o + 1 + j = o + (j + 1) by omega, show t + 1 + j = t + (j + 1) by omega]
/-- the highest digit is a one -/
theorem blen_top {m : Nat} (h : 0 < m) : 1 * 2 ^ (blen m - 1) + (m : Int) % 2 ^ (blen m - 1) = m := by
  have h1 : 2 ^ (blen m - 1) ≤ m := by
    unfold blen
    exact Nat.log2_self_le (by omega)
  have h2 : m < 2 ^ blen m := by
    unfold blen
    exact Nat.lt_log2_self
  have h3 : 2 ^ blen m = 2 ^ (blen m - 1) * 2 := by
    rw [← Nat.pow_succ]
    congr 1
  have e : (m : Int) % 2 ^ (blen m - 1) = ((m % 2 ^ (blen m - 1) : Nat) : Int) := by simp
  rw [e, Int.one_mul]
  have e2 : m % 2 ^ (blen m - 1) = m - 2 ^ (blen m - 1) := by
    rw [Nat.mod_eq_sub_mod h1, Nat.mod_eq_of_lt (by omega)]
  rw [e2]
  have e3 : ((2 : Int) ^ (blen m - 1)) = ((2 ^ (blen m - 1) : Nat) : Int) := by simp
  rw [e3]
  omega
theorem countRow_size {m : Nat} (h : countOk m) : blen (m + 1) ≤ 255 ∧ blen (blen (m + 1)) ≤ 8 := by
  have h1 : blen (m + 1) ≤ 255 := blen_le (by have := h.2; omega) (by omega)
  exact ⟨h1, blen_le (by omega) (blen_pos _)⟩
theorem tcount_at {b post : List Bool} {f n w : Bool} {m t : Nat} (hm : countOk m) (h : b.drop t = nz n (countRow m) ++ post) : tcount b f n w t = .ok m (t + (countRow m).length) ∧ b.drop (t + (countRow m).length) = post := by
  obtain ⟨hs1, hs2⟩ := countRow_size hm
  have hz := blen_pos (blen (m + 1))
  unfold countRow at h ⊢
  have hM : (1 * 2 ^ (blen (m + 1) - 1) + ((m + 1 : Nat) : Int) % 2 ^ (blen (m + 1) - 1)) = ((m + 1 : Nat) : Int) := blen_top (Nat.succ_pos m)
  have hL : (1 * 2 ^ (blen (blen (m + 1)) - 1) + ((blen (m + 1) : Nat) : Int) % 2 ^ (blen (blen (m + 1)) - 1)) = ((blen (m + 1) : Nat) : Int) := blen_top (blen_pos _)
  have hpos := blen_pos (m + 1)
  generalize hj : blen (blen (m + 1)) - 1 = j at h hL ⊢
  generalize hl : blen (m + 1) = l at *
  rw [nz_app, nz_app, List.append_assoc, List.append_assoc] at h
  obtain ⟨h1, h2⟩ := tones_at (k := 7) (j := j) (o := 0) (f := f) (w := w) (by omega) h
  obtain ⟨h3, h4⟩ := tdig_at (f := f) (y := 1) h2
  obtain ⟨h5, h6⟩ := tdig_at (f := f) (y := 1) h4
  have len : (List.replicate j true ++ (if j < 7 then [false] else []) ++ digs (l : Int) j ++ digs ((m + 1 : Nat) : Int) (l - 1)).length = j + (if j < 7 then 1 else 0) + j + (l - 1) := by
    simp only [List.length_append, List.length_replicate, digs_len]
    split <;> rfl
  rw [len]
  refine ⟨?_, by rw [← h6]; congr 1; omega⟩
  unfold tcount
  rw [h1]
  show ((tdig b f n (0 + j) 1 _).bind _) = _
  rw [Nat.zero_add, h3]
  show ((tdig b f n (1 * 2 ^ j + (l : Int) % 2 ^ j - 1).toNat 1 _).bind _) = _
  rw [hL, show ((l : Int) - 1).toNat = l - 1 by omega, h5, hM]
  show Res.ok _ _ = Res.ok _ _
  congr 1
  · omega
  · omega
theorem twhole_at {b post : List Bool} {f n : Bool} {x : Int} {t : Nat} (hx : wholeOk x) (h : b.drop t = nz n (wholeRow x) ++ post) : twhole b f n t = .ok x (t + (wholeRow x).length) ∧ b.drop (t + (wholeRow x).length) = post := by
  unfold wholeRow at h ⊢
  by_cases h0 : x < 0
  · rw [if_pos h0] at h ⊢
    have hc : countOk (-1 - x) := (wholeOk_neg h0).mp hx
    obtain ⟨m, hm⟩ := Int.eq_ofNat_of_zero_le (show 0 ≤ -1 - x by omega)
    rw [hm] at h hc ⊢
    rw [Int.toNat_natCast] at h ⊢
    obtain ⟨h1, h2⟩ := takeB_at (f := f) (w := true) (c := false) (show b.drop t = (false != n) :: (nz n (neg (countRow m)) ++ post) from h)
    rw [nz_neg] at h2
    obtain ⟨h3, h4⟩ := tcount_at (f := f) (w := false) hc h2
    rw [List.length_cons, neg_len]
    refine ⟨?_, by rw [← h4]; congr 1; omega⟩
    unfold twhole
    rw [h1]
    show ((tcount b f (!n) false (t + 1)).bind _) = _
    rw [h3]
    show Res.ok _ _ = Res.ok _ _
    congr 1
    · omega
    · omega
  · rw [if_neg h0] at h ⊢
    have hc : countOk x := (wholeOk_pos h0).mp hx
    obtain ⟨m, hm⟩ := Int.eq_ofNat_of_zero_le (show 0 ≤ x by omega)
    subst hm
    rw [Int.toNat_natCast] at h ⊢
    obtain ⟨h1, h2⟩ := takeB_at (f := f) (w := true) (c := true) (show b.drop t = (true != n) :: (nz n (countRow m) ++ post) from h)
    obtain ⟨h3, h4⟩ := tcount_at (f := f) (w := false) hc h2
    rw [List.length_cons]
    refine ⟨?_, by rw [← h4]; congr 1; omega⟩
    unfold twhole
    rw [h1]
    show tcount b f n false (t + 1) = _
    rw [h3]
    congr 1
    omega
theorem div_digit (x : Int) (k : Nat) : x / 2 ^ (k + 1) * 2 + (if decide (x / 2 ^ k % 2 = 1) = true then 1 else 0) = x / 2 ^ k := by
  have h2 : x / 2 ^ (k + 1) = x / 2 ^ k / 2 := by
    rw [Int.pow_succ, Int.ediv_ediv_of_nonneg (Int.le_of_lt (Int.pow_pos (by decide)))]
  rw [h2]
  have : x / 2 ^ k % 2 = 0 ∨ x / 2 ^ k % 2 = 1 := by omega
  rcases this with h | h <;> rw [h] <;> simp <;> omega
theorem tfix_at {b post : List Bool} {f n : Bool} {x most : Int} (hx : x ≤ most) : ∀ {k : Nat} {t : Nat}, b.drop t = nz n (digs x k) ++ post → tfix b f n most k (x / 2 ^ k) t = .ok x (t + k) ∧ b.drop (t + k) = post
  | 0, t, h => by
    refine ⟨?_, h⟩
    unfold tfix
    rw [Int.pow_zero, Int.ediv_one]
    rfl
  | k + 1, t, h => by
    obtain ⟨h1, h2⟩ := takeB_at (f := f) (w := false) (show b.drop t = (decide (x / 2 ^ k % 2 = 1) != n) :: (nz n (digs x k) ++ post) from h)
    obtain ⟨h3, h4⟩ := tfix_at hx h2 (f := f)
    refine ⟨?_, by rw [show t + (k + 1) = t + 1 + k by omega]; exact h4⟩
    unfold tfix
    rw [h1]
    show (if x / 2 ^ (k + 1) * 2 + (if decide (x / 2 ^ k % 2 = 1) = true then 1 else 0) > most / 2 ^ k then _ else tfix b f n most k (x / 2 ^ (k + 1) * 2 + (if decide (x / 2 ^ k % 2 = 1) = true then 1 else 0)) (t + 1)) = _
    rw [div_digit, if_neg (by have := Int.ediv_le_ediv (Int.pow_pos (n := 2) (m := k) (by decide)) hx; omega), h3]
    congr 1
    omega
/-- the binary digits of a number, none for nought -/
def bin (m : Nat) : List Bool := digs (m : Int) (flen m)
end Kr
namespace Kr
open PySem PySem.Spec PyProof.Rows L2 Evl
theorem digs_last (x : Int) : ∀ k : Nat, digs x (k + 1) = digs (x / 2) k ++ [decide (x % 2 = 1)]
  | 0 => by
    show [decide (x / 2 ^ 0 % 2 = 1)] = _
    rw [Int.pow_zero, Int.ediv_one]
    rfl
  | k + 1 => by
    rw [digs, digs_last x k, digs]
    have : x / 2 / 2 ^ k = x / 2 ^ (k + 1) := by
      rw [Int.ediv_ediv_of_nonneg (by decide), Int.pow_succ, Int.mul_comm]
    rw [this]
    rfl
theorem bin_zero : bin 0 = [] := rfl
theorem flen_half {m : Nat} (h : 0 < m) : flen m = flen (m / 2) + 1 := by
  unfold flen
  rw [if_neg (by omega)]
  by_cases h2 : m / 2 = 0
  · rw [if_pos h2]
    obtain rfl : m = 1 := by omega
    rfl
  · rw [if_neg h2]
    unfold blen
    have h3 : m.log2 = (m / 2).log2 + 1 := by
      rw [Nat.log2_def m, if_pos (by omega)]
    rw [h3]
theorem bin_step {m : Nat} (h : 0 < m) : bin m = bin (m / 2) ++ [decide ((m : Int) % 2 = 1)] := by
  unfold bin
  rw [flen_half h, digs_last]
  congr 1
theorem bin_len (m : Nat) : (bin m).length = flen m := digs_len _ _
section
variable {K : PySem.W.Frag} {σ : L2.St} {H : Hp} {ta tb tc te : TE} {v x y z : V}
/-- an item of a tuple -/
theorem ev_ixU {p : Addr} {xs : List V} {i : Int} (ha : Ev ta σ H (.ref p)) (hp : H p = some (.tup xs)) (hb : Ev tb σ H (.int i)) (hv : atI xs i = some v) : Ev (tOp (rIxT K) ta tb) σ H v := ev_op ha hb (Evl.rv_ixT (st_of hp) hv)
theorem ev_lenU {p : Addr} {xs : List V} (ha : Ev ta σ H (.ref p)) (hp : H p = some (.tup xs)) : Ev (tCB (rLenK K) (tCons ta tNil)) σ H (.int (xs.length : Int)) := ev_lenS ha (.inr (st_of hp))
def SpU (sp : Sp) (vs : List V) (H : Hp) (xs : List V) : Prop := ∀ H1, Ex H H1 → ∀ Q : VK, RetU xs H1 Q → ∀ E : XK, sp vs H1 Q E
theorem eu_call {sp : Sp} {vs xs : List V} {E : XK} {t : TA} (h : EvA t σ H vs) (hs : SpU sp vs H xs) : EvU (tCall sp [] E t) σ H xs := fun H1 e Q q =>
  h H1 e _ fun H2 e2 => by
    rw [List.append_nil]
    exact hs H2 (e.trans e2) Q (fun p H3 hp e3 h3 => q p H3 (fresh_back e2 hp) (e2.trans e3) h3) E
/-- a call of three, the first a new tuple -/
theorem ev_callU3 {sp : Sp} {E : XK} {xs : List V} (h : EvU ta σ H xs) (hb : ∀ H1, Ex H H1 → Ev tb σ H1 x) (hc : ∀ H1, Ex H H1 → Ev tc σ H1 y) (hs : ∀ p H1, Ex H H1 → H1 p = some (.tup xs) → SpV sp [.ref p, x, y] H1 z) : Ev (tCall sp [] E (tCons ta (tCons tb (tCons tc tNil)))) σ H z := fun H1 e Q q =>
  h H1 e _ fun p H2 _ e2 hp => hb H2 (e.trans e2) H2 (Ex.refl H2) _ fun H3 e3 => hc H3 ((e.trans e2).trans e3) H3 (Ex.refl H3) _ fun H4 e4 => hs p H4 (((e.trans e2).trans e3).trans e4) ((e3.trans e4) _ _ hp) H4 (Ex.refl H4) Q (fun H5 e5 => q H5 (((e2.trans e3).trans e4).trans e5)) E
theorem ev_lenR {b : List Bool} (h : Ev ta σ H (.str (T (R b)))) (hl : b.length ≤ 16000000) : Ev (tCB (rLenK K) (tCons ta tNil)) σ H (.int (b.length : Int)) := by
  have := ev_lenT (K := K) h (by rw [R_len]; exact hl)
  rwa [R_len] at this
theorem ev_addR {a b : List Bool} (ha : Ev ta σ H (.str (T (R a)))) (hb : Ev tb σ H (.str (T (R b)))) (h : a.length + b.length ≤ 16000000) : Ev (tOp rAddT ta tb) σ H (.str (T (R (a ++ b)))) := by
  rw [R_app]
  exact ev_addT ha hb (by rw [R_len, R_len]; exact h)
end
theorem two_step {x : Int} {m : Nat} (c : Bool) (h : x.natAbs < 2 ^ m) : (x * 2 + (if c then 1 else 0)).natAbs < 2 ^ (m + 1) := by
  rw [Nat.pow_succ]
  cases c <;> simp <;> omega
theorem zeros_R (n : Nat) : (List.replicate n [48]).flatten = R (List.replicate n false) := by
  induction n with
  | zero => rfl
  | succ n ih => rw [List.replicate_succ, List.flatten_cons, ih, List.replicate_succ]; rfl
theorem ev_zeros {σ : L2.St} {H : Hp} {te : TE} {n : Int} (h : Ev te σ H (.int n)) (h0 : -1000 ≤ n) (h1 : n ≤ 1000) : Ev (tOp rMulT (tC (.str (T [48]))) te) σ H (.str (T (R (List.replicate n.toNat false)))) :=
  ev_is (ev_mulT ev_c h (by omega) (by omega) (by simp; omega)) (by rw [zeros_R])
end Kr
/-! the rows of counts and whole numbers stand as the numbers do; beginnings of texts -/
namespace Kr
open PySem PySem.Spec PyProof.Rows L2 Evl
/-- two rows part at a place, the one has 0 there, the other 1 -/
def Split (a b : List Bool) : Prop := ∃ p s t, a = p ++ false :: s ∧ b = p ++ true :: t
theorem Split.lt {a b : List Bool} (h : Split a b) : R a < R b := by
  obtain ⟨p, s, t, rfl, rfl⟩ := h
  exact R_lt_split
theorem Split.pre {a b : List Bool} (h : Split a b) (c : List Bool) : Split (c ++ a) (c ++ b) := by
  obtain ⟨p, s, t, rfl, rfl⟩ := h
  exact ⟨c ++ p, s, t, by rw [List.append_assoc], by rw [List.append_assoc]⟩
theorem Split.post {a b : List Bool} (h : Split a b) (c d : List Bool) : Split (a ++ c) (b ++ d) := by
  obtain ⟨p, s, t, rfl, rfl⟩ := h
  exact ⟨p, s ++ c, t ++ d, by rw [List.append_assoc]; rfl, by rw [List.append_assoc]; rfl⟩
theorem Split.neg {a b : List Bool} (h : Split a b) : Split (neg b) (neg a) := by
  obtain ⟨p, s, t, rfl, rfl⟩ := h
  exact ⟨Kr.neg p, Kr.neg t, Kr.neg s, by rw [neg_app]; rfl, by rw [neg_app]; rfl⟩
theorem Split.no1 {a b : List Bool} (h : Split a b) : ¬ a <+: b := by
  obtain ⟨p, s, t, rfl, rfl⟩ := h
  intro ⟨c, hc⟩
  rw [List.append_assoc] at hc
  have := List.append_cancel_left hc
  simp at this
theorem Split.no2 {a b : List Bool} (h : Split a b) : ¬ b <+: a := by
  obtain ⟨p, s, t, rfl, rfl⟩ := h
  intro ⟨c, hc⟩
  rw [List.append_assoc] at hc
  have := List.append_cancel_left hc
  simp at this
theorem Split.ne {a b : List Bool} (h : Split a b) : a ≠ b := fun z => h.no1 (by rw [z]; exact List.prefix_refl _)
theorem digs_split {x y : Int} : ∀ {k : Nat}, x % 2 ^ k < y % 2 ^ k → Split (digs x k) (digs y k)
  | 0, h => by
    rw [Int.pow_zero, Int.emod_one, Int.emod_one] at h
    exact absurd h (Int.lt_irrefl _)
  | k + 1, h => by
    rw [mod_two_pow x, mod_two_pow y] at h
    have hp : (0 : Int) < 2 ^ k := Int.pow_pos (by decide)
    have x0 := Int.emod_nonneg x (Int.ne_of_gt hp)
    have x1 := Int.emod_lt_of_pos x hp
    have y0 := Int.emod_nonneg y (Int.ne_of_gt hp)
    have y1 := Int.emod_lt_of_pos y hp
    have dx : x / 2 ^ k % 2 = 0 ∨ x / 2 ^ k % 2 = 1 := by omega
    have dy : y / 2 ^ k % 2 = 0 ∨ y / 2 ^ k % 2 = 1 := by omega
    rw [digs, digs]
    rcases dx with dx | dx <;> rcases dy with dy | dy <;> rw [dx, dy] at h ⊢
    · exact (digs_split (k := k) (by simpa using h)).pre [false]
    · exact ⟨[], digs x k, digs y k, rfl, rfl⟩
    · exact absurd h (by omega)
    · exact (digs_split (k := k) (by omega)).pre [true]
theorem blen_mono {n m : Nat} (h0 : 0 < n) (h : n ≤ m) : blen n ≤ blen m := by
  refine blen_le ?_ h0
  unfold blen
  exact Nat.lt_of_le_of_lt h Nat.lt_log2_self
/-- numbers of as many digits: what follows the first digit stands as the numbers -/
theorem top_lt {n m : Nat} (h0 : 0 < n) (h : n < m) (e : blen n = blen m) : ((n : Int) % 2 ^ (blen n - 1)) < ((m : Int) % 2 ^ (blen n - 1)) := by
  have h1 := blen_top h0
  have h2 := blen_top (show 0 < m by omega)
  rw [← e] at h2
  omega
theorem rep_split {i j : Nat} (h : i < j) (c : List Bool) : Split (List.replicate i true ++ false :: c) (List.replicate j true) := by
  refine ⟨List.replicate i true, c, List.replicate (j - i - 1) true, rfl, ?_⟩
  have : j = i + ((j - i - 1) + 1) := by omega
  conv => lhs; rw [this]
  rw [← List.replicate_append_replicate, List.replicate_succ]
theorem countRow_split {n m : Nat} (hn : countOk n) (hm : countOk m) (h : n < m) : Split (countRow n) (countRow m) := by
  obtain ⟨a1, a2⟩ := countRow_size hn
  obtain ⟨b1, b2⟩ := countRow_size hm
  have hL : blen (n + 1) ≤ blen (m + 1) := blen_mono (by omega) (by omega)
  have hS : blen (blen (n + 1)) ≤ blen (blen (m + 1)) := blen_mono (blen_pos _) hL
  have p1 := blen_pos (blen (n + 1))
  unfold countRow
  by_cases e : blen (blen (n + 1)) = blen (blen (m + 1))
  · rw [← e]
    by_cases e2 : blen (n + 1) = blen (m + 1)
    · rw [← e2]
      refine Split.pre (digs_split ?_) _
      exact top_lt (by omega) (by omega) e2
    · refine Split.post (Split.pre (digs_split ?_) _) _ _
      exact top_lt (blen_pos _) (by omega) e
  · rw [if_pos (by omega)]
    have := rep_split (i := blen (blen (n + 1)) - 1) (j := blen (blen (m + 1)) - 1) (by omega) []
    have h2 := this.post (digs (blen (n + 1) : Nat) (blen (blen (n + 1)) - 1) ++ digs ((n + 1 : Nat) : Int) (blen (n + 1) - 1)) ((if blen (blen (m + 1)) - 1 < 7 then [false] else []) ++ digs (blen (m + 1) : Nat) (blen (blen (m + 1)) - 1) ++ digs ((m + 1 : Nat) : Int) (blen (m + 1) - 1))
    simpa [List.append_assoc] using h2
theorem wholeRow_split {x y : Int} (hx : wholeOk x) (hy : wholeOk y) (h : x < y) : Split (wholeRow x) (wholeRow y) := by
  unfold wholeRow
  by_cases h0 : x < 0
  · by_cases h1 : y < 0
    · rw [if_pos h0, if_pos h1]
      have cx := (wholeOk_neg h0).mp hx
      have cy := (wholeOk_neg h1).mp hy
      refine Split.pre (c := [false]) (Split.neg (countRow_split ?_ ?_ (by omega)))
      · rw [Int.toNat_of_nonneg (by omega)]; exact cy
      · rw [Int.toNat_of_nonneg (by omega)]; exact cx
    · rw [if_pos h0, if_neg h1]
      exact ⟨[], _, _, rfl, rfl⟩
  · have h1 : ¬ y < 0 := by omega
    rw [if_neg h0, if_neg h1]
    have cx := (wholeOk_pos h0).mp hx
    have cy := (wholeOk_pos h1).mp hy
    refine Split.pre (c := [true]) (countRow_split ?_ ?_ (by omega))
    · rw [Int.toNat_of_nonneg (by omega)]; exact cx
    · rw [Int.toNat_of_nonneg (by omega)]; exact cy
theorem countRow_most {n : Nat} (h : countOk n) : (countRow n).length ≤ blen (n + 1) + 14 := by
  obtain ⟨a1, a2⟩ := countRow_size h
  have p1 := blen_pos (blen (n + 1))
  have p2 := blen_pos (n + 1)
  unfold countRow
  simp only [List.length_append, List.length_replicate, digs_len]
  split <;> simp <;> omega
theorem wholeRow_len {x : Int} (h : wholeOk x) : (wholeRow x).length ≤ 301 := by
  unfold wholeRow
  by_cases h0 : x < 0
  · rw [if_pos h0, List.length_cons, neg_len]
    have := countRow_len (n := (-1 - x).toNat) (by rw [Int.toNat_of_nonneg (by omega)]; exact (wholeOk_neg h0).mp h)
    omega
  · rw [if_neg h0, List.length_cons]
    have := countRow_len (n := x.toNat) (by rw [Int.toNat_of_nonneg (by omega)]; exact (wholeOk_pos h0).mp h)
    omega
section
variable {K : PySem.W.Frag} {σ : L2.St} {H : Hp} {ta tb : TE} {x z : V}
/-- a call of two, the second a value of which a word holds -/
theorem ev_callW2 {sp : Sp} {E : XK} {P : V → Prop} (ha : Ev ta σ H x) (hb : EvW tb σ H P) (hs : ∀ y H1, P y → Ex H H1 → SpV sp [x, y] H1 z) : Ev (tCall sp [] E (tCons ta (tCons tb tNil))) σ H z := fun H1 e Q q =>
  ha H1 e _ fun H2 e2 => hb H2 (e.trans e2) _ fun y H3 hy e3 => hs y H3 hy ((e.trans e2).trans e3) H3 (Ex.refl H3) Q (fun H4 e4 => q H4 ((e2.trans e3).trans e4)) E
/-- a call of two, the first what makes or reads -/
theorem go_call2 {te tw : TE} {sp : Sp} {E : XK} {Q : VK} {w : V} {P : V → Hp → Prop} (h : ∀ Q2 : VK, (∀ x H1, P x H1 → Q2 x H1) → te σ H Q2) (hw : ∀ H1, Ev tw σ H1 w) (k : ∀ x H1 H2, P x H1 → Ex H1 H2 → sp [x, w] H2 Q E) : tCall sp [] E (tCons te (tCons tw tNil)) σ H Q :=
  h _ fun x H1 p => hw H1 H1 (Ex.refl H1) _ fun H2 e2 => k x H1 H2 p e2
/-- return a op b, b what promises more -/
theorem s_retOpF {r : R2} {D : Ends} (ha : Ev ta σ H x) (k : ∀ H1, Ex H H1 → tb σ H1 (fun y H2 => r x y H2 D.rt)) : tRet (tOp r ta tb) D σ H := ha H (Ex.refl H) _ k
theorem s_retW {P : V → Prop} {D : Ends} (h : EvW tb σ H P) (k : ∀ v H1, P v → Ex H H1 → D.rt v H1) : tRet tb D σ H := h H (Ex.refl H) _ k
end
/-! ### startswith -/
def rStarts : V → List V → Hp → VK → Prop := fun x xs H Q => ∃ a b, x = .str a ∧ xs = [.str b] ∧ Q (.bl (Txt.startswith a b)) H
theorem mt_starts {X : Cx} : MtR X "str.startswith" rStarts := mt_startswith
theorem starts_T (a b : List Nat) : Txt.startswith (T a) (T b) = decide (b <+: a) := by
  unfold Txt.startswith
  rw [PySem.StrLaws.subAt_eq]
  show (decide (0 + (T b).length ≤ (T a).length) && (((T a).cps.toList.drop 0).take (T b).length == (T b).cps.toList)) = _
  rw [T_len, T_len]
  have e : (T a).cps.toList = a := rfl
  have e2 : (T b).cps.toList = b := rfl
  rw [e, e2, List.drop_zero, Nat.zero_add]
  by_cases h : b <+: a
  · rw [decide_eq_true h, decide_eq_true h.length_le, Bool.true_and, beq_iff_eq]
    exact (List.prefix_iff_eq_take.mp h).symm
  · rw [decide_eq_false h, Bool.and_eq_false_iff]
    refine .inr ?_
    rw [beq_eq_false_iff_ne]
    exact fun z => h (List.prefix_iff_eq_take.mpr z.symm)
theorem R_pre {a b : List Bool} : R b <+: R a ↔ b <+: a := by
  constructor
  · intro ⟨c, hc⟩
    refine List.prefix_iff_eq_take.mpr ?_
    have := congrArg (List.take (R b).length) hc
    rw [List.take_left, R_len, R_take] at this
    exact R_inj this
  · intro ⟨c, hc⟩
    exact ⟨R c, by rw [← R_app, hc]⟩
theorem ev_startsR {K : PySem.W.Frag} {σ : L2.St} {H : Hp} {ta tb : TE} {a b : List Bool} (ha : Ev ta σ H (.str (T (R a)))) (hb : Ev tb σ H (.str (T (R b)))) : Ev (tBM K "str" rStarts ta (tCons tb tNil)) σ H (.bl (decide (b <+: a))) := fun H1 e Q q =>
  ha H1 e _ fun H2 e2 => ⟨rfl, hb H2 (e.trans e2) _ fun H3 e3 => ⟨T (R a), T (R b), rfl, rfl, by
    have := q H3 (e2.trans e3)
    rw [starts_T]
    rwa [show decide (R b <+: R a) = decide (b <+: a) from decide_eq_decide.mpr R_pre]⟩⟩
theorem cut_lenN {ns : List Int} (k : Nat) : ((cutV (ns.map V.int) none (some (k : Int))).length : Int) = ((min k ns.length : Nat) : Int) := by
  unfold cutV
  rw [HT.sIx_none, HT.sIx_nat]
  simp
end Kr
/-! errors raised where nothing is handled (their context is None), and an except suite that raises another one -/
namespace Kr
open PySem PySem.Spec PyProof.Rows L2 Evl
section
variable {P : Program} {w : World} {K : PySem.W.Frag} {mg : Str → Option Value} {base : Heap} {k : Nat} {f : Addr} {fd : FuncData} {ps : List Str} {sp : Sp}
theorem cxN_up {outer : List Env} {H : Hp} {s s' : Shared} {E : XK} {u : Value} (h : L2N.CX P w outer H s E u s') : L2.CX P w outer H s E u s' := by
  obtain ⟨a, B, H1, cls, d, e, fl, r⟩ := h
  exact ⟨a, B, H1, cls, d, e, L2H.flyingZ_imp (fun _ z => L2N.Zn.zc z) fl, r⟩
/-- a def whose errors have no context keeps the weaker promise too -/
theorem fnok_up (F : FnOk P w K mg base (L2N.CX P w) k f fd ps sp) : FnOk P w K mg base (L2.CX P w) k f fd ps sp :=
  ⟨F.len, fun A outer s H args us vs Q E hr he hb hv hs => codeAny_mono (F.run A outer s H args us vs Q E hr he hb hv hs) fun r s' x => by
    cases r with
    | ok fl => cases fl <;> exact x
    | error er => exact cxN_up x⟩
end
theorem passLN {X : Cx} : Passes (L2N.CX X.prog X.w) X E0 := fun _ _ _ _ _ _ _ h => by
  obtain ⟨_, _, _, _, _, _, _, _, _, _, _, _, z⟩ := h
  exact z.elim
section
variable {X : Cx} {e : Expr} {es : List Expr} {ta : TA} {p pos : Pos}
/-- C(..) with an own __init__, nothing being handled: the new error's context is None -/
theorem pmkN_oex {CX : CXT} {x : Str} {C fI : Addr} {k : Nat} {fd : FuncData} {ps : List Str} {sp : Sp} (T : OexC X.K C) (iC : PySem.W.findIn X.K (.ref C) "__init__" = some (some (.ref fI))) (tI : PySem.W.typeIn X.K (.ref fI) = some (.type "function"))
    (F1 : FnOk X.prog X.w X.K X.mg X.base CX k fI fd ps sp) (room : Room (k + 1) X.A) (bi : Binds X.K fd ps []) (no : Passes CX X (fun _ _ _ => False)) (gx : Gl X x) (mx : X.mg x = some (.ref C)) (pa : PA X (e :: es) ta)
    (dbg : (x == ("__debug__" : Str)) = false := by decide) (se : starEach (e :: es) X.env = (false, eval e X.env) :: starEach es X.env := by rfl) (pl : (backTo pos (starEach es X.env)).any (·.1) = false := by rfl) :
    L2N.PMk X (.Call (.Name x p) (e :: es) [] pos) (tMkO C sp [] ta) := fun pn0 s0 σ0 H0 Q0 J0 w0 => by
  obtain ⟨_, _, _, _, bm, _, _, _, _, _, _, _, _, _, _, lk, mro⟩ := T.cls
  refine wpAny_Call_Name_kw (ld_glob J0 gx mx (PySem.W.callWith_K (h₀ := X.base) J0.ok.mod.kin T.kC (thn (pa.run pos pn0 s0 σ0 H0 _ J0 w0) fun us sA ⟨ws, HA, JA, rA, lA, wA⟩ => ⟨JA.kIn, ?_⟩) se pl) dbg)
  obtain ⟨hA, gA, dA, tA, oA⟩ := sA
  show wpAny _ _ (call (.ref C) us) _ _ _
  let n := hA.objs.size
  let hB := (hA.push (PySem.W.kdv_tup us)).push (PySem.HandSPX.excO C n)
  have old : ∀ b o, hA.get? b = some o → hB.get? b = some o := fun b o q => Heap.get?_push_of_some _ (Heap.get?_push_of_some _ q)
  have at1 : hB.get? (n + 1) = some (PySem.HandSPX.excO C n) := by
    show ((hA.push (PySem.W.kdv_tup us)).push (PySem.HandSPX.excO C hA.objs.size)).get? (hA.objs.size + 1) = some (PySem.HandSPX.excO C hA.objs.size)
    heap_get
  have le : hA.objs.size ≤ n + 1 := Nat.le_succ _
  have promise := wA (n + 1) (JA.hok.fresh le)
  have JB : Inv X pn0 σ0 (upd HA (n + 1) (exo (n + 1) C none)) ⟨hB, gA, dA, tA, oA⟩ := JA.laid (t' := tA) (a := n + 1) (o := exo (n + 1) C none) (h' := hB) old le (exo_ok at1)
  have rB : Vals (V.ref (n + 1) :: (ws ++ [])) (Value.ref (n + 1) :: (us ++ [])) := .cons rfl (rA.append .nil)
  have sizes : us.length ≤ sizeLine := by
    rw [← Paired.length rA, sizeLine_eq]; omega
  have many : (Value.ref (n + 1) :: us ++ []).length = ps.length := (rB.length.symm.trans (F1.len _ _ _ _ promise))
  have bb := bi _ (Value.ref (n + 1) :: us) JB.kIn many
  rw [List.cons_append] at bb
  have ran := F1.run _ X.stack _ _ ⟨Value.ref (n + 1) :: us, []⟩ (Value.ref (n + 1) :: (us ++ [])) _ _ (fun _ _ _ => False) (room.make C us []) (JB.env0.make C us []) bb rB promise
  refine wpAny_call (PySem.HandSPX.call_own F.excBase_ValueError (fun Y => PySem.HandSPX.refsVE_contains Y bm mro) (JA.kIn _ _ lk) (PySem.W.looks_findIn JA.kIn iC) (fun self => PySem.W.bind_fn JA.kIn self tI) sizes (codeAny_mono ran fun r sC out => ?_))
  match r, out with
  | .error er, out => exact no pn0 σ0 _ _ er sC JB out
  | .ok (.ret u), out =>
    obtain ⟨v, HC, osC, bareC, unC, okC, rv, non, d, fs, e1, e2, e3, qC⟩ := out
    subst non
    obtain ⟨hC, gC, dC, tC, oC⟩ := sC
    obtain ⟨t0, G, JG, kG, ge, hoe, na⟩ := mk_end0 (d2 := dC) (t2 := tC) JA le old unC okC osC bareC e1 e2 e3
    exact ⟨rv, n + 1, _, _, ⟨G, gC, dC, tC, oC⟩, _, .ref C, some d, rfl, JG, kG, ge, hoe, ⟨rfl, rfl, fun vs hv => by cases hv; rfl⟩, rfl, rfl, na, rfl, bareC, raises_own T.exC T.tyC, qC⟩
  | .ok .next, out => exact False.elim out
  | .ok .brk, out => exact False.elim out
  | .ok .cont, out => exact False.elim out
/-- X('..') made while an error is handled, or not -/
theorem pmkN_txt {x m : Str} {C : Addr} {j : Nat} {p p2 pos : Pos}
    (c : PySem.W.excIn X.K C He.veBase "ValueError.__new__" = true ∧ PySem.W.keepIn X.K (.ref C) = true ∧ PySem.W.subIn X.K (.ref C) (.type "BaseException") = some true ∧ PySem.W.typeIn X.K (.ref C) = some (.type "type"))
    (g : X.mg x = some (.ref C)) (hg : Gl X x := by rfl) (hd : (x == ("__debug__" : Str)) = false := by decide) :
    L2N.PMk X (.Call (.Name x p) [.Constant (.str m) j p2] [] pos) (fun _ H Q => Q (.ref C) none H) :=
  L2N.pmk_own PySem.F.excBase_ValueError c.1 g c.2.1 (raises_own c.2.2.1 c.2.2.2) hg hd
end
/-! ### more of lists -/
def rListK (K : PySem.W.Frag) : List V → Hp → VK → Prop := fun xs H Q => ∃ p ys, xs = [.ref p] ∧ (SqL K H p ys ∨ SqT K H p ys) ∧ ∀ l, H l = none → Q (.ref l) (upd H l (.lst ys))
def rInsertK : V → List V → Hp → VK → Prop := fun x vs H Q => ∃ (l : Addr) (xs : List V) (i : Int) (y : V), x = .ref l ∧ vs = [.int i, y] ∧ H l = some (.lst xs) ∧ xs.length < sizeLine ∧ 0 ≤ i ∧ i < 2 ^ 63 ∧ Q .non (upd H l (.lst (xs.take i.toNat ++ [y] ++ xs.drop i.toNat)))
def rAbs : List V → Hp → VK → Prop := fun xs H Q => ∃ i, xs = [.int i] ∧ Q (.int (if i < 0 then -i else i)) H
section
variable {X : Cx}
theorem call_listK : CallR X (.type "list") (rListK X.K) := call_list_of
theorem mt_insertK : MtR X "list.insert" rInsertK := mt_insert
end
section
variable {K : PySem.W.Frag} {σ : L2.St} {H : Hp} {ta tb te : TE} {v : V} {D : Ends} {tz : TS}
theorem el_copy {p : Addr} {ys : List V} (h : Ev ta σ H (.ref p)) (hs : SqL K H p ys) : EvL (tCB (rListK K) (tCons ta tNil)) σ H ys := fun H1 e Q q =>
  h H1 e _ fun H2 e2 => ⟨p, ys, rfl, .inl (ex_l (e.trans e2) hs), fun l hl => q l _ (fresh_back e2 hl) (e2.trans (Ex.new hl)) upd_same⟩
theorem q_insert {l : Addr} {xs : List V} {i : Nat} (hl : H l = some (.lst xs)) (ha : Ev ta σ H (.ref l)) (hi : Ev tb σ H (.int (i : Int))) (hv : Ev te σ H v) (hz : xs.length < 100000) (hi2 : i < 100000) (k : ∀ H1, Ex H H1 → tz D σ (upd H1 l (.lst (xs.take i ++ [v] ++ xs.drop i)))) :
    tSeq (tDrop (tBM K "list" rInsertK ta (tCons tb (tCons te tNil)))) tz D σ H :=
  ha H (Ex.refl H) _ fun H1 e1 => ⟨.inl ⟨rfl, xs, sq_of (e1 _ _ hl)⟩, hi H1 e1 _ fun H2 e2 => hv H2 (e1.trans e2) _ fun H3 e3 => ⟨l, xs, i, v, rfl, rfl, ((e1.trans e2).trans e3) _ _ hl, sz_lt hz, by omega, by omega, k H3 ((e1.trans e2).trans e3)⟩⟩
theorem s_insert {l : Addr} {xs : List V} {i : Nat} (hl : H l = some (.lst xs)) (ha : Ev ta σ H (.ref l)) (hi : Ev tb σ H (.int (i : Int))) (hv : Ev te σ H v) (hz : xs.length < 100000) (hi2 : i < 100000) (k : ∀ H1, Ex H H1 → D.nx σ (upd H1 l (.lst (xs.take i ++ [v] ++ xs.drop i)))) :
    tDrop (tBM K "list" rInsertK ta (tCons tb (tCons te tNil))) D σ H :=
  ha H (Ex.refl H) _ fun H1 e1 => ⟨.inl ⟨rfl, xs, sq_of (e1 _ _ hl)⟩, hi H1 e1 _ fun H2 e2 => hv H2 (e1.trans e2) _ fun H3 e3 => ⟨l, xs, i, v, rfl, rfl, ((e1.trans e2).trans e3) _ _ hl, sz_lt hz, by omega, by omega, k H3 ((e1.trans e2).trans e3)⟩⟩
theorem q_clear {l : Addr} {xs : List V} (hl : H l = some (.lst xs)) (ha : Ev ta σ H (.ref l)) (k : ∀ H1, Ex H H1 → tz D σ (upd H1 l (.lst []))) : tSeq (tDrop (tBM0 K "list" rClear ta)) tz D σ H :=
  ha H (Ex.refl H) _ fun H1 e1 => ⟨.inl ⟨rfl, xs, sq_of (e1 _ _ hl)⟩, l, xs, rfl, rfl, e1 _ _ hl, k H1 e1⟩
end
/-- try: .. except c: raise C('..') -/
def tTryRaise (K : PySem.W.Frag) (c : Value) (tb : WX → TS) (C : Value) (E : XK) : TS := fun D σ H => tb (wOnly K c (fun _ _ _ => tRaiseX C E) (fun cls d _ H => E cls d H) D) D σ H
end Kr
/-! pages: rows that ascend, the page made of them, the rows read of a page -/
namespace Kr
open PySem PySem.Spec PyProof.Rows L2 Evl
section
variable {K : PySem.W.Frag} {σ : L2.St} {H : Hp} {tl : TE} {D : Ends} {tu tz : TS}
/-- for i, x in enumerate(xs) -/
theorem s_forEnum {a : Addr} {xs : List V} {i j : Nat} (h : Ev tl σ H (.ref a)) (hx : SqL K H a xs) (Pv : Nat → L2.St → Hp → Prop) (h0 : ∀ H1, Ex H H1 → Pv 0 σ H1) (hl : ∀ k σ' H', k ≤ xs.length → Pv k σ' H' → SqL K H' a xs)
    (hs : ∀ k x σ' H' H2, xs[k]? = some x → Pv k σ' H' → Ex H' H2 → tu { D with nx := Pv (k + 1), ct := Pv (k + 1), bk := D.nx } ((σ'.set i (some (.int (k : Int)))).set j (some x)) H2) (hd : ∀ σ' H', Pv xs.length σ' H' → D.nx σ' H') :
    tFor (iEnum K (tCons tl tNil)) (gTup K 2 (gCons (gName i) (gCons (gName j) gNil))) tu D σ H :=
  h H (Ex.refl H) _ fun H1 e1 => ⟨a, xs, rfl, ex_l e1 hx, fun k m σ' H' => m = xs.length - k ∧ k ≤ xs.length ∧ Pv k σ' H', ⟨xs.length, rfl, Nat.zero_le _, h0 H1 e1⟩, by
    rintro k m σ' H' ⟨rfl, hk, p⟩
    by_cases hlt : k < xs.length
    · have hat : xs[k]? = some xs[k] := List.getElem?_eq_getElem hlt
      refine .inr ⟨⟨xs, xs[k], hl k σ' H' hk p, hat⟩, Pv (k + 1), fun σ2 H2 p2 => ⟨xs.length - (k + 1), by omega, rfl, hlt, p2⟩, ?_⟩
      rintro v H2 ⟨T, x, rfl, hT, rfl, hall⟩
      have hxx := hall xs (hl k σ' H' hk p)
      exact ⟨T, [.int (k : Nat), x], rfl, st_of upd_same, rfl, .int (k : Nat), [x], rfl, x, [], rfl, rfl, hs k x σ' H' _ hxx p (Ex.new hT)⟩
    · have : k = xs.length := by omega
      subst this
      exact .inl ⟨⟨xs, hl _ σ' H' hk p, Nat.le_refl _⟩, hd σ' H' p⟩⟩
theorem q_forEnum {a : Addr} {xs : List V} {i j : Nat} (h : Ev tl σ H (.ref a)) (hx : SqL K H a xs) (Pv : Nat → L2.St → Hp → Prop) (h0 : ∀ H1, Ex H H1 → Pv 0 σ H1) (hl : ∀ k σ' H', k ≤ xs.length → Pv k σ' H' → SqL K H' a xs)
    (hs : ∀ k x σ' H' H2, xs[k]? = some x → Pv k σ' H' → Ex H' H2 → tu { D with nx := Pv (k + 1), ct := Pv (k + 1), bk := tz D } ((σ'.set i (some (.int (k : Int)))).set j (some x)) H2) (hd : ∀ σ' H', Pv xs.length σ' H' → tz D σ' H') :
    tSeq (tFor (iEnum K (tCons tl tNil)) (gTup K 2 (gCons (gName i) (gCons (gName j) gNil))) tu) tz D σ H := s_forEnum (D := { D with nx := tz D }) h hx Pv h0 hl hs hd
/-- a, b = f(..), f telling a new tuple -/
theorem q_tupF {sp : Sp} {E : XK} {t : TA} {vs : List V} {i j : Nat} (h : EvA t σ H vs) (k : ∀ H1, Ex H H1 → ∀ Q2 : VK, (∀ x y, (∀ H2, Ex H1 H2 → tz D ((σ.set i (some x)).set j (some y)) H2) → RetU [x, y] H1 Q2) → sp vs H1 Q2 E) :
    tSeq (tAsg (tCall sp [] E t) (gTup K 2 (gCons (gName i) (gCons (gName j) gNil)))) tz D σ H :=
  h H (Ex.refl H) _ fun H1 e1 => by
    rw [List.append_nil]
    exact k H1 e1 _ fun x y hk p H2 hp e2 h2 => ⟨p, [x, y], rfl, st_of h2, rfl, x, [y], rfl, y, [], rfl, rfl, hk H2 e2⟩
end
section
variable {K : PySem.W.Frag} {σ : L2.St} {H : Hp} {D : Ends}
theorem s_tryR {c C : Value} {tb : WX → TS} {E : XK} (h : tb (wOnly K c (fun _ _ _ => tRaiseX C E) (fun cls d _ H => E cls d H) D) D σ H) : tTryRaise K c tb C E D σ H := h
theorem s_retX {sp : Sp} {vs : List V} {E : L2.St → XK} {ta : TA} (h : EvA ta σ H vs) (k : ∀ H1, Ex H H1 → sp vs H1 D.rt (E σ)) : tRet (tCallS sp E ta) D σ H := h H (Ex.refl H) _ k
end
/-! ### rows that ascend -/
def RL (rs : List (List Bool)) : List V := rs.map fun r => V.str (T (R r))
theorem RL_at {rs : List (List Bool)} {i : Nat} (h : i < rs.length) : (RL rs)[i]? = some (.str (T (R rs[i]))) := by
  unfold RL
  rw [List.getElem?_map, List.getElem?_eq_getElem h]
  rfl
theorem RL_len (rs : List (List Bool)) : (RL rs).length = rs.length := List.length_map _
theorem RL_app (a b : List (List Bool)) : RL (a ++ b) = RL a ++ RL b := List.map_append
theorem RL_inj {a b : List (List Bool)} (h : RL a = RL b) : a = b := by
  induction a generalizing b with
  | nil => cases b with
    | nil => rfl
    | cons y b => simp [RL] at h
  | cons x a ih => cases b with
    | nil => simp [RL] at h
    | cons y b =>
      simp only [RL, List.map_cons, List.cons.injEq] at h
      rw [R_inj (T_inj.mp (V.str.inj h.1)), ih h.2]
/-- each behind the one ahead of it, the first one behind last if there is one -/
def Asc : Option (List Bool) → List (List Bool) → Prop
  | _, [] => True
  | l, r :: rs => (∀ x, l = some x → R x < R r) ∧ Asc (some r) rs
instance decAsc : ∀ (l : Option (List Bool)) (rs : List (List Bool)), Decidable (Asc l rs)
  | _, [] => .isTrue trivial
  | none, r :: rs => match decAsc (some r) rs with
    | .isTrue h => .isTrue ⟨(fun _ z => nomatch z), h⟩
    | .isFalse h => .isFalse fun z => h z.2
  | some x, r :: rs => if h : R x < R r then match decAsc (some r) rs with
      | .isTrue h2 => .isTrue ⟨fun y z => by cases z; exact h, h2⟩
      | .isFalse h2 => .isFalse fun z => h2 z.2
    else .isFalse fun z => h (z.1 x rfl)
/-! ### the page -/
def entryRow (last row : List Bool) : List Bool := countRow (com last row) ++ countRow (row.length - com last row) ++ row.drop (com last row)
def pageBody : List Bool → List (List Bool) → List Bool
  | _, [] => []
  | last, r :: rs => entryRow last r ++ pageBody r rs
def pageRow (rs : List (List Bool)) : List Bool := countRow rs.length ++ pageBody [] rs
theorem small_count {n : Nat} (h : n ≤ 1000000) : countOk n := by
  refine ⟨by omega, ?_⟩
  have : (n : Int) ≤ 1000000 := by omega
  omega
theorem small_len {n : Nat} (h : n ≤ 1000000) : (countRow n).length ≤ 40 := by
  have h1 : blen (n + 1) ≤ 20 := blen_le (by omega) (by omega)
  have h2 : blen (blen (n + 1)) ≤ 5 := blen_le (by omega) (blen_pos _)
  unfold countRow
  simp only [List.length_append, List.length_replicate, digs_len]
  split <;> simp <;> omega
theorem entryRow_len {last row : List Bool} (h1 : row.length ≤ 1000000) : (entryRow last row).length ≤ 80 + row.length := by
  unfold entryRow
  have := com_le2 last row
  have a := small_len (n := com last row) (by omega)
  have b := small_len (n := row.length - com last row) (by omega)
  simp only [List.length_append, List.length_drop]
  omega
theorem pageBody_len {m : Nat} (hm : m ≤ 1000000) : ∀ {last : List Bool} {rs : List (List Bool)}, (∀ r ∈ rs, r.length ≤ m) → (pageBody last rs).length ≤ rs.length * (80 + m)
  | _, [], _ => Nat.zero_le _
  | last, r :: rs, h => by
    have hr := h r (List.mem_cons_self ..)
    have a := entryRow_len (last := last) (row := r) (by omega)
    have b := pageBody_len hm (last := r) (rs := rs) fun x hx => h x (List.mem_cons_of_mem _ hx)
    rw [pageBody, List.length_append, List.length_cons, Nat.succ_mul]
    omega
/-! ### the rows of a page -/
/-- a row of a page behind another one, and the place behind it -/
def entryAt (b : List Bool) (t : Nat) (last : List Bool) : Option (List Bool × Nat) := match tcount b false false false t with
  | .bad _ _ => none
  | .ok c t1 => match tcount b false false false t1 with
    | .bad _ _ => none
    | .ok m t2 => if (last.length : Int) < c ∨ (b.length : Int) - (t2 : Int) < m then none else
      if com last (last.take c.toNat ++ (b.drop t2).take m.toNat) ≠ c.toNat then none else some (last.take c.toNat ++ (b.drop t2).take m.toNat, t2 + m.toNat)
/-- k rows more, from the place t on, behind a last one if there is one -/
def rowsGo (b : List Bool) : Nat → Option (List Bool) → Nat → Nat → Option (List (List Bool) × Nat)
  | _, _, 0, t => some ([], t)
  | 0, _, _ + 1, _ => none
  | f + 1, l, k + 1, t => match entryAt b t (l.getD []) with
    | none => none
    | some (row, t') => if ∃ x, l = some x ∧ ¬ R x < R row then none else (rowsGo b f (some row) k t').map fun p => (row :: p.1, p.2)
def rowsOf (b : List Bool) : Option (List (List Bool)) := match tcount b false false false 0 with
  | .bad _ _ => none
  | .ok many t => match rowsGo b (b.length + 1) none many.toNat t with
    | none => none
    | some (rs, t') => if t' < b.length then none else some rs
/-! ### what reading does to the place -/
theorem takeB_le {b : List Bool} {n w c : Bool} {t t' : Nat} (h : takeB b false n w t = .ok c t') : t' = t + 1 ∧ t < b.length := by
  unfold takeB at h
  cases e : b[t]? with
  | none => rw [e] at h; cases h
  | some x =>
    rw [e] at h
    cases h
    exact ⟨rfl, (List.getElem?_eq_some_iff.mp e).1⟩
theorem takeB_bad {b : List Bool} {f n w : Bool} {t : Nat} {c : Str} {p : Int} (h : takeB b f n w t = .bad c p) : c = "Short" ∧ p = b.length := by
  unfold takeB at h
  cases e : b[t]? with
  | none =>
    rw [e] at h
    cases f with
    | true => cases h
    | false => cases h; exact ⟨rfl, rfl⟩
  | some x => rw [e] at h; cases h
theorem tdig_le {b : List Bool} {n : Bool} : ∀ {k : Nat} {x y : Int} {t t' : Nat}, tdig b false n k x t = .ok y t' → t ≤ t' ∧ (t ≤ b.length → t' ≤ b.length)
  | 0, x, y, t, t', h => by cases h; exact ⟨Nat.le_refl _, id⟩
  | k + 1, x, y, t, t', h => by
    unfold tdig at h
    cases e : takeB b false n false t with
    | bad c p => rw [e] at h; cases h
    | ok c t1 =>
      rw [e] at h
      obtain ⟨rfl, h2⟩ := takeB_le e
      have := tdig_le (show tdig b false n k _ _ = _ from h)
      exact ⟨by omega, fun _ => this.2 h2⟩
theorem tdig_bad {b : List Bool} {f n : Bool} {c : Str} {p : Int} : ∀ {k : Nat} {x : Int} {t : Nat}, tdig b f n k x t = .bad c p → c = "Short" ∧ p = b.length
  | 0, x, t, h => by cases h
  | k + 1, x, t, h => by
    unfold tdig at h
    cases e : takeB b f n false t with
    | bad c p => rw [e] at h; cases h; exact takeB_bad e
    | ok c t1 => rw [e] at h; exact tdig_bad (show tdig b f n k _ _ = _ from h)
theorem tones_le {b : List Bool} {n : Bool} : ∀ {k : Nat} {w : Bool} {o o' t t' : Nat}, tones b false n k w o t = .ok o' t' → t ≤ t' ∧ (t ≤ b.length → t' ≤ b.length) ∧ (0 < k → t < t')
  | 0, w, o, o', t, t', h => by cases h; exact ⟨Nat.le_refl _, id, fun z => by omega⟩
  | k + 1, w, o, o', t, t', h => by
    unfold tones at h
    cases e : takeB b false n w t with
    | bad c p => rw [e] at h; cases h
    | ok c t1 =>
      rw [e] at h
      obtain ⟨rfl, h2⟩ := takeB_le e
      cases c with
      | true =>
        have := tones_le (show tones b false n k false (o + 1) _ = _ from h)
        exact ⟨by omega, fun _ => this.2.1 h2, fun _ => by omega⟩
      | false =>
        cases (show Res.ok o (t + 1) = .ok o' t' from h)
        exact ⟨by omega, fun _ => h2, fun _ => by omega⟩
theorem tones_bad {b : List Bool} {f n : Bool} {c : Str} {p : Int} : ∀ {k : Nat} {w : Bool} {o t : Nat}, tones b f n k w o t = .bad c p → c = "Short" ∧ p = b.length
  | 0, w, o, t, h => by cases h
  | k + 1, w, o, t, h => by
    unfold tones at h
    cases e : takeB b f n w t with
    | bad c p => rw [e] at h; cases h; exact takeB_bad e
    | ok d t1 =>
      rw [e] at h
      cases d with
      | true => exact tones_bad (show tones b f n k false (o + 1) t1 = _ from h)
      | false => cases h
theorem tcount_ok {b : List Bool} {n w : Bool} {t t' : Nat} {x : Int} (h : tcount b false n w t = .ok x t') : 0 ≤ x ∧ t < t' ∧ (t ≤ b.length → t' ≤ b.length) := by
  unfold tcount at h
  cases e1 : tones b false n 7 w 0 t with
  | bad c p => rw [e1] at h; cases h
  | ok o t1 =>
    rw [e1] at h
    replace h : ((tdig b false n o 1 t1).bind fun s t2 => (tdig b false n (s - 1).toNat 1 t2).bind fun x t3 => .ok (x - 1) t3) = .ok x t' := h
    cases e2 : tdig b false n o 1 t1 with
    | bad c p => rw [e2] at h; cases h
    | ok s t2 =>
      rw [e2] at h
      replace h : ((tdig b false n (s - 1).toNat 1 t2).bind fun x t3 => .ok (x - 1) t3) = .ok x t' := h
      cases e3 : tdig b false n (s - 1).toNat 1 t2 with
      | bad c p => rw [e3] at h; cases h
      | ok y t3 =>
        rw [e3] at h
        cases h
        have l1 := tones_le e1
        have l2 := tdig_le e2
        have l3 := tdig_le e3
        have r3 := tdig_rng e3
        have hp : (0 : Int) < 2 ^ (s - 1).toNat := Int.pow_pos (by decide)
        exact ⟨by omega, by have := l1.2.2 (by decide); omega, fun z => l3.2 (l2.2 (l1.2.1 z))⟩
theorem tcount_bad {b : List Bool} {f n w : Bool} {t : Nat} {c : Str} {p : Int} (h : tcount b f n w t = .bad c p) : c = "Short" ∧ p = b.length := by
  unfold tcount at h
  cases e1 : tones b f n 7 w 0 t with
  | bad c p => rw [e1] at h; cases h; exact tones_bad e1
  | ok o t1 =>
    rw [e1] at h
    replace h : ((tdig b f n o 1 t1).bind fun s t2 => (tdig b f n (s - 1).toNat 1 t2).bind fun x t3 => .ok (x - 1) t3) = .bad c p := h
    cases e2 : tdig b f n o 1 t1 with
    | bad c p => rw [e2] at h; cases h; exact tdig_bad e2
    | ok s t2 =>
      rw [e2] at h
      replace h : ((tdig b f n (s - 1).toNat 1 t2).bind fun x t3 => .ok (x - 1) t3) = .bad c p := h
      cases e3 : tdig b f n (s - 1).toNat 1 t2 with
      | bad c p => rw [e3] at h; cases h; exact tdig_bad e3
      | ok y t3 => rw [e3] at h; cases h
theorem entryAt_le {b last row : List Bool} {t t' : Nat} (h : entryAt b t last = some (row, t')) (ht : t ≤ b.length) : t + 2 ≤ t' ∧ t' ≤ b.length ∧ row.length + t ≤ last.length + t' := by
  unfold entryAt at h
  cases e1 : tcount b false false false t with
  | bad c p => rw [e1] at h; cases h
  | ok c t1 =>
    rw [e1] at h
    dsimp only at h
    cases e2 : tcount b false false false t1 with
    | bad c p => rw [e2] at h; cases h
    | ok m t2 =>
      rw [e2] at h
      dsimp only at h
      split at h
      · cases h
      · rename_i hn
        split at h
        · cases h
        · cases h
          obtain ⟨a1, a2, a3⟩ := tcount_ok e1
          obtain ⟨b1, b2, b3⟩ := tcount_ok e2
          have := b3 (a3 ht)
          refine ⟨by omega, by omega, ?_⟩
          rw [List.length_append, List.length_take, List.length_take, List.length_drop]
          omega
/-! ### a page read -/
theorem entryAt_at {b last row post : List Bool} {t : Nat} (hr : row.length ≤ 1000000) (h : b.drop t = entryRow last row ++ post) : entryAt b t last = some (row, t + (entryRow last row).length) ∧ b.drop (t + (entryRow last row).length) = post := by
  unfold entryRow at h ⊢
  have c1 := com_le last row
  have c2 := com_le2 last row
  rw [List.append_assoc, List.append_assoc] at h
  obtain ⟨h1, h2⟩ := tcount_at (f := false) (n := false) (w := false) (m := com last row) (small_count (by omega)) (by rw [nz_false]; exact h)
  obtain ⟨h3, h4⟩ := tcount_at (f := false) (n := false) (w := false) (m := row.length - com last row) (small_count (by omega)) (by rw [nz_false]; exact h2)
  have hlen : b.length - (t + (countRow (com last row)).length + (countRow (row.length - com last row)).length) = (row.length - com last row) + post.length := by
    have := congrArg List.length h4
    rw [List.length_drop, List.length_append, List.length_drop] at this
    exact this
  have htk : (b.drop (t + (countRow (com last row)).length + (countRow (row.length - com last row)).length)).take (row.length - com last row) = row.drop (com last row) := by
    rw [h4, List.take_append_of_le_length (by rw [List.length_drop]; omega), List.take_of_length_le (by rw [List.length_drop]; omega)]
  have hrow : last.take (com last row) ++ row.drop (com last row) = row := by
    rw [com_take, List.take_append_drop]
  refine ⟨?_, ?_⟩
  · unfold entryAt
    rw [h1]
    dsimp only
    rw [h3]
    dsimp only
    rw [Int.toNat_natCast, Int.toNat_natCast, htk, hrow]
    rw [if_neg (by
      rintro (z | z)
      · omega
      · by_cases hz : row.length - com last row = 0
        · by_cases hb : t + (countRow (com last row)).length + (countRow (row.length - com last row)).length ≤ b.length
          · omega
          · have hd : b.drop (t + (countRow (com last row)).length) = [] ∨ t + (countRow (com last row)).length < b.length := by
              by_cases q : t + (countRow (com last row)).length < b.length
              · exact .inr q
              · exact .inl (List.drop_eq_nil_of_le (by omega))
            have := (tcount_ok h3).2.2
            rcases hd with hd | hd
            · rw [hd] at h2
              have := congrArg List.length h2
              rw [List.length_append] at this
              have hp : 0 < (countRow (row.length - com last row)).length := by
                have := (tcount_ok h3).2.1
                omega
              simp at this
              omega
            · have := this (by omega)
              omega
        · omega), if_neg (by simp)]
    congr 2
    rw [List.length_append, List.length_append, List.length_drop]
    omega
  · rw [List.length_append, List.length_append, List.length_drop]
    have : row.length - com last row = (row.drop (com last row)).length := by rw [List.length_drop]
    rw [show t + ((countRow (com last row)).length + (countRow (row.length - com last row)).length + (row.length - com last row)) = (t + (countRow (com last row)).length + (countRow (row.length - com last row)).length) + (row.length - com last row) by omega, ← List.drop_drop, h4, this, List.drop_left]
theorem rowsGo_at {b post : List Bool} : ∀ {rs : List (List Bool)} {l : Option (List Bool)} {f t : Nat}, rs.length ≤ f → (∀ r ∈ rs, r.length ≤ 1000000) → Asc l rs → b.drop t = pageBody (l.getD []) rs ++ post →
    rowsGo b f l rs.length t = some (rs, t + (pageBody (l.getD []) rs).length) ∧ b.drop (t + (pageBody (l.getD []) rs).length) = post
  | [], l, f, t, _, _, _, h => by
    refine ⟨?_, h⟩
    cases f <;> rfl
  | r :: rs, l, 0, t, hf, _, _, _ => by simp at hf
  | r :: rs, l, f + 1, t, hf, hl, ha, h => by
    rw [pageBody, List.append_assoc] at h
    obtain ⟨h1, h2⟩ := entryAt_at (hl r (List.mem_cons_self ..)) h
    obtain ⟨h3, h4⟩ := rowsGo_at (l := some r) (f := f) (by simpa using hf) (fun x hx => hl x (List.mem_cons_of_mem _ hx)) ha.2 h2
    rw [pageBody, List.length_append]
    refine ⟨?_, by rw [← Nat.add_assoc]; exact h4⟩
    rw [List.length_cons, rowsGo, h1]
    dsimp only
    rw [if_neg (by rintro ⟨x, hx, hn⟩; exact hn (ha.1 x hx)), h3]
    show some _ = some _
    congr 2
    rw [Nat.add_assoc]
    rfl
theorem rowsOf_page {rs : List (List Bool)} (hl : ∀ r ∈ rs, r.length ≤ 1000000) (hn : rs.length ≤ 1000000) (ha : Asc none rs) : rowsOf (pageRow rs) = some rs := by
  obtain ⟨h1, h2⟩ := tcount_at (b := pageRow rs) (post := pageBody [] rs) (f := false) (n := false) (w := false) (m := rs.length) (t := 0) (small_count hn) (by rw [nz_false]; rfl)
  have hf : rs.length ≤ (pageRow rs).length + 1 := by
    have : rs.length ≤ (pageBody [] rs).length := by
      clear h1 h2 ha hl hn
      generalize ([] : List Bool) = last
      induction rs generalizing last with
      | nil => exact Nat.zero_le _
      | cons r rs ih =>
        have := ih r
        rw [pageBody, List.length_append, List.length_cons]
        have hp : 0 < (entryRow last r).length := by
          unfold entryRow
          rw [List.length_append, List.length_append]
          have : 0 < (countRow (com last r)).length + (countRow (r.length - com last r)).length + (r.drop (com last r)).length := by
            by_cases hz : com last r = 0
            · rw [hz]
              have : (countRow 0).length = 1 := by decide
              omega
            · have : 0 < (countRow (com last r)).length := by
                unfold countRow
                have : 2 ≤ blen (com last r + 1) := blen_gt (k := 1) (by omega)
                simp only [List.length_append, List.length_replicate, digs_len]
                omega
              omega
          exact this
        omega
    unfold pageRow
    rw [List.length_append]
    omega
  obtain ⟨h3, h4⟩ := rowsGo_at (b := pageRow rs) (post := []) (rs := rs) (l := none) (f := (pageRow rs).length + 1) (t := 0 + (countRow rs.length).length) hf hl ha (by rw [h2, List.append_nil]; rfl)
  unfold rowsOf
  rw [h1]
  dsimp only
  rw [Int.toNat_natCast, h3]
  dsimp only
  rw [if_neg]
  have := congrArg List.length h4
  rw [List.length_drop] at this
  simp only [Option.getD_none, List.length_nil] at this ⊢
  omega
/-! ### lists of rows compared -/
theorem RL_plain (a : List (List Bool)) : (RL a).all plainV = true := by
  unfold RL
  rw [List.all_map, List.all_eq_true]
  intro r _
  show (T (R r)).cps.all (· < 0x110000) = true
  rw [Array.all_eq_true']
  intro c hc
  have : c ∈ R r := by simpa [T] using hc
  obtain ⟨x, _, rfl⟩ := List.mem_map.mp this
  cases x <;> decide
theorem eqvAll_RL : ∀ (a b : List (List Bool)), PyData.eqvAll ((RL a).map toD) ((RL b).map toD) = decide (a = b)
  | [], [] => by simp [RL, PyData.eqvAll]
  | [], y :: b => by simp [RL, PyData.eqvAll]
  | x :: a, [] => by simp [RL, PyData.eqvAll]
  | x :: a, y :: b => by
    show (PyData.eqv (.str (T (R x))) (.str (T (R y))) && PyData.eqvAll ((RL a).map toD) ((RL b).map toD)) = _
    rw [eqvAll_RL a b, PyData.eqv]
    by_cases h : x = y
    · subst h
      by_cases h2 : a = b
      · subst h2; simp
      · simp [h2]
    · have : (T (R x) == T (R y)) = false := by
        rw [beq_eq_false_iff_ne]
        exact fun z => h (R_inj (T_inj.mp z))
      rw [this]
      simp [h]
theorem eqv_RL (a b : List (List Bool)) : PyData.eqv (.list ((RL a).map toD)) (.list ((RL b).map toD)) = decide (a = b) := by
  rw [PyData.eqv]
  exact eqvAll_RL a b
section
variable {K : PySem.W.Frag} {σ : L2.St} {H : Hp} {ta tb : TE}
theorem ev_neRL {p q : Addr} {a b : List (List Bool)} (ha : Ev ta σ H (.ref p)) (hp : SqL K H p (RL a)) (hb : Ev tb σ H (.ref q)) (hq : SqL K H q (RL b)) : Ev (tOp (rNeD K) ta tb) σ H (.bl (!decide (a = b))) := fun H1 e Q k =>
  ha H1 e _ fun H2 e2 => hb H2 (e.trans e2) _ fun H3 e3 => ⟨.list ((RL a).map toD), .list ((RL b).map toD), .lst (ex_l ((e.trans e2).trans e3) hp) (dpAll_plain (RL_plain a)), .lst (ex_l ((e.trans e2).trans e3) hq) (dpAll_plain (RL_plain b)), shaped_list (RL_plain a), shaped_list (RL_plain b), by
    rw [eqv_RL]
    exact k H3 (e2.trans e3)⟩
theorem ev_neE {p : Addr} {a : List (List Bool)} (ha : Ev ta σ H (.ref p)) (hp : SqL K H p (RL a)) : Ev (tOp (rNeD K) ta (tLst tNil)) σ H (.bl (!decide (a = []))) := fun H1 e Q k =>
  ha H1 e _ fun H2 e2 => (el_lst ea_nil (by simp) : EvL (tLst tNil) σ H2 []) H2 (Ex.refl H2) _ fun r H3 _ e3 hr => ⟨.list ((RL a).map toD), .list ((RL []).map toD), .lst (ex_l ((e.trans e2).trans e3) hp) (dpAll_plain (RL_plain a)), .lst (sq_of hr) (dpAll_plain (RL_plain [])), shaped_list (RL_plain a), shaped_list (RL_plain []), by
    rw [eqv_RL]
    exact k H3 (e2.trans e3)⟩
end
/-- a row put in at its place -/
theorem asc_ins {row : List Bool} {B : List (List Bool)} : ∀ {A : List (List Bool)} {l : Option (List Bool)}, Asc l (A ++ B) → (∀ x ∈ A, R x < R row) → (∀ x, l = some x → R x < R row) → (∀ y ys, B = y :: ys → R row < R y) → Asc l (A ++ [row] ++ B)
  | [], l, h, _, hl, hB => by
    refine ⟨hl, ?_⟩
    cases B with
    | nil => trivial
    | cons y ys => exact ⟨fun x hx => by cases hx; exact hB y ys rfl, h.2⟩
  | a :: A, l, h, hA, hl, hB => ⟨h.1, asc_ins h.2 (fun x hx => hA x (List.mem_cons_of_mem _ hx)) (fun x hx => by cases hx; exact hA a (List.mem_cons_self ..)) hB⟩
/-- each row stands ahead of all behind it -/
theorem asc_lt : ∀ {rs : List (List Bool)} {l : Option (List Bool)} {i j : Nat} (hi : i < j) (hj : j < rs.length), Asc l rs → R rs[i] < R rs[j]
  | r :: rs, l, 0, 1, _, hj, h => by
    cases rs with
    | nil => simp at hj
    | cons y ys => exact h.2.1 r rfl
  | r :: rs, l, 0, j + 2, _, hj, h => by
    cases rs with
    | nil => simp at hj
    | cons y ys =>
      have h1 : R r < R y := h.2.1 r rfl
      have h2 := asc_lt (rs := y :: ys) (i := 0) (j := j + 1) (by omega) (by simpa using hj) h.2
      exact List.lt_trans h1 h2
  | r :: rs, l, i + 1, j + 1, hi, hj, h => asc_lt (rs := rs) (i := i) (j := j) (by omega) (by simpa using hj) h.2
theorem asc_none {rs : List (List Bool)} {l : Option (List Bool)} (h : Asc l rs) : Asc none rs := by
  cases rs with
  | nil => trivial
  | cons r rs => exact ⟨(fun x z => nomatch z), h.2⟩
/-- xs[i] = value, the value made already -/
theorem g_setL {σ : L2.St} {H : Hp} {ta tb : TE} {l : Addr} {xs : List V} {j : Nat} {v : V} {Q : L2.St → Hp → Prop} (hl : H l = some (.lst xs)) (ho : Ev ta σ H (.ref l)) (hi : Ev tb σ H (.int (j : Int))) (hj : j < xs.length) (k : ∀ H1, Ex H H1 → Q σ (upd H1 l (.lst (xs.set j v)))) : gSub ta tb rSetL v σ H Q :=
  ho H (Ex.refl H) _ fun H2 e2 => hi H2 e2 _ fun H3 e3 => ⟨l, xs, (j : Int), j, rfl, rfl, (e2.trans e3) _ _ hl, ixN_nat hj, k H3 (e2.trans e3)⟩
theorem twice_not {x : List Bool} {B : List (List Bool)} : ∀ {A : List (List Bool)} {l : Option (List Bool)}, ¬ Asc l (A ++ [x] ++ x :: B)
  | [], l, h => List.lt_irrefl _ (h.2.1 x rfl)
  | a :: A, l, h => twice_not h.2
theorem RL_ins (rs : List (List Bool)) (i : Nat) (r : List Bool) : (RL rs).take i ++ [V.str (T (R r))] ++ (RL rs).drop i = RL (rs.take i ++ [r] ++ rs.drop i) := by
  unfold RL
  rw [List.map_append, List.map_append, List.map_take, List.map_drop]
  rfl
end Kr
/-! rows picked, asked for, put in their order; pages with more behind -/
namespace Kr
open PySem PySem.Spec PyProof.Rows L2 Evl
/-- the rows ahead of one -/
def before (rs : List (List Bool)) (row : List Bool) : List (List Bool) := rs.filter fun r => decide (R r < R row)
theorem range_filter {α β : Type} (xs : List α) (d : α) (p : α → Bool) (g : α → β) : ((List.range xs.length).filter fun i => p (xs.getD i d)).map (fun i => g (xs.getD i d)) = (xs.filter p).map g := by
  have e : (List.range xs.length).map (fun i => xs.getD i d) = xs := by
    apply List.ext_getElem?
    intro i
    rw [List.getElem?_map]
    by_cases h : i < xs.length
    · rw [List.getElem?_range h]
      simp [List.getD, List.getElem?_eq_getElem h]
    · rw [List.getElem?_eq_none (by simpa using h), List.getElem?_eq_none (by simpa using h)]
      rfl
  conv => rhs; rw [← e]
  rw [List.filter_map, List.map_map]
  rfl
section
variable {K : PySem.W.Frag} {σ : L2.St} {H : Hp} {tl ta tb : TE} {t : TT}
/-- [one for one in rows if ..] -/
theorem el_filt {a : Addr} {rs : List (List Bool)} {j : Nat} {vs : List Nat} (p : List Bool → Bool) (h : Ev tl σ H (.ref a)) (hx : SqL K H a (RL rs)) (hz : rs.length ≤ 40000) (hw : ∀ x, wipe ((wipe σ vs).set j (some x)) vs = wipe σ vs) (hj : ∀ x : V, ((wipe σ vs).set j (some x))[j]? = some (some x))
    (ht : ∀ r ∈ rs, ∀ H1, Ex H H1 → EvT t ((wipe σ vs).set j (some (.str (T (R r))))) H1 (p r)) : EvL (tLc (iList K tl) (gName j) t (tVar j) vs) σ H (RL (rs.filter p)) := by
  have key : given (RL rs).length (fun i => p (rs.getD i [])) (fun i => V.str (T (R (rs.getD i [])))) = RL (rs.filter p) := by
    unfold given
    rw [RL_len]
    exact range_filter rs [] p fun r => V.str (T (R r))
  rw [← key]
  have at_ : ∀ {i : Nat} {x : V}, (RL rs)[i]? = some x → ∃ h : i < rs.length, x = .str (T (R rs[i])) ∧ rs.getD i [] = rs[i] := fun {i x} hi => by
    have h := (List.getElem?_eq_some_iff.mp hi).1
    rw [RL_len] at h
    rw [RL_at h] at hi
    exact ⟨h, (Option.some.inj hi).symm, by simp [List.getD, h]⟩
  refine el_lcL _ _ h hx (by rw [RL_len]; exact hz) hw (fun i x H1 e hi => ?_) (fun i x H1 e hi _ => ?_)
  · obtain ⟨hl, rfl, e2⟩ := at_ hi
    rw [e2]
    exact ht _ (List.getElem_mem hl) H1 e
  · obtain ⟨hl, rfl, e2⟩ := at_ hi
    rw [e2]
    exact ev_var (hj _)
theorem inV_RL (row : List Bool) : ∀ rs : List (List Bool), inV (.str (T (R row))) (RL rs) = decide (row ∈ rs)
  | [] => by simp [inV, RL]
  | r :: rs => by
    have ih := inV_RL row rs
    show (eqV (.str (T (R r))) (.str (T (R row))) || inV (.str (T (R row))) (RL rs)) = _
    rw [ih]
    show ((T (R r) == T (R row)) || _) = _
    by_cases h : r = row
    · subst h; simp
    · have : (T (R r) == T (R row)) = false := by
        rw [beq_eq_false_iff_ne]
        exact fun z => h (R_inj (T_inj.mp z))
      rw [this, Bool.false_or]
      by_cases h2 : row ∈ rs
      · simp [h2]
      · simp [h2, Ne.symm h]
theorem RL_flat (rs : List (List Bool)) : (RL rs).all flatV = true := by
  unfold RL
  rw [List.all_map, List.all_eq_true]
  intro r _
  rfl
theorem ev_inRL {a : Addr} {rs : List (List Bool)} {row : List Bool} (ha : Ev ta σ H (.str (T (R row)))) (hb : Ev tb σ H (.ref a)) (hx : SqL K H a (RL rs)) : Ev (tOp (rIn K false) ta tb) σ H (.bl (decide (row ∈ rs))) := by
  rw [← inV_RL]
  exact ev_op ha hb (rv_isL hx rfl (RL_flat rs))
theorem ev_niRL {a : Addr} {rs : List (List Bool)} {row : List Bool} (ha : Ev ta σ H (.str (T (R row)))) (hb : Ev tb σ H (.ref a)) (hx : SqL K H a (RL rs)) : Ev (tOp (rIn K true) ta tb) σ H (.bl (!decide (row ∈ rs))) := by
  rw [← inV_RL]
  exact ev_op ha hb (rv_niL hx rfl (RL_flat rs))
/-- a tuple compared with a new one, alike -/
theorem ev_eqU {p : Addr} {xs : List V} (ha : Ev ta σ H (.ref p)) (hp : H p = some (.tup xs)) (hb : EvU tb σ H xs) (h : xs.all plainV = true) : Ev (tOp (rEqD K) ta tb) σ H (.bl true) := fun H1 e Q q =>
  ha H1 e _ fun H2 e2 => hb H2 (e.trans e2) _ fun r H3 _ e3 hr => ⟨.tuple (xs.map toD), .tuple (xs.map toD), .tup (st_of (((e.trans e2).trans e3) _ _ hp)) (dpAll_plain h), .tup (st_of hr) (dpAll_plain h), shaped_tup h, shaped_tup h, by
    rw [eqv_same (shaped_tup h)]
    exact q H3 (e2.trans e3)⟩
theorem s_dropX2W {sp : Sp} {E : L2.St → XK} {D : Ends} {x : V} {P : V → Prop} (ha : Ev ta σ H x) (hb : EvW tb σ H P) (k : ∀ y H1, P y → Ex H H1 → sp [x, y] H1 (fun _ H2 => D.nx σ H2) (E σ)) : tDrop (tCallS sp E (tCons ta (tCons tb tNil))) D σ H :=
  ha H (Ex.refl H) _ fun H1 e1 => hb H1 e1 _ fun y H2 hy e2 => k y H2 hy (e1.trans e2)
end
/-! ### a page with more behind -/
theorem page_long {rs : List (List Bool)} {post : List Bool} : rs.length ≤ (pageRow rs ++ post).length + 1 := by
  have key : ∀ (rs : List (List Bool)) (last : List Bool), rs.length ≤ (pageBody last rs).length := by
    intro rs
    induction rs with
    | nil => exact fun _ => Nat.zero_le _
    | cons r rs ih =>
      intro last
      have := ih r
      rw [pageBody, List.length_append, List.length_cons]
      have hp : 0 < (entryRow last r).length := by
        unfold entryRow
        rw [List.length_append, List.length_append]
        by_cases hz : com last r = 0
        · rw [hz]
          have : (countRow 0).length = 1 := by decide
          omega
        · have : 0 < (countRow (com last r)).length := by
            unfold countRow
            have : 2 ≤ blen (com last r + 1) := blen_gt (k := 1) (by omega)
            simp only [List.length_append, List.length_replicate, digs_len]
            omega
          omega
      omega
  have := key rs []
  unfold pageRow
  rw [List.length_append, List.length_append]
  omega
theorem rowsOf_more {rs : List (List Bool)} {post : List Bool} (hl : ∀ r ∈ rs, r.length ≤ 1000000) (hn : rs.length ≤ 1000000) (ha : Asc none rs) (hp : post ≠ []) : rowsOf (pageRow rs ++ post) = none := by
  obtain ⟨h1, h2⟩ := tcount_at (b := pageRow rs ++ post) (post := pageBody [] rs ++ post) (f := false) (n := false) (w := false) (m := rs.length) (t := 0) (small_count hn) (by rw [nz_false]; unfold pageRow; rw [List.append_assoc]; rfl)
  obtain ⟨h3, h4⟩ := rowsGo_at (b := pageRow rs ++ post) (post := post) (rs := rs) (l := none) (f := (pageRow rs ++ post).length + 1) (t := 0 + (countRow rs.length).length) page_long hl ha (by rw [h2]; rfl)
  unfold rowsOf
  rw [h1]
  dsimp only
  rw [Int.toNat_natCast, h3]
  dsimp only
  rw [if_pos]
  have := congrArg List.length h4
  have hpp := List.length_pos_iff.mpr hp
  rw [List.length_drop] at this
  simp only [Option.getD_none] at this ⊢
  omega
theorem page_small {m : Nat} {rs : List (List Bool)} (hn : rs.length ≤ 100) (hl : ∀ r ∈ rs, r.length ≤ 100) : (pageRow rs).length ≤ 20000 := by
  have h1 := pageBody_len (m := 100) (by decide) (last := []) hl
  have h2 := small_len (n := rs.length) (by omega)
  have h3 : rs.length * (80 + 100) ≤ 100 * 180 := Nat.mul_le_mul_right _ hn
  unfold pageRow
  rw [List.length_append]
  omega
end Kr
/-! rows sorted; what refuses whatever comes behind -/
namespace Kr
open PySem PySem.Spec PyProof.Rows L2 Evl
def leR (a b : List Bool) : Bool := !decide (R b < R a)
theorem leR_trans (a b c : List Bool) (h1 : leR a b = true) (h2 : leR b c = true) : leR a c = true := by
  unfold leR at *
  rw [Bool.not_eq_true', decide_eq_false_iff_not] at *
  have h1 : R a ≤ R b := h1
  have h2 : R b ≤ R c := h2
  exact List.le_trans h1 h2
theorem leR_total (a b : List Bool) : (leR a b || leR b a) = true := by
  unfold leR
  by_cases h : R b < R a
  · rw [decide_eq_true h, decide_eq_false (List.lt_asymm h)]
    rfl
  · rw [decide_eq_false h]
    rfl
theorem leR_anti {a b : List Bool} (h1 : leR a b = true) (h2 : leR b a = true) : a = b := by
  unfold leR at *
  rw [Bool.not_eq_true', decide_eq_false_iff_not] at *
  by_cases h : R a = R b
  · exact R_inj h
  · exact absurd (R_lt_or a b h2 h) h1
/-- the rows in their order -/
def sortR (l : List (List Bool)) : List (List Bool) := l.mergeSort leR
theorem sortR_perm (l : List (List Bool)) : (sortR l).Perm l := List.mergeSort_perm l leR
theorem sortR_pair (l : List (List Bool)) : (sortR l).Pairwise fun a b => leR a b = true := List.pairwise_mergeSort leR_trans leR_total l
theorem sorted_eq {l m : List (List Bool)} (hl : l.Pairwise fun a b => leR a b = true) (hm : m.Pairwise fun a b => leR a b = true) (h : l.Perm m) : l = m :=
  List.Perm.eq_of_pairwise (fun a b _ _ h1 h2 => leR_anti h1 h2) hl hm h
theorem asc_pair : ∀ {l : Option (List Bool)} {rs : List (List Bool)}, Asc l rs → rs.Pairwise fun a b => R a < R b
  | _, [], _ => .nil
  | l, r :: rs, h => by
    refine .cons (fun x hx => ?_) (asc_pair h.2)
    obtain ⟨i, hi, rfl⟩ := List.mem_iff_getElem.mp hx
    exact asc_lt (rs := r :: rs) (i := 0) (j := i + 1) (by omega) (by simpa using hi) h
theorem pair_asc : ∀ {rs : List (List Bool)} {l : Option (List Bool)}, rs.Pairwise (fun a b => R a < R b) → (∀ x, l = some x → ∀ y ∈ rs, R x < R y) → Asc l rs
  | [], l, _, _ => trivial
  | r :: rs, l, h, hl => by
    rw [List.pairwise_cons] at h
    exact ⟨fun x hx => hl x hx r (List.mem_cons_self ..), pair_asc h.2 fun x hx y hy => by cases hx; exact h.1 y hy⟩
theorem asc_iff {rs : List (List Bool)} : Asc none rs ↔ rs.Pairwise fun a b => R a < R b := ⟨asc_pair, fun h => pair_asc h fun x hx => nomatch hx⟩
theorem lt_le {a b : List Bool} (h : R a < R b) : leR a b = true := by
  unfold leR
  rw [decide_eq_false (List.lt_asymm h)]
  rfl
theorem asc_nodup {rs : List (List Bool)} (h : Asc none rs) : rs.Nodup := by
  unfold List.Nodup
  refine (asc_pair h).imp fun {a b} hab => fun z => ?_
  rw [z] at hab
  exact List.lt_irrefl _ hab
theorem asc_sort {l : List (List Bool)} (h : l.Nodup) : Asc none (sortR l) := by
  rw [asc_iff]
  have h2 : (sortR l).Nodup := (sortR_perm l).nodup_iff.mpr h
  have h3 := (sortR_pair l).and h2
  refine h3.imp fun {a b} ⟨h4, h5⟩ => ?_
  unfold leR at h4
  rw [Bool.not_eq_true', decide_eq_false_iff_not] at h4
  exact R_lt_or b a h4 fun z => h5 (R_inj z).symm
theorem sort_asc {l : List (List Bool)} (h : Asc none l) : sortR l = l := sorted_eq (sortR_pair l) ((asc_pair h).imp lt_le) (sortR_perm l)
/-- rows that ascend are told by which they are -/
theorem asc_ext {l m : List (List Bool)} (hl : Asc none l) (hm : Asc none m) (h : ∀ r, r ∈ l ↔ r ∈ m) : l = m :=
  sorted_eq ((asc_pair hl).imp lt_le) ((asc_pair hm).imp lt_le) ((List.perm_ext_iff_of_nodup (asc_nodup hl) (asc_nodup hm)).mpr h)
theorem asc_filter {l : List (List Bool)} (h : Asc none l) (p : List Bool → Bool) : Asc none (l.filter p) := asc_iff.mpr ((asc_pair h).filter p)
theorem mem_sortR {l : List (List Bool)} {r : List Bool} : r ∈ sortR l ↔ r ∈ l := (sortR_perm l).mem_iff
theorem len_sortR (l : List (List Bool)) : (sortR l).length = l.length := (sortR_perm l).length_eq
/-! ### sorted() -/
def TRw (r : List Bool) : Str := T (R r)
theorem RL_TRw (l : List (List Bool)) : RL l = (l.map TRw).map V.str := by
  unfold RL
  rw [List.map_map]
  rfl
theorem risingS_pair : ∀ {p : Str} {l : List Str}, risingS p l = true → (p :: l).Pairwise fun a b => ¬ b.cps.toList < a.cps.toList
  | p, [], _ => .cons (fun _ h => (by cases h)) .nil
  | p, x :: r, h => by
    have h0 : (!ltCps x.cps.toList p.cps.toList && risingS x r) = true := h
    rw [Bool.and_eq_true, Bool.not_eq_true', ltCps_eq, decide_eq_false_iff_not] at h0
    have ih := risingS_pair h0.2
    refine .cons (fun y hy => ?_) ih
    rcases List.mem_cons.mp hy with rfl | hy
    · exact h0.1
    · have h1 : p.cps.toList ≤ x.cps.toList := h0.1
      have h2 : x.cps.toList ≤ y.cps.toList := (List.pairwise_cons.mp ih).1 y hy
      exact List.le_trans h1 h2
theorem sortedS_pair {l : List Str} (h : sortedS l = true) : l.Pairwise fun a b => ¬ b.cps.toList < a.cps.toList := by
  cases l with
  | nil => exact .nil
  | cons x r => exact risingS_pair h
theorem sorted_TRw {ys : List Str} {l : List (List Bool)} (hp : ys.Perm (l.map TRw)) (hs : sortedS ys = true) : ys = (sortR l).map TRw := by
  have h1 : ys.Perm ((sortR l).map TRw) := hp.trans ((sortR_perm l).map TRw).symm
  refine List.Perm.eq_of_pairwise (le := fun a b => ¬ b.cps.toList < a.cps.toList) (fun a b ha hb h1 h2 => ?_) (sortedS_pair hs) ?_ h1
  · obtain ⟨x, _, rfl⟩ := List.mem_map.mp (hp.mem_iff.mp ha)
    obtain ⟨y, _, rfl⟩ := List.mem_map.mp hb
    have h1 : ¬ R y < R x := h1
    have h2 : ¬ R x < R y := h2
    by_cases h : R x = R y
    · unfold TRw; rw [h]
    · exact absurd (R_lt_or x y h2 h) h1
  · rw [List.pairwise_map]
    refine (sortR_pair l).imp fun {a b} h => ?_
    unfold leR at h
    rw [Bool.not_eq_true', decide_eq_false_iff_not] at h
    exact h
section
variable {K : PySem.W.Frag} {σ : L2.St} {H : Hp} {te ta tb tl : TE} {x : V} {D : Ends}
theorem el_sorted {l : List (List Bool)} (h : EvL te σ H (RL l)) (hn : l.length < 64) : EvL (tCB (rSortedS K) (tCons te tNil)) σ H (RL (sortR l)) := fun H1 e Q q =>
  h H1 e _ fun p H2 hp e2 h2 => ⟨p, l.map TRw, rfl, by rw [← RL_TRw]; exact sq_of h2, by rw [List.length_map]; exact hn, fun ys r hperm hs hr => by
    rw [sorted_TRw hperm hs, ← RL_TRw]
    exact q r _ (fresh_back e2 hr) (e2.trans (Ex.new hr)) upd_same⟩
theorem el_catRL {p : Addr} {a b : List (List Bool)} (ha : Ev ta σ H (.ref p)) (hp : H p = some (.lst (RL a))) (hb : EvL tb σ H (RL b)) (hz : a.length + b.length ≤ 100000) : EvL (tOp rCat ta tb) σ H (RL (a ++ b)) := by
  rw [RL_app]
  exact el_cat ha hp hb (by rw [RL_len, RL_len]; exact hz)
theorem el_one {row : List Bool} (h : Ev te σ H (.str (T (R row)))) : EvL (tLst (tCons te tNil)) σ H (RL [row]) := el_lst (ea_cons h ea_nil) (by rw [RL_len]; simp)
/-- [one for one in rows if ..], over a new list -/
theorem el_filtN {rs : List (List Bool)} {t : TT} {j : Nat} {vs : List Nat} (p : List Bool → Bool) (h : EvL tl σ H (RL rs)) (hz : rs.length ≤ 40000) (hw : ∀ x, wipe ((wipe σ vs).set j (some x)) vs = wipe σ vs) (hj : ∀ x : V, ((wipe σ vs).set j (some x))[j]? = some (some x))
    (ht : ∀ r ∈ rs, ∀ H1, Ex H H1 → EvT t ((wipe σ vs).set j (some (.str (T (R r))))) H1 (p r)) : EvL (tLc (iList K tl) (gName j) t (tVar j) vs) σ H (RL (rs.filter p)) := by
  have key : given (RL rs).length (fun i => p (rs.getD i [])) (fun i => V.str (T (R (rs.getD i [])))) = RL (rs.filter p) := by
    unfold given
    rw [RL_len]
    exact range_filter rs [] p fun r => V.str (T (R r))
  rw [← key]
  have at_ : ∀ {i : Nat} {x : V}, (RL rs)[i]? = some x → ∃ h : i < rs.length, x = .str (T (R rs[i])) ∧ rs.getD i [] = rs[i] := fun {i x} hi => by
    have h := (List.getElem?_eq_some_iff.mp hi).1
    rw [RL_len] at h
    rw [RL_at h] at hi
    exact ⟨h, (Option.some.inj hi).symm, by simp [List.getD, h]⟩
  refine el_lcNL _ _ h (by rw [RL_len]; exact hz) hw (fun i x H1 e hi => ?_) (fun i x H1 e hi _ => ?_)
  · obtain ⟨hl, rfl, e2⟩ := at_ hi
    rw [e2]
    exact ht _ (List.getElem_mem hl) H1 e
  · obtain ⟨hl, rfl, e2⟩ := at_ hi
    rw [e2]
    exact ev_var (hj _)
/-! ### what never comes back -/
def Rz (te : TE) (σ : L2.St) (H : Hp) : Prop := ∀ H1, Ex H H1 → ∀ Q : VK, te σ H1 Q
def RzA (ta : TA) (σ : L2.St) (H : Hp) : Prop := ∀ H1, Ex H H1 → ∀ Q : List V → Hp → Prop, ta σ H1 Q
theorem rz_call {sp : Sp} {E : XK} {t : TA} {vs : List V} (h : EvA t σ H vs) (k : ∀ H1, Ex H H1 → ∀ Q : VK, sp vs H1 Q E) : Rz (tCall sp [] E t) σ H := fun H1 e Q => h H1 e _ fun H2 e2 => by
  rw [List.append_nil]
  exact k H2 (e.trans e2) Q
theorem rz_callA {sp : Sp} {dvs : List V} {E : XK} {t : TA} (h : RzA t σ H) : Rz (tCall sp dvs E t) σ H := fun H1 e Q => h H1 e _
theorem rz_cons {t : TA} (h : Rz te σ H) : RzA (tCons te t) σ H := fun H1 e Q => h H1 e _
theorem rz_cb {r : List V → Hp → VK → Prop} {t : TA} (h : RzA t σ H) : Rz (tCB r t) σ H := fun H1 e Q => h H1 e _
theorem rz_op1 {r : R2} (h : Rz ta σ H) : Rz (tOp r ta tb) σ H := fun H1 e Q => h H1 e _
theorem rz_op2 {r : R2} (ha : Ev ta σ H x) (h : Rz tb σ H) : Rz (tOp r ta tb) σ H := fun H1 e Q => ha H1 e _ fun H2 e2 => h H2 (e.trans e2) _
theorem rz_lc {g : TG} {t : TT} {vs : List Nat} (h : Rz tl σ H) : Rz (tLc (iList K tl) g t te vs) σ H := fun H1 e Q => h H1 e _
theorem s_retZ (h : Rz te σ H) : tRet te D σ H := h H (Ex.refl H) _
end
/-! ### what the rows of a page are -/
theorem rowsGo_asc {b : List Bool} : ∀ {f k t t' : Nat} {l : Option (List Bool)} {rs : List (List Bool)}, rowsGo b f l k t = some (rs, t') → t ≤ b.length → (l.getD []).length ≤ t → Asc l rs ∧ rs.length = k ∧ t + 2 * rs.length ≤ t' ∧ t' ≤ b.length ∧ ∀ r ∈ rs, r.length ≤ b.length
  | 0, 0, t, t', l, rs, h, ht, hl => by
    cases h
    exact ⟨trivial, rfl, Nat.le_refl _, ht, fun r hr => (by cases hr)⟩
  | f + 1, 0, t, t', l, rs, h, ht, hl => by
    have : rowsGo b (f + 1) l 0 t = some ([], t) := by simp [rowsGo]
    rw [this] at h
    cases h
    exact ⟨trivial, rfl, Nat.le_refl _, ht, fun r hr => (by cases hr)⟩
  | 0, k + 1, t, t', l, rs, h, ht, hl => by simp [rowsGo] at h
  | f + 1, k + 1, t, t', l, rs, h, ht, hl => by
    rw [rowsGo] at h
    cases he : entryAt b t (l.getD []) with
    | none => rw [he] at h; cases h
    | some rt =>
      obtain ⟨row, t1⟩ := rt
      rw [he] at h
      dsimp only at h
      obtain ⟨g1, g2, g3⟩ := entryAt_le he ht
      split at h
      · cases h
      · rename_i hn
        cases hg : rowsGo b f (some row) k t1 with
        | none => rw [hg] at h; cases h
        | some p =>
          obtain ⟨rs2, t2⟩ := p
          rw [hg] at h
          have h : some (row :: rs2, t2) = some (rs, t') := h
          cases h
          obtain ⟨i1, i2, i3, i4, i5⟩ := rowsGo_asc hg g2 (by show row.length ≤ t1; omega)
          refine ⟨⟨fun x hx => Classical.byContradiction fun z => hn ⟨x, hx, z⟩, i1⟩, by rw [List.length_cons, i2], by rw [List.length_cons]; omega, i4, fun r hr => ?_⟩
          rcases List.mem_cons.mp hr with rfl | hr
          · omega
          · exact i5 r hr
theorem rowsOf_asc {b : List Bool} {rs : List (List Bool)} (h : rowsOf b = some rs) : Asc none rs ∧ 2 * rs.length ≤ b.length ∧ ∀ r ∈ rs, r.length ≤ b.length := by
  unfold rowsOf at h
  cases e : tcount b false false false 0 with
  | bad c p => rw [e] at h; cases h
  | ok many t =>
    rw [e] at h
    dsimp only at h
    have ht := (tcount_ok e).2.2 (Nat.zero_le _)
    cases hg : rowsGo b (b.length + 1) none many.toNat t with
    | none => rw [hg] at h; cases h
    | some p =>
      obtain ⟨rs2, t2⟩ := p
      rw [hg] at h
      dsimp only at h
      split at h
      · cases h
      · cases h
        obtain ⟨i1, i2, i3, i4, i5⟩ := rowsGo_asc hg ht (Nat.zero_le _)
        exact ⟨i1, by omega, i5⟩
end Kr
namespace Kr
open PySem PySem.Spec PyProof.Rows L2 Evl
section
variable {K : PySem.W.Frag} {σ : L2.St} {H : Hp} {ta tb tl : TE} {x z : V}
/-- a new list compared with one that stands, alike -/
theorem ev_neLN {q : Addr} {a : List (List Bool)} (ha : EvL ta σ H (RL a)) (hb : Ev tb σ H (.ref q)) (hq : SqL K H q (RL a)) : Ev (tOp (rNeD K) ta tb) σ H (.bl false) := fun H1 e Q k =>
  ha H1 e _ fun p H2 _ e2 h2 => hb H2 (e.trans e2) _ fun H3 e3 => ⟨.list ((RL a).map toD), .list ((RL a).map toD), .lst (sq_of (e3 _ _ h2)) (dpAll_plain (RL_plain a)), .lst (ex_l ((e.trans e2).trans e3) hq) (dpAll_plain (RL_plain a)), shaped_list (RL_plain a), shaped_list (RL_plain a), by
    rw [eqv_same (shaped_list (RL_plain a))]
    exact k H3 (e2.trans e3)⟩
/-- a call of one, a new list -/
theorem ev_callL {sp : Sp} {E : XK} {xs : List V} (h : EvL ta σ H xs) (hs : ∀ p H1, Ex H H1 → H1 p = some (.lst xs) → SpV sp [.ref p] H1 z) : Ev (tCall sp [] E (tCons ta tNil)) σ H z := fun H1 e Q q =>
  h H1 e _ fun p H2 _ e2 hp => hs p H2 (e.trans e2) hp H2 (Ex.refl H2) Q (fun H3 e3 => q H3 (e2.trans e3)) E
theorem s_retF1L {sp : Sp} {E : XK} {xs : List V} {D : Ends} (h : EvL ta σ H xs) (k : ∀ p H1, H p = none → Ex H H1 → H1 p = some (.lst xs) → sp [.ref p] H1 D.rt E) : tRet (tCall sp [] E (tCons ta tNil)) D σ H :=
  h H (Ex.refl H) _ fun p H1 hp e1 h1 => k p H1 hp e1 h1
/-- two new tuples, alike -/
theorem ev_eqUU {xs : List V} (ha : EvU ta σ H xs) (hb : ∀ H1, Ex H H1 → EvU tb σ H1 xs) (h : xs.all plainV = true) : Ev (tOp (rEqD K) ta tb) σ H (.bl true) := fun H1 e Q q =>
  ha H1 e _ fun p H2 _ e2 hp => hb H2 (e.trans e2) H2 (Ex.refl H2) _ fun r H3 _ e3 hr => ⟨.tuple (xs.map toD), .tuple (xs.map toD), .tup (st_of (e3 _ _ hp)) (dpAll_plain h), .tup (st_of hr) (dpAll_plain h), shaped_tup h, shaped_tup h, by
    rw [eqv_same (shaped_tup h)]
    exact q H3 (e2.trans e3)⟩
end
end Kr
namespace Kr
open PySem PySem.Spec PyProof.Rows L2 Evl
/-- a new list and one that stands, together -/
theorem el_catN2 {σ : L2.St} {H : Hp} {ta tb : TE} {q : Addr} {a b : List (List Bool)} (ha : EvL ta σ H (RL a)) (hb : Ev tb σ H (.ref q)) (hq : H q = some (.lst (RL b))) (hz : a.length + b.length ≤ 100000) : EvL (tOp rCat ta tb) σ H (RL (a ++ b)) := fun H1 e Q k =>
  ha H1 e _ fun p H2 _ e2 h2 => hb H2 (e.trans e2) _ fun H3 e3 => ⟨p, q, RL a, RL b, rfl, rfl, e3 _ _ h2, ((e.trans e2).trans e3) _ _ hq, sz_of (by rw [RL_len, RL_len]; exact hz), fun l hl => k l _ (fresh_back (e2.trans e3) hl) ((e2.trans e3).trans (Ex.new hl)) (by rw [RL_app]; exact upd_same)⟩
end Kr
/-! slices with a step; sums; several except clauses without names -/
namespace Kr
open PySem PySem.Spec PyProof.Rows L2 Evl
theorem vals_pick {xs : List V} {us : List Value} (r : Vals xs us) : ∀ ix : List Nat, Vals (ix.filterMap (xs[·]?)) (ix.filterMap (us[·]?))
  | [] => .nil
  | i :: ix => by
    rw [List.filterMap_cons, List.filterMap_cons]
    cases e : xs[i]? with
    | none => rw [r.none_of e]; exact vals_pick r ix
    | some x =>
      obtain ⟨u, e2, q⟩ := r.get e
      rw [e2]
      exact .cons q (vals_pick r ix)
def slIx (lo hi st : Option Int) (n : Nat) : List Nat := sliceRange (sliceBounds lo hi st n).1 (sliceBounds lo hi st n).2.1 (sliceBounds lo hi st n).2.2
def stepV (xs : List V) (lo hi st : Option Int) : List V := (slIx lo hi st xs.length).filterMap (xs[·]?)
theorem slicePick_step (its : List Value) (lo hi st : Option Int) : slicePick its.toArray lo hi st = ((slIx lo hi st its.length).filterMap (its[·]?)).toArray := by
  unfold slicePick slIx
  simp only [List.size_toArray, List.getElem?_toArray]
variable {X : Cx}
def SlR3 (X : Cx) (r : V → Option Int → Option Int → Option Int → Hp → VK → Prop) : Prop :=
  ∀ (pins : List (Addr × Obj)) (s : Shared) (σ : L2.St) (H : Hp) (x : V) (v vl vu vs : Value) (lo hi st : Option Int) (sl : Addr) (Q : VK), Inv X pins σ H s → RelV x v → s.heap.IsSliceOf sl vl vu vs → IsPart vl lo → IsPart vu hi → IsPart vs st → r x lo hi st H Q →
    ∃ T id, typeLookup (.type T) "__getitem__" = pure (some (.builtin id)) ∧ s.TypeIs v T ∧ wpAny (model X.prog X.w) X.A (getItem v (.ref sl)) (EP X pins σ Q) X.xe s
def tSl3 (r : V → Option Int → Option Int → Option Int → Hp → VK → Prop) (te : TE) (tl th ts : TO) : TE := fun σ H Q => te σ H fun x H1 => tl σ H1 fun l H2 => th σ H2 fun u H3 => ts σ H3 fun st H4 => r x l u st H4 Q
theorem pe_slice3 {e : Expr} {lo hi : Option Expr} {se : Expr} {p2 pos : Pos} {te : TE} {tl th ts : TO} {r : V → Option Int → Option Int → Option Int → Hp → VK → Prop} (hr : SlR3 X r) (he : PE X e te) (hl : PO X lo tl) (hu : PO X hi th) (hs : PO X (some se) ts) : PE X (.Subscript e (.Slice lo hi (some se) p2) pos) (tSl3 r te tl th ts) := by
  refine ⟨fun pins s σ H Q I h => ?_⟩
  refine Subscript_ (thn (he.run pins s σ H _ I h) fun v s1 ⟨x, H1, I1, r1, q1⟩ => ?_)
  refine wpAny_Slice (thn (hl.run pins s1 σ H1 _ I1 q1) fun vl s2 ⟨l, H2, I2, pl, q2⟩ => thn (hu.run pins s2 σ H2 _ I2 q2) fun vu s3 ⟨u, H3, I3, pu, q3⟩ => thn (hs.run pins s3 σ H3 _ I3 q3) fun vs s4 ⟨st', H4, I4, ps, q4⟩ => ?_)
  have I5 : Inv X pins σ H4 { s4 with heap := s4.heap.push { cls := .type "slice", data := .fields #[vl, vu, vs] } } := I4.kept (t' := s4.toks) fun b ob q => Heap.get?_push_of_some _ q
  obtain ⟨T, id, hT, ht, hg⟩ := hr pins { s4 with heap := s4.heap.push { cls := .type "slice", data := .fields #[vl, vu, vs] } } σ H4 x v vl vu vs l u st' s4.heap.objs.size Q I5 r1 (Heap.IsSliceOf.new ..) pl pu ps q4
  show wpAny (model X.prog X.w) X.A (subscriptTail e (.Slice lo hi (some se) p2) v (.ref s4.heap.objs.size)) (EP X pins σ Q) X.xe { s4 with heap := s4.heap.push { cls := .type "slice", data := .fields #[vl, vu, vs] } }
  exact tail_any (ops := [v, .ref s4.heap.objs.size]) ht hT hg (by with_unfolding_all rfl)
def rSlL3 (K : PySem.W.Frag) : V → Option Int → Option Int → Option Int → Hp → VK → Prop := fun x lo hi st H Q => ∃ a xs, x = .ref a ∧ SqL K H a xs ∧ st ≠ some 0 ∧ ∀ p, H p = none → Q (.ref p) (upd H p (.lst (stepV xs lo hi st)))
theorem sl_list3 : SlR3 X (rSlL3 X.K) := by
  intro pins s σ H x v vl vu vs lo hi st sl Q I rx hs pl pu ps h
  obtain ⟨a, xs, rfl, hx, h0, q⟩ := h
  cases rx
  obtain ⟨its, r, ht, hz⟩ := I.list hx
  have hlen := r.length
  refine ⟨"list", _, slot_list_getitem.lookup, ht.isList.typeIs, ?_⟩
  refine wpAny_getItem_list_slice ht.isList hs pl pu ps h0 ?_ (by rw [List.size_toArray] <;> omega)
  have hv := vals_pick r (slIx lo hi st its.length)
  have hn : (stepV xs lo hi st).length ≤ sizeLine := by
    have := slicePick_size_le its.toArray lo hi st
    rw [slicePick_step, List.size_toArray, List.size_toArray] at this
    have e := hv.length
    unfold stepV
    rw [hlen]
    omega
  rw [slicePick_step]
  have hv' : Vals (stepV xs lo hi st) ((slIx lo hi st its.length).filterMap (its[·]?)) := by unfold stepV; rw [hlen]; exact hv
  refine ⟨.ref s.heap.objs.size, _, I.laid (t' := s.toks) (o := .lst (stepV xs lo hi st)) (fun b ob q => Heap.get?_push_of_some _ q) (Nat.le_refl _) ?_, rfl, q _ (I.hok.fresh (Nat.le_refl _))⟩
  exact ⟨hn, _, 0, hv', Heap.get?_push_size _ rfl⟩
theorem stepV_map {α : Type} (f : α → V) (ns : List α) (lo hi st : Option Int) : ∃ ms : List α, stepV (ns.map f) lo hi st = ms.map f ∧ (∀ m ∈ ms, m ∈ ns) ∧ ms.length ≤ ns.length ∧ ms = (slIx lo hi st ns.length).filterMap (ns[·]?) := by
  refine ⟨(slIx lo hi st ns.length).filterMap (ns[·]?), ?_, ?_, ?_, rfl⟩
  · unfold stepV
    rw [List.length_map, List.map_filterMap]
    congr 1
    funext i
    rw [List.getElem?_map]
  · intro m hm
    obtain ⟨i, _, e⟩ := List.mem_filterMap.mp hm
    exact List.mem_of_getElem? e
  · refine Nat.le_trans (List.length_filterMap_le _ _) ?_
    unfold slIx
    refine sliceRange_length_le _ _ _ _ (fun hc => ?_) fun hc => ?_
    · simp only [sliceBounds] at hc ⊢
      simp only [hc, if_true]
      constructor
      · cases lo with
        | none => simp
        | some i => dsimp only; omega
      · cases hi with
        | none => simp
        | some i => dsimp only; omega
    · simp only [sliceBounds] at hc ⊢
      simp only [hc, if_false]
      constructor
      · cases lo with
        | none => simp
        | some i => dsimp only; omega
      · cases hi with
        | none => simp
        | some i => dsimp only; omega
theorem sw_cell {elt : Expr} {gs : List Comprehension} {scope : Scope} {pos py : Pos} {y : Str} {l : Nat} {env : Env} (hy : env.scope.names.lookup y = some .cell) : swapsWith (.ListComp elt gs scope pos) (some (.Name y py)) l env = pure false := by
  have ky : env.kindOf y = some .cell := hy
  unfold swapsWith
  simp only [ky]
  cases h : env.blockKind == ScopeKind.function <;> rfl
def tTryMany (K : PySem.W.Frag) (l : List (Value × (Addr → Value → Option Addr → TS))) (tb : WX → TS) (Wout : WX) : TS := fun D σ H => tb (wMany K Wout D l) D σ H
theorem s_tryM {K : PySem.W.Frag} {l : List (Value × (Addr → Value → Option Addr → TS))} {tb : WX → TS} {Wout : WX} {D : Ends} {σ : L2.St} {H : Hp} (h : tb (wMany K Wout D l) D σ H) : tTryMany K l tb Wout D σ H := h
section
variable {K : PySem.W.Frag} {σ : L2.St} {H : Hp} {te ta tb tl : TE} {x : V} {D : Ends}
theorem el_sl3 {tl th ts : TO} {a : Addr} {xs : List V} {lo hi st : Option Int} (h : Ev te σ H (.ref a)) (h1 : EvO tl σ H lo) (h2 : EvO th σ H hi) (h3 : EvO ts σ H st) (h0 : st ≠ some 0) (hs : SqL K H a xs) : EvL (tSl3 (rSlL3 K) te tl th ts) σ H (stepV xs lo hi st) := fun H1 e _ q =>
  h H1 e _ fun H2 e2 => h1 H2 (e.trans e2) _ fun H3 e3 => h2 H3 ((e.trans e2).trans e3) _ fun H4 e4 => h3 H4 (((e.trans e2).trans e3).trans e4) _ fun H5 e5 =>
    ⟨a, xs, rfl, ex_l ((((e.trans e2).trans e3).trans e4).trans e5) hs, h0, fun p hp => q p _ (fresh_back (((e2.trans e3).trans e4).trans e5) hp) ((((e2.trans e3).trans e4).trans e5).trans (Ex.new hp)) upd_same⟩
theorem ev_sum {ns : List Int} (h : EvL te σ H (ns.map V.int)) : Ev (tCB (rSum K) (tCons te tNil)) σ H (.int ns.sum) := fun H1 e Q q =>
  h H1 e _ fun p H2 hp e2 h2 => ⟨p, ns, rfl, sq_of h2, q H2 e2⟩
theorem ev_sum3 {tl th ts : TO} {a : Addr} {ns : List Int} {lo hi st : Option Int} (h : Ev te σ H (.ref a)) (h1 : EvO tl σ H lo) (h2 : EvO th σ H hi) (h3 : EvO ts σ H st) (h0 : st ≠ some 0) (hs : SqL K H a (ns.map V.int)) : ∃ c : Int, Ev (tCB (rSum K) (tCons (tSl3 (rSlL3 K) te tl th ts) tNil)) σ H (.int c) := by
  obtain ⟨ms, e, _⟩ := stepV_map V.int ns lo hi st
  exact ⟨ms.sum, ev_sum (by rw [← e]; exact el_sl3 h h1 h2 h3 h0 hs)⟩
end
theorem R_dropL {b : List Bool} : (R b).dropLast = R b.dropLast := by
  unfold R
  rw [List.map_dropLast]
theorem q_tryM {K : PySem.W.Frag} {l : List (Value × (Addr → Value → Option Addr → TS))} {tb : WX → TS} {Wout : WX} {D : Ends} {σ : L2.St} {H : Hp} {tz : TS} (h : tb (wMany K Wout { D with nx := tz D } l) { D with nx := tz D } σ H) : tSeq (tTryMany K l tb Wout) tz D σ H := h
/-! where a row stands -/
theorem asc_split {rs : List (List Bool)} {l : Option (List Bool)} (h : Asc l rs) (row : List Bool) : before rs row ++ rs.filter (fun r => !decide (R r < R row)) = rs := by
  have hp := asc_pair h
  clear h
  unfold before
  induction hp with
  | nil => rfl
  | @cons r rs h1 h2 ih =>
    by_cases hr : R r < R row
    · rw [List.filter_cons_of_pos (by simp [hr]), List.filter_cons_of_neg (by simp [hr]), List.cons_append, ih]
    · have h3 : ∀ y ∈ r :: rs, ¬ R y < R row := fun y hy z => by
        rcases List.mem_cons.mp hy with rfl | hy
        · exact hr z
        · exact hr (List.lt_trans (h1 y hy) z)
      rw [List.filter_eq_nil_iff.mpr fun y hy => by simpa using h3 y hy, List.filter_eq_self.mpr fun y hy => by simpa using h3 y hy]
      rfl
theorem bef_le (rs : List (List Bool)) (row : List Bool) : (before rs row).length ≤ rs.length := List.length_filter_le _ _
theorem asc_put {rs : List (List Bool)} {row : List Bool} (h : Asc none rs) (hn : row ∉ rs) : Asc none (rs.take (before rs row).length ++ [row] ++ rs.drop (before rs row).length) := by
  have e := asc_split h row
  have e1 : rs.take (before rs row).length = before rs row := by
    conv => lhs; rw [← e]
    exact List.take_left' (by rw [e])
  have e2 : rs.drop (before rs row).length = rs.filter (fun r => !decide (R r < R row)) := by
    conv => lhs; rw [← e]
    exact List.drop_left' (by rw [e])
  rw [e1, e2]
  refine asc_ins (by rw [e]; exact h) (fun x hx => of_decide_eq_true (List.mem_filter.mp hx).2) (fun x z => nomatch z) fun y ys hy => ?_
  have hm : y ∈ rs.filter (fun r => !decide (R r < R row)) := by rw [hy]; exact List.mem_cons_self
  obtain ⟨hm1, hm2⟩ := List.mem_filter.mp hm
  have hm2 : ¬ R y < R row := by simpa using hm2
  exact R_lt_or _ _ hm2 fun z => hn (by rw [← R_inj z]; exact hm1)
theorem at_bef {rs : List (List Bool)} {row : List Bool} (h : Asc none rs) (hin : row ∈ rs) : rs[(before rs row).length]? = some row := by
  have e := asc_split h row
  have hp := asc_pair h
  have hm : row ∈ rs.filter (fun r => !decide (R r < R row)) := List.mem_filter.mpr ⟨hin, by simp [List.lt_irrefl]⟩
  have e2 : rs[(before rs row).length]? = (rs.filter (fun r => !decide (R r < R row)))[0]? := by
    conv => lhs; rw [← e]
    rw [List.getElem?_append_right (by rw [e]; exact Nat.le_refl _), e, Nat.sub_self]
  rw [e2]
  have hq := hp.filter (fun r => !decide (R r < R row))
  generalize hx : rs.filter (fun r => !decide (R r < R row)) = xs at hm hq
  cases xs with
  | nil => cases hm
  | cons x xs =>
    rcases List.mem_cons.mp hm with rfl | hm
    · rfl
    · have h1 := (List.pairwise_cons.mp hq).1 row hm
      have h2 : x ∈ rs.filter (fun r => !decide (R r < R row)) := by rw [hx]; exact List.mem_cons_self
      have h3 : ¬ R x < R row := by simpa using (List.mem_filter.mp h2).2
      exact absurd h1 h3
theorem asc_cut {rs : List (List Bool)} (h : Asc none rs) {ms : List (List Bool)} (hs : ms.Sublist rs) : Asc none ms := asc_iff.mpr ((asc_pair h).sublist hs)
theorem mem_put {rs : List (List Bool)} {row r : List Bool} {i : Nat} : r ∈ rs.take i ++ [row] ++ rs.drop i ↔ r ∈ rs ∨ r = row := by
  rw [List.mem_append, List.mem_append, List.mem_singleton]
  conv => rhs; rw [← List.take_append_drop i rs, List.mem_append]
  constructor
  · rintro ((h | h) | h)
    · exact .inl (.inl h)
    · exact .inr h
    · exact .inl (.inr h)
  · rintro ((h | h) | h)
    · exact .inl (.inl h)
    · exact .inr h
    · exact .inl (.inr h)
theorem put_sort {rs : List (List Bool)} {row : List Bool} (h : Asc none rs) (hn : row ∉ rs) (hnd : (rs ++ [row]).Nodup) : sortR (rs ++ [row]) = rs.take (before rs row).length ++ [row] ++ rs.drop (before rs row).length := by
  refine asc_ext (asc_sort hnd) (asc_put h hn) fun r => ?_
  rw [mem_sortR, mem_put, List.mem_append, List.mem_singleton]
theorem nodup_at {α : Type} : ∀ {xs : List α} {i j : Nat}, xs.Nodup → ∀ (hi : i < xs.length) (hj : j < xs.length), xs[i] = xs[j] → i = j
  | x :: xs, 0, 0, _, _, _, _ => rfl
  | x :: xs, 0, j + 1, h, _, hj, e => by
      have := (List.nodup_cons.mp h).1
      exact absurd (by rw [show x = xs[j]'(by simpa using hj) from e]; exact List.getElem_mem _) this
  | x :: xs, i + 1, 0, h, hi, _, e => by
      have := (List.nodup_cons.mp h).1
      exact absurd (by rw [← show xs[i]'(by simpa using hi) = x from e]; exact List.getElem_mem _) this
  | x :: xs, i + 1, j + 1, h, hi, hj, e => by
      rw [nodup_at (List.nodup_cons.mp h).2 (by simpa using hi) (by simpa using hj) e]
theorem drop_at {rs : List (List Bool)} {row : List Bool} (h : Asc none rs) (hin : row ∈ rs) : rs.eraseIdx (before rs row).length = rs.filter fun r => !decide (R r = R row) := by
  have hat := at_bef h hin
  refine asc_ext (asc_cut h (List.eraseIdx_sublist ..)) (asc_filter h _) fun r => ?_
  rw [List.mem_filter, List.mem_eraseIdx_iff_getElem?]
  have hnd := asc_nodup h
  constructor
  · rintro ⟨j, hj, e⟩
    refine ⟨List.mem_of_getElem? e, ?_⟩
    rw [Bool.not_eq_true', decide_eq_false_iff_not]
    intro z
    have z := R_inj z
    obtain ⟨h1, e1⟩ := List.getElem?_eq_some_iff.mp e
    obtain ⟨h2, e2⟩ := List.getElem?_eq_some_iff.mp hat
    exact hj (nodup_at hnd h1 h2 (by rw [e1, e2, z]))
  · rintro ⟨hr, hne⟩
    rw [Bool.not_eq_true', decide_eq_false_iff_not] at hne
    obtain ⟨j, hj⟩ := List.getElem?_of_mem hr
    refine ⟨j, fun z => ?_, hj⟩
    rw [z, hat] at hj
    exact hne (by rw [Option.some.inj hj])
section
variable {K : PySem.W.Frag} {σ : L2.St} {H : Hp} {te ta tb tl : TE} {x v : V} {D : Ends}
theorem s_popAt {l : Addr} {xs : List V} {i : Nat} {y : V} (hl : H l = some (.lst xs)) (ha : Ev ta σ H (.ref l)) (hi : Ev tb σ H (.int (i : Int))) (hy : xs[i]? = some y) (hi2 : i < 100000) (k : ∀ H1, Ex H H1 → D.nx σ (upd H1 l (.lst (xs.eraseIdx i)))) :
    tDrop (tBM K "list" rPopAt ta (tCons tb tNil)) D σ H :=
  ha H (Ex.refl H) _ fun H1 e1 => ⟨.inl ⟨rfl, xs, sq_of (e1 _ _ hl)⟩, hi H1 e1 _ fun H2 e2 => ⟨l, xs, i, i, y, rfl, rfl, (e1.trans e2) _ _ hl, by omega, by omega, by
    have := (List.getElem?_eq_some_iff.mp hy).1
    unfold seqIndex?
    rw [if_neg (show ¬ ((i : Int) < 0) by omega)]
    simp [this], hy, k H2 (e1.trans e2)⟩⟩
theorem ev_neUU {xs : List V} (ha : EvU ta σ H xs) (hb : ∀ H1, Ex H H1 → EvU tb σ H1 xs) (h : xs.all plainV = true) : Ev (tOp (rNeD K) ta tb) σ H (.bl false) := fun H1 e Q q =>
  ha H1 e _ fun p H2 _ e2 hp => hb H2 (e.trans e2) H2 (Ex.refl H2) _ fun r H3 _ e3 hr => ⟨.tuple (xs.map toD), .tuple (xs.map toD), .tup (st_of (e3 _ _ hp)) (dpAll_plain h), .tup (st_of hr) (dpAll_plain h), shaped_tup h, shaped_tup h, by
    rw [eqv_same (shaped_tup h)]
    exact q H3 (e2.trans e3)⟩
theorem el_slRL {tl th ts : TO} {a : Addr} {rs : List (List Bool)} {lo hi st : Option Int} (h : Ev te σ H (.ref a)) (h1 : EvO tl σ H lo) (h2 : EvO th σ H hi) (h3 : EvO ts σ H st) (h0 : st ≠ some 0) (hs : SqL K H a (RL rs)) : ∃ ms : List (List Bool), EvL (tSl3 (rSlL3 K) te tl th ts) σ H (RL ms) ∧ (∀ m ∈ ms, m ∈ rs) ∧ ms.length ≤ rs.length ∧ ms = (slIx lo hi st rs.length).filterMap (rs[·]?) := by
  obtain ⟨ms, e, g⟩ := stepV_map (fun r => V.str (T (R r))) rs lo hi st
  refine ⟨ms, ?_, g⟩
  have : stepV (RL rs) lo hi st = RL ms := e
  rw [← this]
  exact el_sl3 h h1 h2 h3 h0 hs
end
theorem slIx_two (n : Nat) : (slIx none none (some 2) n).Pairwise (· < ·) := by
  unfold slIx sliceRange
  simp only [sliceBounds, Option.getD_some, show (2 : Int) > 0 by decide, if_true]
  refine List.Pairwise.map _ (fun i j (h : i < j) => ?_) List.pairwise_lt_range
  omega
theorem asc_pick {rs : List (List Bool)} (h : Asc none rs) {ix : List Nat} (hx : ix.Pairwise (· < ·)) : Asc none (ix.filterMap (rs[·]?)) := by
  refine asc_iff.mpr (List.pairwise_filterMap.mpr (hx.imp fun {i j} hij a ha b hb => ?_))
  obtain ⟨h1, rfl⟩ := List.getElem?_eq_some_iff.mp ha
  obtain ⟨h2, rfl⟩ := List.getElem?_eq_some_iff.mp hb
  exact asc_lt hij h2 h
theorem RL_erase (rs : List (List Bool)) (i : Nat) : (RL rs).eraseIdx i = RL (rs.eraseIdx i) := by
  unfold RL
  rw [List.eraseIdx_eq_take_drop_succ, List.eraseIdx_eq_take_drop_succ, List.map_append, List.map_take, List.map_drop]
theorem RL_put (rs : List (List Bool)) (row : List Bool) (i : Nat) : (RL rs).take i ++ [.str (T (R row))] ++ (RL rs).drop i = RL (rs.take i ++ [row] ++ rs.drop i) := by
  unfold RL
  simp [List.map_take, List.map_drop]
theorem before_drop (rs : List (List Bool)) (row : List Bool) : before (rs.filter fun r => !decide (R r = R row)) row = before rs row := by
  unfold before
  rw [List.filter_filter]
  refine List.filter_congr fun r _ => ?_
  by_cases h : R r < R row
  · have : R r ≠ R row := fun z => List.lt_irrefl _ (by rw [z] at h; exact h)
    simp [h, this]
  · simp [h]
theorem before_app (xs ys : List (List Bool)) (row : List Bool) : before (xs ++ ys) row = before xs row ++ before ys row := by
  unfold before
  rw [List.filter_append]
theorem before_put (rs : List (List Bool)) (row : List Bool) (i : Nat) : before (rs.take i ++ [row] ++ rs.drop i) row = before rs row := by
  have h : before [row] row = [] := by
    unfold before
    rw [List.filter_eq_nil_iff]
    intro r hr
    rw [List.mem_singleton.mp hr]
    simp [List.lt_irrefl]
  rw [before_app, before_app, h, List.append_nil, ← before_app, List.take_append_drop]
end Kr
/-! several except clauses with names, each error kept -/
namespace Kr
open PySem PySem.Spec PyProof.Rows L2 Evl
/-- what the clauses 'except x as n' wish, one after the other -/
def wManyK (K : PySem.W.Frag) (Wout : WX) (D : Ends) : List (Value × Nat × (Addr → Value → Option Addr → TS)) → WX
  | [] => Wout
  | (c, i, ts) :: r => fun cls d σ H => ∃ b, PySem.W.exmOne K cls c = some b ∧
    (b = true → ∀ a, H a = none → ts a cls d { nx := fun σ' H' => D.nx (σ'.set i none) (upd H' a (ExK cls d a)), rt := fun _ _ => False } (σ.set i (some (.ref a))) H) ∧ (b = false → wManyK K Wout D r cls d σ H)
inductive HdsK (X : Cx) : List ExceptHandler → List (Value × Nat × (Addr → Value → Option Addr → TS)) → Prop
  | nil : HdsK X [] []
  | cons {x n : Str} {c : Value} {i : Nat} {ts : Addr → Value → Option Addr → TS} {b₀ : Stmt} {suite : List Stmt} {np pos' : Pos} {hds : List ExceptHandler} {l : List (Value × Nat × (Addr → Value → Option Addr → TS))}
      (hi : X.N[i]? = some n) (hln : X.env.kindOf n = some .local) (hc : Names X x c)
      (hsu : ∀ (a : Addr) (oe : Obj) (cls : Value) (d : Option Addr) (pn : List (Addr × Obj)), Zc cls d oe → (∃ vs, oe.data = .fields vs) → PSs (X.suite a ((a, oe) :: pn)) (b₀ :: suite) (ts a cls d)) (r : HdsK X hds l) :
      HdsK X (.ExceptHandler (some (.Name x np)) (some n) (b₀ :: suite) pos' :: hds) ((c, i, ts) :: l)
section
variable {X : Cx} {body : List Stmt} {h₀ : ExceptHandler} {hds : List ExceptHandler} {l : List (Value × Nat × (Addr → Value → Option Addr → TS))} {pos : Pos} {tb : WX → TS} {Wout : WX}
theorem ps_try_manyK (hs : X.stack = X.env :: X.outer) (hf : X.env.frame = some X.env.locals) (hex : X.ex = []) (hN : X.N.Nodup) (tk : Takes X Wout)
    (hb : ∀ (W : WX) (pn : List (Addr × Obj)) (xe : Value → Shared → Prop), Takes (X.tr pn xe) W → PassesOwn (model X.prog X.w) X.A X.env xe → PSs (X.tr pn xe) body (tb W))
    (hh : HdsK X (h₀ :: hds) l) : PS X (.Try body (h₀ :: hds) [] [] pos) (fun D σ H => tb (wManyK X.K Wout D l) D σ H) := by
  refine ⟨fun pins s σ H D I h => ?_⟩
  have okX := I.ok
  have frX : X.A.frames = some (X.env :: X.outer) := by rw [okX.frames, hs]
  refine wpAny_Try_except ?_
  refine wpAny_mono ((hb (wManyK X.K Wout D l) (X.pn ++ pins) (fun e s₁ => wpAny (model X.prog X.w) X.A (noteFrame e X.env) (fun _ s₂ => wpAny (model X.prog X.w) X.A (setFlight e none) (fun _ s₃ =>
    wpAny (model X.prog X.w) X.A (handleBy e X.env (h₀ :: hds)) (SP X pins D) X.xe s₃) X.xe s₂) X.xe s₁) (fun u s' air => ?_) PassesOwn.looking).run [] s σ H D (I.toTry _) h) (fun f s1 done => ?_) (fun e s1 he => he)
  · obtain ⟨a, B, s2, pins2, σ2, H2, cls, d, rfl, J0, nb, up, sky, na, os, ag, w⟩ := air
    have J : Inv X pins σ2 H2 s2 := J0.ofTry okX
    rw [show (X.tr (X.pn ++ pins) _).stack = X.env :: X.outer from hs] at sky
    show wpAny (model X.prog X.w) X.A (noteFrame (.ref a) X.env) _ _ _
    refine Sky.land Zc.steady frX hf sky fun h3 fl3 up3 => ?_
    have J3 : Inv X pins σ2 H2 { s' with heap := h3 } := J.landed nb fl3.1 (up.trans up3) os ag
    obtain ⟨oe3, vs3, he3, hz3, hd3⟩ := fl3.there
    have far : a ∉ frs (X.env :: X.outer) := fun hm => by
      obtain ⟨_, o', e', hnf⟩ := fl3.2.2.1.mem hm
      have e2 := he3.symm.trans e'
      cases e2
      exact hnf _ hd3
    have nL : a ≠ X.env.locals := fun z => far (List.mem_filterMap.mpr ⟨X.env, List.mem_cons_self, by rw [hf, z]⟩)
    have nF : a ∉ X.fs := fun hm => by
      obtain ⟨e, he, q⟩ := List.mem_filterMap.mp hm
      exact far (List.mem_filterMap.mpr ⟨e, List.mem_cons_of_mem _ he, q⟩)
    have ground : ∀ o, s2.heap.get? a = some o → False := fun o e => by
      have := nb a o e (by rw [show (X.tr (X.pn ++ pins) _).stack = X.env :: X.outer from hs]; exact far)
      rw [fl3.2.1] at this
      cases this
    have hnew : X.s_0.heap.get? a = none := by
      cases e : X.s_0.heap.get? a with
      | none => rfl
      | some o =>
        obtain ⟨o', e'⟩ := J.base.there a o e (by rw [hex]; exact fun z => nomatch z)
        exact (ground o' e').elim
    have hpn : ∀ p ∈ X.pn ++ pins, p.1 ≠ a := fun p hp z => by
      have e := (J.pin p hp).1
      rw [z] at e
      exact ground _ e
    have S3 := J3.suite he3 hd3 na nL nF
    have go : ∀ {hds' : List ExceptHandler} {l' : List (Value × Nat × (Addr → Value → Option Addr → TS))}, HdsK X hds' l' → wManyK X.K Wout D l' cls d σ2 H2 →
        wpAny (model X.prog X.w) X.A (handleBy (.ref a) X.env hds') (SP X pins D) X.xe { s' with heap := h3 } := by
      intro hds' l' hk
      induction hk with
      | nil =>
        intro w
        refine wpAny_handleBy_nil ?_
        obtain ⟨k1, k2, k3, oe, vs, T, oT, ts', he, hz, hd, h1, hr⟩ := id fl3
        unfold PySem.passOn
        refine wpAny_bind (wpAny_field he hd h1 ?_)
        rw [if_neg (show ¬ ((Value.ref T == Value.none) = true) from by simp)]
        have fin : wpAny (model X.prog X.w) X.A (setFlight (.ref a) X.env.frame) (fun _ s4 => wpAny (model X.prog X.w) X.A (throw (.ref a) : Sem Flow) (SP X pins D) X.xe s4) X.xe { s' with heap := h3 } := by
          rw [hf]
          refine HandSPX.setFlight_upZ fl3 fun h4 hh4 up4 => wpAny_throw (tk _ _ ?_)
          exact ⟨a, B, s2, pins, σ2, H2, cls, d, rfl, J, nb, (up.trans up3).trans up4, .inr (.inr (by rw [hs]; exact hh4)), na, os, ag, w⟩
        first
          | exact wpAny_bind (wpAny_pure (wpAny_bind fin))
          | exact wpAny_bind fin
      | @cons x n c i ts b₀ suite np pos' hds2 l2 hi hln hc hsu r ih =>
        intro w
        obtain ⟨b, hb1, hyes, hno⟩ := w
        refine wpAny_handleBy_cons (codeAny_handlers_test ?_) (by intro q; cases q)
        have LT : PySem.W.Looks (model X.prog X.w) h3 (typeOf (.ref a)) cls := fun A Q E s k q => wpAny_typeOf_ref (k _ _ he3) (by rw [hz3.1]; exact q)
        have LM := PySem.W.exm_one (M := model X.prog X.w) (J3.kIn) LT hb1
        have test : ∀ {Q : Value → Shared → Prop} {E : Value → Shared → Prop}, Q c { s' with heap := h3 } → wpAny (model X.prog X.w) (X.A.mark (some (.ref a))) (eval (.Name x np) X.env) Q E { s' with heap := h3 } := fun {Q E} q => by
          obtain ⟨hg, hdbg, hm | ⟨hm, hv, hnn⟩⟩ := hc
          · exact ld_glob (X := X.suite a ((a, oe3) :: (X.pn ++ pins))) S3 hg hm q hdbg
          · exact ld_blt (X := X.suite a ((a, oe3) :: (X.pn ++ pins))) S3 hg hm hv q hnn hdbg
        refine test (LM.here ?_)
        cases b with
        | true =>
          refine codeAny_handlers_suite_as (HandSPX.lands_againZ fl3 fun h4 fl4 up4 => ?_)
          have J4 : Inv X pins σ2 H2 { s' with heap := h4 } := J.landed nb fl4.1 ((up.trans up3).trans up4) os ag
          obtain ⟨oe4, vs4, he4, hz4, hd4⟩ := fl4.there
          have S4 := J4.suite he4 hd4 na nL nF
          refine store_ok (X := X.suite a ((a, oe4) :: (X.pn ++ pins))) (v := .ref a) S4 hN hi (.inl hln) rfl (fun s5 S5 => ?_) (.inr hln)
          refine wpAny_mono ((hsu a oe4 cls d (X.pn ++ pins) hz4 ⟨_, hd4⟩).run [] s5 _ H2 _ S5 (hyes rfl a na)) (fun f s6 hsp => ?_) (fun _ _ z => False.elim z)
          cases f with
          | next =>
            obtain ⟨σ6, H6, S6, q6⟩ := hsp
            have P6 : Inv X ((a, oe4) :: pins) σ6 H6 s6 := ⟨okX, S6.os, S6.bare, S6.base, S6.loc, S6.cell, S6.free, S6.freeC, fun p hp => S6.pin p (List.mem_append_left _ (by
              rcases List.mem_append.mp hp with z | z
              · exact List.mem_cons_of_mem _ (List.mem_append_left _ z)
              · rcases List.mem_cons.mp z with z | z
                · rw [z]; exact List.mem_cons_self
                · exact List.mem_cons_of_mem _ (List.mem_append_right _ z))), S6.hok, S6.len⟩
            exact gone_ok P6 hN hi hln fun s7 J7 => ⟨_, _, inv_track J7 hz4 ⟨_, hd4⟩ hnew hpn, q6⟩
          | brk => obtain ⟨_, _, _, q6⟩ := hsp; exact q6.elim
          | cont => obtain ⟨_, _, _, q6⟩ := hsp; exact q6.elim
          | ret u => obtain ⟨_, _, _, _, _, q6⟩ := hsp; exact q6.elim
        | false =>
          show wpAny _ X.A (handleBy (.ref a) X.env hds2) _ _ _
          exact ih (hno rfl)
    exact go hh w
  · cases f with
    | next => obtain ⟨σ1, H1, J, q⟩ := done; exact wpAny_execs_nil ⟨σ1, H1, J.ofTry okX, q⟩
    | brk => obtain ⟨σ1, H1, J, q⟩ := done; exact ⟨σ1, H1, J.ofTry okX, q⟩
    | cont => obtain ⟨σ1, H1, J, q⟩ := done; exact ⟨σ1, H1, J.ofTry okX, q⟩
    | ret u => obtain ⟨v, σ1, H1, J, r, q⟩ := done; exact ⟨v, σ1, H1, J.ofTry okX, r, q⟩
end
def tTryManyK (K : PySem.W.Frag) (l : List (Value × Nat × (Addr → Value → Option Addr → TS))) (tb : WX → TS) (Wout : WX) : TS := fun D σ H => tb (wManyK K Wout D l) D σ H
theorem q_tryMK {K : PySem.W.Frag} {l : List (Value × Nat × (Addr → Value → Option Addr → TS))} {tb : WX → TS} {Wout : WX} {D : Ends} {σ : L2.St} {H : Hp} {tz : TS} (h : tb (wManyK K Wout { D with nx := tz D } l) { D with nx := tz D } σ H) : tSeq (tTryManyK K l tb Wout) tz D σ H := h
end Kr
/-! the way back: what was read was a row; signs that are too few; more than a greatest number begins with -/
namespace Kr
open PySem PySem.Spec PyProof.Rows L2 Evl
theorem takeB_back {b : List Bool} {n w c : Bool} {t t' : Nat} (h : takeB b false n w t = .ok c t') : t' = t + 1 ∧ t < b.length ∧ b.drop t = (c != n) :: b.drop t' := by
  unfold takeB at h
  by_cases ht : t < b.length
  · rw [List.getElem?_eq_getElem ht] at h
    cases h
    refine ⟨rfl, ht, ?_⟩
    rw [List.drop_eq_getElem_cons ht]
    congr 1
    cases b[t] <;> cases n <;> rfl
  · rw [List.getElem?_eq_none (by omega)] at h
    cases h
theorem takeB_short {b : List Bool} {n w : Bool} {t : Nat} {c : Str} {p : Int} (h : takeB b false n w t = .bad c p) : c = "Short" ∧ p = b.length ∧ b.length ≤ t := by
  unfold takeB at h
  by_cases ht : t < b.length
  · rw [List.getElem?_eq_getElem ht] at h
    cases h
  · rw [List.getElem?_eq_none (by omega)] at h
    cases h
    exact ⟨rfl, rfl, by omega⟩
theorem takeB_full {b : List Bool} {f n w : Bool} {t : Nat} (h : t < b.length) : takeB b f n w t = .ok (b[t] != n) (t + 1) := by
  unfold takeB
  rw [List.getElem?_eq_getElem h]
theorem div_of_rng {x y : Int} {k : Nat} (h : y * 2 ^ k ≤ x ∧ x < (y + 1) * 2 ^ k) : x / 2 ^ k = y := by
  have hp : (0 : Int) < 2 ^ k := Int.pow_pos (by decide)
  have h1 := (Int.le_ediv_iff_mul_le hp).mpr h.1
  have h2 := (Int.ediv_lt_iff_lt_mul hp).mpr h.2
  omega
theorem one_mod (y : Int) (c : Bool) : decide ((y * 2 + (if c then 1 else 0)) % 2 = 1) = c := by
  cases c with
  | true => exact decide_eq_true (by simp)
  | false => exact decide_eq_false (by simp)
theorem tdig_back {b : List Bool} {n : Bool} : ∀ {k : Nat} {y x : Int} {t t' : Nat}, tdig b false n k y t = .ok x t' → t' = t + k ∧ x / 2 ^ k = y ∧ b.drop t = nz n (digs x k) ++ b.drop t'
  | 0, y, x, t, t', h => by
    cases h
    refine ⟨rfl, ?_, rfl⟩
    rw [Int.pow_zero, Int.ediv_one]
  | k + 1, y, x, t, t', h => by
    unfold tdig at h
    cases ht : takeB b false n false t with
    | bad c p => rw [ht] at h; cases h
    | ok c t1 =>
      rw [ht] at h
      have h : tdig b false n k (y * 2 + (if c then 1 else 0)) t1 = .ok x t' := h
      obtain ⟨rfl, h1, h2⟩ := takeB_back ht
      obtain ⟨rfl, h3, h4⟩ := tdig_back h
      refine ⟨by omega, ?_, ?_⟩
      · rw [Int.pow_succ, ← Int.ediv_ediv_of_nonneg (Int.le_of_lt (Int.pow_pos (by decide))), h3]
        cases c <;> simp <;> omega
      · rw [h2, h4, digs, h3, one_mod]
        rfl
theorem tones_back {b : List Bool} {n : Bool} : ∀ {k : Nat} {w : Bool} {o o' t t' : Nat}, tones b false n k w o t = .ok o' t' → ∃ j, j ≤ k ∧ o' = o + j ∧ b.drop t = nz n (List.replicate j true ++ (if j < k then [false] else [])) ++ b.drop t' ∧ t' = t + j + (if j < k then 1 else 0)
  | 0, w, o, o', t, t', h => by
    cases h
    exact ⟨0, Nat.le_refl _, rfl, rfl, rfl⟩
  | k + 1, w, o, o', t, t', h => by
    unfold tones at h
    cases ht : takeB b false n w t with
    | bad c p => rw [ht] at h; cases h
    | ok c t1 =>
      rw [ht] at h
      obtain ⟨rfl, h1, h2⟩ := takeB_back ht
      cases c with
      | false =>
        cases (show Res.ok o (t + 1) = .ok o' t' from h)
        refine ⟨0, Nat.zero_le _, rfl, ?_, ?_⟩
        · rw [if_pos (Nat.succ_pos k), h2]
          rfl
        · rw [if_pos (Nat.succ_pos k)]
      | true =>
        obtain ⟨j, hj, rfl, h3, h4⟩ := tones_back (show tones b false n k false (o + 1) (t + 1) = .ok o' t' from h)
        have e : (if j + 1 < k + 1 then [false] else []) = (if j < k then [false] else [] : List Bool) := by
          by_cases q : j < k
          · rw [if_pos q, if_pos (by omega)]
          · rw [if_neg q, if_neg (by omega)]
        have e2 : (if j + 1 < k + 1 then 1 else 0) = (if j < k then 1 else 0 : Nat) := by
          by_cases q : j < k
          · rw [if_pos q, if_pos (by omega)]
          · rw [if_neg q, if_neg (by omega)]
        refine ⟨j + 1, by omega, by omega, ?_, ?_⟩
        · rw [e, h2, h3]
          rfl
        · rw [e2]
          omega
theorem blen_of {m k : Nat} (h1 : 2 ^ k ≤ m) (h2 : m < 2 ^ (k + 1)) : blen m = k + 1 := by
  have := blen_gt h1
  have := blen_le h2 (by have := Nat.two_pow_pos k; omega)
  omega
theorem tcount_back {b : List Bool} {n w : Bool} {v : Int} {t t' : Nat} (h : tcount b false n w t = .ok v t') : countOk v ∧ b.drop t = nz n (countRow v.toNat) ++ b.drop t' ∧ t' = t + (countRow v.toNat).length := by
  unfold tcount at h
  cases h1 : tones b false n 7 w 0 t with
  | bad c p => rw [h1] at h; cases h
  | ok o t1 =>
    rw [h1] at h
    have h : (tdig b false n o 1 t1).bind _ = Res.ok v t' := h
    cases h2 : tdig b false n o 1 t1 with
    | bad c p => rw [h2] at h; cases h
    | ok s t2 =>
      rw [h2] at h
      have h : (tdig b false n (s - 1).toNat 1 t2).bind _ = Res.ok v t' := h
      cases h3 : tdig b false n (s - 1).toNat 1 t2 with
      | bad c p => rw [h3] at h; cases h
      | ok x t3 =>
        rw [h3] at h
        cases (show Res.ok (x - 1) t3 = Res.ok v t' from h)
        obtain ⟨j, hj, ho, d1, p1⟩ := tones_back h1
        rw [Nat.zero_add] at ho
        subst ho
        have r2 := tdig_rng h2
        have r3 := tdig_rng h3
        obtain ⟨p2, _, d2⟩ := tdig_back h2
        obtain ⟨p3, _, d3⟩ := tdig_back h3
        rw [Int.one_mul] at r2 r3
        have ho0 : (0 : Int) < 2 ^ o := Int.pow_pos (by decide)
        obtain ⟨sn, rfl⟩ := Int.eq_ofNat_of_zero_le (show 0 ≤ s by omega)
        have hs1 : 1 ≤ sn := by omega
        have e1 : ((sn : Int) - 1).toNat = sn - 1 := by omega
        rw [e1] at r3 p3 d3
        have hx0 : (0 : Int) < 2 ^ (sn - 1) := Int.pow_pos (by decide)
        obtain ⟨xn, rfl⟩ := Int.eq_ofNat_of_zero_le (show 0 ≤ x by omega)
        have bs : blen sn = o + 1 := blen_of (by
          have := r2.1
          have e : ((2 : Int) ^ o) = ((2 ^ o : Nat) : Int) := by simp
          rw [e] at this
          omega) (by
          have := r2.2
          have e : ((1 + 1 : Int) * 2 ^ o) = ((2 ^ (o + 1) : Nat) : Int) := by rw [Nat.pow_succ, Nat.mul_comm]; simp
          rw [e] at this
          omega)
        have bx : blen xn = sn - 1 + 1 := blen_of (by
          have := r3.1
          have e : ((2 : Int) ^ (sn - 1)) = ((2 ^ (sn - 1) : Nat) : Int) := by simp
          rw [e] at this
          omega) (by
          have := r3.2
          have e : ((1 + 1 : Int) * 2 ^ (sn - 1)) = ((2 ^ (sn - 1 + 1) : Nat) : Int) := by rw [Nat.pow_succ, Nat.mul_comm]; simp
          rw [e] at this
          omega)
        have hsn : sn ≤ 255 := by
          have h8 : (2 : Nat) ^ (o + 1) ≤ 2 ^ 8 := Nat.pow_le_pow_right (by decide) (by omega)
          have := r2.2
          have e : ((1 + 1 : Int) * 2 ^ o) = ((2 ^ (o + 1) : Nat) : Int) := by rw [Nat.pow_succ, Nat.mul_comm]; simp
          rw [e] at this
          omega
        have hxn : xn < 2 ^ 255 := by
          have h8 : (2 : Nat) ^ (sn - 1 + 1) ≤ 2 ^ 255 := Nat.pow_le_pow_right (by decide) (by omega)
          have := r3.2
          have e : ((1 + 1 : Int) * 2 ^ (sn - 1)) = ((2 ^ (sn - 1 + 1) : Nat) : Int) := by rw [Nat.pow_succ, Nat.mul_comm]; simp
          rw [e] at this
          omega
        have hx1 : 1 ≤ xn := by omega
        have ev : ((xn : Int) - 1).toNat = xn - 1 := by omega
        have row : countRow (xn - 1) = List.replicate o true ++ (if o < 7 then [false] else []) ++ digs (sn : Int) o ++ digs (xn : Int) (sn - 1) := by
          unfold countRow
          rw [show xn - 1 + 1 = xn by omega, bx, show sn - 1 + 1 = sn by omega, bs]
          simp
        rw [ev, row]
        refine ⟨⟨by omega, by omega⟩, ?_, ?_⟩
        · rw [nz_app, nz_app, List.append_assoc, List.append_assoc, ← d3, ← d2, ← d1]
        · simp only [List.length_append, List.length_replicate, digs_len]
          have : (if o < 7 then [false] else [] : List Bool).length = if o < 7 then 1 else 0 := by split <;> rfl
          rw [this]
          omega
theorem twhole_back {b : List Bool} {n : Bool} {v : Int} {t t' : Nat} (h : twhole b false n t = .ok v t') : wholeOk v ∧ b.drop t = nz n (wholeRow v) ++ b.drop t' ∧ t' = t + (wholeRow v).length := by
  unfold twhole at h
  cases h1 : takeB b false n true t with
  | bad c p => rw [h1] at h; cases h
  | ok c t1 =>
    rw [h1] at h
    obtain ⟨rfl, h2, h3⟩ := takeB_back h1
    cases c with
    | true =>
      obtain ⟨hv, h4, h5⟩ := tcount_back (show tcount b false n false (t + 1) = .ok v t' from h)
      have h0 : ¬ v < 0 := by have := hv.1; omega
      refine ⟨(wholeOk_pos h0).mpr hv, ?_, ?_⟩
      · unfold wholeRow
        rw [if_neg h0, h3, h4]
        rfl
      · unfold wholeRow
        rw [if_neg h0, List.length_cons]
        omega
    | false =>
      have h : (tcount b false (!n) false (t + 1)).bind (fun x t2 => Res.ok (-1 - x) t2) = Res.ok v t' := h
      cases h6 : tcount b false (!n) false (t + 1) with
      | bad c p => rw [h6] at h; cases h
      | ok x t2 =>
        rw [h6] at h
        cases (show Res.ok (-1 - x) t2 = Res.ok v t' from h)
        obtain ⟨hv, h4, h5⟩ := tcount_back h6
        have h0 : -1 - x < 0 := by have := hv.1; omega
        have e : -1 - (-1 - x) = x := by omega
        refine ⟨(wholeOk_neg h0).mpr (by rw [e]; exact hv), ?_, ?_⟩
        · unfold wholeRow
          rw [if_pos h0, e, h3, h4]
          show _ = nz n (false :: neg (countRow x.toNat)) ++ _
          rw [show nz n (false :: neg (countRow x.toNat)) = (false != n) :: nz n (neg (countRow x.toNat)) from rfl, nz_neg]
          rfl
        · unfold wholeRow
          rw [if_pos h0, e, List.length_cons, neg_len]
          omega
theorem tfix_back {b : List Bool} {n : Bool} {most : Int} : ∀ {k : Nat} {y x : Int} {t t' : Nat}, tfix b false n most k y t = .ok x t' → y ≤ most / 2 ^ k → t' = t + k ∧ x / 2 ^ k = y ∧ x ≤ most ∧ b.drop t = nz n (digs x k) ++ b.drop t'
  | 0, y, x, t, t', h, hy => by
    cases h
    rw [Int.pow_zero, Int.ediv_one] at hy
    refine ⟨rfl, ?_, hy, rfl⟩
    rw [Int.pow_zero, Int.ediv_one]
  | k + 1, y, x, t, t', h, hy => by
    unfold tfix at h
    cases ht : takeB b false n false t with
    | bad c p => rw [ht] at h; cases h
    | ok c t1 =>
      rw [ht] at h
      have h : (if y * 2 + (if c then 1 else 0) > most / 2 ^ k then .bad "Wrong" ((t1 : Int) - 1) else tfix b false n most k (y * 2 + (if c then 1 else 0)) t1) = Res.ok x t' := h
      by_cases hg : y * 2 + (if c then 1 else 0) > most / 2 ^ k
      · rw [if_pos hg] at h; cases h
      · rw [if_neg hg] at h
        obtain ⟨rfl, h1, h2⟩ := takeB_back ht
        obtain ⟨rfl, h3, h5, h4⟩ := tfix_back h (by omega)
        refine ⟨by omega, ?_, h5, ?_⟩
        · rw [Int.pow_succ, ← Int.ediv_ediv_of_nonneg (Int.le_of_lt (Int.pow_pos (by decide))), h3]
          cases c <;> simp <;> omega
        · rw [h2, h4, digs, h3, one_mod]
          rfl
/-! ### enough signs -/
theorem tdig_full {b : List Bool} {f n : Bool} : ∀ {k : Nat} {y : Int} {t : Nat}, t + k ≤ b.length → ∃ x, tdig b f n k y t = .ok x (t + k)
  | 0, y, t, h => ⟨y, rfl⟩
  | k + 1, y, t, h => by
    obtain ⟨x, hx⟩ := tdig_full (b := b) (f := f) (n := n) (k := k) (y := y * 2 + (if (b[t] != n) then 1 else 0)) (t := t + 1) (by omega)
    refine ⟨x, ?_⟩
    unfold tdig
    rw [takeB_full (by omega)]
    show tdig b f n k _ (t + 1) = _
    rw [hx]
    congr 1
    omega
theorem tones_full {b : List Bool} {f n : Bool} : ∀ {k : Nat} {w : Bool} {o t : Nat}, t + k ≤ b.length → ∃ o' t', tones b f n k w o t = .ok o' t' ∧ t' ≤ t + k
  | 0, w, o, t, h => ⟨o, t, rfl, Nat.le_refl _⟩
  | k + 1, w, o, t, h => by
    unfold tones
    rw [takeB_full (by omega)]
    cases (b[t] != n) with
    | false => exact ⟨o, t + 1, rfl, by omega⟩
    | true =>
      obtain ⟨o', t', h1, h2⟩ := tones_full (b := b) (f := f) (n := n) (k := k) (w := false) (o := o + 1) (t := t + 1) (by omega)
      exact ⟨o', t', h1, by omega⟩
theorem tcount_full {b : List Bool} {n w : Bool} {t : Nat} (h : t + 270 ≤ b.length) : ∃ v t', tcount b false n w t = .ok v t' := by
  obtain ⟨o, t1, h1, h2⟩ := tones_full (b := b) (f := false) (n := n) (k := 7) (w := w) (o := 0) (t := t) (by omega)
  have ho := tones_rng h1
  obtain ⟨s, h3⟩ := tdig_full (b := b) (f := false) (n := n) (k := o) (y := 1) (t := t1) (by omega)
  have hs := (tdig_rng h3).2
  have h8 : (2 : Nat) ^ (o + 1) ≤ 2 ^ 8 := Nat.pow_le_pow_right (by decide) (by omega)
  have e : ((1 + 1 : Int) * 2 ^ o) = ((2 ^ (o + 1) : Nat) : Int) := by rw [Nat.pow_succ, Nat.mul_comm]; simp
  rw [e] at hs
  obtain ⟨x, h4⟩ := tdig_full (b := b) (f := false) (n := n) (k := (s - 1).toNat) (y := 1) (t := t1 + o) (by omega)
  refine ⟨x - 1, t1 + o + (s - 1).toNat, ?_⟩
  unfold tcount
  rw [h1]
  show (tdig b false n o 1 t1).bind _ = _
  rw [h3]
  show (tdig b false n (s - 1).toNat 1 (t1 + o)).bind _ = _
  rw [h4]
  rfl
theorem twhole_full {b : List Bool} {n : Bool} {t : Nat} (h : t + 271 ≤ b.length) : ∃ v t', twhole b false n t = .ok v t' := by
  unfold twhole
  rw [takeB_full (by omega)]
  cases (b[t] != n) with
  | true => exact tcount_full (by omega)
  | false =>
    obtain ⟨v, t', h1⟩ := tcount_full (b := b) (n := !n) (w := false) (t := t + 1) (by omega)
    refine ⟨-1 - v, t', ?_⟩
    show (tcount b false (!n) false (t + 1)).bind _ = _
    rw [h1]
    rfl
theorem drop_pre {a b c : List Bool} {t t' : Nat} (h : (a ++ b).drop t = c ++ (a ++ b).drop t') (ht : t' ≤ a.length) (h0 : t' = t + c.length) : a.drop t = c ++ a.drop t' := by
  rw [List.drop_append_of_le_length (by omega), List.drop_append_of_le_length ht, ← List.append_assoc] at h
  exact List.append_cancel_right h
/-- where the signs are too few, more of them are read beyond the end -/
theorem tcount_more {b z : List Bool} {n w : Bool} {t : Nat} {c : Str} {p : Int} (h : tcount b false n w t = .bad c p) (ht : t ≤ b.length) (hz : 270 ≤ z.length) : ∃ v t', tcount (b ++ z) false n w t = .ok v t' ∧ b.length < t' := by
  obtain ⟨v, t', h1⟩ := tcount_full (b := b ++ z) (n := n) (w := w) (t := t) (by rw [List.length_append]; omega)
  refine ⟨v, t', h1, Classical.byContradiction fun hn => ?_⟩
  obtain ⟨hv, h2, h3⟩ := tcount_back h1
  have h4 := drop_pre h2 (by omega) (by rw [nz_len]; exact h3)
  obtain ⟨m, rfl⟩ := Int.eq_ofNat_of_zero_le hv.1
  have := (tcount_at (f := false) (w := w) hv h4).1
  rw [h] at this
  cases this
theorem twhole_more {b z : List Bool} {n : Bool} {t : Nat} {c : Str} {p : Int} (h : twhole b false n t = .bad c p) (ht : t ≤ b.length) (hz : 271 ≤ z.length) : ∃ v t', twhole (b ++ z) false n t = .ok v t' ∧ b.length < t' := by
  obtain ⟨v, t', h1⟩ := twhole_full (b := b ++ z) (n := n) (t := t) (by rw [List.length_append]; omega)
  refine ⟨v, t', h1, Classical.byContradiction fun hn => ?_⟩
  obtain ⟨hv, h2, h3⟩ := twhole_back h1
  have h4 := drop_pre h2 (by omega) (by rw [nz_len]; exact h3)
  have := (twhole_at (f := false) hv h4).1
  rw [h] at this
  cases this
theorem twhole_bad {b : List Bool} {n : Bool} {t : Nat} {c : Str} {p : Int} (h : twhole b false n t = .bad c p) : c = "Short" ∧ p = b.length := by
  unfold twhole at h
  cases h1 : takeB b false n true t with
  | bad c' p' =>
    rw [h1] at h
    cases (show Res.bad c' p' = Res.bad c p from h)
    obtain ⟨h2, h3, _⟩ := takeB_short h1
    exact ⟨h2, h3⟩
  | ok x t1 =>
    rw [h1] at h
    cases x with
    | true => exact tcount_bad (show tcount b false n false t1 = _ from h)
    | false =>
      have h : (tcount b false (!n) false t1).bind (fun x t2 => Res.ok (-1 - x) t2) = Res.bad c p := h
      cases h6 : tcount b false (!n) false t1 with
      | bad c' p' =>
        rw [h6] at h
        cases (show Res.bad c' p' = Res.bad c p from h)
        exact tcount_bad h6
      | ok x t2 => rw [h6] at h; cases h
theorem tfix_zeros {b : List Bool} {most : Int} : ∀ {k : Nat} {y : Int} {t : Nat}, 0 ≤ y → y ≤ most / 2 ^ k → t + k ≤ b.length → (∀ i, t ≤ i → i < t + k → b[i]? = some false) → ∃ x, tfix b false false most k y t = .ok x (t + k)
  | 0, y, t, _, _, _, _ => ⟨y, rfl⟩
  | k + 1, y, t, h0, hy, hl, hb => by
    have ht : takeB b false false false t = .ok false (t + 1) := by
      unfold takeB
      rw [hb t (Nat.le_refl _) (by omega)]
      rfl
    have h2 : most / 2 ^ (k + 1) = most / 2 ^ k / 2 := by rw [Int.pow_succ, Int.ediv_ediv_of_nonneg (Int.le_of_lt (Int.pow_pos (by decide)))]
    rw [h2] at hy
    obtain ⟨x, hx⟩ := tfix_zeros (b := b) (most := most) (k := k) (y := y * 2) (t := t + 1) (by omega) (by omega) (by omega) fun i h1 h3 => hb i (by omega) (by omega)
    refine ⟨x, ?_⟩
    unfold tfix
    rw [ht]
    show (if y * 2 + (if false = true then 1 else 0) > most / 2 ^ k then .bad "Wrong" _ else tfix b false false most k (y * 2 + (if false = true then 1 else 0)) (t + 1)) = _
    rw [if_neg (by simp; omega), show (if false = true then (1 : Int) else 0) = 0 from rfl, Int.add_zero, hx]
    congr 1
    omega
theorem tfix_more {b : List Bool} {most : Int} {m : Nat} : ∀ {k : Nat} {y : Int} {t : Nat} {p : Int}, k ≤ m → 0 ≤ y → y ≤ most / 2 ^ k → t ≤ b.length → tfix b false false most k y t = .bad "Short" p → p = b.length ∧ b.length < t + k ∧ ∃ x, tfix (b ++ List.replicate m false) false false most k y t = .ok x (t + k)
  | 0, y, t, p, _, _, _, _, h => by cases h
  | k + 1, y, t, p, hk, h0, hy, ht, h => by
    by_cases hlt : t < b.length
    · unfold tfix at h ⊢
      rw [takeB_full hlt] at h
      have hlt2 : t < (b ++ List.replicate m false).length := by rw [List.length_append]; omega
      rw [takeB_full hlt2]
      have eb : (b ++ List.replicate m false)[t] = b[t] := List.getElem_append_left hlt
      rw [eb]
      generalize (b[t] != false) = c at h ⊢
      have h : (if y * 2 + (if c then 1 else 0) > most / 2 ^ k then .bad "Wrong" _ else tfix b false false most k (y * 2 + (if c then 1 else 0)) (t + 1)) = Res.bad "Short" p := h
      by_cases hg : y * 2 + (if c then 1 else 0) > most / 2 ^ k
      · rw [if_pos hg] at h
        exact absurd (Res.bad.inj h).1 (by decide +kernel)
      · rw [if_neg hg] at h
        obtain ⟨h1, h2, x, h3⟩ := tfix_more (m := m) (by omega) (by cases c <;> simp <;> omega) (by omega) (by omega) h
        refine ⟨h1, by omega, x, ?_⟩
        show (if y * 2 + (if c then 1 else 0) > most / 2 ^ k then .bad "Wrong" _ else tfix _ false false most k (y * 2 + (if c then 1 else 0)) (t + 1)) = _
        rw [if_neg hg, h3]
        congr 1
        omega
    · obtain rfl : t = b.length := by omega
      refine ⟨?_, by omega, tfix_zeros h0 hy (by simp; omega) fun i h1 h2 => ?_⟩
      · unfold tfix at h
        unfold takeB at h
        rw [List.getElem?_eq_none (Nat.le_refl _)] at h
        have h : Res.bad "Short" (b.length : Int) = Res.bad "Short" p := h
        exact (Res.bad.inj h).2.symm
      · rw [List.getElem?_append_right h1, List.getElem?_replicate, if_pos (by omega)]
theorem tfix_bad {b : List Bool} {n : Bool} {most : Int} : ∀ {k : Nat} {y : Int} {t : Nat} {c : Str} {p : Int}, tfix b false n most k y t = .bad c p → (c = "Short" ∧ p = b.length) ∨ (c = "Wrong" ∧ (t : Int) ≤ p ∧ p < b.length)
  | 0, y, t, c, p, h => by cases h
  | k + 1, y, t, c, p, h => by
    unfold tfix at h
    cases ht : takeB b false n false t with
    | bad c' p' =>
      rw [ht] at h
      cases (show Res.bad c' p' = Res.bad c p from h)
      obtain ⟨h2, h3, _⟩ := takeB_short ht
      exact .inl ⟨h2, h3⟩
    | ok x t1 =>
      rw [ht] at h
      obtain ⟨rfl, hl, _⟩ := takeB_back ht
      have h : (if y * 2 + (if x then 1 else 0) > most / 2 ^ k then .bad "Wrong" (((t + 1 : Nat) : Int) - 1) else tfix b false n most k (y * 2 + (if x then 1 else 0)) (t + 1)) = Res.bad c p := h
      by_cases hg : y * 2 + (if x then 1 else 0) > most / 2 ^ k
      · rw [if_pos hg] at h
        cases h
        exact .inr ⟨rfl, by omega, by omega⟩
      · rw [if_neg hg] at h
        rcases tfix_bad h with h1 | ⟨h1, h2, h3⟩
        · exact .inl h1
        · exact .inr ⟨h1, by omega, h3⟩
/-! ### rows of like lengths stand as their worths do -/
def val : List Bool → Int
  | [] => 0
  | x :: l => (if x then 1 else 0) * 2 ^ l.length + val l
theorem val_rng : ∀ l : List Bool, 0 ≤ val l ∧ val l < 2 ^ l.length
  | [] => by simp [val]
  | x :: l => by
    have h := val_rng l
    have e : (2 : Int) ^ (l.length + 1) = 2 * 2 ^ l.length := by rw [Int.pow_succ, Int.mul_comm]
    rw [val, List.length_cons, e]
    cases x <;> simp <;> omega
theorem val_snoc : ∀ (l : List Bool) (c : Bool), val (l ++ [c]) = val l * 2 + (if c then 1 else 0)
  | [], c => by simp [val]
  | x :: l, c => by
    rw [List.cons_append, val, val_snoc l c, val, List.length_append, List.length_singleton, Int.pow_succ, Int.add_mul, ← Int.mul_assoc]
    omega
theorem val_lt : ∀ (a b : List Bool), a.length = b.length → (R a < R b ↔ val a < val b)
  | [], [], _ => by simp [R, val]
  | x :: a, y :: b, h => by
    have hl : a.length = b.length := by simpa using h
    have h1 := val_rng a
    have h2 := val_rng b
    have ih := val_lt a b hl
    show bc x :: R a < bc y :: R b ↔ _
    rw [List.cons_lt_cons_iff, ih, val, val, hl]
    rw [hl] at h1
    cases x <;> cases y <;> simp [bc] <;> omega
theorem val_digs (x : Int) : ∀ k : Nat, val (digs x k) = x % 2 ^ k
  | 0 => by simp [digs, val, Int.emod_one]
  | k + 1 => by
    rw [digs, val, digs_len, val_digs x k, mod_two_pow]
    have : x / 2 ^ k % 2 = 0 ∨ x / 2 ^ k % 2 = 1 := by omega
    rcases this with h | h <;> rw [h] <;> simp
theorem digs_take (x : Int) (k : Nat) : ∀ j : Nat, (digs x (j + k)).take j = digs (x / 2 ^ k) j
  | 0 => by simp [digs]
  | j + 1 => by
    rw [show j + 1 + k = (j + k) + 1 by omega, digs, List.take_succ_cons, digs_take x k j, digs]
    congr 2
    rw [Int.ediv_ediv_of_nonneg (Int.le_of_lt (Int.pow_pos (by decide))), ← Int.pow_add, Nat.add_comm]
theorem lt_flen (m : Nat) : m < 2 ^ flen m := by
  unfold flen
  split
  · rename_i h; subst h; decide
  · unfold blen; exact Nat.lt_log2_self
/-- the first j + 1 digits of m -/
theorem val_bin {m j : Nat} (h : j < flen m) : val ((bin m).take (j + 1)) = (m : Int) / 2 ^ (flen m - (j + 1)) := by
  unfold bin
  have e : flen m = (j + 1) + (flen m - (j + 1)) := by omega
  rw [show digs (m : Int) (flen m) = digs (m : Int) ((j + 1) + (flen m - (j + 1))) by rw [← e], digs_take, val_digs]
  have hp : (0 : Int) < 2 ^ (flen m - (j + 1)) := Int.pow_pos (by decide)
  refine Int.emod_eq_of_lt (Int.ediv_nonneg (by omega) (Int.le_of_lt hp)) ?_
  rw [Int.ediv_lt_iff_lt_mul hp, ← Int.pow_add, ← e]
  have := lt_flen m
  have e2 : ((2 : Int) ^ flen m) = ((2 ^ flen m : Nat) : Int) := by simp
  rw [e2]
  omega
theorem take_one {b : List Bool} {t j : Nat} (h : t + j < b.length) : (b.drop t).take (j + 1) = (b.drop t).take j ++ [b[t + j]] := by
  rw [List.take_add_one, List.getElem?_drop, List.getElem?_eq_getElem h]
  rfl
/-- more signs than the greatest number begins with -/
theorem too_step {b : List Bool} {m t j : Nat} (hj : j < flen m) (h : t + j < b.length) : decide (R ((bin m).take (j + 1)) < R ((b.drop t).take (j + 1))) = decide (val ((b.drop t).take j) * 2 + (if b[t + j] then 1 else 0) > (m : Int) / 2 ^ (flen m - (j + 1))) := by
  have hl : ((bin m).take (j + 1)).length = ((b.drop t).take (j + 1)).length := by
    rw [List.length_take, List.length_take, bin_len, List.length_drop]
    omega
  refine decide_eq_decide.mpr ?_
  rw [val_lt _ _ hl, val_bin hj, take_one h, val_snoc]
/-! ### a, b = f(..), f's promise met -/
theorem q_tupG {K : PySem.W.Frag} {σ : L2.St} {H : Hp} {sp : Sp} {E : XK} {t : TA} {vs : List V} {i j : Nat} {tz : TS} {D : Ends} (h : EvA t σ H vs) (k : ∀ H1, Ex H H1 → ∀ Q2 : VK, (∀ p x y H2, H2 p = some (.tup [x, y]) → tz D ((σ.set i (some x)).set j (some y)) H2 → Q2 (.ref p) H2) → sp vs H1 Q2 E) :
    tSeq (tAsg (tCall sp [] E t) (gTup K 2 (gCons (gName i) (gCons (gName j) gNil)))) tz D σ H :=
  h H (Ex.refl H) _ fun H1 e1 => by
    rw [List.append_nil]
    exact k H1 e1 _ fun p x y H2 h2 hk => ⟨p, [x, y], rfl, st_of h2, rfl, x, [y], rfl, y, [], rfl, rfl, hk⟩
end Kr
/-! signs read beyond the end as noughts; a, b = a new list of two; several small rules -/
namespace Kr
open PySem PySem.Spec PyProof.Rows L2 Evl
/-- the sign at a place, nought beyond the end -/
def sg (b : List Bool) (t : Nat) : Bool := b[t]?.getD false
theorem takeB_fill (b : List Bool) (t : Nat) : takeB b true false false t = .ok (sg b t) (t + 1) := by
  unfold takeB sg
  cases b[t]? with
  | none => rfl
  | some c => cases c <;> rfl
theorem takeB_strict {b : List Bool} {t : Nat} (h : t ≤ b.length) : takeB b false false false t = if t + 1 ≤ b.length then .ok (sg b t) (t + 1) else .bad "Short" b.length := by
  unfold takeB sg
  by_cases ht : t < b.length
  · rw [if_pos (show t + 1 ≤ b.length from ht), List.getElem?_eq_getElem ht]
    cases h2 : b[t] <;> simp
  · rw [if_neg (show ¬ t + 1 ≤ b.length from ht), List.getElem?_eq_none (by omega)]
    rfl
theorem tdig_fill (b : List Bool) : ∀ (k : Nat) (y : Int) (t : Nat), ∃ x, tdig b true false k y t = .ok x (t + k) ∧ (t ≤ b.length → tdig b false false k y t = if t + k ≤ b.length then .ok x (t + k) else .bad "Short" b.length)
  | 0, y, t => ⟨y, rfl, fun h => by rw [if_pos (by omega)]; rfl⟩
  | k + 1, y, t => by
    obtain ⟨x, h1, h2⟩ := tdig_fill b k (y * 2 + (if sg b t then 1 else 0)) (t + 1)
    refine ⟨x, ?_, fun h => ?_⟩
    · unfold tdig
      rw [takeB_fill]
      show tdig b true false k _ (t + 1) = _
      rw [h1]
      congr 1
      omega
    · unfold tdig
      rw [takeB_strict h]
      by_cases ht : t + 1 ≤ b.length
      · rw [if_pos ht]
        show tdig b false false k _ (t + 1) = _
        rw [h2 ht]
        by_cases h3 : t + 1 + k ≤ b.length
        · rw [if_pos h3, if_pos (by omega)]
          congr 1
          omega
        · rw [if_neg h3, if_neg (by omega)]
      · rw [if_neg ht, if_neg (by omega)]
        rfl
theorem tones_fill (b : List Bool) : ∀ (k o t : Nat), ∃ o' t', tones b true false k false o t = .ok o' t' ∧ t ≤ t' ∧ t' ≤ t + k ∧ (t ≤ b.length → tones b false false k false o t = if t' ≤ b.length then .ok o' t' else .bad "Short" b.length)
  | 0, o, t => ⟨o, t, rfl, Nat.le_refl _, Nat.le_refl _, fun h => by rw [if_pos h]; rfl⟩
  | k + 1, o, t => by
    cases hs : sg b t with
    | false =>
      refine ⟨o, t + 1, ?_, by omega, by omega, fun h => ?_⟩
      · unfold tones
        rw [takeB_fill, hs]
        rfl
      · unfold tones
        rw [takeB_strict h, hs]
        by_cases ht : t + 1 ≤ b.length
        · rw [if_pos ht, if_pos ht]
          rfl
        · rw [if_neg ht, if_neg ht]
          rfl
    | true =>
      obtain ⟨o', t', h1, h2, h4, h3⟩ := tones_fill b k (o + 1) (t + 1)
      refine ⟨o', t', ?_, by omega, by omega, fun h => ?_⟩
      · unfold tones
        rw [takeB_fill, hs]
        exact h1
      · unfold tones
        rw [takeB_strict h, hs]
        by_cases ht : t + 1 ≤ b.length
        · rw [if_pos ht]
          exact h3 ht
        · rw [if_neg ht, if_neg (by omega)]
          rfl
/-- the count that is read with noughts beyond the end, and the place behind it -/
theorem tcount_fill (b : List Bool) (t : Nat) : ∃ (o : Nat) (t1 : Nat) (s x : Int), tones b true false 7 false 0 t = .ok o t1 ∧ tdig b true false o 1 t1 = .ok s (t1 + o) ∧ tdig b true false (s - 1).toNat 1 (t1 + o) = .ok x (t1 + o + (s - 1).toNat) ∧
    tcount b true false false t = .ok (x - 1) (t1 + o + (s - 1).toNat) ∧ t ≤ t1 ∧ o ≤ 7 ∧ 1 ≤ s ∧ s ≤ 255 ∧ 1 ≤ x ∧ x < 2 ^ 255 ∧ t1 ≤ t + 7 ∧
    (t ≤ b.length → tcount b false false false t = if t1 + o + (s - 1).toNat ≤ b.length then .ok (x - 1) (t1 + o + (s - 1).toNat) else .bad "Short" b.length) := by
  obtain ⟨o, t1, h1, h2, h2b, h3⟩ := tones_fill b 7 0 t
  obtain ⟨s, h4, h5⟩ := tdig_fill b o 1 t1
  obtain ⟨x, h6, h7⟩ := tdig_fill b (s - 1).toNat 1 (t1 + o)
  have ho := tones_rng h1
  have hs := tdig_rng h4
  have hx := tdig_rng h6
  have p1 : (0 : Int) < 2 ^ o := Int.pow_pos (by decide)
  have p2 : (0 : Int) < 2 ^ (s - 1).toNat := Int.pow_pos (by decide)
  have hs255 : s ≤ 255 := by
    have h8 : (2 : Nat) ^ (o + 1) ≤ 2 ^ 8 := Nat.pow_le_pow_right (by decide) (by omega)
    have := hs.2
    have e : ((1 + 1 : Int) * 2 ^ o) = ((2 ^ (o + 1) : Nat) : Int) := by rw [Nat.pow_succ, Nat.mul_comm]; simp
    rw [e] at this
    omega
  have hx255 : x < 2 ^ 255 := by
    have h8 : (2 : Nat) ^ ((s - 1).toNat + 1) ≤ 2 ^ 255 := Nat.pow_le_pow_right (by decide) (by omega)
    have := hx.2
    have e : ((1 + 1 : Int) * 2 ^ (s - 1).toNat) = ((2 ^ ((s - 1).toNat + 1) : Nat) : Int) := by rw [Nat.pow_succ, Nat.mul_comm]; simp
    rw [e] at this
    have h9 : (((2 : Nat) ^ 255 : Nat) : Int) = (2 : Int) ^ 255 := by simp
    omega
  refine ⟨o, t1, s, x, h1, h4, h6, ?_, h2, by omega, by omega, hs255, by omega, hx255, h2b, fun ht => ?_⟩
  · unfold tcount
    rw [h1]
    show (tdig b true false o 1 t1).bind _ = _
    rw [h4]
    show (tdig b true false (s - 1).toNat 1 (t1 + o)).bind _ = _
    rw [h6]
    rfl
  · unfold tcount
    rw [h3 ht]
    by_cases ht1 : t1 ≤ b.length
    · rw [if_pos ht1]
      show (tdig b false false o 1 t1).bind _ = _
      rw [h5 ht1]
      by_cases ht2 : t1 + o ≤ b.length
      · rw [if_pos ht2]
        show (tdig b false false (s - 1).toNat 1 (t1 + o)).bind _ = _
        rw [h7 ht2]
        by_cases ht3 : t1 + o + (s - 1).toNat ≤ b.length
        · rw [if_pos ht3, if_pos ht3]
          rfl
        · rw [if_neg ht3, if_neg ht3]
          rfl
      · rw [if_neg ht2, if_neg (by omega)]
        rfl
    · rw [if_neg ht1, if_neg (by omega)]
      rfl
section
variable {K : PySem.W.Frag} {σ : L2.St} {H : Hp} {ta tb te : TE} {D : Ends} {tz : TS} {x y : V}
theorem q_lst2 {i j : Nat} (h : EvL te σ H [x, y]) (k : ∀ H1, Ex H H1 → tz D ((σ.set i (some x)).set j (some y)) H1) : tSeq (tAsg te (gLst K 2 (gCons (gName i) (gCons (gName j) gNil)))) tz D σ H :=
  h H (Ex.refl H) _ fun p H1 _ e1 h1 => ⟨p, [x, y], rfl, sq_of h1, rfl, x, [y], rfl, y, [], rfl, rfl, k H1 e1⟩
/-- page[at:at + 1] == '1' -/
theorem ev_sg {b : List Bool} {t i j : Nat} (hi : σ[i]? = some (some (.str (T (R b))))) (hj : σ[j]? = some (some (.int (t : Int)))) (hb : b.length ≤ 1000000) :
    Ev (tOp rEq (tSl rSlS (tVar i) (tPart (tVar j)) (tPart (tOp rAddI (tVar j) (tC (.int 1))))) (tC (.str (T [49])))) σ H (.bl (sg b t)) := by
  refine ev_is (ev_eqT (a := R ((b.drop t).take 1)) (ev_is (ev_slT (l := R b) (ev_var hi) (by rw [R_len]; omega) (eo_some (ev_var hj)) (eo_some (ev_is (ev_addI (ev_var hj) ev_c) (by rw [show (t : Int) + 1 = ((t + 1 : Nat) : Int) by omega])))) (by rw [R_mid, Nat.add_sub_cancel_left])) ev_c) ?_
  congr 1
  unfold sg
  by_cases ht : t < b.length
  · rw [List.drop_eq_getElem_cons ht, List.getElem?_eq_getElem ht]
    cases b[t] <;> rfl
  · rw [List.drop_eq_nil_of_le (by omega), List.getElem?_eq_none (by omega)]
    rfl
/-- [te for j in a new list] -/
theorem el_mapNL {tl : TE} {xs : List V} {j : Nat} {vs : List Nat} (g : V → V) (h : EvL tl σ H xs) (hz : xs.length ≤ 40000) (hw : ∀ x, wipe ((wipe σ vs).set j (some x)) vs = wipe σ vs)
    (he : ∀ x ∈ xs, ∀ H1, Ex H H1 → Ev te ((wipe σ vs).set j (some x)) H1 (g x)) : EvL (tLc (iList K tl) (gName j) tYes te vs) σ H (xs.map g) := by
  have key : given xs.length (fun _ => true) (fun i => g (xs.getD i .non)) = xs.map g := by
    rw [given_all]
    apply List.ext_getElem?
    intro i
    rw [List.getElem?_map, List.getElem?_map]
    by_cases hi : i < xs.length
    · rw [List.getElem?_range hi, List.getElem?_eq_getElem hi]
      simp [List.getD, List.getElem?_eq_getElem hi]
    · rw [List.getElem?_eq_none (by simpa using hi), List.getElem?_eq_none (by simpa using hi)]
      rfl
  rw [← key]
  refine el_lcNL (fun _ => true) _ h hz hw (fun i x H1 _ _ => fun H2 e2 Q q => q H2 (Ex.refl H2)) fun i x H1 e hi _ => ?_
  have e2 : xs.getD i .non = x := by simp [List.getD, hi]
  rw [e2]
  exact he x (List.mem_of_getElem? hi) H1 e
end
theorem cut_map (ns : List Int) (k : Nat) : cutV (ns.map V.int) none (some (k : Int)) = (ns.take k).map V.int := by
  unfold cutV
  rw [HT.sIx_none, HT.sIx_nat, List.drop_zero, Nat.sub_zero, List.length_map]
  by_cases h : k ≤ ns.length
  · rw [Nat.min_eq_left h, List.map_take]
  · rw [Nat.min_eq_right (by omega), List.take_of_length_le (by simp), List.take_of_length_le (by omega)]
theorem rep_bc (n : Nat) (c : Bool) : (List.replicate n [bc c]).flatten = R (List.replicate n c) := by
  induction n with
  | zero => rfl
  | succ n ih => rw [List.replicate_succ, List.flatten_cons, ih, List.replicate_succ]; rfl
theorem countRow_pos (n : Nat) : 0 < (countRow n).length := by
  unfold countRow
  by_cases h : blen (blen (n + 1)) - 1 < 7
  · rw [if_pos h]
    simp
    omega
  · rw [if_neg h]
    simp
    omega
theorem pageRow_pos (rs : List (List Bool)) : 0 < (pageRow rs).length := by
  unfold pageRow
  have := countRow_pos rs.length
  rw [List.length_append]
  omega
end Kr
/-! fractions and their steps; loops over reversed(..), divmod, items of a list or a tuple, names set by pairs -/
namespace Kr
open PySem PySem.Spec PyProof.Rows L2 Evl
/-! ### rules -/
def rDivmod : List V → Hp → VK → Prop := fun xs H Q => ∃ i j, xs = [.int i, .int j] ∧ CDivP i j ∧ ∀ p, H p = none → Q (.ref p) (upd H p (.tup [.int (i / j), .int (i % j)]))
def rIxA (K : PySem.W.Frag) : R2 := fun x y H Q => rIxL K x y H Q ∨ rIxT K x y H Q
section
variable {X : Cx}
theorem call_divmodN : CallR X (.builtin "divmod") rDivmod := call_divmodW
theorem ix_any : IxR X (rIxA X.K) := ix_list.or ix_tup
end
section
variable {K : PySem.W.Frag} {σ : L2.St} {H : Hp} {ta tb te tx : TE} {x y z v : V} {D : Ends} {tz tu : TS}
theorem eu_divmod {i j : Int} (ha : Ev ta σ H (.int i)) (hb : Ev tb σ H (.int j)) (h : CDivP i j) : EvU (tCB rDivmod (tCons ta (tCons tb tNil))) σ H [.int (i / j), .int (i % j)] := fun H1 e Q q =>
  ha H1 e _ fun H2 e2 => hb H2 (e.trans e2) _ fun H3 e3 => ⟨i, j, rfl, h, fun p hp => q p _ (fresh_back (e2.trans e3) hp) ((e2.trans e3).trans (Ex.new hp)) upd_same⟩
/-- a, b = a new tuple | one that stands -/
theorem q_tup2 {i j : Nat} (h : EvU te σ H [x, y]) (k : ∀ H1, Ex H H1 → tz D ((σ.set i (some x)).set j (some y)) H1) : tSeq (tAsg te (gTup K 2 (gCons (gName i) (gCons (gName j) gNil)))) tz D σ H :=
  h H (Ex.refl H) _ fun p H1 _ e1 h1 => ⟨p, [x, y], rfl, st_of h1, rfl, x, [y], rfl, y, [], rfl, rfl, k H1 e1⟩
theorem q_tupV {i j : Nat} {p : Addr} (h : Ev te σ H (.ref p)) (hp : SqT K H p [x, y]) (k : ∀ H1, Ex H H1 → tz D ((σ.set i (some x)).set j (some y)) H1) : tSeq (tAsg te (gTup K 2 (gCons (gName i) (gCons (gName j) gNil)))) tz D σ H :=
  h H (Ex.refl H) _ fun H1 e1 => ⟨p, [x, y], rfl, ex_t e1 hp, rfl, x, [y], rfl, y, [], rfl, rfl, k H1 e1⟩
/-- a, b = x, y -/
theorem s_par {i j : Nat} {t : TA} (h : EvA t σ H [x, y]) (k : ∀ H1, Ex H H1 → D.nx ((σ.set i (some x)).set j (some y)) H1) : tPar i j t D σ H := h H (Ex.refl H) _ fun H1 e1 => ⟨x, y, rfl, k H1 e1⟩
theorem q_par {i j : Nat} {t : TA} (h : EvA t σ H [x, y]) (k : ∀ H1, Ex H H1 → tz D ((σ.set i (some x)).set j (some y)) H1) : tSeq (tPar i j t) tz D σ H := s_par (D := { D with nx := tz D }) h k
/-- an item of a list or a tuple -/
theorem ev_ixA {p : Addr} {xs : List V} {i : Int} (ha : Ev ta σ H (.ref p)) (hp : SqL K H p xs ∨ SqT K H p xs) (hb : Ev tb σ H (.int i)) (hv : atI xs i = some v) : Ev (tOp (rIxA K) ta tb) σ H v := ev_op ha hb fun H1 e Q q => by
  rcases hp with hp | hp
  · exact .inl (rv_ixL hp hv H1 e Q q)
  · exact .inr (Evl.rv_ixT hp hv H1 e Q q)
/-- xs[-1] = e -/
theorem s_setLast {l : Addr} {xs : List V} (hl : H l = some (.lst xs)) (h : Ev te σ H v) (ho : Ev ta σ H (.ref l)) (hi : Ev tb σ H (.int (-1))) (hj : xs ≠ []) (k : ∀ H1, Ex H H1 → D.nx σ (upd H1 l (.lst (xs.dropLast ++ [v])))) : tAsg te (gSub ta tb rSetL) D σ H := h H (Ex.refl H) _ fun H1 e1 => ho H1 e1 _ fun H2 e2 => hi H2 (e1.trans e2) _ fun H3 e3 => by
  have hpos := List.length_pos_iff.mpr hj
  refine ⟨l, xs, -1, xs.length - 1, rfl, rfl, ((e1.trans e2).trans e3) l _ hl, ?_, ?_⟩
  · unfold ixN
    simp
    omega
  · have : xs.set (xs.length - 1) v = xs.dropLast ++ [v] := by
      obtain ⟨ys, y, rfl⟩ : ∃ ys y, xs = ys ++ [y] := ⟨xs.dropLast, xs.getLast hj, (List.dropLast_concat_getLast hj).symm⟩
      simp
    rw [this]
    exact k H3 ((e1.trans e2).trans e3)
/-- for x in reversed(a new list) -/
theorem s_forRevN {xs : List V} {tl : TE} {j : Nat} (h : EvL tl σ H xs) (Pv : Addr → Nat → L2.St → Hp → Prop) (h0 : ∀ p H1, H p = none → Ex H H1 → H1 p = some (.lst xs) → Pv p 0 σ H1) (hq : ∀ p i σ' H', Pv p i σ' H' → SqL K H' p xs)
    (hs : ∀ p (i : Nat) x σ' H', i < xs.length → xs[xs.length - 1 - i]? = some x → Pv p i σ' H' → tu { D with nx := Pv p (i + 1), ct := Pv p (i + 1), bk := D.nx } (σ'.set j (some x)) H') (hd : ∀ p σ' H', Pv p xs.length σ' H' → D.nx σ' H') : tFor (iRev K (tCons tl tNil)) (gName j) tu D σ H :=
  h H (Ex.refl H) _ fun p H1 hp e1 h1 => ⟨p, xs, rfl, sq_of h1, RT.for_Itv (Pv p) (h0 p H1 hp e1 h1) (hq p) (fun i x σ' H' hi hx hP => hs p i x σ' H' hi hx hP) (hd p)⟩
theorem q_forRevN {xs : List V} {tl : TE} {j : Nat} (h : EvL tl σ H xs) (Pv : Addr → Nat → L2.St → Hp → Prop) (h0 : ∀ p H1, H p = none → Ex H H1 → H1 p = some (.lst xs) → Pv p 0 σ H1) (hq : ∀ p i σ' H', Pv p i σ' H' → SqL K H' p xs)
    (hs : ∀ p (i : Nat) x σ' H', i < xs.length → xs[xs.length - 1 - i]? = some x → Pv p i σ' H' → tu { D with nx := Pv p (i + 1), ct := Pv p (i + 1), bk := tz D } (σ'.set j (some x)) H') (hd : ∀ p σ' H', Pv p xs.length σ' H' → tz D σ' H') : tSeq (tFor (iRev K (tCons tl tNil)) (gName j) tu) tz D σ H :=
  s_forRevN (D := { D with nx := tz D }) h Pv h0 hq hs hd
theorem ev_abs {i : Int} (h : Ev ta σ H (.int i)) : Ev (tCB rAbs (tCons ta tNil)) σ H (.int i.natAbs) := fun H1 e Q q =>
  h H1 e _ fun H2 e2 => ⟨i, rfl, by
    have : (if i < 0 then -i else i) = (i.natAbs : Int) := by split <;> omega
    rw [this]
    exact q H2 e2⟩
end
/-! ### fractions by their steps -/
def fracOf : List Int → Int × Int
  | [] => (1, 0)
  | a :: r => (a * (fracOf r).1 + (fracOf r).2, (fracOf r).1)
/-- all from one on, the last one from two on -/
def goodT : List Int → Prop
  | [] => False
  | [a] => 2 ≤ a
  | a :: b :: r => 1 ≤ a ∧ goodT (b :: r)
def goodS : List Int → Prop
  | [] => False
  | [_] => True
  | _ :: b :: r => goodT (b :: r)
theorem goodT_frac : ∀ {l : List Int}, goodT l → 0 < (fracOf l).2 ∧ (fracOf l).2 < (fracOf l).1
  | [a], h => by
    have h : 2 ≤ a := h
    show 0 < (1 : Int) ∧ (1 : Int) < a * 1 + 0
    omega
  | a :: b :: r, ⟨h1, h2⟩ => by
    obtain ⟨h3, h4⟩ := goodT_frac h2
    show 0 < (fracOf (b :: r)).1 ∧ (fracOf (b :: r)).1 < a * (fracOf (b :: r)).1 + (fracOf (b :: r)).2
    have : 1 * (fracOf (b :: r)).1 ≤ a * (fracOf (b :: r)).1 := Int.mul_le_mul_of_nonneg_right h1 (by omega)
    omega
/-- the rest behind the first step -/
theorem goodS_rest : ∀ {a : Int} {r : List Int}, goodS (a :: r) → 0 ≤ (fracOf r).2 ∧ (fracOf r).2 < (fracOf r).1
  | a, [], _ => by decide
  | a, b :: r, h => by
    have := goodT_frac (show goodT (b :: r) from h)
    omega
theorem goodS_tail {a b : Int} {r : List Int} (h : goodS (a :: b :: r)) : goodT (b :: r) := h
theorem goodT_S : ∀ {l : List Int}, goodT l → goodS l
  | [a], _ => trivial
  | a :: b :: r, h => h.2
theorem goodT_one : ∀ {l : List Int}, goodT l → ∀ s ∈ l, 1 ≤ s
  | [a], h, s, hs => by
    have h : 2 ≤ a := h
    rw [List.mem_singleton.mp hs]
    omega
  | a :: b :: r, h, s, hs => by
    rcases List.mem_cons.mp hs with rfl | hs
    · exact h.1
    · exact goodT_one h.2 s hs
theorem goodT_last : ∀ {l : List Int}, goodT l ↔ l ≠ [] ∧ (∀ s ∈ l, 1 ≤ s) ∧ l.getLast? ≠ some 1
  | [] => ⟨fun h => h.elim, fun h => absurd rfl h.1⟩
  | [a] => by
    show 2 ≤ a ↔ _
    simp
    omega
  | a :: b :: r => by
    show 1 ≤ a ∧ goodT (b :: r) ↔ _
    rw [goodT_last]
    simp only [List.getLast?_cons_cons, List.mem_cons, ne_eq, reduceCtorEq, not_false_eq_true, true_and, forall_eq_or_imp]
    constructor
    · rintro ⟨h1, h2, h3⟩
      exact ⟨⟨h1, h2⟩, h3⟩
    · rintro ⟨⟨h1, h2⟩, h3⟩
      exact ⟨h1, h2, h3⟩
/-- steps as the text asks for them -/
def endsOne (l : List Int) : Bool := decide (1 < l.length ∧ l.getLast? = some 1)
theorem goodS_iff {l : List Int} : goodS l ↔ l ≠ [] ∧ endsOne l = false ∧ ∀ s ∈ l.tail, 1 ≤ s := by
  cases l with
  | nil => exact ⟨fun h => h.elim, fun h => absurd rfl h.1⟩
  | cons a r => cases r with
    | nil => simp [goodS, endsOne]
    | cons b r =>
      show goodT (b :: r) ↔ _
      rw [goodT_last]
      simp [endsOne]
      exact ⟨fun h => ⟨h.2, h.1⟩, fun h => ⟨h.2, h.1⟩⟩
def stepsE (t b : Int) : List Int := if h : 0 < b then t / b :: stepsE b (t % b) else []
termination_by b.toNat
decreasing_by
  have := Int.emod_lt_of_pos t h
  have := Int.emod_nonneg t (show b ≠ 0 by omega)
  omega
def gcdE (a b : Int) : Nat := if h : 0 < b then gcdE b (a % b) else a.natAbs
termination_by b.toNat
decreasing_by
  have := Int.emod_lt_of_pos a h
  have := Int.emod_nonneg a (show b ≠ 0 by omega)
  omega
theorem stepsE_pos {t b : Int} (h : 0 < b) : stepsE t b = t / b :: stepsE b (t % b) := by rw [stepsE, dif_pos h]
theorem stepsE_zero (t : Int) : stepsE t 0 = [] := by rw [stepsE, dif_neg (by decide)]
theorem gcdE_pos {t b : Int} (h : 0 < b) : gcdE t b = gcdE b (t % b) := by rw [gcdE, dif_pos h]
theorem gcdE_zero (t : Int) : gcdE t 0 = t.natAbs := by rw [gcdE, dif_neg (by decide)]
theorem div_step {a p q : Int} (h0 : 0 ≤ q) (h : q < p) : (a * p + q) / p = a ∧ (a * p + q) % p = q := by
  constructor
  · rw [Int.add_comm, Int.add_mul_ediv_right _ _ (by omega), Int.ediv_eq_zero_of_lt h0 h, Int.zero_add]
  · rw [Int.add_comm, Int.add_mul_emod_self_right, Int.emod_eq_of_lt h0 h]
theorem steps_frac : ∀ {l : List Int}, goodS l → stepsE (fracOf l).1 (fracOf l).2 = l ∧ gcdE (fracOf l).1 (fracOf l).2 = 1
  | [a], h => by
    obtain ⟨h1, h2⟩ := goodS_rest h
    obtain ⟨e1, e2⟩ := div_step (a := a) h1 h2
    show stepsE (a * (fracOf []).1 + (fracOf []).2) (fracOf []).1 = [a] ∧ gcdE (a * (fracOf []).1 + (fracOf []).2) (fracOf []).1 = 1
    rw [stepsE_pos (by decide), gcdE_pos (by decide), e1, e2]
    show a :: stepsE 1 0 = [a] ∧ gcdE 1 0 = 1
    rw [stepsE_zero, gcdE_zero]
    exact ⟨rfl, rfl⟩
  | a :: b :: r, h => by
    obtain ⟨h1, h2⟩ := goodS_rest h
    obtain ⟨e1, e2⟩ := div_step (a := a) h1 h2
    obtain ⟨i1, i2⟩ := steps_frac (goodT_S (goodS_tail h))
    show stepsE (a * (fracOf (b :: r)).1 + (fracOf (b :: r)).2) (fracOf (b :: r)).1 = _ ∧ gcdE (a * (fracOf (b :: r)).1 + (fracOf (b :: r)).2) (fracOf (b :: r)).1 = 1
    rw [stepsE_pos (by omega), gcdE_pos (by omega), e1, e2, i1]
    exact ⟨rfl, i2⟩
theorem goodS_bottom : ∀ {l : List Int}, goodS l → 0 < (fracOf l).2
  | a :: r, h => by
    have := goodS_rest h
    show 0 < (fracOf r).1
    omega
theorem frac_lt {k : Nat} : ∀ {l : List Int}, (∀ s ∈ l, s.natAbs < 2 ^ k) → (fracOf l).1.natAbs < 2 ^ ((k + 1) * l.length + 1) ∧ (fracOf l).2.natAbs < 2 ^ ((k + 1) * l.length + 1)
  | [], _ => by simp [fracOf]
  | a :: r, h => by
    obtain ⟨h1, h2⟩ := frac_lt (l := r) fun s hs => h s (List.mem_cons_of_mem _ hs)
    have ha := h a (List.mem_cons_self ..)
    show (a * (fracOf r).1 + (fracOf r).2).natAbs < _ ∧ (fracOf r).1.natAbs < _
    have e : (k + 1) * (r.length + 1) + 1 = k + ((k + 1) * r.length + 1) + 1 := by rw [Nat.mul_succ]; omega
    rw [List.length_cons, e]
    generalize (k + 1) * r.length + 1 = m at h1 h2 ⊢
    have hm := wide_lt ha h1
    have h3 : (2 : Nat) ^ (k + m + 1) = 2 ^ (k + m) + 2 ^ (k + m) := by rw [Nat.pow_succ]; omega
    have h4 : (2 : Nat) ^ m ≤ 2 ^ (k + m) := Nat.pow_le_pow_right (by decide) (by omega)
    constructor
    · have := Int.natAbs_add_le (a * (fracOf r).1) (fracOf r).2
      omega
    · omega
theorem divp_of {t b : Int} (hb : 0 < b) (h : (t / b).natAbs < 2 ^ 2000) : CDivP t b := by
  refine divp_ok hb ?_
  -- t is below 2 ^ 2001 times b
  have e := Int.mul_ediv_add_emod t b
  have r0 := Int.emod_nonneg t (show b ≠ 0 by omega)
  have r1 := Int.emod_lt_of_pos t hb
  obtain ⟨n, rfl⟩ := Int.eq_ofNat_of_zero_le (Int.le_of_lt hb)
  have hn : 0 < n := by omega
  rw [bits_nat hn]
  have h1 : n < 2 ^ blen n := by unfold blen; exact Nat.lt_log2_self
  have ht : t.natAbs < 2 ^ (2001 + blen n) := by
    have h2 : t.natAbs ≤ n * (t / n).natAbs + n := by
      have h3 : t.natAbs ≤ ((n : Int) * (t / n)).natAbs + (t % n).natAbs := by
        rw [← e]
        have := Int.natAbs_add_le ((n : Int) * (t / n)) (t % n)
        rw [e]
        omega
      rw [Int.natAbs_mul, Int.natAbs_natCast] at h3
      omega
    have h5 : n * (t / (n : Int)).natAbs + n = n * ((t / (n : Int)).natAbs + 1) := by rw [Nat.mul_add, Nat.mul_one]
    have h6 : n * ((t / (n : Int)).natAbs + 1) ≤ n * 2 ^ 2000 := Nat.mul_le_mul_left _ h
    have h7 : n * 2 ^ 2000 < 2 ^ blen n * 2 ^ 2001 := Nat.lt_of_lt_of_le (Nat.mul_lt_mul_of_pos_right h1 (Nat.two_pow_pos _)) (Nat.mul_le_mul_left _ (Nat.pow_le_pow_right (by decide) (by decide)))
    rw [Nat.pow_add, Nat.mul_comm (2 ^ 2001)]
    omega
  have := PyProof.Rows.intBits_le ht
  omega
/-! ### rows of fractions -/
def tailRow (n : Bool) : List Int → List Bool
  | [] => nz n [false]
  | s :: r => nz n [true] ++ (nz (!n) (countRow (s - 1).toNat) ++ tailRow (!n) r)
def fracRow : List Int → List Bool
  | [] => []
  | a :: r => wholeRow a ++ tailRow false r
def rowOkS : List Int → Prop
  | [] => False
  | a :: r => wholeOk a ∧ ∀ s ∈ r, countOk (s - 1)
theorem tailRow_len : ∀ {n : Bool} {l : List Int}, (∀ s ∈ l, countOk (s - 1)) → (tailRow n l).length ≤ 301 * l.length + 1
  | n, [], _ => by simp [tailRow, nz]
  | n, s :: r, h => by
    have hc := h s (List.mem_cons_self ..)
    have h1 := countRow_len (n := (s - 1).toNat) (by rw [Int.toNat_of_nonneg hc.1]; exact hc)
    have h2 := tailRow_len (n := !n) (l := r) fun x hx => h x (List.mem_cons_of_mem _ hx)
    rw [tailRow, List.length_append, List.length_append, nz_len, nz_len, List.length_cons (as := r), Nat.mul_succ]
    simp only [List.length_singleton]
    omega
theorem exu_mut {a l : Addr} {H H' : Hp} {o : HO} (e : ExU a H H') (h : H l = none) : ExU a H (upd H' l o) := fun b u nb hb => by
  rw [upd_ne (ne_of_none hb h)]
  exact e b u nb hb
theorem s_asgZ {σ : L2.St} {H : Hp} {te : TE} {g : TG} {D : Ends} (h : Rz te σ H) : tAsg te g D σ H := h H (Ex.refl H) _
theorem q_asgZ {σ : L2.St} {H : Hp} {te : TE} {g : TG} {D : Ends} {tz : TS} (h : Rz te σ H) : tSeq (tAsg te g) tz D σ H := h H (Ex.refl H) _
/-- name = [f(..)], f's promise met -/
theorem q_asgLF {σ : L2.St} {H : Hp} {sp : Sp} {E : XK} {t : TA} {vs : List V} {i : Nat} {D : Ends} {tz : TS} (h : EvA t σ H vs) (k : ∀ H1, Ex H H1 → ∀ Q2 : VK, (∀ v H2, (∀ p, H2 p = none → tz D (σ.set i (some (.ref p))) (upd H2 p (.lst [v]))) → Q2 v H2) → sp vs H1 Q2 E) : tSeq (tAsg (tLst (tCons (tCall sp [] E t) tNil)) (gName i)) tz D σ H :=
  h H (Ex.refl H) _ fun H1 e1 => by
    rw [List.append_nil]
    exact k H1 e1 _ fun v H2 hk => ⟨sz_of (by simp), hk⟩
/-- xs.append(f(..) + c), f's promise met -/
theorem s_appF {K : PySem.W.Frag} {σ : L2.St} {H : Hp} {sp : Sp} {E : XK} {t : TA} {vs : List V} {ta tc : TE} {l : Addr} {xs : List V} {D : Ends} {c : Int} (hl : H l = some (.lst xs)) (ha : Ev ta σ H (.ref l)) (h : EvA t σ H vs)
    (k : ∀ H1, Ex H H1 → ∀ Q2 : VK, (∀ (i : Int) H2, H2 l = some (.lst xs) → xs.length < 100000 → Ev tc σ H2 (.int c) → (∀ H3, Ex H2 H3 → D.nx σ (upd H3 l (.lst (xs ++ [.int (i + c)])))) → Q2 (.int i) H2) → sp vs H1 Q2 E) :
    tDrop (tBM K "list" rAppend ta (tCons (tOp rAddI (tCall sp [] E t) tc) tNil)) D σ H := ha H (Ex.refl H) _ fun H1 e1 =>
  ⟨Or.inl ⟨rfl, xs, sq_of (e1 l _ hl)⟩, h H1 e1 _ fun H2 e2 => by
    rw [List.append_nil]
    exact k H2 (e1.trans e2) _ fun i H3 h3 hz hc hk => hc H3 (Ex.refl H3) _ fun H4 e4 => ⟨i, c, rfl, rfl, l, xs, _, rfl, rfl, e4 _ _ h3, sz_lt hz, hk H4 e4⟩⟩
/-! ### fractions as they are read -/
/-- the sign is exchanged at every second step -/
def lane (n : Bool) (k : Nat) : Bool := if k % 2 = 1 then !n else n
def tfracGo (b : List Bool) (f n : Bool) : Nat → List Int → Nat → Res (List Int)
  | 0, l, t => .ok l t
  | k + 1, l, t => (takeB b f (lane n (l.length - 1)) (endsOne l) t).bind fun c t1 => if c then (tcount b f (lane n l.length) true t1).bind fun v t2 => tfracGo b f n k (l ++ [v + 1]) t2 else if endsOne l then .bad "Wrong" ((t1 : Int) - 1) else .ok l t1
def tfrac (b : List Bool) (f n : Bool) (t : Nat) : Res (List Int) := (twhole b f n t).bind fun w t1 => tfracGo b f n (2 * (b.length - t1) + 3) [w] t1
def FinU (K : PySem.W.Frag) (a : Addr) (b : List Bool) (f : Bool) (H : Hp) (Q : VK) (E : XK) : Res (List Int) → Prop
  | .ok l t => ∀ p H', H p = none → ExU a H H' → H' p = some (.tup [.int (fracOf l).1, .int (fracOf l).2]) → SrcB K H' a b t f → Q (.ref p) H'
  | .bad c p => RaiseU a (.ref (He.ga K c)) p H E
theorem fresh_backU {a p : Addr} {H H' : Hp} (e : ExU a H H') (hp : p ≠ a) (h : H' p = none) : H p = none := by
  cases h1 : H p with
  | none => rfl
  | some o => rw [e p o hp h1] at h; cases h
theorem FinU.mono {K : PySem.W.Frag} {a : Addr} {b : List Bool} {f : Bool} {H H1 : Hp} {Q : VK} {E : XK} {r : Res (List Int)} (h : FinU K a b f H Q E r) (e : ExU a H H1) (ha : H1 a ≠ none) : FinU K a b f H1 Q E r := by
  cases r with
  | ok l t => exact fun p H' hp e2 h2 s => h p H' (fresh_backU e (fun z => ha (by rw [← z]; exact hp)) hp) (e.trans e2) h2 s
  | bad c p => exact RaiseU.mono e h
/-- a part of what is read, then the rest -/
theorem FinU.step {α : Type} {K : PySem.W.Frag} {val : α → V} {a : Addr} {b : List Bool} {f : Bool} {H : Hp} {Q Q2 : VK} {E : XK} {r : Res α} {g : α → Nat → Res (List Int)} (h : FinU K a b f H Q E (r.bind g))
    (k : ∀ v t H', r = .ok v t → ExU a H H' → SrcB K H' a b t f → FinU K a b f H' Q E (g v t) → Q2 (val v) H') : Fin K val a b f H Q2 E r := by
  cases r with
  | ok v t => exact fun H' e s => k v t H' rfl e s (FinU.mono (show FinU K a b f H Q E (g v t) from h) e s.some)
  | bad c p => exact h
/-- what the wished signs leave behind: a count of one -/
theorem tcount_wish {b : List Bool} {n : Bool} {t : Nat} (h : b.length ≤ t) : ∃ t', tcount b true n true t = .ok 1 t' := by
  have none : ∀ i, b.length ≤ i → b[i]? = none := fun i hi => List.getElem?_eq_none hi
  have t1 : ∀ (w : Bool) (i : Nat), b.length ≤ i → takeB b true n w i = .ok w (i + 1) := fun w i hi => by
    unfold takeB
    rw [none i hi]
    rfl
  refine ⟨t + 1 + 1 + 1 + 1, ?_⟩
  unfold tcount
  have ho : tones b true n 7 true 0 t = .ok 1 (t + 1 + 1) := by
    rw [tones, t1 true t h]
    show tones b true n 6 false 1 (t + 1) = _
    rw [tones, t1 false (t + 1) (by omega)]
    rfl
  have hd : ∀ i, b.length ≤ i → tdig b true n 1 1 i = .ok 2 (i + 1) := fun i hi => by
    rw [tdig, t1 false i hi]
    rfl
  rw [ho]
  show (tdig b true n 1 1 (t + 1 + 1)).bind _ = _
  rw [hd _ (by omega)]
  show (tdig b true n 1 1 (t + 1 + 1 + 1)).bind _ = _
  rw [hd _ (by omega)]
  rfl
theorem takeB_next {b : List Bool} {f n w c : Bool} {t t' : Nat} (h : takeB b f n w t = .ok c t') : t' = t + 1 := by
  unfold takeB at h
  cases e : b[t]? with
  | some x => rw [e] at h; cases h; rfl
  | none =>
    rw [e] at h
    cases f with
    | true => cases h; rfl
    | false => cases h
theorem tdig_next {b : List Bool} {f n : Bool} : ∀ {k : Nat} {x y : Int} {t t' : Nat}, tdig b f n k x t = .ok y t' → t' = t + k
  | 0, x, y, t, t', h => by cases h; rfl
  | k + 1, x, y, t, t', h => by
    unfold tdig at h
    cases e : takeB b f n false t with
    | bad c p => rw [e] at h; cases h
    | ok c t1 =>
      rw [e] at h
      have h1 := takeB_next e
      have h2 := tdig_next (show tdig b f n k _ t1 = .ok y t' from h)
      omega
theorem tones_next {b : List Bool} {f n : Bool} : ∀ {k : Nat} {w : Bool} {o o' t t' : Nat}, tones b f n k w o t = .ok o' t' → t ≤ t' ∧ (0 < k → t < t')
  | 0, w, o, o', t, t', h => by cases h; exact ⟨Nat.le_refl _, fun z => by omega⟩
  | k + 1, w, o, o', t, t', h => by
    unfold tones at h
    cases e : takeB b f n w t with
    | bad c p => rw [e] at h; cases h
    | ok c t1 =>
      rw [e] at h
      have h1 := takeB_next e
      cases c with
      | true =>
        have h2 := (tones_next (show tones b f n k false (o + 1) t1 = .ok o' t' from h)).1
        exact ⟨by omega, fun _ => by omega⟩
      | false =>
        cases (show Res.ok o t1 = .ok o' t' from h)
        exact ⟨by omega, fun _ => by omega⟩
theorem tcount_gen {b : List Bool} {f n w : Bool} {v : Int} {t t' : Nat} (h : tcount b f n w t = .ok v t') : countOk v ∧ t < t' := by
  unfold tcount at h
  cases h1 : tones b f n 7 w 0 t with
  | bad c p => rw [h1] at h; cases h
  | ok o t1 =>
    rw [h1] at h
    have h : (tdig b f n o 1 t1).bind _ = Res.ok v t' := h
    cases h2 : tdig b f n o 1 t1 with
    | bad c p => rw [h2] at h; cases h
    | ok s t2 =>
      rw [h2] at h
      have h : (tdig b f n (s - 1).toNat 1 t2).bind _ = Res.ok v t' := h
      cases h3 : tdig b f n (s - 1).toNat 1 t2 with
      | bad c p => rw [h3] at h; cases h
      | ok x t3 =>
        rw [h3] at h
        cases (show Res.ok (x - 1) t3 = Res.ok v t' from h)
        have ho := tones_rng h1
        have n1 := (tones_next h1).2 (by decide)
        have n2 := tdig_next h2
        have n3 := tdig_next h3
        have r2 := tdig_rng h2
        have r3 := tdig_rng h3
        have p1 : (0 : Int) < 2 ^ o := Int.pow_pos (by decide)
        have p2 : (0 : Int) < 2 ^ (s - 1).toNat := Int.pow_pos (by decide)
        have hs255 : s ≤ 255 := by
          have h8 : (2 : Nat) ^ (o + 1) ≤ 2 ^ 8 := Nat.pow_le_pow_right (by decide) (by omega)
          have := r2.2
          have e : ((1 + 1 : Int) * 2 ^ o) = ((2 ^ (o + 1) : Nat) : Int) := by rw [Nat.pow_succ, Nat.mul_comm]; simp
          rw [e] at this
          omega
        have hx255 : x < 2 ^ 255 := by
          have h8 : (2 : Nat) ^ ((s - 1).toNat + 1) ≤ 2 ^ 255 := Nat.pow_le_pow_right (by decide) (by omega)
          have := r3.2
          have e : ((1 + 1 : Int) * 2 ^ (s - 1).toNat) = ((2 ^ ((s - 1).toNat + 1) : Nat) : Int) := by rw [Nat.pow_succ, Nat.mul_comm]; simp
          rw [e] at this
          have h9 : (((2 : Nat) ^ 255 : Nat) : Int) = (2 : Int) ^ 255 := by simp
          omega
        exact ⟨⟨by omega, by omega⟩, by omega⟩
theorem twhole_gen {b : List Bool} {f n : Bool} {v : Int} {t t' : Nat} (h : twhole b f n t = .ok v t') : wholeOk v ∧ t < t' := by
  unfold twhole at h
  cases h1 : takeB b f n true t with
  | bad c p => rw [h1] at h; cases h
  | ok c t1 =>
    rw [h1] at h
    have h2 := takeB_next h1
    cases c with
    | true =>
      obtain ⟨hv, h4⟩ := tcount_gen (show tcount b f n false t1 = .ok v t' from h)
      exact ⟨(wholeOk_pos (by have := hv.1; omega)).mpr hv, by omega⟩
    | false =>
      have h : (tcount b f (!n) false t1).bind (fun x t2 => Res.ok (-1 - x) t2) = Res.ok v t' := h
      cases h6 : tcount b f (!n) false t1 with
      | bad c p => rw [h6] at h; cases h
      | ok x t2 =>
        rw [h6] at h
        cases (show Res.ok (-1 - x) t2 = Res.ok v t' from h)
        obtain ⟨hv, h4⟩ := tcount_gen h6
        have e : -1 - (-1 - x) = x := by omega
        exact ⟨(wholeOk_neg (by have := hv.1; omega)).mpr (by rw [e]; exact hv), by omega⟩
/-- the same, told from where the reading began -/
theorem FinU.stepB {α : Type} {K : PySem.W.Frag} {val : α → V} {a : Addr} {b : List Bool} {f : Bool} {H H1 : Hp} {Q Q2 : VK} {E : XK} {r : Res α} {g : α → Nat → Res (List Int)} (h : FinU K a b f H Q E (r.bind g)) (e : ExU a H H1)
    (k : ∀ v t H', r = .ok v t → ExU a H1 H' → SrcB K H' a b t f → FinU K a b f H Q E (g v t) → Q2 (val v) H') : Fin K val a b f H1 Q2 E r := by
  cases r with
  | ok v t => exact fun H' e s => k v t H' rfl e s h
  | bad c p => exact RaiseU.mono e h
theorem atI_last {α : Type} {xs : List α} (h : xs ≠ []) : atI xs (-1) = xs.getLast? := by
  have hp := List.length_pos_iff.mpr h
  unfold atI ixN
  rw [if_neg (by decide), if_pos (by omega), List.getLast?_eq_getElem?]
  show xs[((-1 : Int) + xs.length).toNat]? = _
  congr 1
  omega
theorem cut_tail (ns : List Int) : cutV (ns.map V.int) (some ((1 : Nat) : Int)) none = ns.tail.map V.int := by
  unfold cutV
  rw [HT.sIx_none, HT.sIx_nat, List.length_map]
  cases ns with
  | nil => rfl
  | cons a r =>
    simp
    rw [List.take_of_length_le (by simp)]
theorem cut_init (ns : List Int) : cutV (ns.map V.int) none (some (-1)) = ns.dropLast.map V.int := by
  unfold cutV
  rw [HT.sIx_none, List.drop_zero, Nat.sub_zero, List.length_map, List.dropLast_eq_take, List.map_take]
  congr 1
  show ((-1 : Int) + (ns.length : Int)).toNat = _
  omega
/-! ### a law's promise, the script's numbers within 2 ^ 20 bits -/
def bitsOk (ns : List Int) : Prop := ∀ k ∈ ns, k.natAbs < 2 ^ 1048576
def lawSpB (K : PySem.W.Frag) : Sp := fun vs H Q _ => ∃ (a : Addr) (ns : List Int), vs = [.ref a] ∧ SqL K H a (ns.map V.int) ∧ ns.length ≤ 63 ∧ bitsOk ns ∧ Only H ∧ ∀ H', Q (.bl true) H'
theorem lawSpB_len {K : PySem.W.Frag} {vs : List V} {H : Hp} {Q : VK} {E : XK} (h : lawSpB K vs H Q E) : vs.length = 1 := by
  obtain ⟨a, ns, rfl, _⟩ := h
  rfl
theorem bits_lt {k : Int} {n : Nat} (h : Builtin.Int.intBits k ≤ n) : k.natAbs < 2 ^ n := by
  unfold Builtin.Int.intBits at h
  by_cases h0 : k = 0
  · subst h0
    exact Nat.two_pow_pos n
  · rw [if_neg (by simpa using h0)] at h
    exact Nat.lt_of_lt_of_le Nat.lt_log2_self (Nat.pow_le_pow_right (by decide) h)
theorem law_inB {K : PySem.W.Frag} {H : Hp} {a : Addr} {ns : List Int} {E : XK} (hl : ns.length ≤ 63) (hb : ∀ k ∈ ns, Builtin.Int.intBits k ≤ 1048576) (hO : Only H) (hS : SqL K H a (ns.map V.int)) : lawSpB K [.ref a] H (fun v _ => v = .bl true) E :=
  ⟨a, ns, rfl, hS, hl, fun k hk => bits_lt (hb k hk), hO, fun _ => rfl⟩
theorem walk_wB {l : PySem.W.OpenLaw} {n k : Nat} {q : Program} {loose : List Str} {XP : (Str → Option Value) → Heap → Prop} {YP : World → Heap → Prop} {d : DefRec} {x : Str}
    (hn : l.most = some n) (hn2 : n ≤ sizeLine) (hdf : d.params.defaults = []) (hr : Room k callerA)
    (F : ∀ (w : World) (mg : Str → Option Value) (fa : Addr) (h : Heap), YP w h → h.Ns mainGlobals mg → mg d.name = some (.ref fa) →
      ∃ (K : PySem.W.Frag) (fd : FuncData), K.In h ∧ (∀ (s : Shared) (u : Value), BindsTo s fd ⟨[u], []⟩ [(x, u)]) ∧
        (∀ (H : Hp) (a : Addr) (ns : List Int), ns.length ≤ n → (∀ k ∈ ns, Builtin.Int.intBits k ≤ 1048576) → Only H → SqL K H a (ns.map V.int) → lawSpB K [.ref a] H (fun v _ => v = .bl true) fun _ _ _ => False) ∧
        ∀ base : Heap, K.In base → base.Ns mainGlobals mg → FnOk l.prog w K mg base (L2.CX l.prog w) k fa fd [x] (lawSpB K)) :
    PySem.W.WalkO q loose XP YP l.row.toRowW d [] (fun f vs => PySem.call f vs) := by
  refine Att.attach_callB hn hdf fun w s₀ s₁ mg mb fa o pm cd doc a vs ns G Y ho hd hcd hmg hobj hints hlen hbits hg => ?_
  have Z := F w mg fa s₁.heap Y G.T.g hmg
  obtain ⟨K, fd, KX, hb, hsp, hF⟩ := Z
  exact law_call KX G.T.g G.T.b G.T.builtins G.T.nolimit hg hobj hints (Nat.le_trans hlen hn2) hr hF hb (fun H hO hS => hsp H a ns hlen hbits hO hS)
    (fun H e s' z => cx_none z)
theorem cell_bits {ns : List Int} (h : bitsOk ns) (k : Int) : (cellAt ns k).natAbs < 2 ^ 1048576 := by
  unfold cellAt
  cases e : ns[k.toNat]? with
  | none => exact Nat.two_pow_pos _
  | some x => exact h x (List.mem_of_getElem? e)
theorem cut_intsN (ns : List Int) (lo hi : Option Int) : ∃ ms : List Int, cutV (ns.map V.int) lo hi = ms.map V.int ∧ ms.length ≤ ns.length ∧ ∀ m ∈ ms, m ∈ ns := by
  unfold cutV
  rw [← List.map_drop, ← List.map_take]
  exact ⟨_, rfl, by rw [List.length_take, List.length_drop]; omega, fun m hm => List.mem_of_mem_drop (List.mem_of_mem_take hm)⟩
/-! ### a fraction's row is read as its steps -/
theorem nz_nz (n m : Bool) (l : List Bool) : nz n (nz m l) = nz (n != m) l := by
  unfold nz
  rw [List.map_map]
  refine List.map_congr_left fun c _ => ?_
  cases c <;> cases n <;> cases m <;> rfl
theorem nz_tail : ∀ (n m : Bool) (l : List Int), nz n (tailRow m l) = tailRow (n != m) l
  | n, m, [] => by rw [tailRow, nz_nz, tailRow]
  | n, m, s :: r => by
    rw [tailRow, nz_app, nz_app, nz_nz, nz_nz, nz_tail n (!m) r, tailRow]
    have : (n != !m) = !(n != m) := by cases n <;> cases m <;> rfl
    rw [this]
theorem tailRow_pos : ∀ (n : Bool) (l : List Int), l.length + 1 ≤ (tailRow n l).length
  | n, [] => by simp [tailRow, nz]
  | n, s :: r => by
    have := tailRow_pos (!n) r
    rw [tailRow, List.length_append, List.length_append, nz_len, List.length_cons (as := r)]
    simp only [List.length_singleton]
    omega
theorem lane_next (n : Bool) {k : Nat} (h : 0 < k) : lane n k = !lane n (k - 1) := by
  unfold lane
  by_cases h1 : k % 2 = 1
  · rw [if_pos h1, if_neg (by omega)]
  · rw [if_neg h1, if_pos (by omega), Bool.not_not]
theorem tfracGo_at {b : List Bool} {f n : Bool} : ∀ {rest : List Int} {fuel : Nat} {dn : List Int} {t : Nat} {post : List Bool}, b.drop t = tailRow (lane n (dn.length - 1)) rest ++ post → rest.length < fuel → dn ≠ [] → goodS (dn ++ rest) → (∀ s ∈ rest, countOk (s - 1)) →
    tfracGo b f n fuel dn t = .ok (dn ++ rest) (t + (tailRow (lane n (dn.length - 1)) rest).length) ∧ b.drop (t + (tailRow (lane n (dn.length - 1)) rest).length) = post
  | [], fuel, dn, t, post, h, hf, hne, hg, hc => by
    obtain ⟨k, rfl⟩ : ∃ k, fuel = k + 1 := ⟨fuel - 1, by simp at hf; omega⟩
    rw [List.append_nil] at hg ⊢
    have he := (goodS_iff.mp hg).2.1
    obtain ⟨h1, h2⟩ := takeB_at (f := f) (w := endsOne dn) (c := false) (show b.drop t = (false != lane n (dn.length - 1)) :: post from h)
    refine ⟨?_, h2⟩
    rw [tfracGo, h1]
    unfold Res.bind
    dsimp only
    rw [if_neg (by decide), he, if_neg (by decide)]
    rfl
  | s :: r, fuel, dn, t, post, h, hf, hne, hg, hc => by
    obtain ⟨k, rfl⟩ : ∃ k, fuel = k + 1 := ⟨fuel - 1, by simp at hf; omega⟩
    have hpos := List.length_pos_iff.mpr hne
    have hcs := hc s (List.mem_cons_self ..)
    obtain ⟨m, hm⟩ := Int.eq_ofNat_of_zero_le hcs.1
    rw [hm] at hcs
    rw [tailRow, hm, Int.toNat_natCast] at h ⊢
    have hl2 : (!lane n (dn.length - 1)) = lane n dn.length := (lane_next n hpos).symm
    rw [hl2] at h ⊢
    obtain ⟨h1, h2⟩ := takeB_at (f := f) (w := endsOne dn) (c := true) (show b.drop t = (true != lane n (dn.length - 1)) :: ((nz (lane n dn.length) (countRow m) ++ tailRow (lane n dn.length) r) ++ post) from h)
    rw [List.append_assoc] at h2
    obtain ⟨h3, h4⟩ := tcount_at (f := f) (w := true) hcs h2
    have e1 : (dn ++ [s]).length - 1 = dn.length := by simp
    obtain ⟨h5, h6⟩ := tfracGo_at (f := f) (n := n) (rest := r) (fuel := k) (dn := dn ++ [s]) (t := t + 1 + (countRow m).length) (post := post) (by rw [e1]; exact h4) (by rw [List.length_cons] at hf; omega) (by simp) (by rw [List.append_assoc]; exact hg) fun x hx => hc x (List.mem_cons_of_mem _ hx)
    rw [e1] at h5 h6
    have el : t + (nz (lane n (dn.length - 1)) [true] ++ (nz (lane n dn.length) (countRow m) ++ tailRow (lane n dn.length) r)).length = t + 1 + (countRow m).length + (tailRow (lane n dn.length) r).length := by
      rw [List.length_append, List.length_append, nz_len, nz_len]
      simp only [List.length_singleton]
      omega
    rw [el]
    refine ⟨?_, h6⟩
    rw [tfracGo, h1]
    unfold Res.bind
    dsimp only
    rw [if_pos rfl, h3]
    dsimp only
    rw [show (m : Int) + 1 = s by omega, h5, List.append_assoc]
    rfl
theorem tfrac_at {b : List Bool} {f n : Bool} {l : List Int} {t : Nat} {post : List Bool} (hg : goodS l) (hr : rowOkS l) (h : b.drop t = nz n (fracRow l) ++ post) : tfrac b f n t = .ok l (t + (fracRow l).length) ∧ b.drop (t + (fracRow l).length) = post := by
  obtain ⟨a, r, rfl⟩ : ∃ a r, l = a :: r := List.exists_cons_of_ne_nil (goodS_iff.mp hg).1
  obtain ⟨hw, hc⟩ := hr
  have h : b.drop t = nz n (wholeRow a ++ tailRow false r) ++ post := h
  rw [nz_app, nz_tail, List.append_assoc, show (n != false) = n by cases n <;> rfl] at h
  obtain ⟨h1, h2⟩ := twhole_at (f := f) hw h
  have hl := congrArg List.length h2
  rw [List.length_append, List.length_drop] at hl
  have hp := tailRow_pos n r
  have hlane : lane n ([a].length - 1) = n := rfl
  obtain ⟨h3, h4⟩ := tfracGo_at (f := f) (n := n) (rest := r) (fuel := 2 * (b.length - (t + (wholeRow a).length)) + 3) (dn := [a]) (t := t + (wholeRow a).length) (post := post) (by rw [hlane]; exact h2) (by omega) (by simp) hg hc
  rw [hlane] at h3 h4
  have el : t + (fracRow (a :: r)).length = t + (wholeRow a).length + (tailRow n r).length := by
    show t + (wholeRow a ++ tailRow false r).length = _
    have := congrArg List.length (nz_tail n false r)
    rw [nz_len, show (n != false) = n by cases n <;> rfl] at this
    rw [List.length_append]
    omega
  rw [el]
  refine ⟨?_, h4⟩
  unfold tfrac
  rw [h1]
  exact h3
/-- f(g(..), ..), g's promise met -/
theorem go_callF {sp sp2 : Sp} {E E2 : XK} {t tr : TA} {vs : List V} {σ : L2.St} {H : Hp} {Q : VK} (h : EvA t σ H vs) (k : ∀ H1, Ex H H1 → ∀ Q2 : VK, (∀ x H2 us, EvA tr σ H2 us → (∀ H3, Ex H2 H3 → sp (x :: us) H3 Q E) → Q2 x H2) → sp2 vs H1 Q2 E2) :
    tCall sp [] E (tCons (tCall sp2 [] E2 t) tr) σ H Q :=
  h H (Ex.refl H) _ fun H1 e1 => by
    rw [List.append_nil]
    exact k H1 e1 _ fun x H2 us hu hs => hu H2 (Ex.refl H2) _ fun H3 e3 => by
      show sp ((x :: us) ++ []) H3 Q E
      rw [List.append_nil]
      exact hs H3 e3
end Kr
/-! lists of numbers compared, filtered -/
namespace Kr
open PySem PySem.Spec PyProof.Rows L2 Evl
abbrev IL (l : List Int) : List V := l.map V.int
theorem IL_plain (l : List Int) : (IL l).all plainV = true := by
  rw [List.all_eq_true]
  intro v hv
  obtain ⟨n, _, rfl⟩ := List.mem_map.mp hv
  rfl
theorem IL_app (l m : List Int) : IL (l ++ m) = IL l ++ IL m := List.map_append
theorem IL_set (l : List Int) (j : Nat) (s : Int) : (IL l).set j (.int s) = IL (l.set j s) := (List.map_set ..).symm
theorem eqvAll_IL : ∀ (a b : List Int), PyData.eqvAll ((IL a).map toD) ((IL b).map toD) = decide (a = b)
  | [], [] => by simp [IL, PyData.eqvAll]
  | [], y :: b => by simp [IL, PyData.eqvAll]
  | x :: a, [] => by simp [IL, PyData.eqvAll]
  | x :: a, y :: b => by
    show (PyData.eqv (.int x) (.int y) && PyData.eqvAll ((IL a).map toD) ((IL b).map toD)) = _
    rw [eqvAll_IL a b, PyData.eqv]
    by_cases h : x = y
    · subst h
      by_cases h2 : a = b
      · subst h2; simp
      · simp [h2]
    · simp [h]
theorem eqv_IL (a b : List Int) : PyData.eqv (.list ((IL a).map toD)) (.list ((IL b).map toD)) = decide (a = b) := by
  rw [PyData.eqv]
  exact eqvAll_IL a b
section
variable {K : PySem.W.Frag} {σ : L2.St} {H : Hp} {ta tb tl te : TE}
theorem ev_eqIL {p q : Addr} {a b : List Int} (ha : Ev ta σ H (.ref p)) (hp : SqL K H p (IL a)) (hb : Ev tb σ H (.ref q)) (hq : SqL K H q (IL b)) : Ev (tOp (rEqD K) ta tb) σ H (.bl (decide (a = b))) := fun H1 e Q k =>
  ha H1 e _ fun H2 e2 => hb H2 (e.trans e2) _ fun H3 e3 => ⟨.list ((IL a).map toD), .list ((IL b).map toD), .lst (ex_l ((e.trans e2).trans e3) hp) (dpAll_plain (IL_plain a)), .lst (ex_l ((e.trans e2).trans e3) hq) (dpAll_plain (IL_plain b)), shaped_list (IL_plain a), shaped_list (IL_plain b), by
    rw [eqv_IL]
    exact k H3 (e2.trans e3)⟩
theorem ev_neIL {p q : Addr} {a b : List Int} (ha : Ev ta σ H (.ref p)) (hp : SqL K H p (IL a)) (hb : Ev tb σ H (.ref q)) (hq : SqL K H q (IL b)) : Ev (tOp (rNeD K) ta tb) σ H (.bl (!decide (a = b))) := fun H1 e Q k =>
  ha H1 e _ fun H2 e2 => hb H2 (e.trans e2) _ fun H3 e3 => ⟨.list ((IL a).map toD), .list ((IL b).map toD), .lst (ex_l ((e.trans e2).trans e3) hp) (dpAll_plain (IL_plain a)), .lst (ex_l ((e.trans e2).trans e3) hq) (dpAll_plain (IL_plain b)), shaped_list (IL_plain a), shaped_list (IL_plain b), by
    rw [eqv_IL]
    exact k H3 (e2.trans e3)⟩
theorem ev_eqI0 {p : Addr} {a : List Int} (ha : Ev ta σ H (.ref p)) (hp : SqL K H p (IL a)) : Ev (tOp (rEqD K) ta (tLst tNil)) σ H (.bl (decide (a = []))) := fun H1 e Q k =>
  ha H1 e _ fun H2 e2 => (el_lst ea_nil (by simp) : EvL (tLst tNil) σ H2 []) H2 (Ex.refl H2) _ fun r H3 _ e3 hr => ⟨.list ((IL a).map toD), .list ((IL []).map toD), .lst (ex_l ((e.trans e2).trans e3) hp) (dpAll_plain (IL_plain a)), .lst (sq_of hr) (dpAll_plain (IL_plain [])), shaped_list (IL_plain a), shaped_list (IL_plain []), by
    rw [eqv_IL]
    exact k H3 (e2.trans e3)⟩
/-- a call of three, the second a new tuple -/
theorem ev_callVU {tc : TE} {sp : Sp} {E : XK} {xs : List V} {x y z : V} (ha : Ev ta σ H x) (hb : EvU tb σ H xs) (hc : ∀ H1, Ex H H1 → Ev tc σ H1 y) (hs : ∀ r H1, Ex H H1 → H1 r = some (.tup xs) → SpV sp [x, .ref r, y] H1 z) : Ev (tCall sp [] E (tCons ta (tCons tb (tCons tc tNil)))) σ H z := fun H1 e Q q =>
  ha H1 e _ fun H2 e2 => hb H2 (e.trans e2) _ fun r H3 _ e3 h3 => hc H3 ((e.trans e2).trans e3) H3 (Ex.refl H3) _ fun H4 e4 => hs r H4 (((e.trans e2).trans e3).trans e4) (e4 _ _ h3) H4 (Ex.refl H4) Q (fun H5 e5 => q H5 (((e2.trans e3).trans e4).trans e5)) E
/-- [x for x in a new list of numbers if ..] -/
theorem el_filtI {l : List Int} {t : TT} {j : Nat} {vs : List Nat} (p : Int → Bool) (h : EvL tl σ H (IL l)) (hz : l.length ≤ 40000) (hw : ∀ x, wipe ((wipe σ vs).set j (some x)) vs = wipe σ vs) (hj : ∀ x : V, ((wipe σ vs).set j (some x))[j]? = some (some x))
    (ht : ∀ r ∈ l, ∀ H1, Ex H H1 → EvT t ((wipe σ vs).set j (some (.int r))) H1 (p r)) : EvL (tLc (iList K tl) (gName j) t (tVar j) vs) σ H (IL (l.filter p)) := by
  have key : given (IL l).length (fun i => p (l.getD i 0)) (fun i => V.int (l.getD i 0)) = IL (l.filter p) := by
    unfold given
    rw [List.length_map]
    exact range_filter l 0 p fun r => V.int r
  rw [← key]
  have at_ : ∀ {i : Nat} {x : V}, (IL l)[i]? = some x → ∃ h : i < l.length, x = .int l[i] ∧ l.getD i 0 = l[i] := fun {i x} hi => by
    have h := (List.getElem?_eq_some_iff.mp hi).1
    rw [List.length_map] at h
    rw [List.getElem?_map, List.getElem?_eq_getElem h] at hi
    exact ⟨h, (Option.some.inj hi).symm, by simp [List.getD, h]⟩
  refine el_lcNL _ _ h (by rw [List.length_map]; exact hz) hw (fun i x H1 e hi => ?_) (fun i x H1 e hi _ => ?_)
  · obtain ⟨hl, rfl, e2⟩ := at_ hi
    rw [e2]
    exact ht _ (List.getElem_mem hl) H1 e
  · obtain ⟨hl, rfl, e2⟩ := at_ hi
    rw [e2]
    exact ev_var (hj _)
end
/-! ### how many steps a fraction has, and how great they are -/
theorem steps_few : ∀ (k : Nat) (t b : Int), b < 2 ^ k → (stepsE t b).length ≤ 2 * k + 1
  | 0, t, b, h => by
    have : ¬ 0 < b := by simp at h; omega
    rw [stepsE, dif_neg this]
    simp
  | k + 1, t, b, h => by
    by_cases hb : 0 < b
    · have m0 := Int.emod_nonneg t (show b ≠ 0 by omega)
      have m1 := Int.emod_lt_of_pos t hb
      rw [stepsE_pos hb]
      generalize t % b = r at m0 m1 ⊢
      by_cases hr : 0 < r
      · rw [stepsE_pos hr]
        have n0 := Int.emod_nonneg b (show r ≠ 0 by omega)
        have n1 := Int.emod_lt_of_pos b hr
        have e := Int.mul_ediv_add_emod b r
        have q1 : 1 ≤ b / r := (Int.le_ediv_iff_mul_le hr).mpr (by omega)
        have q2 : r * 1 ≤ r * (b / r) := Int.mul_le_mul_of_nonneg_left q1 (by omega)
        have hp : (2 : Int) ^ (k + 1) = 2 * 2 ^ k := by rw [Int.pow_succ, Int.mul_comm]
        have := steps_few k r (b % r) (by omega)
        simp only [List.length_cons]
        omega
      · rw [stepsE, dif_neg hr]
        simp
    · rw [stepsE, dif_neg hb]
      simp
theorem steps_small {k : Nat} : ∀ (n : Nat) (t b : Int), b.toNat ≤ n → t.natAbs < 2 ^ k → b < 2 ^ k → ∀ s ∈ stepsE t b, s.natAbs < 2 ^ k
  | n, t, b, hn, ht, hb, s, hs => by
    by_cases h0 : 0 < b
    · rw [stepsE_pos h0] at hs
      rcases List.mem_cons.mp hs with rfl | hs
      · have := Int.natAbs_ediv_le_natAbs t b
        omega
      · have m0 := Int.emod_nonneg t (show b ≠ 0 by omega)
        have m1 := Int.emod_lt_of_pos t h0
        have hk : ((2 : Int) ^ k) = ((2 ^ k : Nat) : Int) := by simp
        cases n with
        | zero => omega
        | succ n => exact steps_small n b (t % b) (by omega) (by rw [hk] at hb; omega) (by omega) s hs
    · rw [stepsE, dif_neg h0] at hs
      cases hs
/-! ### values drawn, in operations, tuples, tests -/
def Sm (x : Int) : Prop := x.natAbs < 2 ^ 1000
section
variable {K : PySem.W.Frag} {σ : L2.St} {H : Hp} {ta tb te : TE} {D : Ends} {tu tw : TS} {x y : V} {P P' : V → Prop} {r : R2}
theorem ew_op (ha : Ev ta σ H x) (hb : EvW tb σ H P) (hr : ∀ y, P y → ∃ z, P' z ∧ ∀ H1, RV r x y H1 z) : EvW (tOp r ta tb) σ H P' := fun H1 e Q q =>
  ha H1 e _ fun H2 e2 => hb H2 (e.trans e2) _ fun y H3 hy e3 => by
    obtain ⟨z, hz, h⟩ := hr y hy
    exact h H3 H3 (Ex.refl H3) Q fun H4 e4 => q z H4 hz ((e2.trans e3).trans e4)
theorem ew_op1 (ha : EvW ta σ H P) (hb : ∀ H1, Ex H H1 → Ev tb σ H1 y) (hr : ∀ x, P x → ∃ z, P' z ∧ ∀ H1, RV r x y H1 z) : EvW (tOp r ta tb) σ H P' := fun H1 e Q q =>
  ha H1 e _ fun x H2 hx e2 => hb H2 (e.trans e2) H2 (Ex.refl H2) _ fun H3 e3 => by
    obtain ⟨z, hz, h⟩ := hr x hx
    exact h H3 H3 (Ex.refl H3) Q fun H4 e4 => q z H4 hz ((e2.trans e3).trans e4)
theorem ew_of (h : Ev te σ H x) (hx : P x) : EvW te σ H P := fun H1 e Q q => h H1 e Q fun H2 e2 => q x H2 hx e2
/-- return (a, b), both drawn -/
theorem s_retTW2 (h1 : EvW ta σ H P) (h2 : ∀ H1, Ex H H1 → EvW tb σ H1 P') (k : ∀ v w H1, P v → P' w → Ex H H1 → RetU [v, w] H1 D.rt) : tRet (tTup (tCons ta (tCons tb tNil))) D σ H :=
  h1 H (Ex.refl H) _ fun v H1 hv e1 => h2 H1 e1 H1 (Ex.refl H1) _ fun w H2 hw e2 => ⟨sz_of (by simp), fun p hp => k v w H2 hv hw (e1.trans e2) p _ hp (Ex.new hp) upd_same⟩
/-- if f(..), f's promise met -/
theorem s_ifF {sp : Sp} {E : XK} {t : TA} {vs : List V} (h : EvA t σ H vs) (k : ∀ H1, Ex H H1 → ∀ Q2 : VK, (∀ (G : Bool) H2, (G = true → tu D σ H2) → (G = false → tw D σ H2) → Q2 (.bl G) H2) → sp vs H1 Q2 E) : tIfS (tB (tCall sp [] E t)) tu tw D σ H :=
  h H (Ex.refl H) _ fun H1 e1 => by
    rw [List.append_nil]
    exact k H1 e1 _ fun G H2 h1 h2 => ⟨G, rfl, by
      cases G with
      | true => exact h1 rfl
      | false => exact h2 rfl⟩
/-- name = f((..)), the one argument a new tuple, in a try -/
theorem s_asgXU {sp : Sp} {E : L2.St → XK} {xs : List V} {i : Nat} (h : EvU te σ H xs) (k : ∀ p H1, H p = none → Ex H H1 → H1 p = some (.tup xs) → sp [.ref p] H1 (fun v H2 => D.nx (σ.set i (some v)) H2) (E σ)) : tAsg (tCallS sp E (tCons te tNil)) (gName i) D σ H :=
  h H (Ex.refl H) _ fun p H1 hp e1 h1 => k p H1 hp e1 h1
end
end Kr
/-! fractions in order: their rows stand as they do; lists of lists of numbers -/
namespace Kr
open PySem PySem.Spec PyProof.Rows L2 Evl
/-! ### the order -/
def crs (l m : List Int) : Int := (fracOf l).1 * (fracOf m).2
theorem crs_head {a b : Int} {r s : List Int} (hr : goodS (a :: r)) (hs : goodS (b :: s)) (h : a < b) : crs (a :: r) (b :: s) < crs (b :: s) (a :: r) := by
  obtain ⟨q0, q1⟩ := goodS_rest hr
  obtain ⟨p0, p1⟩ := goodS_rest hs
  show (a * (fracOf r).1 + (fracOf r).2) * (fracOf s).1 < (b * (fracOf s).1 + (fracOf s).2) * (fracOf r).1
  generalize (fracOf r).1 = P at *
  generalize (fracOf r).2 = Q at *
  generalize (fracOf s).1 = P' at *
  generalize (fracOf s).2 = Q' at *
  have h1 : Q * P' < P * P' := Int.mul_lt_mul_of_pos_right q1 (by omega)
  have h2 : 0 ≤ Q' * P := Int.mul_nonneg p0 (by omega)
  have h3 : 0 < P * P' := Int.mul_pos (by omega) (by omega)
  have h4 : (a + 1) * (P * P') ≤ b * (P * P') := Int.mul_le_mul_of_nonneg_right (by omega) (by omega)
  have e1 : (a * P + Q) * P' = a * (P * P') + Q * P' := by rw [Int.add_mul, Int.mul_assoc]
  have e2 : (b * P' + Q') * P = b * (P * P') + Q' * P := by rw [Int.add_mul, Int.mul_assoc, Int.mul_comm P' P]
  rw [Int.add_mul] at h4
  rw [e1, e2]
  omega
theorem crs_same {a : Int} {r s : List Int} : crs (a :: r) (a :: s) - crs (a :: s) (a :: r) = crs s r - crs r s := by
  show (a * (fracOf r).1 + (fracOf r).2) * (fracOf s).1 - (a * (fracOf s).1 + (fracOf s).2) * (fracOf r).1 = (fracOf s).1 * (fracOf r).2 - (fracOf r).1 * (fracOf s).2
  grind
theorem goodS_down {a : Int} {r : List Int} (h : goodS (a :: r)) : r = [] ∨ goodS r := by
  cases r with
  | nil => exact .inl rfl
  | cons b r => exact .inr (goodT_S (goodS_tail h))
theorem crs_eq : ∀ {l m : List Int}, l = [] ∨ goodS l → m = [] ∨ goodS m → crs l m = crs m l → l = m
  | [], [], _, _, _ => rfl
  | [], b :: s, _, hm, h => by
    have h2 := goodS_rest (hm.resolve_left (by simp))
    have : (1 : Int) * (fracOf s).1 = (b * (fracOf s).1 + (fracOf s).2) * 0 := h
    omega
  | a :: r, [], hl, _, h => by
    have h2 := goodS_rest (hl.resolve_left (by simp))
    have : (a * (fracOf r).1 + (fracOf r).2) * 0 = (1 : Int) * (fracOf r).1 := h
    omega
  | a :: r, b :: s, hl, hm, h => by
    have hl := hl.resolve_left (by simp)
    have hm := hm.resolve_left (by simp)
    rcases Int.lt_trichotomy a b with h1 | rfl | h1
    · have := crs_head hl hm h1; omega
    · have e := crs_same (a := a) (r := r) (s := s)
      rw [crs_eq (goodS_down hl) (goodS_down hm) (by omega)]
    · have := crs_head hm hl h1; omega
def tailOk (l : List Int) : Prop := ∀ s ∈ l, countOk (s - 1)
theorem tail_split : ∀ {r s : List Int}, r = [] ∨ goodS r → s = [] ∨ goodS s → tailOk r → tailOk s → crs s r < crs r s → Split (tailRow false r) (tailRow false s)
  | [], [], _, _, _, _, h => absurd h (Int.lt_irrefl _)
  | [], b :: s, _, hm, _, _, h => ⟨[], [], _, rfl, rfl⟩
  | a :: r, [], hl, _, _, _, h => by
    have h2 := goodS_rest (hl.resolve_left (by simp))
    have : (1 : Int) * (fracOf r).1 < (a * (fracOf r).1 + (fracOf r).2) * 0 := h
    omega
  | a :: r, b :: s, hl, hm, cl, cm, h => by
    have hl := hl.resolve_left (by simp)
    have hm := hm.resolve_left (by simp)
    have ca := cl a (List.mem_cons_self ..)
    have cb := cm b (List.mem_cons_self ..)
    have key : ∀ (x : Int) (u : List Int), tailRow false (x :: u) = [true] ++ (neg (countRow (x - 1).toNat) ++ neg (tailRow false u)) := fun x u => by
      have e : ∀ c : List Bool, nz true c = neg c := fun c => nz_true c
      rw [tailRow, ← e (tailRow false u), nz_tail, ← e (countRow _)]
      rfl
    rw [key, key]
    rcases Int.lt_trichotomy a b with h1 | rfl | h1
    · have := crs_head hl hm h1; omega
    · have e := crs_same (a := a) (r := r) (s := s)
      exact ((tail_split (goodS_down hm) (goodS_down hl) (fun x hx => cm x (List.mem_cons_of_mem _ hx)) (fun x hx => cl x (List.mem_cons_of_mem _ hx)) (by omega)).neg.pre _).pre _
    · refine Split.pre (Split.post (Split.neg (countRow_split ?_ ?_ (by have := ca.1; have := cb.1; omega))) _ _) _
      · rw [Int.toNat_of_nonneg cb.1]; exact cb
      · rw [Int.toNat_of_nonneg ca.1]; exact ca
termination_by r s => r.length + s.length
theorem frac_split {l m : List Int} (hl : goodS l) (hm : goodS m) (rl : rowOkS l) (rm : rowOkS m) (h : crs l m < crs m l) : Split (fracRow l) (fracRow m) := by
  obtain ⟨a, r, rfl⟩ : ∃ a r, l = a :: r := List.exists_cons_of_ne_nil (goodS_iff.mp hl).1
  obtain ⟨b, s, rfl⟩ : ∃ a r, m = a :: r := List.exists_cons_of_ne_nil (goodS_iff.mp hm).1
  show Split (wholeRow a ++ tailRow false r) (wholeRow b ++ tailRow false s)
  rcases Int.lt_trichotomy a b with h1 | rfl | h1
  · exact (wholeRow_split rl.1 rm.1 h1).post _ _
  · have e := crs_same (a := a) (r := r) (s := s)
    exact (tail_split (goodS_down hl) (goodS_down hm) rl.2 rm.2 (by omega)).pre _
  · have := crs_head hm hl h1; omega
/-! ### lists made of what is drawn; lists of new tuples -/
/-- a new list and what is known of it when it is made -/
def EvR (te : TE) (σ : L2.St) (H : Hp) (P : List V → Hp → Prop) : Prop := ∀ H1, Ex H H1 → ∀ Q : VK, (∀ p xs H2, H1 p = none → Ex H1 H2 → H2 p = some (.lst xs) → P xs H2 → Q (.ref p) H2) → te σ H1 Q
section
variable {K : PySem.W.Frag} {σ : L2.St} {H : Hp} {ta tb te tl : TE} {D : Ends} {tz : TS}
theorem q_asgR {i : Nat} {P : List V → Hp → Prop} (h : EvR te σ H P) (k : ∀ xs p H1, P xs H1 → H p = none → Ex H H1 → H1 p = some (.lst xs) → tz D (σ.set i (some (.ref p))) H1) : tSeq (tAsg te (gName i)) tz D σ H := h H (Ex.refl H) _ fun p xs H1 hp e1 h1 hP => k xs p H1 hP hp e1 h1
theorem em_cat1 {P : V → Prop} {xs : List V} (ha : EvL ta σ H xs) (hb : ∀ H1, Ex H H1 → EvW tb σ H1 P) (hz : xs.length + 1 ≤ 100000) : EvM (tOp rCat ta (tLst (tCons tb tNil))) σ H (fun zs => ∃ v, zs = xs ++ [v] ∧ P v) := fun H1 e Q q =>
  ha H1 e _ fun p H2 _ e2 hp => hb H2 (e.trans e2) H2 (Ex.refl H2) _ fun v H3 hv e3 => ⟨sz_of (by simp), fun r hr =>
    ⟨p, r, xs, [v], rfl, rfl, (Ex.new (o := .lst [v]) hr) _ _ (e3 _ _ hp), upd_same, sz_of (by simpa using hz), fun l hl => q _ l _ ⟨v, rfl, hv⟩ (fresh_back ((e2.trans e3).trans (Ex.new hr)) hl) (((e2.trans e3).trans (Ex.new hr)).trans (Ex.new hl)) upd_same⟩⟩
theorem s_appW {P : V → Prop} {l : Addr} {xs : List V} (hl : H l = some (.lst xs)) (ha : Ev ta σ H (.ref l)) (h : EvW te σ H P) (hz : xs.length < 100000) (k : ∀ v H1, P v → Ex H H1 → D.nx σ (upd H1 l (.lst (xs ++ [v])))) : tDrop (tBM K "list" rAppend ta (tCons te tNil)) D σ H :=
  ha H (Ex.refl H) _ fun H1 e1 => ⟨Or.inl ⟨rfl, xs, sq_of (e1 l _ hl)⟩, h H1 e1 _ fun v H2 hv e2 => ⟨l, xs, _, rfl, rfl, e2 _ _ (e1 l _ hl), sz_lt hz, k v H2 hv (e1.trans e2)⟩⟩
theorem el_mapEL {α : Type} {as : List α} {f g : α → V} {a : Addr} {j : Nat} {vs : List Nat} (h : Ev tl σ H (.ref a)) (hs : SqL K H a (as.map f)) (hz : as.length ≤ 40000) (hw : ∀ x, wipe ((wipe σ vs).set j (some x)) vs = wipe σ vs)
    (he : ∀ x ∈ as, ∀ H1, Ex H H1 → Ev te ((wipe σ vs).set j (some (f x))) H1 (g x)) : EvL (tLc (iList K tl) (gName j) tYes te vs) σ H (as.map g) := by
  have key : given (as.map f).length (fun _ => true) (fun i => (as.map g).getD i .non) = as.map g := by
    rw [given_all, List.length_map]
    apply List.ext_getElem?
    intro i
    rw [List.getElem?_map]
    by_cases hi : i < as.length
    · simp [hi, List.getD]
    · simp [hi]
  rw [← key]
  refine el_lcL (fun _ => true) _ h hs (by rw [List.length_map]; exact hz) hw (fun i x H1 _ _ => fun H2 e2 Q q => q H2 (Ex.refl H2)) fun i x H1 e hi _ => ?_
  rw [List.getElem?_map] at hi
  cases hx : as[i]? with
  | none => rw [hx] at hi; cases hi
  | some y =>
    rw [hx] at hi
    obtain rfl := Option.some.inj hi
    have e2 : (as.map g).getD i .non = g y := by simp [List.getD, hx]
    rw [e2]
    exact he y (List.mem_of_getElem? hx) H1 e
/-- [a new tuple for x in what is drawn] -/
theorem er_lcU {P : List V → Hp → Prop} {n j : Nat} {vs : List Nat} (B : List V → Prop) (h : EvR tl σ H P) (hz : ∀ us H1, P us H1 → us.length ≤ n) (hn : n ≤ 40000) (hw : ∀ x, wipe ((wipe σ vs).set j (some x)) vs = wipe σ vs)
    (he : ∀ us x H1 H2, P us H1 → x ∈ us → Ex H H1 → Ex H1 H2 → ∃ ys, B ys ∧ EvU te ((wipe σ vs).set j (some x)) H2 ys) :
    EvR (tLc (iList K tl) (gName j) tYes te vs) σ H (fun ws H1 => ws.length ≤ n ∧ ∃ qs : List (Addr × List V), ws = qs.map (fun q => V.ref q.1) ∧ ∀ q ∈ qs, H1 q.1 = some (.tup q.2) ∧ B q.2) := fun H1 e Q q =>
  h H1 e _ fun p us H2 hp e2 h2 hP => ⟨p, rfl, ⟨us, sq_of h2⟩, fun D hD => lc_list (xs := us)
    (fun i H' => Ex H2 H' ∧ ∃ qs : List (Addr × List V), H' D = some (.lst (qs.map fun q => V.ref q.1)) ∧ qs.length = i ∧ ∀ q ∈ qs, q.1 ≠ D ∧ H' q.1 = some (.tup q.2) ∧ B q.2)
    ⟨Ex.new hD, [], upd_same, rfl, (fun q hq => by cases hq)⟩ (fun i H' _ hI => ex_l hI.1 (sq_of h2)) (fun i x H' hx hI => by
      obtain ⟨eH, qs, hqs, hl, hq⟩ := hI
      obtain ⟨ys, hB, hu⟩ := he us x H2 H' hP (List.mem_of_getElem? hx) (e.trans e2) eH
      refine ⟨hw x, ?_⟩
      unfold tYes
      simp only [if_true]
      have hi := (List.getElem?_eq_some_iff.mp hx).1
      have hzn := hz us H2 hP
      refine hu H' (Ex.refl H') _ fun a H4 ha e4 h4 => ⟨_, e4 _ _ hqs, sz_lt (by rw [List.length_map]; omega), (eH.trans e4).mut hD, qs ++ [(a, ys)], (by rw [upd_same, List.map_append]; rfl), (by rw [List.length_append, hl]; rfl), fun r hr => ?_⟩
      have haD : a ≠ D := fun z => by rw [z, hqs] at ha; cases ha
      rcases List.mem_append.mp hr with hr | hr
      · obtain ⟨n1, n2, n3⟩ := hq r hr
        exact ⟨n1, by rw [upd_ne n1]; exact e4 _ _ n2, n3⟩
      · rw [List.mem_singleton.mp hr]
        exact ⟨haD, by rw [upd_ne haD]; exact h4, hB⟩) fun H' hI => by
      obtain ⟨eH, qs, hqs, hl, hq⟩ := hI
      exact q D _ H' (fresh_back e2 hD) (e2.trans eH) hqs ⟨by rw [List.length_map, hl]; exact hz us H2 hP, qs, rfl, fun r hr => (hq r hr).2⟩⟩
/-- a call of three, the third a new list -/
theorem ev_call2L {sp : Sp} {E : XK} {xs : List V} {x y z : V} (ha : Ev ta σ H x) (hb : Ev tb σ H y) (hc : EvL te σ H xs) (hs : ∀ r H1, Ex H H1 → H1 r = some (.lst xs) → SpV sp [x, y, .ref r] H1 z) : Ev (tCall sp [] E (tCons ta (tCons tb (tCons te tNil)))) σ H z := fun H1 e Q q =>
  ha H1 e _ fun H2 e2 => hb H2 (e.trans e2) _ fun H3 e3 => hc H3 ((e.trans e2).trans e3) _ fun r H4 _ e4 h4 => hs r H4 (((e.trans e2).trans e3).trans e4) h4 H4 (Ex.refl H4) Q (fun H5 e5 => q H5 (((e2.trans e3).trans e4).trans e5)) E
end
/-! ### steps that a law draws -/
/-- steps that a law draws -/
def StepsOk (l : List Int) : Prop := goodS l ∧ l.length ≤ 201 ∧ ∀ s ∈ l, -(10 ^ 60) ≤ s ∧ s ≤ 10 ^ 70
theorem good_fix {l : List Int} (hne : l ≠ []) (h : ∀ s ∈ l.tail, 1 ≤ s) : (endsOne l = false → goodS l) ∧ (endsOne l = true → goodS (l.dropLast ++ [2])) := by
  refine ⟨fun he => goodS_iff.mpr ⟨hne, he, h⟩, fun he => goodS_iff.mpr ⟨by simp, by simp [endsOne], ?_⟩⟩
  cases l with
  | nil => exact absurd rfl hne
  | cons a r =>
    have hl := (of_decide_eq_true he).1
    cases r with
    | nil => simp at hl
    | cons b r =>
      intro s hs
      rw [List.dropLast_cons_cons, List.cons_append, List.tail_cons] at hs
      rcases List.mem_append.mp hs with hs | hs
      · exact h s (List.dropLast_subset _ hs)
      · rw [List.mem_singleton.mp hs]; decide
/-- the last step, if it is a one behind another, is made a two -/
theorem s_fixLast {K : PySem.W.Frag} {σ : L2.St} {H : Hp} {i : Nat} {p : Addr} {l : List Int} {D : Ends} {tz : TS} (hi : σ[i]? = some (some (.ref p))) (hp : H p = some (.lst (l.map V.int))) (hne : l ≠ []) (h1 : ∀ s ∈ l.tail, 1 ≤ s) (hlen : l.length ≤ 201) (hb : ∀ s ∈ l, -(10 ^ 60) ≤ s ∧ s ≤ 10 ^ 70)
    (k : ∀ H1 l', StepsOk l' → (∀ o a, H a = some o → a ≠ p → H1 a = some o) → H1 p = some (.lst (l'.map V.int)) → tz D σ H1) :
    tSeq (tIfS (tAnd (tTest (tOp rGtI (tCB (rLenK K) (tCons (tVar i) tNil)) (tC (.int 1)))) (tTest (tOp rEq (tOp (rIxL K) (tVar i) (tUn (rU fun i => .int (-i)) (tC (.int 1)))) (tC (.int 1))))) (tAsg (tC (.int 2)) (gSub (tVar i) (tUn (rU fun i => .int (-i)) (tC (.int 1))) rSetL)) tNext) tz D σ H := by
  have hg : l.getLast? = some (l.getLast hne) := List.getLast?_eq_some_getLast hne
  obtain ⟨g1, g2⟩ := good_fix hne h1
  refine q_when (b := endsOne l) (et_is (et_and (et_test (ev_gtI (ev_is (ev_lenS (ev_var hi) (.inl (sq_of hp))) (by rw [List.length_map])) ev_c)) fun _ => et_test (ev_eqI (ev_op (ev_var hi) (ev_neg ev_c) (rv_ixL (v := .int (l.getLast hne)) (sq_of hp) (by rw [atI_last (by simpa using hne), List.getLast?_map, hg]; rfl))) ev_c)) ?_) (fun he H1 e1 => ?_) (fun he H1 e1 => ?_)
  · unfold endsOne
    rw [hg, Bool.decide_and]
    congr 1
    · exact decide_eq_decide.mpr ⟨fun h => by omega, fun h => by omega⟩
    · exact decide_eq_decide.mpr ⟨fun h => by rw [h], fun h => Option.some.inj h⟩
  · refine s_setLast (D := { D with nx := tz D }) (e1 _ _ hp) ev_c (ev_var hi) (ev_neg ev_c) (by simpa using hne) fun H2 e2 => ?_
    refine k _ (l.dropLast ++ [2]) ⟨g2 he, by have := List.length_pos_iff.mpr hne; rw [List.length_append, List.length_dropLast]; simp; omega, fun s hs => ?_⟩ (fun o a ha hap => by rw [upd_ne hap]; exact (e1.trans e2) _ _ ha) (by rw [upd_same, List.map_append, List.map_dropLast]; rfl)
    rcases List.mem_append.mp hs with hs | hs
    · exact hb s (List.dropLast_subset _ hs)
    · rw [List.mem_singleton.mp hs]; decide
  · exact k H1 l ⟨g1 he, hlen, hb⟩ (fun o a ha _ => e1 _ _ ha) (e1 _ _ hp)
theorem atI_snoc {xs : List V} {v : V} : atI (xs ++ [v]) (-1) = some v := by
  rw [atI_last (by simp)]
  simp
theorem stepsOk_row {a : Int} {r : List Int} (h : StepsOk (a :: r)) : wholeOk a ∧ (∀ s ∈ r, countOk (s - 1)) ∧ ∀ s ∈ r, 1 ≤ s := by
  have ha := h.2.2 a (List.mem_cons_self ..)
  have h60 : (10 : Int) ^ 60 < 2 ^ 254 := by decide
  have h70 : (10 : Int) ^ 70 < 2 ^ 254 := by decide
  have h1 := (goodS_iff.mp h.1).2.2
  rw [List.tail_cons] at h1
  refine ⟨⟨by omega, by omega⟩, fun s hs => ?_, h1⟩
  have := h.2.2 s (List.mem_cons_of_mem _ hs)
  have := h1 s hs
  exact ⟨by omega, by omega⟩
theorem stepsOk_abs {l : List Int} (h : StepsOk l) : ∀ s ∈ l, s.natAbs < 2 ^ 2000 := fun s hs => by
  have := h.2.2 s hs
  exact Nat.lt_of_le_of_lt (show s.natAbs ≤ 10 ^ 70 by omega) (by decide)
theorem stepsOk_rows {l : List Int} (h : StepsOk l) : rowOkS l ∧ (fracRow l).length ≤ 301 * 202 ∧ (l.length ≤ 30 → (fracRow l).length ≤ 9400) := by
  obtain ⟨a, r, rfl⟩ : ∃ a r, l = a :: r := List.exists_cons_of_ne_nil (goodS_iff.mp h.1).1
  obtain ⟨hw, hc, _⟩ := stepsOk_row h
  have h1 := wholeRow_len hw
  have h2 := tailRow_len (n := false) hc
  have h3 := h.2.1
  rw [List.length_cons] at h3
  refine ⟨⟨hw, hc⟩, ?_, fun h4 => ?_⟩
  · show (wholeRow a ++ tailRow false r).length ≤ _
    rw [List.length_append]
    omega
  · show (wholeRow a ++ tailRow false r).length ≤ _
    rw [List.length_cons] at h4
    rw [List.length_append]
    omega
end Kr
/-! a law's own reader of signs: a list of the signs and the place; xor; texts and lists that are drawn, in calls -/
namespace Kr
open PySem PySem.Spec PyProof.Rows L2 Evl
abbrev rXorI : R2 := rI0 fun i j => .int (Builtin.bitXor i j)
def bi (c : Bool) : Int := if c then 1 else 0
theorem bi_xor (c n : Bool) : Builtin.bitXor (bi c) (bi n) = bi (c != n) := by cases c <;> cases n <;> decide
theorem bi_not (c : Bool) : 1 - bi c = bi (!c) := by cases c <;> rfl
theorem bi_nn (c : Bool) : 0 ≤ bi c := by cases c <;> decide
theorem bi_one (c : Bool) : decide (bi c = 1) = c := by cases c <;> decide
theorem bi_nul (c : Bool) : decide (bi c = 0) = !c := by cases c <;> decide
theorem lane_int (j : Nat) : (j : Int) % 2 = bi (lane false j) := by
  unfold lane bi
  by_cases h : j % 2 = 1
  · rw [if_pos h]; simp; omega
  · rw [if_neg h]; simp; omega
/-- the list of the signs and the place -/
def StP (H : Hp) (s : Addr) (b : List Bool) (t : Nat) : Prop := H s = some (.lst [.str (T (R b)), .int (t : Int)])
theorem StP.mono {H H1 : Hp} {s : Addr} {b : List Bool} {t : Nat} (e : Ex H H1) (h : StP H s b t) : StP H1 s b t := e _ _ h
/-- how a promise of such a reader ends -/
def FinT {α : Type} (val : α → Int) (m : Int) (s : Addr) (b : List Bool) (H : Hp) (Q : VK) : Res α → Prop
  | .ok v t => ∀ H', ExU s H H' → StP H' s b t → Q (.int (val v)) H'
  | .bad _ _ => ∀ (x : Int) (t : Nat) H', m ≤ x → x < 0 → ExU s H H' → StP H' s b t → Q (.int x) H'
theorem FinT.mono {α : Type} {val : α → Int} {m : Int} {s : Addr} {b : List Bool} {H H1 : Hp} {Q : VK} {r : Res α} (h : FinT val m s b H Q r) (e : ExU s H H1) : FinT val m s b H1 Q r := by
  cases r with
  | ok v t => exact fun H' e2 s => h H' (e.trans e2) s
  | bad c p => exact fun x t H' hm hx e2 s => h x t H' hm hx (e.trans e2) s
theorem takeB_w {b : List Bool} {n w w' : Bool} {t : Nat} : takeB b false n w t = takeB b false n w' t := by
  unfold takeB
  cases b[t]? <;> rfl
theorem tones_w {b : List Bool} {n w w' : Bool} : ∀ {k o t : Nat}, tones b false n k w o t = tones b false n k w' o t
  | 0, o, t => rfl
  | k + 1, o, t => by rw [tones, tones, takeB_w (w' := w')]
theorem tcount_w {b : List Bool} {n w w' : Bool} {t : Nat} : tcount b false n w t = tcount b false n w' t := by
  unfold tcount
  rw [tones_w (w' := w')]
theorem takeB_len {b : List Bool} {n w c : Bool} {t t' : Nat} (h : takeB b false n w t = .ok c t') : t' = t + 1 ∧ t < b.length ∧ b[t]? = some (c != n) := by
  obtain ⟨h1, h2, h3⟩ := takeB_back h
  refine ⟨h1, h2, ?_⟩
  have := congrArg (fun l => l[0]?) h3
  simpa using this
/-- what is told of a fraction that is read -/
theorem tfracGo_fine {b : List Bool} {n : Bool} : ∀ {k : Nat} {l l' : List Int} {t t' : Nat}, tfracGo b false n k l t = .ok l' t' → l ≠ [] → l.length ≤ t + 1 → t ≤ b.length → (∀ s ∈ l, s.natAbs < 2 ^ 257) → l' ≠ [] ∧ l'.length ≤ b.length + 1 ∧ ∀ s ∈ l', s.natAbs < 2 ^ 257
  | 0, l, l', t, t', h, h0, h1, h2, h3 => by
    obtain ⟨rfl, rfl⟩ : l = l' ∧ t = t' := by
      have : (Res.ok l t : Res (List Int)) = .ok l' t' := h
      exact ⟨by injection this, by injection this⟩
    exact ⟨h0, by omega, h3⟩
  | k + 1, l, l', t, t', h, h0, h1, h2, h3 => by
    rw [tfracGo] at h
    cases hr : takeB b false (lane n (l.length - 1)) (endsOne l) t with
    | bad c p => rw [hr] at h; cases h
    | ok c t1 =>
      obtain ⟨rfl, ht1, _⟩ := takeB_len hr
      rw [hr] at h
      have h : (if c then (tcount b false (lane n l.length) true (t + 1)).bind fun v t2 => tfracGo b false n k (l ++ [v + 1]) t2 else if endsOne l then .bad "Wrong" (((t + 1 : Nat) : Int) - 1) else .ok l (t + 1)) = Res.ok l' t' := h
      cases c with
      | false =>
        rw [if_neg (by decide)] at h
        split at h
        · cases h
        · have : (Res.ok l (t + 1) : Res (List Int)) = .ok l' t' := h
          obtain rfl : l = l' := by injection this
          exact ⟨h0, by omega, h3⟩
      | true =>
        rw [if_pos rfl] at h
        cases hc : tcount b false (lane n l.length) true (t + 1) with
        | bad c p => rw [hc] at h; cases h
        | ok v t2 =>
          rw [hc] at h
          obtain ⟨hok, hdr, hend⟩ := tcount_back hc
          have hdl := congrArg List.length hdr
          rw [List.length_append, List.length_drop, List.length_drop, nz_len] at hdl
          have hrp := countRow_pos v.toNat
          have g0 := hok.1
          have g2 := hok.2
          refine tfracGo_fine (show tfracGo b false n k (l ++ [v + 1]) t2 = _ from h) (by simp) (by simp; omega) (by omega) fun x hx => ?_
          rcases List.mem_append.mp hx with hx | hx
          · exact h3 x hx
          · rw [List.mem_singleton.mp hx]
            have : (2 : Int) ^ 255 < 2 ^ 256 := by decide
            have : (2 : Nat) ^ 256 < 2 ^ 257 := by decide
            omega
theorem tfracGo_bad {b : List Bool} {n : Bool} : ∀ {k : Nat} {l : List Int} {t : Nat} {c : Str} {p : Int}, tfracGo b false n k l t = .bad c p → (c = "Short" ∧ p = b.length) ∨ c = "Wrong"
  | 0, l, t, c, p, h => by cases h
  | k + 1, l, t, c, p, h => by
    rw [tfracGo] at h
    cases hr : takeB b false (lane n (l.length - 1)) (endsOne l) t with
    | bad c2 p2 =>
      rw [hr] at h
      have h : (Res.bad c2 p2 : Res (List Int)) = .bad c p := h
      obtain ⟨rfl, rfl⟩ : c2 = c ∧ p2 = p := ⟨by injection h, by injection h⟩
      obtain ⟨h1, h2, _⟩ := takeB_short hr
      exact .inl ⟨h1, h2⟩
    | ok c2 t1 =>
      rw [hr] at h
      have h : (if c2 then (tcount b false (lane n l.length) true t1).bind fun v t2 => tfracGo b false n k (l ++ [v + 1]) t2 else if endsOne l then .bad "Wrong" ((t1 : Int) - 1) else .ok l t1) = Res.bad c p := h
      split at h
      · cases hc : tcount b false (lane n l.length) true t1 with
        | bad c3 p3 =>
          rw [hc] at h
          have h : (Res.bad c3 p3 : Res (List Int)) = .bad c p := h
          obtain ⟨rfl, rfl⟩ : c3 = c ∧ p3 = p := ⟨by injection h, by injection h⟩
          exact .inl (tcount_bad hc)
        | ok v t2 =>
          rw [hc] at h
          exact tfracGo_bad (show tfracGo b false n k (l ++ [v + 1]) t2 = _ from h)
      · split at h
        · have h : (Res.bad "Wrong" ((t1 : Int) - 1) : Res (List Int)) = .bad c p := h
          exact .inr (by injection h with h1 h2; exact h1.symm)
        · cases h
theorem tfrac_bad {b : List Bool} {n : Bool} {t : Nat} {c : Str} {p : Int} (h : tfrac b false n t = .bad c p) : (c = "Short" ∧ p = b.length) ∨ c = "Wrong" := by
  unfold tfrac at h
  cases hw : twhole b false n t with
  | bad c2 p2 =>
    rw [hw] at h
    have h : (Res.bad c2 p2 : Res (List Int)) = .bad c p := h
    obtain ⟨rfl, rfl⟩ : c2 = c ∧ p2 = p := ⟨by injection h, by injection h⟩
    exact .inl (twhole_bad hw)
  | ok w t1 =>
    rw [hw] at h
    exact tfracGo_bad (show tfracGo b false n (2 * (b.length - t1) + 3) [w] t1 = _ from h)
theorem tfrac_fine {b : List Bool} {n : Bool} {t t' : Nat} {l : List Int} (ht : t ≤ b.length) (h : tfrac b false n t = .ok l t') : l ≠ [] ∧ l.length ≤ b.length + 1 ∧ ∀ s ∈ l, s.natAbs < 2 ^ 257 := by
  unfold tfrac at h
  cases hw : twhole b false n t with
  | bad c2 p2 => rw [hw] at h; cases h
  | ok w t1 =>
    rw [hw] at h
    obtain ⟨hok, hdr, hend⟩ := twhole_back hw
    have hdl := congrArg List.length hdr
    rw [List.length_append, List.length_drop, List.length_drop, nz_len] at hdl
    refine tfracGo_fine (show tfracGo b false n (2 * (b.length - t1) + 3) [w] t1 = _ from h) (by simp) (by simp) (by omega) fun x hx => ?_
    rw [List.mem_singleton.mp hx]
    have h1 := hok.1
    have h2 := hok.2
    have : (2 : Int) ^ 255 < 2 ^ 256 := by decide
    have : (2 : Nat) ^ 256 < 2 ^ 257 := by decide
    omega
section
variable {K : PySem.W.Frag} {σ : L2.St} {H : Hp} {ta tb te : TE} {D : Ends} {tz : TS}
theorem ev_xorI {i j : Int} (ha : Ev ta σ H (.int i)) (hb : Ev tb σ H (.int j)) : Ev (tOp rXorI ta tb) σ H (.int (Builtin.bitXor i j)) := ev_op ha hb rv_I0
theorem s_asgF {sp : Sp} {E : XK} {t : TA} {vs : List V} {i : Nat} (h : EvA t σ H vs) (k : ∀ H1, Ex H H1 → sp vs H1 (fun v H2 => D.nx (σ.set i (some v)) H2) E) : tAsg (tCall sp [] E t) (gName i) D σ H :=
  h H (Ex.refl H) _ fun H1 e1 => by rw [List.append_nil]; exact k H1 e1
/-- f(a list that is drawn) -/
theorem ew_callM {sp : Sp} {E : XK} {P : List V → Prop} {P' : V → Prop} (h : EvM te σ H P) (k : ∀ xs p H1, P xs → Ex H H1 → H1 p = some (.lst xs) → ∃ z, P' z ∧ SpV sp [.ref p] H1 z) : EvW (tCall sp [] E (tCons te tNil)) σ H P' := fun H1 e Q q =>
  h H1 e _ fun xs p H2 hP _ e2 h2 => by
    obtain ⟨z, hz, hs⟩ := k xs p H2 hP (e.trans e2) h2
    exact hs H2 (Ex.refl H2) Q (fun H3 e3 => q z H3 hz (e2.trans e3)) E
/-- a text that is drawn -/
def RowV (n : Nat) (v : V) : Prop := ∃ r : List Bool, v = .str (T (R r)) ∧ r.length ≤ n
theorem ew_cut {n k : Nat} (h : EvW te σ H (RowV n)) (hn : n ≤ 16000000) : EvW (tSl rSlS te tNoPart (tPart (tC (.int (k : Int))))) σ H (RowV k) := fun H1 e Q q =>
  h H1 e _ fun v H2 hv e2 => by
    obtain ⟨r, rfl, hr⟩ := hv
    exact (ev_slT (te := tC (.str (T (R r)))) (σ := σ) (H := H2) ev_c (by rw [R_len]; omega) eo_none (eo_some (ev_c (v := .int (k : Int))))) H2 (Ex.refl H2) Q fun H3 e3 => q _ H3 ⟨r.take k, by rw [cutL_pre, R_take], by rw [List.length_take]; omega⟩ (e2.trans e3)
end
end Kr
/-! sorted() of any number of texts -/
namespace L2
open PySem PySem.Spec PyProof.Rows
def rSortedA (K : PySem.W.Frag) : List V → Hp → VK → Prop := fun vs H Q => ∃ (a : Addr) (xs : List Str), vs = [V.ref a] ∧ SqL K H a (xs.map V.str) ∧ xs.length ≤ sizeLine ∧
  ∀ (ys : List Str) (p : Addr), ys.Perm xs → sortedS ys = true → H p = none → Q (.ref p) (upd H p (.lst (ys.map V.str)))
section
variable {X : Cx}
theorem cr_sortedA : CallR X (.builtin "sorted") (rSortedA X.K) := by
  intro pins s σ H vs us Q I r h
  obtain ⟨a, xs, rfl, hs, h64, q⟩ := h
  obtain ⟨its, rv, hl, _⟩ := I.list hs
  rw [Vals.ref1 r]
  have hlen0 := rv.length
  rw [List.length_map] at hlen0
  refine PyProof.Rows.sorted_strsAny hl.isList rv.strs (by rw [← hlen0]; exact h64) fun out ys h1 h2 h3 => ?_
  obtain ⟨ep, he'⟩ := PyProof.Rows.sortedAll_at s.heap its out
  have hlen : (ys.map V.str).length ≤ sizeLine := by rw [List.length_map, h2.length_eq]; exact h64
  exact ⟨.ref _, upd H (s.heap.objs.size + 1) (.lst (ys.map V.str)), I.laid (t' := s.toks) (fun _ _ => PyProof.Rows.sortedAll_old) (Nat.le_succ _) ⟨hlen, out.toList, ep, vals_of_strs h1, he'⟩, rfl, q ys _ h2 h3 (I.hok.fresh (Nat.le_succ _))⟩
end
end L2
namespace Kr
open PySem PySem.Spec PyProof.Rows L2 Evl
theorem el_sortedA {K : PySem.W.Frag} {σ : L2.St} {H : Hp} {te : TE} {l : List (List Bool)} (h : EvL te σ H (RL l)) (hn : l.length ≤ 40000) : EvL (tCB (rSortedA K) (tCons te tNil)) σ H (RL (sortR l)) := fun H1 e Q q =>
  h H1 e _ fun p H2 hp e2 h2 => ⟨p, l.map TRw, rfl, by rw [← RL_TRw]; exact sq_of h2, by rw [List.length_map]; exact sz_of (by omega), fun ys r hperm hs hr => by
    rw [sorted_TRw hperm hs, ← RL_TRw]
    exact q r _ (fresh_back e2 hr) (e2.trans (Ex.new hr)) upd_same⟩
theorem el_sortedV {K : PySem.W.Frag} {σ : L2.St} {H : Hp} {te : TE} {p : Addr} {l : List (List Bool)} (h : Ev te σ H (.ref p)) (hp : H p = some (.lst (RL l))) (hn : l.length ≤ 40000) : EvL (tCB (rSortedA K) (tCons te tNil)) σ H (RL (sortR l)) := fun H1 e Q q =>
  h H1 e _ fun H2 e2 => ⟨p, l.map TRw, rfl, by rw [← RL_TRw]; exact sq_of ((e.trans e2) _ _ hp), by rw [List.length_map]; exact sz_of (by omega), fun ys r hperm hs hr => by
    rw [sorted_TRw hperm hs, ← RL_TRw]
    exact q r _ (fresh_back e2 hr) (e2.trans (Ex.new hr)) upd_same⟩
theorem strOk_R (b : List Bool) : PyData.strOk (T (R b)) = true := lay_plain (x := .str (T (R b))) (List.all_eq_true.mp (RL_plain [b]) _ (List.mem_singleton.mpr rfl))
theorem q_asgG {σ : L2.St} {H : Hp} {te : TE} {i : Nat} {D : Ends} {tz : TS} {P : V → Hp → Prop} (h : ∀ Q2 : VK, (∀ x H1, Ex H H1 → P x H1 → Q2 x H1) → te σ H Q2) (k : ∀ x H1, Ex H H1 → P x H1 → tz D (σ.set i (some x)) H1) : tSeq (tAsg te (gName i)) tz D σ H := h _ k
/-- name = (c, f(..)), f's promise met -/
theorem q_asgTF {σ : L2.St} {H : Hp} {sp : Sp} {E : XK} {t : TA} {vs : List V} {c : V} {i : Nat} {D : Ends} {tz : TS} (h : EvA t σ H vs) (k : ∀ H1, Ex H H1 → ∀ Q2 : VK, (∀ y H2, (∀ p, H2 p = none → tz D (σ.set i (some (.ref p))) (upd H2 p (.tup [c, y]))) → Q2 y H2) → sp vs H1 Q2 E) : tSeq (tAsg (tTup (tCons (tC c) (tCons (tCall sp [] E t) tNil))) (gName i)) tz D σ H :=
  h H (Ex.refl H) _ fun H1 e1 => by
    rw [List.append_nil]
    exact k H1 e1 _ fun y H2 hk => ⟨sz_of (by simp), hk⟩
/-- f(..) op b, f's promise met -/
theorem ev_opF {σ : L2.St} {H : Hp} {r : R2} {sp : Sp} {E : XK} {t : TA} {tb : TE} {vs : List V} {z : V} (P : V → Hp → Prop) (h : EvA t σ H vs) (hp : ∀ H1, Ex H H1 → ∀ Q2 : VK, (∀ x H2, Ex H1 H2 → P x H2 → Q2 x H2) → sp vs H1 Q2 E)
    (hr : ∀ x H2 (Qf : VK), Ex H H2 → P x H2 → (∀ H3, Ex H2 H3 → Qf z H3) → tb σ H2 (fun y H3 => r x y H3 Qf)) : Ev (tOp r (tCall sp [] E t) tb) σ H z := fun H1 e Q q =>
  h H1 e _ fun H2 e2 => by
    rw [List.append_nil]
    exact hp H2 (e.trans e2) _ fun x H3 e3 hP => hr x H3 Q ((e.trans e2).trans e3) hP fun H4 e4 => q H4 ((e2.trans e3).trans e4)
theorem page_fine {rs : List (List Bool)} (hn : rs.length ≤ 20) (hl : ∀ r ∈ rs, r.length ≤ 60) : (pageRow rs).length ≤ 2900 := by
  have h1 := pageBody_len (m := 60) (by decide) (last := []) hl
  have h2 := small_len (n := rs.length) (by omega)
  have h3 : rs.length * (80 + 60) ≤ 20 * 140 := Nat.mul_le_mul_right _ hn
  unfold pageRow
  rw [List.length_append]
  omega
end Kr
/-! an instance of a class without an __init__ of its own; list.remove of texts -/
namespace L2
open PySem PySem.Spec PyProof.Rows
structure Mk0 (K : PySem.W.Frag) (C : Addr) : Prop where
  makes : PySem.W.makesIn K C = true
  init : PySem.W.findIn K (.ref C) "__init__" = some (some (.builtin "object.__init__"))
  kp : PySem.W.keepIn K (.ref C) = true
def mk0B (K : PySem.W.Frag) (x : Str) : Bool := PySem.W.makesIn K (He.ga K x) && (decide (PySem.W.findIn K (.ref (He.ga K x)) "__init__" = some (some (.builtin "object.__init__"))) && PySem.W.keepIn K (.ref (He.ga K x)))
theorem mk0B_ok {K : PySem.W.Frag} {x : Str} (h : mk0B K x = true) : Mk0 K (He.ga K x) := by
  unfold mk0B at h
  rw [Bool.and_eq_true, Bool.and_eq_true, decide_eq_true_eq] at h
  exact ⟨h.1, h.2.1, h.2.2⟩
def tMake0 (C : Addr) : TE := fun σ H Q => ∀ x dx, H x = none → H dx = none → dx ≠ x → Q (.ref x) (upd (upd H dx (.own x)) x (.ins C dx []))
section
variable {X : Cx} {C : Addr} {x : Str} {p pos : Pos}
open PySem.W in
theorem run_make0 {pins : List (Addr × Obj)} {σ : St} {H : Hp} {s : Shared} {Q : VK} (M : Mk0 X.K C) (I : Inv X pins σ H s) (h : tMake0 C σ H Q) : wpAny (model X.prog X.w) X.A (call (.ref C) []) (EP X pins σ Q) X.xe s := by
  have hq := h (s.heap.objs.size + 1) s.heap.objs.size (I.hok.fresh (Nat.le_succ _)) (I.hok.fresh (Nat.le_refl _)) (Nat.ne_of_lt (Nat.lt_succ_self _))
  have I2 := Inv.made (C := C) I
  have Y := makes_of (M := model X.prog X.w) I.kIn M.makes
  refine wpAny_call (make_map0 I.kIn M.makes M.init (fun self => Looks.of_pure (oi_bind self)) ?_)
  have hx : ((s.heap.push emptyDict).push (instObj C s.heap.objs.size)).get? (s.heap.objs.size + 1) = some (instObj C s.heap.objs.size) := by
    have z := Heap.get?_push_size (s.heap.push emptyDict) (o := instObj C s.heap.objs.size) rfl
    rwa [Heap.size_push] at z
  have t1 : Looks (model X.prog X.w) ((s.heap.push emptyDict).push (instObj C s.heap.objs.size)) (typeOf (.ref (s.heap.objs.size + 1))) (.ref C) := (Looks.ld hx).andThen .now
  have t2 : Looks (model X.prog X.w) ((s.heap.push emptyDict).push (instObj C s.heap.objs.size)) (isInstance (.ref (s.heap.objs.size + 1)) (.type "object")) true := t1.andThen (Y.top.keeps fun b o e => Heap.get?_push_of_some _ (Heap.get?_push_of_some _ e))
  refine codeAny_call_builtin oi_plain entry_oi (@check_slot (model X.prog X.w) _ _ _ "object.__init__" "object" "__init__" (.ref (s.heap.objs.size + 1)) [] [] _ oi_kind oi_split t2 (oi_args (.ref (s.heap.objs.size + 1))) ?_)
  rw [oi_run]
  exact wpAny_pure (And.intro rfl ⟨.ref _, _, I2, rfl, hq⟩)
theorem pe_make00 (M : Mk0 X.K C) (hg : Gl X x) (hm : X.mg x = some (.ref C)) (hdb : (x == ("__debug__" : Str)) = false := by decide) : PE X (.Call (.Name x p) [] [] pos) (tMake0 C) := by
  refine ⟨fun pins s σ H Q I h => ?_⟩
  refine wpAny_Call_Name_kw (ld_glob I hg hm ?_ hdb)
  exact PySem.W.callWith_K0 I.kIn M.kp (run_make0 M I h)
/-! ### list.remove of texts -/
def eqs (k : Str) (v : Value) : Bool := match v with
  | .str n _ => n.cps.toList == k.cps.toList
  | _ => false
theorem cps_eq {a b : Str} : a.cps.toList = b.cps.toList ↔ a = b := by
  constructor
  · intro h
    cases a with
    | mk x =>
      cases b with
      | mk y =>
        have : x = y := Array.toList_inj.mp h
        rw [this]
  · intro h
    rw [h]
theorem eqs_gives {k : Str} {t : Tok} : ∀ {us : List Value} {ns : List Str}, StrsAre us ns → ∀ y ∈ us, MeetsSeq.EqGives y (.str k t) (eqs k y)
  | _, _, .nil => fun y hy => by cases hy
  | _, _, .cons n t' h => fun y hy => by
    rcases List.mem_cons.mp hy with e | e
    · rw [e]
      exact PySem.SeqRoads2.EqGives.str n k t' t
    · exact eqs_gives h y e
theorem erase_mapS : ∀ (l : List Str) (j : Nat), (l.map V.str).eraseIdx j = (l.eraseIdx j).map V.str
  | [], j => by simp
  | a :: r, 0 => by simp
  | a :: r, j + 1 => by
    have ih := erase_mapS r j
    simp [ih]
def rRemS : V → List V → Hp → VK → Prop := fun x xs H Q => ∃ (l : Addr) (ns : List Str) (k : Str) (j : Nat), x = .ref l ∧ xs = [.str k] ∧ H l = some (.lst (ns.map V.str)) ∧ ns[j]? = some k ∧ (∀ m : Nat, m < j → ns[m]? ≠ some k) ∧ Q .non (upd H l (.lst ((ns.eraseIdx j).map V.str)))
theorem mt_removeS : MtR X "list.remove" rRemS := by
  intro pins s σ H x xs v us Q I rx rxs h
  obtain ⟨l, ns, k, j, rfl, rfl, hH, hj, hno, q⟩ := h
  cases rx
  obtain ⟨u, rfl, ru⟩ := rxs.one
  obtain ⟨t, rfl⟩ := ru
  obtain ⟨z, its, n, r, hl, e⟩ := I.lstM hH
  have hi := strs_of_vals r
  rw [List.length_map] at hl z
  have hjn : j < ns.length := (List.getElem?_eq_some_iff.mp hj).1
  have hjl : j < its.toArray.size := by rw [List.size_toArray]; omega
  refine call_meets PySem.F.slot_list_remove ⟨_, e, rfl⟩ PySem.F.entry_list_remove (PySem.F.args_list_remove_2 _ _)
    (MeetsSeq.list_remove l its.toArray n (.str k t) (eqs k) (fun y hy => eqs_gives hi y (by simpa using hy)) j hjl ?_ ?_ (by rw [List.size_toArray]; omega)) ⟨e, ?_⟩
  · obtain ⟨tj, hjt⟩ := hi.get j k hj
    obtain ⟨h1, h2⟩ := List.getElem?_eq_some_iff.mp hjt
    have e1 : its.toArray[j] = .str k tj := by simpa using h2
    rw [e1]
    exact beq_self_eq_true _
  · intro m hm hmj
    have hmn : m < ns.length := by omega
    obtain ⟨tm, hmt⟩ := hi.get m _ (List.getElem?_eq_getElem hmn)
    obtain ⟨h1, h2⟩ := List.getElem?_eq_some_iff.mp hmt
    have e1 : its.toArray[m] = .str ns[m] tm := by simpa using h2
    rw [e1]
    refine beq_eq_false_iff_ne.mpr fun e2 => hno m hmj ?_
    rw [List.getElem?_eq_getElem hmn, cps_eq.mp e2]
  · have rr := r.eraseIdx j
    rw [erase_mapS] at rr
    refine ⟨.non, _, I.lset (its' := its.eraseIdx j) (t' := s.toks) hH e ?_ rr ?_, rfl, q⟩
    · show its.toArray.eraseIdxIfInBounds j = (its.eraseIdx j).toArray
      rw [List.eraseIdxIfInBounds_toArray]
    · have z2 := len_erase ns j
      rw [List.length_map]
      omega
end
end L2
/-! shelves: stacks of rows, what joins, what is put in, what is taken out (plain laws) -/
namespace Kr
open PySem PySem.Spec PyProof.Rows L2 Evl
abbrev Rw := List Bool
/-! ### neighbours -/
def szAt (ss : List (List Rw)) (j : Nat) : Nat := (ss[j]?.getD []).length
/-- all neighbours have together more than the room, but those at the told places -/
def Bd (room : Nat) (bad : Nat → Prop) (ss : List (List Rw)) : Prop := ∀ j, ¬ bad j → j + 1 < ss.length → room < szAt ss j + szAt ss (j + 1)
def joinAt (room : Nat) (i : Nat) (ss : List (List Rw)) : List (List Rw) := if i + 1 < ss.length ∧ szAt ss i + szAt ss (i + 1) ≤ room then ss.take i ++ (ss[i]?.getD [] ++ ss[i + 1]?.getD []) :: ss.drop (i + 2) else ss
theorem cut2 {α : Type} {ss : List α} {i : Nat} (h : i + 1 < ss.length) : ss = ss.take i ++ ss[i] :: ss[i + 1] :: ss.drop (i + 2) := by
  conv => lhs; rw [← List.take_append_drop i ss, List.drop_eq_getElem_cons (by omega), List.drop_eq_getElem_cons h]
theorem szAt_join {ss : List (List Rw)} {i j : Nat} (h : i + 1 < ss.length) : szAt (ss.take i ++ (ss[i]?.getD [] ++ ss[i + 1]?.getD []) :: ss.drop (i + 2)) j = if j < i then szAt ss j else if j = i then szAt ss i + szAt ss (i + 1) else szAt ss (j + 1) := by
  unfold szAt
  have hl : (ss.take i).length = i := by rw [List.length_take]; omega
  by_cases h1 : j < i
  · rw [if_pos h1, List.getElem?_append_left (by omega), List.getElem?_take_of_lt h1]
  · rw [if_neg h1, List.getElem?_append_right (by omega), hl]
    by_cases h2 : j = i
    · rw [if_pos h2, h2, Nat.sub_self]
      simp
    · rw [if_neg h2]
      obtain ⟨k, hk⟩ : ∃ k, j - i = k + 1 := ⟨j - i - 1, by omega⟩
      rw [hk, List.getElem?_cons_succ, List.getElem?_drop, show i + 2 + k = j + 1 by omega]
theorem joinAt_bd {room i : Nat} {bad bad' : Nat → Prop} {ss : List (List Rw)} (h : Bd room bad ss) (h1 : ∀ j, j ≠ i → bad j → bad' j) (h2 : ∀ j, j < i → bad j → bad' j) (h3 : ∀ j, i ≤ j → bad (j + 1) → bad' j) (h4 : ∀ j, j + 1 = i → bad j → bad' j) : Bd room bad' (joinAt room i ss) := by
  unfold joinAt
  split
  · rename_i hc
    obtain ⟨hl, hs⟩ := hc
    intro j hj hjl
    rw [List.length_append, List.length_take, List.length_cons, List.length_drop] at hjl
    rw [szAt_join hl, szAt_join hl]
    by_cases a1 : j + 1 < i
    · rw [if_pos (by omega), if_pos a1]
      exact h j (fun z => hj (h2 j (by omega) z)) (by omega)
    · by_cases a2 : j + 1 = i
      · rw [if_pos (by omega), if_neg (by omega), if_pos a2]
        have := h j (fun z => hj (h2 j (by omega) z)) (by omega)
        rw [a2] at this
        omega
      · by_cases a3 : j = i
        · rw [if_neg (by omega), if_pos a3, if_neg (by omega), if_neg (by omega)]
          have := h (j + 1) (fun z => hj (h3 j (by omega) z)) (by omega)
          rw [a3] at this ⊢
          omega
        · rw [if_neg (by omega), if_neg a3, if_neg (by omega), if_neg (by omega)]
          exact h (j + 1) (fun z => hj (h3 j (by omega) z)) (by omega)
  · rename_i hc
    intro j hj hjl
    by_cases a : j = i
    · subst a
      have : ¬ szAt ss j + szAt ss (j + 1) ≤ room := fun z => hc ⟨hjl, z⟩
      omega
    · exact h j (fun z => hj (h1 j a z)) hjl
theorem joinAt_flat (room i : Nat) (ss : List (List Rw)) : (joinAt room i ss).flatten = ss.flatten := by
  unfold joinAt
  split
  · rename_i hc
    have h := congrArg List.flatten (cut2 hc.1)
    rw [List.getElem?_eq_getElem (show i < ss.length by omega), List.getElem?_eq_getElem hc.1, h]
    generalize ss.take i = A at *
    generalize ss.drop (i + 2) = B at *
    simp only [List.flatten_append, List.flatten_cons, Option.getD_some, List.append_assoc]
  · rfl
/-- every stack has a row, none more than the room -/
def Szs (room : Nat) (ss : List (List Rw)) : Prop := ∀ s ∈ ss, s ≠ [] ∧ s.length ≤ room
theorem joinAt_szs {room i : Nat} {ss : List (List Rw)} (h : Szs room ss) : Szs room (joinAt room i ss) := by
  unfold joinAt
  split
  · rename_i hc
    obtain ⟨hl, hs⟩ := hc
    intro s hm
    rcases List.mem_append.mp hm with hm | hm
    · exact h s (List.mem_of_mem_take hm)
    · rcases List.mem_cons.mp hm with rfl | hm
      · unfold szAt at hs
        rw [List.getElem?_eq_getElem (show i < ss.length by omega), List.getElem?_eq_getElem hl] at hs ⊢
        have h1 := h _ (List.getElem_mem (show i < ss.length by omega))
        refine ⟨?_, by rw [List.length_append]; exact hs⟩
        intro z
        exact h1.1 (List.append_eq_nil_iff.mp z).1
      · exact h s (List.mem_of_mem_drop hm)
  · exact h
def joinNear (room p : Nat) (ss : List (List Rw)) : List (List Rw) := if p = 0 then joinAt room p ss else joinAt room (p - 1) (joinAt room p ss)
theorem joinNear_flat (room p : Nat) (ss : List (List Rw)) : (joinNear room p ss).flatten = ss.flatten := by
  unfold joinNear
  split
  · exact joinAt_flat _ _ _
  · rw [joinAt_flat, joinAt_flat]
theorem joinNear_szs {room p : Nat} {ss : List (List Rw)} (h : Szs room ss) : Szs room (joinNear room p ss) := by
  unfold joinNear
  split
  · exact joinAt_szs h
  · exact joinAt_szs (joinAt_szs h)
/-- places p - 1 and p are mended -/
theorem joinNear_bd {room p : Nat} {bad : Nat → Prop} {ss : List (List Rw)} (h : Bd room bad ss) (hb : ∀ j, bad j → j = p ∨ j + 1 = p) : Bd room (fun _ => False) (joinNear room p ss) := by
  unfold joinNear
  split
  · rename_i h0
    subst h0
    exact joinAt_bd h (fun j hj z => by have := hb j z; omega) (fun j hj z => by omega) (fun j hj z => by have := hb _ z; omega) (fun j hj z => by omega)
  · rename_i h0
    have h1 : Bd room (fun j => j + 1 = p) (joinAt room p ss) := joinAt_bd h (fun j hj z => by have := hb j z; omega) (fun j hj z => by have := hb j z; omega) (fun j hj z => by have := hb _ z; omega) (fun j hj z => hj)
    exact joinAt_bd h1 (fun j hj z => by omega) (fun j hj z => by omega) (fun j hj z => by omega) (fun j hj z => by omega)
/-- a stack parted in two -/
theorem joinNear_bd2 {room p : Nat} {ss : List (List Rw)} (h : Bd room (fun j => j + 1 = p ∨ j = p + 1) ss) : Bd room (fun j => j + 1 = p) (joinNear room (p + 1) ss) := by
  unfold joinNear
  rw [if_neg (by omega)]
  have h1 : Bd room (fun j => j + 1 = p) (joinAt room (p + 1) ss) := joinAt_bd h (fun j hj z => by omega) (fun j hj z => by omega) (fun j hj z => by omega) (fun j hj z => by omega)
  exact joinAt_bd h1 (fun j hj z => z) (fun j hj z => z) (fun j hj z => by omega) (fun j hj z => z)
/-! ### the stack of a row -/
def hdR (s : List Rw) : Rw := s.head?.getD []
def SfOk (ss : List (List Rw)) (row : Rw) (n f : Nat) : Prop := (f = 0 ∨ (0 < f ∧ f < n ∧ ¬ R row < R (hdR (ss[f]?.getD [])))) ∧ ∀ j, f < j → j < n → R row < R (hdR (ss[j]?.getD []))
theorem asc_flat {A B : List (List Rw)} {s : List Rw} (h : Asc none (A ++ s :: B).flatten) : (A.flatten ++ (s ++ B.flatten)).Pairwise fun a b => R a < R b := by
  have := asc_pair h
  rw [List.flatten_append, List.flatten_cons] at this
  exact this
theorem hd_mem {s : List Rw} (h : s ≠ []) : hdR s ∈ s := by
  cases s with
  | nil => exact absurd rfl h
  | cons x r => exact List.mem_cons_self ..
theorem R_cases {a b : Rw} (h : ¬ R a < R b) : R b < R a ∨ a = b := by
  by_cases e : a = b
  · exact .inr e
  · exact .inl (R_lt_or a b h (fun z => e (R_inj z)))
theorem hd_least {s : List Rw} (h : s.Pairwise fun a b => R a < R b) {y : Rw} (hy : y ∈ s) : ¬ R y < R (hdR s) := by
  cases s with
  | nil => cases hy
  | cons x r =>
    show ¬ R y < R x
    rcases List.mem_cons.mp hy with rfl | hy
    · exact List.lt_irrefl _
    · have := (List.pairwise_cons.mp h).1 y hy
      exact fun z => List.lt_irrefl _ (List.lt_trans this z)
theorem sf_split {ss : List (List Rw)} {row : Rw} {f : Nat} (hasc : Asc none ss.flatten) (hne : ∀ s ∈ ss, s ≠ []) (h0 : ss ≠ []) (h : SfOk ss row ss.length f) :
    ∃ A s B, ss = A ++ s :: B ∧ A.length = f ∧ (∀ x ∈ A.flatten, R x < R row) ∧ ∀ y ∈ B.flatten, R row < R y := by
  have hpos := List.length_pos_iff.mpr h0
  have hf : f < ss.length := by rcases h.1 with h | h <;> omega
  have hss : ss = ss.take f ++ ss[f] :: ss.drop (f + 1) := by
    conv => lhs; rw [← List.take_append_drop f ss, List.drop_eq_getElem_cons hf]
  have hp : ((ss.take f).flatten ++ (ss[f] ++ (ss.drop (f + 1)).flatten)).Pairwise fun a b => R a < R b := asc_flat (by rw [← hss]; exact hasc)
  obtain ⟨p1, p2, p3⟩ := List.pairwise_append.mp hp
  obtain ⟨p4, p5, p6⟩ := List.pairwise_append.mp p2
  refine ⟨ss.take f, ss[f], ss.drop (f + 1), hss, by rw [List.length_take]; omega, fun x hx => ?_, fun y hy => ?_⟩
  · rcases h.1 with h1 | ⟨h1, h2, h3⟩
    · subst h1
      simp at hx
    · rw [List.getElem?_eq_getElem hf] at h3
      have hm := hd_mem (hne _ (List.getElem_mem hf))
      have hlt := p3 x hx (hdR ss[f]) (List.mem_append_left _ hm)
      rcases R_cases h3 with h4 | h4
      · exact List.lt_trans hlt h4
      · have h4 : row = hdR ss[f] := h4
        rw [h4]
        exact hlt
  · obtain ⟨s, hs, hys⟩ := List.mem_flatten.mp hy
    obtain ⟨j, hj, rfl⟩ := List.mem_iff_getElem.mp hs
    rw [List.length_drop] at hj
    have hj2 : f + 1 + j < ss.length := by omega
    have h4 := h.2 (f + 1 + j) (by omega) hj2
    rw [List.getElem?_eq_getElem hj2] at h4
    rw [List.getElem_drop] at hys
    have hsub : (ss[f + 1 + j]).Pairwise fun a b => R a < R b := by
      have : (ss.drop (f + 1)).flatten.Pairwise fun a b => R a < R b := p5
      exact (List.pairwise_flatten.mp this).1 _ (by rw [List.mem_iff_getElem]; exact ⟨j, by rw [List.length_drop]; omega, by rw [List.getElem_drop]⟩)
    rcases R_cases (hd_least hsub hys) with h5 | h5
    · exact List.lt_trans h4 h5
    · rw [h5]
      exact h4
/-! ### a row put in, taken out -/
def insR (s : List Rw) (row : Rw) : List Rw := s.take (before s row).length ++ [row] ++ s.drop (before s row).length
theorem insR_len (s : List Rw) (row : Rw) : (insR s row).length = s.length + 1 := by
  unfold insR
  have := bef_le s row
  simp only [List.length_append, List.length_take, List.length_drop, List.length_singleton]
  omega
theorem mem_insR {s : List Rw} {row r : Rw} : r ∈ insR s row ↔ r ∈ s ∨ r = row := mem_put
theorem asc_of {l : List Rw} (h : l.Pairwise fun a b => R a < R b) : Asc none l := asc_iff.mpr h
theorem put_asc {A B : List (List Rw)} {s : List Rw} {row : Rw} (h : Asc none (A ++ s :: B).flatten) (hA : ∀ x ∈ A.flatten, R x < R row) (hB : ∀ y ∈ B.flatten, R row < R y) (hn : row ∉ s) : Asc none (A ++ insR s row :: B).flatten := by
  obtain ⟨p1, p2, p3⟩ := List.pairwise_append.mp (asc_flat h)
  obtain ⟨p4, p5, p6⟩ := List.pairwise_append.mp p2
  have hi : (insR s row).Pairwise fun a b => R a < R b := asc_pair (asc_put (asc_of p4) hn)
  rw [List.flatten_append, List.flatten_cons]
  refine asc_of (List.pairwise_append.mpr ⟨p1, List.pairwise_append.mpr ⟨hi, p5, fun a ha b hb => ?_⟩, fun a ha b hb => ?_⟩)
  · rcases mem_insR.mp ha with ha | rfl
    · exact p6 a ha b hb
    · exact hB b hb
  · rcases List.mem_append.mp hb with hb | hb
    · rcases mem_insR.mp hb with hb | rfl
      · exact p3 a ha b (List.mem_append_left _ hb)
      · exact hA a ha
    · exact p3 a ha b (List.mem_append_right _ hb)
theorem mem_putF {A B : List (List Rw)} {s : List Rw} {row r : Rw} : r ∈ (A ++ insR s row :: B).flatten ↔ r ∈ (A ++ s :: B).flatten ∨ r = row := by
  simp only [List.flatten_append, List.flatten_cons, List.mem_append, mem_insR]
  constructor
  · rintro (h | (h | h) | h)
    · exact .inl (.inl h)
    · exact .inl (.inr (.inl h))
    · exact .inr h
    · exact .inl (.inr (.inr h))
  · rintro ((h | h | h) | h)
    · exact .inl h
    · exact .inr (.inl (.inl h))
    · exact .inr (.inr h)
    · exact .inr (.inl (.inr h))
theorem in_flat {A B : List (List Rw)} {s : List Rw} {row : Rw} (hA : ∀ x ∈ A.flatten, R x < R row) (hB : ∀ y ∈ B.flatten, R row < R y) : row ∈ (A ++ s :: B).flatten ↔ row ∈ s := by
  simp only [List.flatten_append, List.flatten_cons, List.mem_append]
  constructor
  · rintro (h | h | h)
    · exact absurd (hA _ h) (List.lt_irrefl _)
    · exact h
    · exact absurd (hB _ h) (List.lt_irrefl _)
  · exact fun h => .inr (.inl h)
theorem szAt_mid {A B : List (List Rw)} {s : List Rw} (j : Nat) : szAt (A ++ s :: B) j = if j < A.length then szAt A j else if j = A.length then s.length else szAt B (j - A.length - 1) := by
  unfold szAt
  by_cases h : j < A.length
  · rw [if_pos h, List.getElem?_append_left h]
  · rw [if_neg h, List.getElem?_append_right (by omega)]
    by_cases h2 : j = A.length
    · rw [if_pos h2, h2, Nat.sub_self]
      rfl
    · rw [if_neg h2]
      obtain ⟨k, hk⟩ : ∃ k, j - A.length = k + 1 := ⟨j - A.length - 1, by omega⟩
      rw [hk, List.getElem?_cons_succ, Nat.add_sub_cancel]
/-- one more in a stack -/
theorem bd_grow {room : Nat} {A B : List (List Rw)} {s s' : List Rw} (h : Bd room (fun _ => False) (A ++ s :: B)) (hs : s.length ≤ s'.length) : Bd room (fun _ => False) (A ++ s' :: B) := by
  intro j _ hj
  have h1 := h j (fun z => z) (by simpa using hj)
  rw [szAt_mid, szAt_mid] at h1 ⊢
  by_cases a1 : j + 1 < A.length
  · rw [if_pos (by omega), if_pos a1] at h1 ⊢
    exact h1
  · by_cases a2 : j + 1 = A.length
    · rw [if_pos (by omega), if_neg (by omega), if_pos a2] at h1 ⊢
      omega
    · by_cases a3 : j = A.length
      · rw [if_neg (by omega), if_pos a3, if_neg (by omega), if_neg (by omega)] at h1 ⊢
        omega
      · rw [if_neg (by omega), if_neg a3, if_neg (by omega), if_neg (by omega)] at h1 ⊢
        exact h1
/-- a stack parted -/
theorem bd_part {room : Nat} {A B : List (List Rw)} {s x y : List Rw} (h : Bd room (fun _ => False) (A ++ s :: B)) (hs : room < x.length + y.length) : Bd room (fun j => j + 1 = A.length ∨ j = A.length + 1) (A ++ x :: y :: B) := by
  intro j hbad hj
  have hj : j + 1 < A.length + (B.length + 2) := by simpa using hj
  rw [szAt_mid, szAt_mid]
  have e : ∀ k, szAt (y :: B) k = if k = 0 then y.length else szAt B (k - 1) := fun k => by
    have := szAt_mid (A := []) (s := y) (B := B) k
    simpa using this
  by_cases a1 : j + 1 < A.length
  · have h1 := h j (fun z => z) (by simp; omega)
    rw [szAt_mid, szAt_mid, if_pos (by omega), if_pos a1] at h1
    rw [if_pos (by omega), if_pos a1]
    exact h1
  · have a2 : j + 1 ≠ A.length := fun z => hbad (.inl z)
    by_cases a3 : j = A.length
    · rw [if_neg (by omega), if_pos a3, if_neg (by omega), if_neg (by omega), e, if_pos (by omega)]
      exact hs
    · have a4 : j ≠ A.length + 1 := fun z => hbad (.inr z)
      have h1 := h (j - 1) (fun z => z) (by simp; omega)
      rw [szAt_mid, szAt_mid, if_neg (by omega), if_neg (by omega), if_neg (by omega), if_neg (by omega)] at h1
      rw [if_neg (by omega), if_neg a3, if_neg (by omega), if_neg (by omega), e, e, if_neg (by omega), if_neg (by omega)]
      have e1 : j - 1 - A.length - 1 = j - A.length - 1 - 1 := by omega
      have e2 : j - 1 + 1 - A.length - 1 = j + 1 - A.length - 1 - 1 := by omega
      rw [e1, e2] at h1
      exact h1
/-- a stack smaller, or gone -/
theorem bd_less {room : Nat} {A B : List (List Rw)} {s s' : List Rw} (h : Bd room (fun _ => False) (A ++ s :: B)) : Bd room (fun j => j = A.length ∨ j + 1 = A.length) (A ++ s' :: B) := by
  intro j hbad hj
  have h1 := h j (fun z => z) (by simpa using hj)
  rw [szAt_mid, szAt_mid] at h1 ⊢
  have n1 : j ≠ A.length := fun z => hbad (.inl z)
  have n2 : j + 1 ≠ A.length := fun z => hbad (.inr z)
  by_cases a1 : j + 1 < A.length
  · rw [if_pos (by omega), if_pos a1] at h1 ⊢
    exact h1
  · rw [if_neg (by omega), if_neg n1, if_neg (by omega), if_neg (by omega)] at h1 ⊢
    exact h1
theorem bd_gone {room : Nat} {A B : List (List Rw)} {s : List Rw} (h : Bd room (fun _ => False) (A ++ s :: B)) : Bd room (fun j => j = A.length ∨ j + 1 = A.length) (A ++ B) := by
  intro j hbad hj
  have hj : j + 1 < A.length + B.length := by simpa using hj
  have n2 : j + 1 ≠ A.length := fun z => hbad (.inr z)
  have e : ∀ k, szAt (A ++ B) k = if k < A.length then szAt A k else szAt B (k - A.length) := fun k => by
    unfold szAt
    by_cases h : k < A.length
    · rw [if_pos h, List.getElem?_append_left h]
    · rw [if_neg h, List.getElem?_append_right (by omega)]
  rw [e, e]
  by_cases a1 : j + 1 < A.length
  · have h1 := h j (fun z => z) (by simp; omega)
    rw [szAt_mid, szAt_mid, if_pos (by omega), if_pos a1] at h1
    rw [if_pos (by omega), if_pos a1]
    exact h1
  · have h1 := h (j + 1) (fun z => z) (by simp; omega)
    rw [szAt_mid, szAt_mid, if_neg (by omega), if_neg (by omega), if_neg (by omega), if_neg (by omega)] at h1
    rw [if_neg (by omega), if_neg (by omega)]
    have e1 : j + 1 - A.length - 1 = j - A.length := by omega
    have e2 : j + 1 + 1 - A.length - 1 = j + 1 - A.length := by omega
    rw [e1, e2] at h1
    exact h1
theorem bd_none {room : Nat} {bad : Nat → Prop} {ss : List (List Rw)} (h : Bd room (fun _ => False) ss) : Bd room bad ss := fun j _ hj => h j (fun z => z) hj
/-- nothing joins where all is well -/
theorem joinAt_same {room i : Nat} {ss : List (List Rw)} (h : Bd room (fun _ => False) ss) : joinAt room i ss = ss := by
  unfold joinAt
  rw [if_neg]
  rintro ⟨h1, h2⟩
  have := h i (fun z => z) h1
  omega
/-- what a shelf keeps -/
structure Kept (room : Nat) (ss : List (List Rw)) : Prop where
  sz : Szs room ss
  asc : Asc none ss.flatten
  bd : Bd room (fun _ => False) ss
theorem Kept.join {room p : Nat} {ss : List (List Rw)} (h : Kept room ss) : Kept room (joinNear room p ss) := ⟨joinNear_szs h.sz, by rw [joinNear_flat]; exact h.asc, joinNear_bd (bad := fun _ => False) h.bd (fun j z => z.elim)⟩
/-- put, room enough -/
theorem kept_put {room : Nat} {A B : List (List Rw)} {s : List Rw} {row : Rw} (h : Kept room (A ++ s :: B)) (hA : ∀ x ∈ A.flatten, R x < R row) (hB : ∀ y ∈ B.flatten, R row < R y) (hn : row ∉ s) (hl : s.length + 1 ≤ room) : Kept room (A ++ insR s row :: B) := by
  refine ⟨fun t ht => ?_, put_asc h.asc hA hB hn, bd_grow h.bd (by rw [insR_len]; omega)⟩
  rcases List.mem_append.mp ht with ht | ht
  · exact h.sz t (List.mem_append_left _ ht)
  · rcases List.mem_cons.mp ht with rfl | ht
    · refine ⟨fun z => ?_, by rw [insR_len]; exact hl⟩
      have := insR_len s row
      rw [z] at this
      simp at this
    · exact h.sz t (List.mem_append_right _ (List.mem_cons_of_mem _ ht))
/-- put, a stack parted -/
theorem kept_part {room : Nat} {A B : List (List Rw)} {s : List Rw} {row : Rw} (hr : 2 ≤ room) (h : Kept room (A ++ s :: B)) (hA : ∀ x ∈ A.flatten, R x < R row) (hB : ∀ y ∈ B.flatten, R row < R y) (hn : row ∉ s) (hl : room < s.length + 1) :
    Kept room (joinNear room A.length (joinNear room (A.length + 1) (A ++ (insR s row).take ((s.length + 1) / 2) :: (insR s row).drop ((s.length + 1) / 2) :: B))) ∧ (A ++ (insR s row).take ((s.length + 1) / 2) :: (insR s row).drop ((s.length + 1) / 2) :: B).flatten = (A ++ insR s row :: B).flatten := by
  have hs := (h.sz s (List.mem_append_right _ (List.mem_cons_self ..))).2
  have hi := insR_len s row
  have hf : (A ++ (insR s row).take ((s.length + 1) / 2) :: (insR s row).drop ((s.length + 1) / 2) :: B).flatten = (A ++ insR s row :: B).flatten := by
    simp only [List.flatten_append, List.flatten_cons, ← List.append_assoc]
    rw [List.append_assoc A.flatten, List.take_append_drop]
  have l1 : ((insR s row).take ((s.length + 1) / 2)).length = (s.length + 1) / 2 := by rw [List.length_take]; omega
  have l2 : ((insR s row).drop ((s.length + 1) / 2)).length = s.length + 1 - (s.length + 1) / 2 := by rw [List.length_drop]; omega
  refine ⟨⟨joinNear_szs (joinNear_szs fun t ht => ?_), ?_, ?_⟩, hf⟩
  · rcases List.mem_append.mp ht with ht | ht
    · exact h.sz t (List.mem_append_left _ ht)
    · rcases List.mem_cons.mp ht with rfl | ht
      · exact ⟨fun z => by rw [z] at l1; simp at l1; omega, by omega⟩
      · rcases List.mem_cons.mp ht with rfl | ht
        · exact ⟨fun z => by rw [z] at l2; simp at l2; omega, by omega⟩
        · exact h.sz t (List.mem_append_right _ (List.mem_cons_of_mem _ ht))
  · rw [joinNear_flat, joinNear_flat, hf]
    exact put_asc h.asc hA hB hn
  · exact joinNear_bd (joinNear_bd2 (bd_part h.bd (by omega))) (fun j z => .inr z)
/-- taken out -/
theorem take_asc {A B : List (List Rw)} {s : List Rw} {row : Rw} (h : Asc none (A ++ s :: B).flatten) : Asc none (A.flatten ++ ((s.filter fun r => !decide (R r = R row)) ++ B.flatten)) := by
  obtain ⟨p1, p2, p3⟩ := List.pairwise_append.mp (asc_flat h)
  obtain ⟨p4, p5, p6⟩ := List.pairwise_append.mp p2
  refine asc_of (List.pairwise_append.mpr ⟨p1, List.pairwise_append.mpr ⟨p4.filter _, p5, fun a ha b hb => p6 a (List.mem_filter.mp ha).1 b hb⟩, fun a ha b hb => ?_⟩)
  rcases List.mem_append.mp hb with hb | hb
  · exact p3 a ha b (List.mem_append_left _ (List.mem_filter.mp hb).1)
  · exact p3 a ha b (List.mem_append_right _ hb)
theorem kept_less {room : Nat} {A B : List (List Rw)} {s : List Rw} {row : Rw} (h : Kept room (A ++ s :: B)) (hne : (s.filter fun r => !decide (R r = R row)) ≠ []) : Kept room (joinNear room A.length (A ++ (s.filter fun r => !decide (R r = R row)) :: B)) := by
  refine ⟨joinNear_szs fun t ht => ?_, ?_, joinNear_bd (bd_less h.bd) (fun j z => z)⟩
  · rcases List.mem_append.mp ht with ht | ht
    · exact h.sz t (List.mem_append_left _ ht)
    · rcases List.mem_cons.mp ht with rfl | ht
      · exact ⟨hne, Nat.le_trans (List.length_filter_le _ _) (h.sz s (List.mem_append_right _ (List.mem_cons_self ..))).2⟩
      · exact h.sz t (List.mem_append_right _ (List.mem_cons_of_mem _ ht))
  · rw [joinNear_flat, List.flatten_append, List.flatten_cons]
    exact take_asc h.asc
theorem kept_gone {room : Nat} {A B : List (List Rw)} {s : List Rw} (row : Rw) (h : Kept room (A ++ s :: B)) (he : (s.filter fun r => !decide (R r = R row)) = []) : Kept room (joinNear room A.length (A ++ B)) := by
  refine ⟨joinNear_szs fun t ht => ?_, ?_, joinNear_bd (bd_gone h.bd) (fun j z => z)⟩
  · rcases List.mem_append.mp ht with ht | ht
    · exact h.sz t (List.mem_append_left _ ht)
    · exact h.sz t (List.mem_append_right _ (List.mem_cons_of_mem _ ht))
  · have := take_asc (row := row) h.asc
    rw [he] at this
    rw [joinNear_flat, List.flatten_append]
    exact this
/-- a + b, both standing -/
theorem el_catP {σ : L2.St} {H : Hp} {ta tb : TE} {p r : Addr} {xs ys : List V} (ha : Ev ta σ H (.ref p)) (hp : H p = some (.lst xs)) (hb : Ev tb σ H (.ref r)) (hr : H r = some (.lst ys)) (hz : xs.length + ys.length ≤ 100000) : EvL (tOp rCat ta tb) σ H (xs ++ ys) := fun H1 e Q q =>
  ha H1 e _ fun H2 e2 => hb H2 (e.trans e2) _ fun H3 e3 => ⟨p, r, xs, ys, rfl, rfl, ((e.trans e2).trans e3) _ _ hp, ((e.trans e2).trans e3) _ _ hr, sz_of hz, fun l hl => q l _ (fresh_back (e2.trans e3) hl) ((e2.trans e3).trans (Ex.new hl)) upd_same⟩
/-- xs.append(a new list), xs.insert(i, a new list) -/
theorem s_appN {K : PySem.W.Frag} {σ : L2.St} {H : Hp} {D : Ends} {ta te : TE} {l : Addr} {xs ys : List V} (hl : H l = some (.lst xs)) (ha : Ev ta σ H (.ref l)) (h : EvL te σ H ys) (hz : xs.length < 100000) (k : ∀ p H1, H p = none → Ex H H1 → H1 p = some (.lst ys) → D.nx σ (upd H1 l (.lst (xs ++ [.ref p])))) : tDrop (tBM K "list" rAppend ta (tCons te tNil)) D σ H :=
  ha H (Ex.refl H) _ fun H1 e1 => ⟨Or.inl ⟨rfl, xs, sq_of (e1 l _ hl)⟩, h H1 e1 _ fun p H2 hp e2 h2 => ⟨l, xs, _, rfl, rfl, e2 _ _ (e1 l _ hl), sz_lt hz, k p H2 (fresh_back e1 hp) (e1.trans e2) h2⟩⟩
theorem q_insN {K : PySem.W.Frag} {σ : L2.St} {H : Hp} {D : Ends} {tz : TS} {ta tb te : TE} {l : Addr} {xs ys : List V} {i : Nat} (hl : H l = some (.lst xs)) (ha : Ev ta σ H (.ref l)) (hb : Ev tb σ H (.int (i : Int))) (h : EvL te σ H ys) (hz : xs.length < 100000) (hi : i < 100000) (k : ∀ p H1, H p = none → Ex H H1 → H1 p = some (.lst ys) → tz D σ (upd H1 l (.lst (xs.take i ++ [.ref p] ++ xs.drop i)))) : tSeq (tDrop (tBM K "list" rInsertK ta (tCons tb (tCons te tNil)))) tz D σ H :=
  ha H (Ex.refl H) _ fun H1 e1 => ⟨Or.inl ⟨rfl, xs, sq_of (e1 l _ hl)⟩, hb H1 e1 _ fun H2 e2 => h H2 (e1.trans e2) _ fun p H3 hp e3 h3 => ⟨l, xs, (i : Int), _, rfl, rfl, (e2.trans e3) _ _ (e1 l _ hl), sz_lt hz, by omega, by omega, by
    rw [Int.toNat_natCast]
    exact k p H3 (fresh_back (e1.trans e2) hp) ((e1.trans e2).trans e3) h3⟩⟩
theorem q_appN {K : PySem.W.Frag} {σ : L2.St} {H : Hp} {D : Ends} {tz : TS} {ta te : TE} {l : Addr} {xs ys : List V} (hl : H l = some (.lst xs)) (ha : Ev ta σ H (.ref l)) (h : EvL te σ H ys) (hz : xs.length < 100000) (k : ∀ p H1, H p = none → Ex H H1 → H1 p = some (.lst ys) → tz D σ (upd H1 l (.lst (xs ++ [.ref p])))) : tSeq (tDrop (tBM K "list" rAppend ta (tCons te tNil))) tz D σ H := s_appN (D := { D with nx := tz D }) hl ha h hz k
theorem er_map {α β : Type} (f : α → β) : ∀ (l : List α) (j : Nat), (l.map f).eraseIdx j = (l.eraseIdx j).map f
  | [], j => by simp
  | a :: r, 0 => by simp
  | a :: r, j + 1 => by
    have ih := er_map f r j
    simp [ih]
/-- rows.remove(row) -/
theorem q_remR {K : PySem.W.Frag} {σ : L2.St} {H : Hp} {D : Ends} {tz : TS} {ta te : TE} {l : Addr} {s : List Rw} {row : Rw} (hl : H l = some (.lst (RL s))) (ha : Ev ta σ H (.ref l)) (h : Ev te σ H (.str (T (R row)))) (hasc : Asc none s) (hin : row ∈ s) (k : ∀ H1, Ex H H1 → tz D σ (upd H1 l (.lst (RL (s.filter fun r => !decide (R r = R row)))))) : tSeq (tDrop (tBM K "list" rRemS ta (tCons te tNil))) tz D σ H :=
  ha H (Ex.refl H) _ fun H1 e1 => ⟨Or.inl ⟨rfl, _, sq_of (e1 l _ hl)⟩, h H1 e1 _ fun H2 e2 => by
    refine ⟨l, s.map TRw, TRw row, (before s row).length, rfl, rfl, by rw [← RL_TRw]; exact e2 _ _ (e1 _ _ hl), ?_, fun m hm hz => ?_, ?_⟩
    · rw [List.getElem?_map, at_bef hasc hin]
      rfl
    · rw [List.getElem?_map] at hz
      cases hr : s[m]? with
      | none => rw [hr] at hz; cases hz
      | some r =>
        rw [hr] at hz
        have hz : TRw r = TRw row := Option.some.inj hz
        have hrr : r = row := R_inj (T_inj.mp hz)
        obtain ⟨h1, h2⟩ := List.getElem?_eq_some_iff.mp hr
        obtain ⟨h3, h4⟩ := List.getElem?_eq_some_iff.mp (at_bef hasc hin)
        have := nodup_at (asc_nodup hasc) h1 h3 (by rw [h2, h4, hrr])
        omega
    · have e : ((s.map TRw).eraseIdx (before s row).length).map V.str = RL (s.filter fun r => !decide (R r = R row)) := by
        rw [← drop_at hasc hin, RL_TRw, er_map]
      rw [e]
      exact k H2 (e1.trans e2)⟩
theorem kept_len {room : Nat} {ss : List (List Rw)} (h : Szs room ss) : ss.length ≤ ss.flatten.length := by
  induction ss with
  | nil => exact Nat.zero_le _
  | cons s r ih =>
    have h1 := ih fun t ht => h t (List.mem_cons_of_mem _ ht)
    have h2 := List.length_pos_iff.mpr (h s (List.mem_cons_self ..)).1
    rw [List.length_cons, List.flatten_cons, List.length_append]
    omega
theorem mem_takeF {A B : List (List Rw)} {s : List Rw} {row r : Rw} (hA : ∀ x ∈ A.flatten, R x < R row) (hB : ∀ y ∈ B.flatten, R row < R y) : r ∈ (A.flatten ++ ((s.filter fun r => !decide (R r = R row)) ++ B.flatten)) ↔ r ∈ (A ++ s :: B).flatten ∧ r ≠ row := by
  have nA : r ∈ A.flatten → r ≠ row := fun h z => by have := hA r h; rw [z] at this; exact List.lt_irrefl _ this
  have nB : r ∈ B.flatten → r ≠ row := fun h z => by have := hB r h; rw [z] at this; exact List.lt_irrefl _ this
  have nF : (!decide (R r = R row)) = true ↔ r ≠ row := by
    rw [Bool.not_eq_true', decide_eq_false_iff_not]
    exact ⟨fun h z => h (by rw [z]), fun h z => h (R_inj z)⟩
  simp only [List.flatten_append, List.flatten_cons, List.mem_append, List.mem_filter]
  constructor
  · rintro (h | ⟨h, h2⟩ | h)
    · exact ⟨.inl h, nA h⟩
    · exact ⟨.inr (.inl h), nF.mp h2⟩
    · exact ⟨.inr (.inr h), nB h⟩
  · rintro ⟨h | h | h, h2⟩
    · exact .inl h
    · exact .inr (.inl ⟨h, nF.mpr h2⟩)
    · exact .inr (.inr h)
/-- between two stacks -/
def lastR (s : List Rw) : Rw := s.getLast?.getD []
def partR (ss : List (List Rw)) (k : Nat) : Rw := (hdR (ss[k + 1]?.getD [])).take (com (lastR (ss[k]?.getD [])) (hdR (ss[k + 1]?.getD [])) + 1)
theorem last_mem {s : List Rw} (h : s ≠ []) : lastR s ∈ s := by
  unfold lastR
  rw [List.getLast?_eq_some_getLast h]
  exact List.getLast_mem h
theorem near_lt {room : Nat} {ss : List (List Rw)} (h : Kept room ss) {k : Nat} (hk : k + 1 < ss.length) : R (lastR ss[k]) < R (hdR ss[k + 1]) := by
  have hp := asc_pair h.asc
  have h2 := (List.pairwise_flatten.mp hp).2
  have := (List.pairwise_iff_getElem.mp h2) k (k + 1) (by omega) hk (by omega)
  exact this _ (last_mem (h.sz _ (List.getElem_mem _)).1) _ (hd_mem (h.sz _ (List.getElem_mem _)).1)
theorem sub_asc {room : Nat} {ss : List (List Rw)} (h : Kept room ss) {s : List Rw} (hs : s ∈ ss) : Asc none s := asc_of ((List.pairwise_flatten.mp (asc_pair h.asc)).1 s hs)
theorem cutV_pre (xs : List V) (k : Nat) : cutV xs none (some (k : Int)) = xs.take k := by
  unfold cutV
  rw [HT.sIx_none, HT.sIx_nat, List.drop_zero, Nat.sub_zero]
  by_cases h : k ≤ xs.length
  · rw [Nat.min_eq_left h]
  · rw [Nat.min_eq_right (by omega), List.take_length, List.take_of_length_le (by omega)]
theorem cutV_suf (xs : List V) (k : Nat) : cutV xs (some (k : Int)) none = xs.drop k := by
  unfold cutV
  rw [HT.sIx_none, HT.sIx_nat]
  by_cases h : k ≤ xs.length
  · rw [Nat.min_eq_left h, List.take_of_length_le (by rw [List.length_drop]; omega)]
  · rw [Nat.min_eq_right (by omega), Nat.sub_self, List.take_zero, List.drop_eq_nil_of_le (by omega)]
theorem RL_take (s : List Rw) (k : Nat) : (RL s).take k = RL (s.take k) := by unfold RL; rw [List.map_take]
theorem RL_drop (s : List Rw) (k : Nat) : (RL s).drop k = RL (s.drop k) := by unfold RL; rw [List.map_drop]
theorem joinAt_le (room i : Nat) (ss : List (List Rw)) : (joinAt room i ss).length ≤ ss.length := by
  unfold joinAt
  split
  · rename_i h
    rw [List.length_append, List.length_take, List.length_cons, List.length_drop]
    omega
  · exact Nat.le_refl _
theorem joinNear_le (room p : Nat) (ss : List (List Rw)) : (joinNear room p ss).length ≤ ss.length := by
  unfold joinNear
  split
  · exact joinAt_le _ _ _
  · exact Nat.le_trans (joinAt_le _ _ _) (joinAt_le _ _ _)
theorem List.Nodup.subset_length {α : Type} [DecidableEq α] {l1 l2 : List α} (h : l1.Nodup) (hs : ∀ x ∈ l1, x ∈ l2) : l1.length ≤ l2.length := by
  induction l1 generalizing l2 with
  | nil => exact Nat.zero_le _
  | cons a r ih =>
    obtain ⟨ha, hr⟩ := List.nodup_cons.mp h
    have h1 := ih (l2 := l2.erase a) hr fun x hx => (List.mem_erase_of_ne (fun z => ha (by rw [← z]; exact hx))).mpr (hs x (List.mem_cons_of_mem _ hx))
    have h2 : a ∈ l2 := hs a (List.mem_cons_self ..)
    rw [List.length_erase_of_mem h2] at h1
    have := List.length_pos_of_mem h2
    rw [List.length_cons]
    omega
end Kr
namespace Kr
open PySem PySem.Spec PyProof.Rows L2 Evl
local macro_rules | `(tactic| k_subL) => `(tactic| first
  | with_reducible exact ev_c
  | ((with_reducible apply ev_var); exact rfl)
  | with_reducible apply ev_addI
  | with_reducible apply ev_subI
  | with_reducible apply ev_modI
  | with_reducible apply ev_divI
  | with_reducible apply ev_mulI
  | with_reducible apply ev_shrI
  | with_reducible apply ev_shlI
  | with_reducible apply ev_powI
  | with_reducible apply ev_andI
  | with_reducible apply ev_ltI
  | with_reducible apply ev_leI
  | with_reducible apply ev_gtI
  | with_reducible apply ev_geI
  | with_reducible apply ev_addT
  | with_reducible apply ev_ltT
  | with_reducible apply ev_leT
  | with_reducible apply ev_mulT
  | with_reducible apply ev_ixT
  | with_reducible apply ev_isN
  | with_reducible apply ev_notN
  | with_reducible apply ev_neg
  | with_reducible apply ev_bits
  | with_reducible apply ev_slT
  | with_reducible apply eo_none
  | with_reducible apply eo_some
  | with_reducible apply ev_call
  | with_reducible apply ea_nil
  | with_reducible apply ea_cons
  | with_reducible apply et_test
  | with_reducible apply et_B
  | with_reducible apply et_not
  | with_reducible apply ev_notV)
local macro_rules | `(tactic| k_clsL) => `(tactic| repeat' k_subL)
def exL : List Str := ["NoFit", "NoForm", "NotAhead", "BadPage", "Short"]
abbrev Kx (K : PySem.W.Frag) : Prop := KxL exL K
def srcD : Nat := 0
def ownL : List Str := ["Short"]
abbrev Ko (K : PySem.W.Frag) : Prop := KoL ownL K
def N__law_cell_at : List Str := ["_law_script", "_law_k"]
def t__law_cell_at (K : PySem.W.Frag) : TS :=
  (tSeq (tIfS (tTest (tOp rLtI (tVar 1) (tCB (rLenK K) (tCons (tVar 0) tNil)))) (tRet (tOp (rIxL K) (tVar 0) (tVar 1))) tNext)
    (tRet (tC (.int 0))))
def sp__law_cell_at (K : PySem.W.Frag) : Sp := fun vs H Q _ => ∃ (a : Addr) (ns : List Int) (k : Int), vs = [.ref a, .int k] ∧ SqL K H a (ns.map V.int) ∧ 0 ≤ k ∧ RetV (.int (cellAt ns k)) H Q
theorem len__law_cell_at {K : PySem.W.Frag} {vs H Q E} (h : sp__law_cell_at K vs H Q E) : vs.length = 2 := by
  obtain ⟨a, ns, k, rfl, _⟩ := h
  rfl
theorem u__law_cell_at {K : PySem.W.Frag} {H : Hp} {a : Addr} {ns : List Int} {k : Int} (hs : SqL K H a (ns.map V.int)) (h : 0 ≤ k) : SpV (sp__law_cell_at K) [.ref a, .int k] H (.int (cellAt ns k)) := fun H1 e Q q E => ⟨a, ns, k, rfl, ex_l e hs, h, q⟩
theorem rd__law_cell_at {K : PySem.W.Frag} (vs : List V) (H : Hp) (Q : VK) (E : XK) (h : sp__law_cell_at K vs H Q E) : t__law_cell_at K { nx := fun _ H' => Q .non H', rt := Q } (start N__law_cell_at vs) H := by
  obtain ⟨a, ns, k, rfl, hs, hk, q⟩ := h
  refine q_when (b := decide (k < ((ns.map V.int).length : Int))) (et_test (ev_op (ev_var rfl) (ev_lenS (ev_var rfl) (.inl hs)) rv_ltI)) (fun hb H1 e1 => ?_) (fun hb H1 e1 => ?_)
  · have hlt : k < ((ns.map V.int).length : Int) := of_decide_eq_true hb
    rw [List.length_map] at hlt
    obtain ⟨j, rfl⟩ := Int.eq_ofNat_of_zero_le hk
    have hj : j < ns.length := by omega
    refine s_ret (v := .int (cellAt ns j)) (ev_op (ev_var rfl) (ev_var rfl) (rv_ixL (ex_l e1 hs) ?_)) fun H2 e2 => q H2 (e1.trans e2)
    exact at_int hj
  · have hlt : ¬ k < ((ns.map V.int).length : Int) := of_decide_eq_false hb
    rw [List.length_map] at hlt
    have e0 : cellAt ns k = 0 := by
      unfold cellAt
      rw [List.getElem?_eq_none (by omega)]
      rfl
    refine s_ret (v := .int 0) ev_c fun H2 e2 => ?_
    have := q H2 (e1.trans e2)
    rw [e0] at this
    exact this
def N_Turned___init__ : List Str := ["self", "inner"]
def t_Turned___init__ (K : PySem.W.Frag) : TS :=
  (sFldC (He.ga K "Turned") (tVar 0) (tVar 1) "inner")
/-- numbers of few digits -/
def SmN (n : Int) : Prop := n.natAbs ≤ 10 ^ 60
theorem SmN.ok {n : Int} (h : SmN n) : wholeOk n := by
  have h : n.natAbs ≤ 10 ^ 60 := h
  have : (10 : Nat) ^ 60 < 2 ^ 254 := by decide
  have : (2 : Int) ^ 254 = ((2 ^ 254 : Nat) : Int) := by simp
  constructor <;> omega
def rowW (turn : Bool) (n : Int) : Rw := if turn then neg (wholeRow n) else wholeRow n
theorem rowW_len {turn : Bool} {n : Int} (h : SmN n) : (rowW turn n).length ≤ 301 := by
  unfold rowW
  have := wholeRow_len h.ok
  split
  · rw [neg_len]; exact this
  · exact this
/-- what objects hold stays -/
def InK (H H' : Hp) : Prop := ∀ a C dx fs, H a = some (.ins C dx fs) → H' a = some (.ins C dx fs)
theorem InK.of {H H' : Hp} (e : Ex H H') : InK H H' := fun a C dx fs h => e _ _ h
def WhoV (K : PySem.W.Frag) (H : Hp) (x : V) : Prop := ∃ a dx, x = .ref a ∧ H a = some (.ins (He.ga K "Whole") dx [])
def FrmV (K : PySem.W.Frag) (H : Hp) (x : V) (turn : Bool) : Prop := if turn then ∃ a dx y, x = .ref a ∧ H a = some (.ins (He.ga K "Turned") dx [("inner", y)]) ∧ WhoV K H y else WhoV K H x
theorem WhoV.mono {K : PySem.W.Frag} {H H' : Hp} {x : V} (e : InK H H') (h : WhoV K H x) : WhoV K H' x := by
  obtain ⟨a, dx, h1, h2⟩ := h
  exact ⟨a, dx, h1, e _ _ _ _ h2⟩
theorem FrmV.mono {K : PySem.W.Frag} {H H' : Hp} {x : V} {turn : Bool} (e : InK H H') (h : FrmV K H x turn) : FrmV K H' x turn := by
  unfold FrmV at h ⊢
  cases turn with
  | true =>
    obtain ⟨a, dx, y, h1, h2, h3⟩ := h
    exact ⟨a, dx, y, h1, e _ _ _ _ h2, h3.mono e⟩
  | false => exact WhoV.mono e h
def sp_Turned___init__ (K : PySem.W.Frag) : Sp := fun vs H Q _ => ∃ (t dx : Addr) (y : V), vs = [.ref t, y] ∧ H t = some (.ins (He.ga K "Turned") dx []) ∧ ∀ H', ExU t H H' → H' t = some (.ins (He.ga K "Turned") dx [("inner", y)]) → Q .non H'
theorem len_Turned___init__ {K : PySem.W.Frag} {vs H Q E} (h : sp_Turned___init__ K vs H Q E) : vs.length = 2 := by
  obtain ⟨t, dx, y, rfl, _⟩ := h
  rfl
theorem rd_Turned___init__ {K : PySem.W.Frag} (vs : List V) (H : Hp) (Q : VK) (E : XK) (h : sp_Turned___init__ K vs H Q E) : t_Turned___init__ K { nx := fun _ H' => Q .non H', rt := Q } (start N_Turned___init__ vs) H := by
  obtain ⟨t, dx, y, rfl, ht, q⟩ := h
  exact s_fldC (ev_var rfl) (ev_var rfl) ht (by simp) fun H1 e1 h1 => q H1 e1 h1
/-- an object made: nothing else is touched -/
theorem made_ex {H H1 H' : Hp} {t dx : Addr} {o o' : HO} (e1 : Ex H H1) (ht : H1 t = none) (hd : H1 dx = none) (e' : ExU t (upd (upd H1 dx o) t o') H') : Ex H H' := fun b u hb => by
  have h1 := e1 _ _ hb
  have n1 : b ≠ t := fun z => by rw [z, ht] at h1; cases h1
  have n2 : b ≠ dx := fun z => by rw [z, hd] at h1; cases h1
  exact e' b u n1 (by rw [upd_ne n1, upd_ne n2]; exact h1)
def N_Shelf___init__ : List Str := ["self", "form", "room"]
def t_Shelf___init__ (K : PySem.W.Frag) (E : XK) : TS :=
  (tSeq (tIfS (tOr (tTest (tOp rLtI (tVar 2) (tC (.int 2)))) (tTest (tOp rGtI (tVar 2) (tC (.int 20))))) (tRaiseX (.ref (He.ga K "NoForm")) E) tNext)
    (tSeq (sFldC (He.ga K "Shelf") (tVar 0) (tVar 1) "form")
    (tSeq (sFldC (He.ga K "Shelf") (tVar 0) (tVar 2) "room")
    (sFldC (He.ga K "Shelf") (tVar 0) (tLst tNil) "stacks"))))
/-- a shelf and its stacks: where they stand -/
structure ShI (K : PySem.W.Frag) (H : Hp) (a : Addr) (fm : V) (room : Nat) (q : Addr) (l : List (Addr × List Rw)) : Prop where
  obj : ∃ dx, H a = some (.ins (He.ga K "Shelf") dx [("form", fm), ("room", .int (room : Int)), ("stacks", .ref q)])
  st : H q = some (.lst (l.map fun e => V.ref e.1))
  els : ∀ e ∈ l, H e.1 = some (.lst (RL e.2)) ∧ e.1 ≠ q
  nd : (l.map fun e => e.1).Nodup
theorem ShI.mono {K : PySem.W.Frag} {H H' : Hp} {a : Addr} {fm : V} {room : Nat} {q : Addr} {l : List (Addr × List Rw)} (e : Ex H H') (h : ShI K H a fm room q l) : ShI K H' a fm room q l := by
  obtain ⟨⟨dx, h1⟩, h2, h3, h4⟩ := h
  exact ⟨⟨dx, e _ _ h1⟩, e _ _ h2, fun x hx => ⟨e _ _ (h3 x hx).1, (h3 x hx).2⟩, h4⟩
def sp_Shelf___init__ (K : PySem.W.Frag) : Sp := fun vs H Q _ => ∃ (a dx : Addr) (fm : V) (room : Nat), vs = [.ref a, fm, .int (room : Int)] ∧ H a = some (.ins (He.ga K "Shelf") dx []) ∧ 2 ≤ room ∧ room ≤ 20 ∧ ∀ H' q, ExU a H H' → H q = none → ShI K H' a fm room q [] → Q .non H'
theorem len_Shelf___init__ {K : PySem.W.Frag} {vs H Q E} (h : sp_Shelf___init__ K vs H Q E) : vs.length = 3 := by
  obtain ⟨a, dx, fm, room, rfl, _⟩ := h
  rfl
theorem rd_Shelf___init__ {K : PySem.W.Frag} (vs : List V) (H : Hp) (Q : VK) (E : XK) (h : sp_Shelf___init__ K vs H Q E) : t_Shelf___init__ K E { nx := fun _ H' => Q .non H', rt := Q } (start N_Shelf___init__ vs) H := by
  obtain ⟨a, dx, fm, room, rfl, ha, r0, r1, q⟩ := h
  refine q_when (b := false) (et_is (et_or (et_test (ev_ltI (ev_var rfl) ev_c)) fun _ => et_test (ev_gtI (ev_var rfl) ev_c)) (by rw [decide_eq_false (show ¬ (room : Int) < 2 by omega), decide_eq_false (show ¬ (20 : Int) < room by omega)]; rfl)) (fun hf => nomatch hf) (fun _ H1 e1 => ?_)
  refine q_fldC (ev_var rfl) (ev_var rfl) (e1 _ _ ha) (by simp) fun H2 e2 h2 => ?_
  refine q_fldC (ev_var rfl) (ev_var rfl) h2 (Nat.lt_of_le_of_lt (putF_len _ _ _) (by simp)) fun H3 e3 h3 => ?_
  have e03 := (exu e1).trans (e2.trans e3)
  refine (el_lst ea_nil (by simp) : EvL (tLst tNil) _ H3 []) H3 (Ex.refl H3) _ fun p H4 hp e4 h4 => ?_
  have hpa : p ≠ a := fun z => by rw [z, h3] at hp; cases hp
  refine (ev_var rfl : Ev (tVar 0) _ H4 (.ref a)) H4 (Ex.refl H4) _ fun H5 e5 => ⟨a, dx, _, rfl, (e4.trans e5) _ _ h3, Nat.lt_of_le_of_lt (putF_len _ _ _) (Nat.lt_of_le_of_lt (Nat.succ_le_succ (putF_len _ _ _)) (by simp)), ?_⟩
  exact q _ p ((e03.trans (exu (e4.trans e5))).upd) (fresh_backU e03 hpa hp) ⟨⟨dx, upd_same⟩, by rw [upd_ne hpa]; exact e5 _ _ h4, (fun x hx => by cases hx), List.nodup_nil⟩
theorem q_shelf {K : PySem.W.Frag} {σ : L2.St} {H : Hp} {ta : TA} {D : Ends} {tz : TS} {i : Nat} {fm : V} {room : Nat} (h : EvA ta σ H [fm, .int (room : Int)]) (r0 : 2 ≤ room) (r1 : room ≤ 20) (k : ∀ a q H', Ex H H' → H q = none → ShI K H' a fm room q [] → tz D (σ.set i (some (.ref a))) H') :
    tSeq (tAsg (tMake (He.ga K "Shelf") (sp_Shelf___init__ K) [] E0 ta) (gName i)) tz D σ H :=
  show tMake (He.ga K "Shelf") (sp_Shelf___init__ K) [] E0 ta σ H (fun v H' => tz D (σ.set i (some v)) H') from
  go_make h fun a dx H1 e1 ha hd hne => ⟨a, dx, fm, room, rfl, upd_same, r0, r1, fun H' q e' hq hs => ⟨rfl, k a q H' (made_ex e1 ha hd e') (fresh_back e1 (by
    by_cases z1 : q = a
    · rw [z1, upd_same] at hq; cases hq
    · rw [upd_ne z1] at hq
      by_cases z2 : q = dx
      · rw [z2, upd_same] at hq; cases hq
      · rwa [upd_ne z2] at hq)) hs⟩⟩
theorem q_turned {K : PySem.W.Frag} {σ : L2.St} {H : Hp} {D : Ends} {i : Nat} (k : ∀ x H', Ex H H' → FrmV K H' x true → D.nx (σ.set i (some x)) H') : tAsg (tMake (He.ga K "Turned") (sp_Turned___init__ K) [] E0 (tCons (tMake0 (He.ga K "Whole")) tNil)) (gName i) D σ H := by
  intro x dx hx hd hne
  have hxe : Ex H (upd (upd H dx (.own x)) x (.ins (He.ga K "Whole") dx [])) := fun b u hb => by
    rw [upd_ne (ne_of_none hb hx), upd_ne (ne_of_none hb hd)]
    exact hb
  intro t dt ht hdt hne2
  refine ⟨t, dt, .ref x, rfl, upd_same, fun H' e' h' => ⟨rfl, k (.ref t) H' (made_ex hxe ht hdt e') ?_⟩⟩
  have hex := made_ex (Ex.refl _) ht hdt e'
  exact ⟨t, dt, .ref x, rfl, h', x, dx, rfl, hex _ _ upd_same⟩
theorem q_whole {K : PySem.W.Frag} {σ : L2.St} {H : Hp} {D : Ends} {tz : TS} {i : Nat} (k : ∀ x H', Ex H H' → FrmV K H' x false → tz D (σ.set i (some x)) H') : tSeq (tAsg (tMake0 (He.ga K "Whole")) (gName i)) tz D σ H := by
  intro x dx hx hd hne
  refine k (.ref x) _ (fun b u hb => ?_) ⟨x, dx, rfl, upd_same⟩
  rw [upd_ne (ne_of_none hb hx), upd_ne (ne_of_none hb hd)]
  exact hb
def N__law_number : List Str := ["_law_cell", "_law_number_here"]
def t__law_number (K : PySem.W.Frag) : TS :=
  (tSeq (tAsg (tOp rModI (tOp rDivI (tVar 0) (tC (.int 16))) (tOp (rIxL K) (tLst (tCons (tC (.int 9)) (tCons (tC (.int 90)) (tCons (tOp rPowI (tC (.int 10)) (tC (.int 60))) tNil)))) (tOp rModI (tOp rDivI (tVar 0) (tC (.int 4))) (tC (.int 3))))) (gName 1))
    (tSeq (tIfS (tTest (tOp rEq (tOp rModI (tOp rDivI (tVar 0) (tC (.int 12))) (tC (.int 4))) (tC (.int 3)))) (tRet (tOp rSubI (tC (.int 0)) (tVar 1))) tNext)
    (tRet (tVar 1))))
def sp__law_number (_ : PySem.W.Frag) : Sp := fun vs H Q _ => ∃ c : Int, vs = [.int c] ∧ ∀ n, SmN n → RetV (.int n) H Q
theorem len__law_number {K : PySem.W.Frag} {vs H Q E} (h : sp__law_number K vs H Q E) : vs.length = 1 := by
  obtain ⟨c, rfl, _⟩ := h
  rfl
theorem ew_number {K : PySem.W.Frag} {σ : L2.St} {H : Hp} {t1 : TE} {c : Int} (h1 : Ev t1 σ H (.int c)) : EvW (tCall (sp__law_number K) [] E0 (tCons t1 tNil)) σ H (fun v => ∃ n, v = .int n ∧ SmN n) := fun H1 e Q q =>
  (ea_cons h1 ea_nil : EvA _ σ H _) H1 e _ fun H2 e2 => ⟨c, rfl, fun n hn H3 e3 => q _ H3 ⟨n, rfl, hn⟩ (e2.trans e3)⟩
theorem rd__law_number {K : PySem.W.Frag} (vs : List V) (H : Hp) (Q : VK) (E : XK) (h : sp__law_number K vs H Q E) : t__law_number K { nx := fun _ H' => Q .non H', rt := Q } (start N__law_number vs) H := by
  obtain ⟨c, rfl, q⟩ := h
  have tab : ∃ g : Int, 0 < g ∧ g ≤ 10 ^ 60 ∧ atI ([.int 9, .int 90, .int (10 ^ (60 : Int).toNat)] : List V) (c / 4 % 3) = some (.int g) := by
    have : c / 4 % 3 = 0 ∨ c / 4 % 3 = 1 ∨ c / 4 % 3 = 2 := by omega
    rcases this with h | h | h <;> rw [h]
    · exact ⟨9, by decide, by decide, by decide +kernel⟩
    · exact ⟨90, by decide, by decide, by decide +kernel⟩
    · exact ⟨10 ^ 60, by decide, by decide, by decide +kernel⟩
  obtain ⟨g, g0, g1, hg⟩ := tab
  have m0 := Int.emod_nonneg (c / 16) (show g ≠ 0 by omega)
  have m1 := Int.emod_lt_of_pos (c / 16) g0
  have dv : ∀ (n j : Int), 0 < j → j.natAbs < 2 ^ 20 → CDivW n j := fun n j h0 h1 => wide_div (b := 20) h0 h1 (by decide) (by decide)
  refine q_asg (ev_modI (ev_divI (ev_var rfl) ev_c (dv _ _ (by decide) (by decide))) (ev_ixNL (el_lst (ea_cons ev_c (ea_cons ev_c (ea_cons (ev_powI ev_c ev_c (by unfold CPow; decide)) ea_nil))) (by simp)) (fun H9 e9 => ev_modI (ev_divI (ev_var rfl) ev_c (dv _ _ (by decide) (by decide))) ev_c (by decide)) hg) g0) fun H1 e1 => ?_
  generalize c / 16 % g = n at m0 m1
  refine q_when (et_test (ev_eqI (ev_modI (ev_divI (ev_var rfl) ev_c (dv _ _ (by decide) (by decide))) ev_c (by decide)) ev_c)) (fun _ H2 e2 => ?_) (fun _ H2 e2 => ?_)
  · exact s_ret (ev_subI ev_c (ev_var rfl)) fun H3 e3 => q (0 - n) (by show (0 - n).natAbs ≤ _; omega) H3 ((e1.trans e2).trans e3)
  · exact s_ret (ev_var rfl) fun H3 e3 => q n (by show n.natAbs ≤ _; omega) H3 ((e1.trans e2).trans e3)
def N_digits_of : List Str := ["number", "many", "k"]
def t_digits_of (K : PySem.W.Frag) : TS :=
  (tRet (tBM K "str" (rJoin K) (tC (.str (Kr.T []))) (tCons (tLc (iRng1 (tCons (tVar 1) tNil)) (gName 2) tYes (tOp rIxS (tC (.str (Kr.T [48, 49]))) (tOp rAndI (tOp rShrI (tVar 0) (tOp rSubI (tOp rSubI (tVar 1) (tC (.int 1))) (tVar 2))) (tC (.int 1)))) [2]) tNil)))
def sp_digits_of (_ : PySem.W.Frag) : Sp := fun vs H Q _ => ∃ (x : Int) (k : Nat), vs = [.int x, .int k] ∧ k ≤ 30000 ∧ RetV (.str (T (R (digs x k)))) H Q
theorem len_digits_of {K : PySem.W.Frag} {vs H Q E} (h : sp_digits_of K vs H Q E) : vs.length = 2 := by
  obtain ⟨x, k, rfl, _⟩ := h
  rfl
theorem u_digits_of {K : PySem.W.Frag} {H : Hp} {x : Int} {k : Nat} (hk : k ≤ 30000) : SpV (sp_digits_of K) [.int x, .int k] H (.str (T (R (digs x k)))) := fun H1 e Q q E => ⟨x, k, rfl, hk, q⟩
theorem rd_digits_of {K : PySem.W.Frag} (vs : List V) (H : Hp) (Q : VK) (E : XK) (h : sp_digits_of K vs H Q E) : t_digits_of K { nx := fun _ H' => Q .non H', rt := Q } (start N_digits_of vs) H := by
  obtain ⟨x, k, rfl, hk, q⟩ := h
  refine s_ret (v := .str (T (R (digs x k)))) ?_ fun H1 e1 => q H1 e1
  rw [← R_flat (digs x k)]
  refine ev_join ?_ (by rw [R_flat, R_len, digs_len]; omega) (by rw [List.length_map, digs_len]; omega)
  have e : ((digs x k).map fun b => [bc b]).map (fun p => V.str (T p)) = (List.range ((k : Int)).toNat).map fun i => V.str (T [bc (decide (x / 2 ^ (k - 1 - i) % 2 = 1))]) := by
    rw [digs_map, List.map_map, List.map_map, Int.toNat_natCast]
    rfl
  rw [e]
  refine el_mapR (n := k) _ (ea_cons (ev_var rfl) ea_nil) (by omega) (fun x => rfl) fun i H1 e1 hi => ?_
  have hb := bit_at x (k - 1 - i)
  refine ev_ixT ev_c (ev_andI (ev_shrI (ev_var rfl) (j := ((k - 1 - i : Nat) : Int)) (ev_is (ev_subI (ev_subI (ev_var rfl) ev_c) (ev_var rfl)) (by congr 1; omega)) (by omega)) ev_c) (by decide) hb
def N_count_row : List Str := ["n", "more", "size", "ones", "head"]
def t_count_row (K : PySem.W.Frag) (E : XK) : TS :=
  (tSeq (tAsg (tOp rAddI (tVar 0) (tC (.int 1))) (gName 1))
    (tSeq (tIfS (tOr (tTest (tOp rLtI (tVar 0) (tC (.int 0)))) (tTest (tOp rGtI (tBits (tVar 1)) (tC (.int 255))))) (tRaiseX (.ref (He.ga K "NoFit")) E) tNext)
    (tSeq (tAsg (tBits (tVar 1)) (gName 2))
    (tSeq (tAsg (tOp rSubI (tBits (tVar 2)) (tC (.int 1))) (gName 3))
    (tSeq (tAsg (tOp rMulT (tC (.str (Kr.T [49]))) (tVar 3)) (gName 4))
    (tSeq (tIfS (tTest (tOp rLtI (tVar 3) (tC (.int 7)))) (tAsg (tOp rAddT (tVar 4) (tC (.str (Kr.T [48])))) (gName 4)) tNext)
    (tRet (tOp rAddT (tOp rAddT (tVar 4) (tCall (sp_digits_of K) [] E0 (tCons (tVar 2) (tCons (tVar 3) tNil)))) (tCall (sp_digits_of K) [] E0 (tCons (tVar 1) (tCons (tOp rSubI (tVar 2) (tC (.int 1))) tNil)))))))))))
def sp_count_row (K : PySem.W.Frag) : Sp := fun vs H Q E => ∃ n : Int, vs = [.int n] ∧ (countOk n → RetV (.str (T (R (countRow n.toNat)))) H Q) ∧ (¬ countOk n → RaiseX (.ref (He.ga K "NoFit")) H E)
theorem len_count_row {K : PySem.W.Frag} {vs H Q E} (h : sp_count_row K vs H Q E) : vs.length = 1 := by
  obtain ⟨n, rfl, _⟩ := h
  rfl
theorem u_count_row {K : PySem.W.Frag} {H : Hp} {n : Int} (h : countOk n) : SpV (sp_count_row K) [.int n] H (.str (T (R (countRow n.toNat)))) := fun H1 e Q q E => ⟨n, rfl, fun _ => q, fun z => absurd h z⟩
theorem rd_count_row {K : PySem.W.Frag} (vs : List V) (H : Hp) (Q : VK) (E : XK) (h : sp_count_row K vs H Q E) : t_count_row K E { nx := fun _ H' => Q .non H', rt := Q } (start N_count_row vs) H := by
  obtain ⟨n, rfl, q, x⟩ := h
  refine q_asg (ev_addI (ev_var rfl) ev_c) fun H1 e1 => ?_
  have test : EvT (tOr (tTest (tOp rLtI (tVar 0) (tC (.int 0)))) (tTest (tOp rGtI (tBits (tVar 1)) (tC (.int 255))))) ((start N_count_row [.int n]).set 1 (some (.int (n + 1)))) H1 (decide (n < 0) || decide (255 < (Builtin.Int.intBits (n + 1) : Int))) :=
    et_or (et_test (ev_ltI (ev_var rfl) ev_c)) fun _ => et_test (ev_gtI (ev_bits (ev_var rfl)) ev_c)
  by_cases hc : countOk n
  · obtain ⟨m, rfl⟩ := Int.eq_ofNat_of_zero_le hc.1
    have hm1 : ((m : Int) + 1) = ((m + 1 : Nat) : Int) := rfl
    have hb : Builtin.Int.intBits ((m : Int) + 1) = blen (m + 1) := by rw [hm1, bits_nat (by omega)]
    have h1 : blen (m + 1) ≤ 255 := blen_le (by have := hc.2; omega) (by omega)
    have h2 : blen (blen (m + 1)) ≤ 8 := blen_le (by omega) (blen_pos _)
    have p1 := blen_pos (m + 1)
    have p2 := blen_pos (blen (m + 1))
    have q := q hc
    rw [hb] at test
    refine q_when (b := false) (et_is test ?_) (fun hf => nomatch hf) (fun _ H2 e2 => ?_)
    · have : ¬ (m : Int) < 0 := by omega
      have : ¬ 255 < ((blen (m + 1) : Nat) : Int) := by omega
      simp only [*, decide_false, Bool.or_self]
    refine q_asg (v := .int (blen (m + 1) : Nat)) (ev_is (ev_bits (ev_var rfl)) (by rw [hb])) fun H3 e3 => ?_
    refine q_asg (v := .int ((blen (blen (m + 1)) - 1 : Nat) : Int)) (ev_is (ev_subI (ev_bits (ev_var rfl)) ev_c) (by rw [bits_nat p1]; congr 1; omega)) fun H4 e4 => ?_
    refine q_asg (ev_ones (ev_var rfl) (by omega) (by omega)) fun H5 e5 => ?_
    refine q_cond (fun σ' H' => Ex H H' ∧ σ' = [some (.int m), some (.int ((m + 1 : Nat) : Int)), some (.int (blen (m + 1) : Nat)), some (.int ((blen (blen (m + 1)) - 1 : Nat) : Int)), some (.str (T (R (List.replicate (blen (blen (m + 1)) - 1) true ++ (if blen (blen (m + 1)) - 1 < 7 then [false] else [])))))]) (fun M hM => ?_) ?_
    · refine s_when (b := decide (((blen (blen (m + 1)) - 1 : Nat) : Int) < 7)) (et_test (ev_ltI (ev_var rfl) ev_c)) (fun hb H6 e6 => ?_) (fun hb H6 e6 => ?_)
      · have hlt : blen (blen (m + 1)) - 1 < 7 := by have := of_decide_eq_true hb; omega
        refine s_asg (ev_addT (ev_var rfl) ev_c (by simp [R_len]; omega)) fun H7 e7 => hM _ _ ⟨((((((e1.trans e2).trans e3).trans e4).trans e5).trans e6).trans e7), ?_⟩
        rw [if_pos hlt, R_app]
        rfl
      · have hlt : ¬ blen (blen (m + 1)) - 1 < 7 := by have := of_decide_eq_false hb; omega
        refine hM _ _ ⟨((((((e1.trans e2).trans e3).trans e4).trans e5).trans e6)), ?_⟩
        rw [if_neg hlt, List.append_nil]
        rfl
    · rintro σ' H' ⟨eH, rfl⟩
      refine s_ret (v := .str (T (R (countRow m)))) (ev_is (ev_addT (ev_addT (ev_var rfl) (ev_call (ea_cons (ev_var rfl) (ea_cons (ev_var rfl) ea_nil)) (u_digits_of (by omega))) ?_) (ev_call (ea_cons (ev_var rfl) (ea_cons (ev_is (ev_subI (ev_var rfl) ev_c) (w := .int ((blen (m + 1) - 1 : Nat) : Int)) (by congr 1; omega)) ea_nil)) (u_digits_of (by omega))) ?_) ?_) fun H2 e2 => q H2 (eH.trans e2)
      · simp only [R_len, digs_len, List.length_append, List.length_replicate]
        split <;> simp <;> omega
      · simp only [R_len, digs_len, List.length_append, List.length_replicate]
        split <;> simp <;> omega
      · rw [← R_app, ← R_app]
        rfl
  · refine q_when (b := true) (et_is test ?_) (fun _ H2 e2 => x hc H2 (e1.trans e2)) (fun hf => nomatch hf)
    unfold countOk at hc
    by_cases h0 : n < 0
    · simp only [h0, decide_true, Bool.true_or]
    · obtain ⟨m, rfl⟩ := Int.eq_ofNat_of_zero_le (show 0 ≤ n by omega)
      have hb : Builtin.Int.intBits ((m : Int) + 1) = blen (m + 1) := by
        rw [show ((m : Int) + 1) = ((m + 1 : Nat) : Int) from rfl, bits_nat (by omega)]
      have hg : 255 < blen (m + 1) := blen_gt (by omega)
      rw [hb]
      have : 255 < ((blen (m + 1) : Nat) : Int) := by omega
      simp only [this, decide_true, Bool.or_true]
def N_other_sign : List Str := ["sign"]
def t_other_sign (K : PySem.W.Frag) : TS :=
  (tSeq (tIfS (tTest (tOp rEq (tVar 0) (tC (.str (Kr.T [48]))))) (tRet (tC (.str (Kr.T [49])))) tNext)
    (tRet (tC (.str (Kr.T [48])))))
def sp_other_sign (_ : PySem.W.Frag) : Sp := fun vs H Q _ => ∃ b : Bool, vs = [.str (T [bc b])] ∧ RetV (.str (T [bc (!b)])) H Q
theorem len_other_sign {K : PySem.W.Frag} {vs H Q E} (h : sp_other_sign K vs H Q E) : vs.length = 1 := by
  obtain ⟨b, rfl, _⟩ := h
  rfl
theorem u_other_sign {K : PySem.W.Frag} {H : Hp} {b : Bool} : SpV (sp_other_sign K) [.str (T [bc b])] H (.str (T [bc (!b)])) := fun H1 e Q q E => ⟨b, rfl, q⟩
theorem rd_other_sign {K : PySem.W.Frag} (vs : List V) (H : Hp) (Q : VK) (E : XK) (h : sp_other_sign K vs H Q E) : t_other_sign K { nx := fun _ H' => Q .non H', rt := Q } (start N_other_sign vs) H := by
  obtain ⟨b, rfl, q⟩ := h
  cases b with
  | false =>
    refine q_when (b := true) (et_test (ev_is (ev_eqT (ev_var rfl) ev_c) (by simp [bc]))) (fun _ H1 e1 => ?_) (fun hf => nomatch hf)
    exact s_ret ev_c fun H2 e2 => q H2 (e1.trans e2)
  | true =>
    refine q_when (b := false) (et_test (ev_is (ev_eqT (ev_var rfl) ev_c) (by simp [bc]))) (fun hf => nomatch hf) (fun _ H1 e1 => ?_)
    exact s_ret ev_c fun H2 e2 => q H2 (e1.trans e2)
def N_turned_row : List Str := ["row", "sign"]
def t_turned_row (K : PySem.W.Frag) : TS :=
  (tRet (tBM K "str" (rJoin K) (tC (.str (Kr.T []))) (tCons (tLc (iStr (tVar 0)) (gName 1) tYes (tCall (sp_other_sign K) [] E0 (tCons (tVar 1) tNil)) [1]) tNil)))
def sp_turned_row (_ : PySem.W.Frag) : Sp := fun vs H Q _ => ∃ b : List Bool, vs = [.str (T (R b))] ∧ b.length ≤ 1000000 ∧ RetV (.str (T (R (neg b)))) H Q
theorem len_turned_row {K : PySem.W.Frag} {vs H Q E} (h : sp_turned_row K vs H Q E) : vs.length = 1 := by
  obtain ⟨b, rfl, _⟩ := h
  rfl
theorem u_turned_row {K : PySem.W.Frag} {H : Hp} {b : List Bool} (hl : b.length ≤ 1000000) : SpV (sp_turned_row K) [.str (T (R b))] H (.str (T (R (neg b)))) := fun H1 e Q q E => ⟨b, rfl, hl, q⟩
theorem rd_turned_row {K : PySem.W.Frag} (vs : List V) (H : Hp) (Q : VK) (E : XK) (h : sp_turned_row K vs H Q E) : t_turned_row K { nx := fun _ H' => Q .non H', rt := Q } (start N_turned_row vs) H := by
  obtain ⟨b, rfl, hl, q⟩ := h
  have hcomp : EvL (tLc (iStr (tVar 0)) (gName 1) tYes (tCall (sp_other_sign K) [] E0 (tCons (tVar 1) tNil)) [1]) (start N_turned_row [.str (T (R b))]) H (((neg b).map fun x => [bc x]).map fun p => V.str (T p)) := by
    have := el_mapS (σ := start N_turned_row [.str (T (R b))]) (H := H) (tl := tVar 0) (te := tCall (sp_other_sign K) [] E0 (tCons (tVar 1) tNil)) (l := R b) (j := 1) (vs := [1]) (fun c => .str (T [97 - c])) (ev_var rfl) (by rw [R_len]; omega) (fun x => rfl) (fun c hc H1 e1 => by
      have : c = 48 ∨ c = 49 := by
        simp only [R, List.mem_map] at hc
        obtain ⟨x, _, rfl⟩ := hc
        cases x <;> simp [bc]
      rcases this with rfl | rfl
      · exact ev_call (ea_cons (ev_var rfl) ea_nil) (u_other_sign (b := false))
      · exact ev_call (ea_cons (ev_var rfl) ea_nil) (u_other_sign (b := true)))
    have e : (R b).map (fun c => V.str (T [97 - c])) = ((neg b).map fun x => [bc x]).map fun p => V.str (T p) := by
      simp only [R, neg, List.map_map]
      refine List.map_congr_left fun x _ => ?_
      cases x <;> rfl
    rw [← e]
    exact this
  refine s_ret (v := .str (T (R (neg b)))) ?_ fun H1 e1 => q H1 e1
  rw [← R_flat (neg b)]
  exact ev_join hcomp (by rw [R_flat, R_len, neg_len]; omega) (by rw [List.length_map, neg_len]; exact hl)
def N_whole_row : List Str := ["n"]
def t_whole_row (K : PySem.W.Frag) (E : XK) : TS :=
  (tSeq (tIfS (tTest (tOp rLtI (tVar 0) (tC (.int 0)))) (tRet (tOp rAddT (tC (.str (Kr.T [48]))) (tCall (sp_turned_row K) [] E0 (tCons (tCall (sp_count_row K) [] E (tCons (tOp rSubI (tUn (rU fun i => .int (-i)) (tC (.int 1))) (tVar 0)) tNil)) tNil)))) tNext)
    (tRet (tOp rAddT (tC (.str (Kr.T [49]))) (tCall (sp_count_row K) [] E (tCons (tVar 0) tNil)))))
def sp_whole_row (K : PySem.W.Frag) : Sp := fun vs H Q E => ∃ n : Int, vs = [.int n] ∧ (wholeOk n → RetV (.str (T (R (wholeRow n)))) H Q) ∧ (¬ wholeOk n → RaiseX (.ref (He.ga K "NoFit")) H E)
theorem len_whole_row {K : PySem.W.Frag} {vs H Q E} (h : sp_whole_row K vs H Q E) : vs.length = 1 := by
  obtain ⟨n, rfl, _⟩ := h
  rfl
theorem u_whole_row {K : PySem.W.Frag} {H : Hp} {n : Int} (h : wholeOk n) : SpV (sp_whole_row K) [.int n] H (.str (T (R (wholeRow n)))) := fun H1 e Q q E => ⟨n, rfl, fun _ => q, fun z => absurd h z⟩
theorem rd_whole_row {K : PySem.W.Frag} (vs : List V) (H : Hp) (Q : VK) (E : XK) (h : sp_whole_row K vs H Q E) : t_whole_row K E { nx := fun _ H' => Q .non H', rt := Q } (start N_whole_row vs) H := by
  obtain ⟨n, rfl, q, x⟩ := h
  refine q_when (b := decide (n < 0)) (et_test (ev_ltI (ev_var rfl) ev_c)) (fun hb H1 e1 => ?_) (fun hb H1 e1 => ?_)
  · have h0 : n < 0 := of_decide_eq_true hb
    have hn : Ev (tOp rSubI (tUn (rU fun i => .int (-i)) (tC (.int 1))) (tVar 0)) (start N_whole_row [.int n]) H1 (.int (-1 - n)) := ev_subI (ev_neg ev_c) (ev_var rfl)
    by_cases hc : countOk (-1 - n)
    · have q := q ((wholeOk_neg h0).mpr hc)
      unfold wholeRow at q
      rw [if_pos h0] at q
      have hl : (countRow (-1 - n).toNat).length ≤ 300 := countRow_len (by rw [Int.toNat_of_nonneg (by omega)]; exact hc)
      refine s_ret (v := .str (T (R (false :: neg (countRow (-1 - n).toNat))))) (ev_addT (a := [48]) ev_c (ev_call (ea_cons (ev_call (ea_cons hn ea_nil) (u_count_row hc)) ea_nil) (u_turned_row (by omega))) ?_) fun H2 e2 => q H2 (e1.trans e2)
      simp [R, neg]
      omega
    · have x := x fun z => hc ((wholeOk_neg h0).mp z)
      show (tOp rAddT (tC (.str (T [48]))) _) _ _ _
      refine hn H1 (Ex.refl H1) _ fun H2 e2 => ⟨-1 - n, rfl, fun z => absurd z hc, fun _ H3 e3 => x H3 ((e1.trans e2).trans e3)⟩
  · have h0 : ¬ n < 0 := of_decide_eq_false hb
    by_cases hc : countOk n
    · have q := q ((wholeOk_pos h0).mpr hc)
      unfold wholeRow at q
      rw [if_neg h0] at q
      have hl : (countRow n.toNat).length ≤ 300 := countRow_len (by rw [Int.toNat_of_nonneg (by omega)]; exact hc)
      refine s_ret (v := .str (T (R (true :: countRow n.toNat)))) (ev_addT (a := [49]) ev_c (ev_call (ea_cons (ev_var rfl) ea_nil) (u_count_row hc)) ?_) fun H2 e2 => q H2 (e1.trans e2)
      simp [R]
      omega
    · have x := x fun z => hc ((wholeOk_pos h0).mp z)
      exact ⟨_, rfl, n, rfl, fun z => absurd z hc, fun _ H3 e3 => x H3 (e1.trans e3)⟩
def N_has_row : List Str := ["number"]
def t_has_row (K : PySem.W.Frag) : TS :=
  (tRet (tOp rLeI (tBits (tCB rMax2 (tCons (tOp rAddI (tVar 0) (tC (.int 1))) (tCons (tOp rSubI (tC (.int 0)) (tVar 0)) tNil)))) (tC (.int 255))))
def sp_has_row (_ : PySem.W.Frag) : Sp := fun vs H Q _ => ∃ n : Int, vs = [.int n] ∧ SmN n ∧ RetV (.bl true) H Q
theorem len_has_row {K : PySem.W.Frag} {vs H Q E} (h : sp_has_row K vs H Q E) : vs.length = 1 := by
  obtain ⟨n, rfl, _⟩ := h
  rfl
theorem u_has_row {K : PySem.W.Frag} {H : Hp} {n : Int} (h : SmN n) : SpV (sp_has_row K) [.int n] H (.bl true) := fun H1 e Q q E => ⟨n, rfl, h, q⟩
theorem rd_has_row {K : PySem.W.Frag} (vs : List V) (H : Hp) (Q : VK) (E : XK) (h : sp_has_row K vs H Q E) : t_has_row K { nx := fun _ H' => Q .non H', rt := Q } (start N_has_row vs) H := by
  obtain ⟨n, rfl, hn, q⟩ := h
  have hn : n.natAbs ≤ 10 ^ 60 := hn
  have b : (10 : Nat) ^ 60 + 1 < 2 ^ 255 := by decide
  refine s_ret (ev_is (ev_leI (ev_bits (ev_max2 (ev_addI (ev_var rfl) ev_c) (ev_subI ev_c (ev_var rfl)))) ev_c) ?_) fun H1 e1 => q H1 e1
  have := PyProof.Rows.intBits_le (a := if (0 : Int) - n > n + 1 then 0 - n else n + 1) (k := 255) (by split <;> omega)
  exact congrArg V.bl (decide_eq_true (by omega))
def N_is_whole : List Str := ["value"]
def t_is_whole (K : PySem.W.Frag) : TS :=
  (tRet (tAndV (tCB (rIsi K) (tCons (tVar 0) (tCons (tC (.ty "int")) tNil))) (tNotV (tCB (rIsi K) (tCons (tVar 0) (tCons (tC (.ty "bool")) tNil))))))
def sp_is_whole (_ : PySem.W.Frag) : Sp := fun vs H Q _ => ∃ n : Int, vs = [.int n] ∧ RetV (.bl true) H Q
theorem len_is_whole {K : PySem.W.Frag} {vs H Q E} (h : sp_is_whole K vs H Q E) : vs.length = 1 := by
  obtain ⟨n, rfl, _⟩ := h
  rfl
theorem u_is_whole {K : PySem.W.Frag} {H : Hp} {n : Int} : SpV (sp_is_whole K) [.int n] H (.bl true) := fun H1 e Q q E => ⟨n, rfl, q⟩
theorem rd_is_whole {K : PySem.W.Frag} (vs : List V) (H : Hp) (Q : VK) (E : XK) (h : sp_is_whole K vs H Q E) : t_is_whole K { nx := fun _ H' => Q .non H', rt := Q } (start N_is_whole vs) H := by
  obtain ⟨n, rfl, q⟩ := h
  exact s_ret (ev_is (ev_andV (a := true) (b := true) (ev_isi (ev_var rfl) rfl (by decide +kernel)) fun _ => ev_notV (a := false) (ev_isi (ev_var rfl) rfl (by decide +kernel))) rfl) fun H1 e1 => q H1 e1
def N_Whole_fits : List Str := ["self", "value"]
def t_Whole_fits (K : PySem.W.Frag) : TS :=
  (tRet (tAndV (tCall (sp_is_whole K) [] E0 (tCons (tVar 1) tNil)) (tCall (sp_has_row K) [] E0 (tCons (tVar 1) tNil))))
def sp_Whole_fits (K : PySem.W.Frag) : Sp := fun vs H Q _ => ∃ (x : V) (n : Int), vs = [x, .int n] ∧ SmN n ∧ RetV (.bl true) H Q
theorem len_Whole_fits {K : PySem.W.Frag} {vs H Q E} (h : sp_Whole_fits K vs H Q E) : vs.length = 2 := by
  obtain ⟨x, n, rfl, _⟩ := h
  rfl
theorem ev_wfits {K : PySem.W.Frag} {σ : L2.St} {H : Hp} {o tn : TE} {x : V} {n : Int} (h : Ev o σ H x) (hw : WhoV K H x) (h2 : Ev tn σ H (.int n)) (hn : SmN n) : Ev (tMeth (He.ga K "Whole") "fits" (sp_Whole_fits K) [] E0 o (tCons tn tNil)) σ H (.bl true) := by
  obtain ⟨a, dx, rfl, ha⟩ := hw
  exact ev_meth h ha rfl (ea_cons h2 ea_nil) fun H1 e Q q E => ⟨_, n, rfl, hn, q⟩
theorem rd_Whole_fits {K : PySem.W.Frag} (vs : List V) (H : Hp) (Q : VK) (E : XK) (h : sp_Whole_fits K vs H Q E) : t_Whole_fits K { nx := fun _ H' => Q .non H', rt := Q } (start N_Whole_fits vs) H := by
  obtain ⟨x, n, rfl, hn, q⟩ := h
  exact s_ret (ev_is (ev_andV (a := true) (b := true) (ev_call (ea_cons (ev_var rfl) ea_nil) u_is_whole) fun _ => ev_call (ea_cons (ev_var rfl) ea_nil) (u_has_row hn)) rfl) fun H1 e1 => q H1 e1
def N_Turned_fits : List Str := ["self", "value"]
def t_Turned_fits (K : PySem.W.Frag) : TS :=
  (tRet (tMeth (He.ga K "Whole") "fits" (sp_Whole_fits K) [] E0 (tFldC (He.ga K "Turned") (tVar 0) "inner") (tCons (tVar 1) tNil)))
def sp_Turned_fits (K : PySem.W.Frag) : Sp := fun vs H Q _ => ∃ (x : V) (n : Int), vs = [x, .int n] ∧ FrmV K H x true ∧ SmN n ∧ RetV (.bl true) H Q
theorem len_Turned_fits {K : PySem.W.Frag} {vs H Q E} (h : sp_Turned_fits K vs H Q E) : vs.length = 2 := by
  obtain ⟨x, n, rfl, _⟩ := h
  rfl
theorem ev_tfits {K : PySem.W.Frag} {σ : L2.St} {H : Hp} {o tn : TE} {x : V} {n : Int} (h : Ev o σ H x) (hw : FrmV K H x true) (h2 : Ev tn σ H (.int n)) (hn : SmN n) : Ev (tMeth (He.ga K "Turned") "fits" (sp_Turned_fits K) [] E0 o (tCons tn tNil)) σ H (.bl true) := by
  have hw2 := hw
  obtain ⟨a, dx, y, rfl, ha, hy⟩ := hw
  exact ev_meth h ha rfl (ea_cons h2 ea_nil) fun H1 e Q q E => ⟨_, n, rfl, hw2.mono (.of e), hn, q⟩
theorem rd_Turned_fits {K : PySem.W.Frag} (vs : List V) (H : Hp) (Q : VK) (E : XK) (h : sp_Turned_fits K vs H Q E) : t_Turned_fits K { nx := fun _ H' => Q .non H', rt := Q } (start N_Turned_fits vs) H := by
  obtain ⟨x, n, rfl, ⟨a, dx, y, rfl, ha, hy⟩, hn, q⟩ := h
  exact s_ret (ev_wfits (ev_fldC (ev_var rfl) ha rfl) hy (ev_var rfl) hn) fun H1 e1 => q H1 e1
def N_Whole_laid : List Str := ["self", "value"]
def t_Whole_laid (K : PySem.W.Frag) (E : XK) : TS :=
  (tRet (tCall (sp_whole_row K) [] E (tCons (tVar 1) tNil)))
def sp_Whole_laid (K : PySem.W.Frag) : Sp := fun vs H Q _ => ∃ (x : V) (n : Int), vs = [x, .int n] ∧ SmN n ∧ RetV (.str (T (R (wholeRow n)))) H Q
theorem len_Whole_laid {K : PySem.W.Frag} {vs H Q E} (h : sp_Whole_laid K vs H Q E) : vs.length = 2 := by
  obtain ⟨x, n, rfl, _⟩ := h
  rfl
theorem ev_wlaid {K : PySem.W.Frag} {σ : L2.St} {H : Hp} {E : XK} {o tn : TE} {x : V} {n : Int} (h : Ev o σ H x) (hw : WhoV K H x) (h2 : Ev tn σ H (.int n)) (hn : SmN n) : Ev (tMeth (He.ga K "Whole") "laid" (sp_Whole_laid K) [] E o (tCons tn tNil)) σ H (.str (T (R (wholeRow n)))) := by
  obtain ⟨a, dx, rfl, ha⟩ := hw
  exact ev_meth h ha rfl (ea_cons h2 ea_nil) fun H1 e Q q E => ⟨_, n, rfl, hn, q⟩
theorem rd_Whole_laid {K : PySem.W.Frag} (vs : List V) (H : Hp) (Q : VK) (E : XK) (h : sp_Whole_laid K vs H Q E) : t_Whole_laid K E { nx := fun _ H' => Q .non H', rt := Q } (start N_Whole_laid vs) H := by
  obtain ⟨x, n, rfl, hn, q⟩ := h
  exact s_ret (ev_call (ea_cons (ev_var rfl) ea_nil) (u_whole_row hn.ok)) fun H1 e1 => q H1 e1
def N_Whole_row : List Str := ["self", "value"]
def t_Whole_row (K : PySem.W.Frag) (E : XK) : TS :=
  (tSeq (tIfS (tNot (tB (tMeth (He.ga K "Whole") "fits" (sp_Whole_fits K) [] E0 (tVar 0) (tCons (tVar 1) tNil)))) (tRaiseX (.ref (He.ga K "NoFit")) E) tNext)
    (tRet (tMeth (He.ga K "Whole") "laid" (sp_Whole_laid K) [] E (tVar 0) (tCons (tVar 1) tNil))))
def sp_Whole_row (K : PySem.W.Frag) : Sp := fun vs H Q _ => ∃ (x : V) (n : Int), vs = [x, .int n] ∧ WhoV K H x ∧ SmN n ∧ RetV (.str (T (R (rowW false n)))) H Q
theorem len_Whole_row {K : PySem.W.Frag} {vs H Q E} (h : sp_Whole_row K vs H Q E) : vs.length = 2 := by
  obtain ⟨x, n, rfl, _⟩ := h
  rfl
theorem rd_Whole_row {K : PySem.W.Frag} (vs : List V) (H : Hp) (Q : VK) (E : XK) (h : sp_Whole_row K vs H Q E) : t_Whole_row K E { nx := fun _ H' => Q .non H', rt := Q } (start N_Whole_row vs) H := by
  obtain ⟨x, n, rfl, hw, hn, q⟩ := h
  refine q_when (b := false) (et_not (a := true) (et_B (ev_wfits (ev_var rfl) hw (ev_var rfl) hn))) (fun hf => nomatch hf) (fun _ H1 e1 => ?_)
  exact s_ret (ev_wlaid (ev_var rfl) (hw.mono (.of e1)) (ev_var rfl) hn) fun H2 e2 => q H2 (e1.trans e2)
def N_Turned_laid : List Str := ["self", "value"]
def t_Turned_laid (K : PySem.W.Frag) (E : XK) : TS :=
  (tRet (tCall (sp_turned_row K) [] E0 (tCons (tMeth (He.ga K "Whole") "laid" (sp_Whole_laid K) [] E (tFldC (He.ga K "Turned") (tVar 0) "inner") (tCons (tVar 1) tNil)) tNil)))
def sp_Turned_laid (K : PySem.W.Frag) : Sp := fun vs H Q _ => ∃ (x : V) (n : Int), vs = [x, .int n] ∧ FrmV K H x true ∧ SmN n ∧ RetV (.str (T (R (rowW true n)))) H Q
theorem len_Turned_laid {K : PySem.W.Frag} {vs H Q E} (h : sp_Turned_laid K vs H Q E) : vs.length = 2 := by
  obtain ⟨x, n, rfl, _⟩ := h
  rfl
theorem ev_tlaid {K : PySem.W.Frag} {σ : L2.St} {H : Hp} {E : XK} {o tn : TE} {x : V} {n : Int} (h : Ev o σ H x) (hw : FrmV K H x true) (h2 : Ev tn σ H (.int n)) (hn : SmN n) : Ev (tMeth (He.ga K "Turned") "laid" (sp_Turned_laid K) [] E o (tCons tn tNil)) σ H (.str (T (R (rowW true n)))) := by
  have hw2 := hw
  obtain ⟨a, dx, y, rfl, ha, hy⟩ := hw
  exact ev_meth h ha rfl (ea_cons h2 ea_nil) fun H1 e Q q E => ⟨_, n, rfl, hw2.mono (.of e), hn, q⟩
theorem rd_Turned_laid {K : PySem.W.Frag} (vs : List V) (H : Hp) (Q : VK) (E : XK) (h : sp_Turned_laid K vs H Q E) : t_Turned_laid K E { nx := fun _ H' => Q .non H', rt := Q } (start N_Turned_laid vs) H := by
  obtain ⟨x, n, rfl, ⟨a, dx, y, rfl, ha, hy⟩, hn, q⟩ := h
  have := wholeRow_len hn.ok
  exact s_ret (ev_call (ea_cons (ev_wlaid (ev_fldC (ev_var rfl) ha rfl) hy (ev_var rfl) hn) ea_nil) (u_turned_row (by omega))) fun H1 e1 => q H1 e1
def N_Turned_row : List Str := ["self", "value"]
def t_Turned_row (K : PySem.W.Frag) (E : XK) : TS :=
  (tSeq (tIfS (tNot (tB (tMeth (He.ga K "Turned") "fits" (sp_Turned_fits K) [] E0 (tVar 0) (tCons (tVar 1) tNil)))) (tRaiseX (.ref (He.ga K "NoFit")) E) tNext)
    (tRet (tMeth (He.ga K "Turned") "laid" (sp_Turned_laid K) [] E (tVar 0) (tCons (tVar 1) tNil))))
def sp_Turned_row (K : PySem.W.Frag) : Sp := fun vs H Q _ => ∃ (x : V) (n : Int), vs = [x, .int n] ∧ FrmV K H x true ∧ SmN n ∧ RetV (.str (T (R (rowW true n)))) H Q
theorem len_Turned_row {K : PySem.W.Frag} {vs H Q E} (h : sp_Turned_row K vs H Q E) : vs.length = 2 := by
  obtain ⟨x, n, rfl, _⟩ := h
  rfl
theorem rd_Turned_row {K : PySem.W.Frag} (vs : List V) (H : Hp) (Q : VK) (E : XK) (h : sp_Turned_row K vs H Q E) : t_Turned_row K E { nx := fun _ H' => Q .non H', rt := Q } (start N_Turned_row vs) H := by
  obtain ⟨x, n, rfl, hw, hn, q⟩ := h
  refine q_when (b := false) (et_not (a := true) (et_B (ev_tfits (ev_var rfl) hw (ev_var rfl) hn))) (fun hf => nomatch hf) (fun _ H1 e1 => ?_)
  exact s_ret (ev_tlaid (ev_var rfl) (hw.mono (.of e1)) (ev_var rfl) hn) fun H2 e2 => q H2 (e1.trans e2)
abbrev tm_fits (K : PySem.W.Frag) (o : TE) (t : TA) : TE := (tOr2 (tMeth (He.ga K "Whole") "fits" (sp_Whole_fits K) [] E0 o t) (tMeth (He.ga K "Turned") "fits" (sp_Turned_fits K) [] E0 o t))
theorem ev_fits {K : PySem.W.Frag} {σ : L2.St} {H : Hp} {o tn : TE} {x : V} {turn : Bool} {n : Int} (h : Ev o σ H x) (hw : FrmV K H x turn) (h2 : Ev tn σ H (.int n)) (hn : SmN n) : Ev (tm_fits K o (tCons tn tNil)) σ H (.bl true) := fun H1 e Q q => by
  cases turn with
  | false => exact .inl (ev_wfits h hw h2 hn H1 e Q q)
  | true => exact .inr (ev_tfits h hw h2 hn H1 e Q q)
abbrev tm_row (K : PySem.W.Frag) (E : XK) (o : TE) (t : TA) : TE := (tOr2 (tMeth (He.ga K "Whole") "row" (sp_Whole_row K) [] E o t) (tMeth (He.ga K "Turned") "row" (sp_Turned_row K) [] E o t))
theorem ev_row {K : PySem.W.Frag} {σ : L2.St} {H : Hp} {E : XK} {o tn : TE} {x : V} {turn : Bool} {n : Int} (h : Ev o σ H x) (hw : FrmV K H x turn) (h2 : Ev tn σ H (.int n)) (hn : SmN n) : Ev (tm_row K E o (tCons tn tNil)) σ H (.str (T (R (rowW turn n)))) := fun H1 e Q q => by
  have hw2 := hw
  cases turn with
  | false =>
    obtain ⟨a, dx, rfl, ha⟩ := hw
    exact .inl (ev_meth h ha rfl (ea_cons h2 ea_nil) (fun H1 e Q q E => ⟨_, n, rfl, WhoV.mono (.of e) hw2, hn, q⟩) H1 e Q q)
  | true =>
    obtain ⟨a, dx, y, rfl, ha, hy⟩ := hw
    exact .inr (ev_meth h ha rfl (ea_cons h2 ea_nil) (fun H1 e Q q E => ⟨_, n, rfl, hw2.mono (.of e), hn, q⟩) H1 e Q q)
def N_Shelf_row_for : List Str := ["self", "value"]
def t_Shelf_row_for (K : PySem.W.Frag) (E : XK) : TS :=
  (tSeq (tIfS (tNot (tB (tm_fits K (tFldC (He.ga K "Shelf") (tVar 0) "form") (tCons (tVar 1) tNil)))) (tRaiseX (.ref (He.ga K "NoFit")) E) tNext)
    (tRet (tm_row K E (tFldC (He.ga K "Shelf") (tVar 0) "form") (tCons (tVar 1) tNil))))
def sp_Shelf_row_for (K : PySem.W.Frag) : Sp := fun vs H Q _ => ∃ (a : Addr) (n : Int) (fm : V) (room : Nat) (q : Addr) (l : List (Addr × List Rw)) (turn : Bool), vs = [.ref a, .int n] ∧ ShI K H a fm room q l ∧ FrmV K H fm turn ∧ SmN n ∧ RetV (.str (T (R (rowW turn n)))) H Q
theorem len_Shelf_row_for {K : PySem.W.Frag} {vs H Q E} (h : sp_Shelf_row_for K vs H Q E) : vs.length = 2 := by
  obtain ⟨a, n, fm, room, q, l, turn, rfl, _⟩ := h
  rfl
theorem ev_row_for {K : PySem.W.Frag} {σ : L2.St} {H : Hp} {E : XK} {o tn : TE} {a : Addr} {fm : V} {room : Nat} {q : Addr} {l : List (Addr × List Rw)} {turn : Bool} {n : Int} (h : Ev o σ H (.ref a)) (s : ShI K H a fm room q l) (hw : FrmV K H fm turn) (h2 : Ev tn σ H (.int n)) (hn : SmN n) : Ev (tMeth (He.ga K "Shelf") "row_for" (sp_Shelf_row_for K) [] E o (tCons tn tNil)) σ H (.str (T (R (rowW turn n)))) := by
  have s2 := s
  obtain ⟨⟨dx, ha⟩, _⟩ := s
  exact ev_meth h ha rfl (ea_cons h2 ea_nil) fun H1 e Q k E => ⟨a, n, fm, room, q, l, turn, rfl, s2.mono e, hw.mono (.of e), hn, k⟩
theorem rd_Shelf_row_for {K : PySem.W.Frag} (vs : List V) (H : Hp) (Q : VK) (E : XK) (h : sp_Shelf_row_for K vs H Q E) : t_Shelf_row_for K E { nx := fun _ H' => Q .non H', rt := Q } (start N_Shelf_row_for vs) H := by
  obtain ⟨a, n, fm, room, q, l, turn, rfl, ⟨⟨dx, ha⟩, _⟩, hw, hn, k⟩ := h
  refine q_when (b := false) (et_not (a := true) (et_B (ev_fits (ev_fldC (ev_var rfl) ha rfl) hw (ev_var rfl) hn))) (fun hf => nomatch hf) (fun _ H1 e1 => ?_)
  exact s_ret (ev_row (ev_fldC (ev_var rfl) (e1 _ _ ha) rfl) (hw.mono (.of e1)) (ev_var rfl) hn) fun H2 e2 => k H2 (e1.trans e2)
def N_Shelf_stack_for : List Str := ["self", "row", "found", "place", "stack"]
def t_Shelf_stack_for (K : PySem.W.Frag) : TS :=
  (tSeq (tAsg (tC (.int 0)) (gName 2))
    (tSeq (tFor (iEnum K (tCons (tFldC (He.ga K "Shelf") (tVar 0) "stacks") tNil)) (gTup K 2 (gCons (gName 3) (gCons (gName 4) gNil)))
    (tIfS (tAnd (tTest (tOp rGtI (tVar 3) (tC (.int 0)))) (tTest (tOp rLeT (tOp (rIxL K) (tVar 4) (tC (.int 0))) (tVar 1)))) (tAsg (tVar 3) (gName 2)) tNext))
    (tRet (tVar 2))))
theorem RL_hd {s : List Rw} (h : s ≠ []) : atI (RL s) 0 = some (.str (T (R (hdR s)))) := by
  cases s with
  | nil => exact absurd rfl h
  | cons x r => exact (atI_nat rfl : atI (RL (x :: r)) ((0 : Nat) : Int) = _)
theorem ev_stacks {K : PySem.W.Frag} {σ : L2.St} {H : Hp} {o : TE} {a : Addr} {fm : V} {room : Nat} {q : Addr} {l : List (Addr × List Rw)} (h : Ev o σ H (.ref a)) (s : ShI K H a fm room q l) : Ev (tFldC (He.ga K "Shelf") o "stacks") σ H (.ref q) := by
  obtain ⟨⟨dx, ha⟩, _⟩ := s
  exact ev_fldC h ha rfl
theorem ev_room {K : PySem.W.Frag} {σ : L2.St} {H : Hp} {o : TE} {a : Addr} {fm : V} {room : Nat} {q : Addr} {l : List (Addr × List Rw)} (h : Ev o σ H (.ref a)) (s : ShI K H a fm room q l) : Ev (tFldC (He.ga K "Shelf") o "room") σ H (.int (room : Int)) := by
  obtain ⟨⟨dx, ha⟩, _⟩ := s
  exact ev_fldC h ha rfl
def sds (l : List (Addr × List Rw)) : List (List Rw) := l.map fun e => e.2
theorem sds_len (l : List (Addr × List Rw)) : (sds l).length = l.length := by unfold sds; rw [List.length_map]
theorem sds_at {l : List (Addr × List Rw)} {j : Nat} (h : j < l.length) : (sds l)[j]? = some l[j].2 := by unfold sds; rw [List.getElem?_map, List.getElem?_eq_getElem h]; rfl
theorem ev_stack {K : PySem.W.Frag} {σ : L2.St} {H : Hp} {o ti : TE} {a : Addr} {fm : V} {room : Nat} {q : Addr} {l : List (Addr × List Rw)} {j : Nat} (h : Ev o σ H (.ref a)) (s : ShI K H a fm room q l) (hi : Ev ti σ H (.int (j : Int))) (hj : j < l.length) : Ev (tOp (rIxL K) (tFldC (He.ga K "Shelf") o "stacks") ti) σ H (.ref l[j].1) :=
  ev_op (ev_stacks h s) hi (rv_ixL (sq_of s.st) (atI_nat (by rw [List.getElem?_map, List.getElem?_eq_getElem hj]; rfl)))
def sp_Shelf_stack_for (K : PySem.W.Frag) : Sp := fun vs H Q _ => ∃ (a : Addr) (row : Rw) (fm : V) (room : Nat) (q : Addr) (l : List (Addr × List Rw)), vs = [.ref a, .str (T (R row))] ∧ ShI K H a fm room q l ∧ (1 < l.length → ∀ e ∈ l, e.2 ≠ []) ∧ l.length ≤ 1000 ∧ ∀ f : Nat, SfOk (sds l) row l.length f → RetV (.int (f : Int)) H Q
theorem len_Shelf_stack_for {K : PySem.W.Frag} {vs H Q E} (h : sp_Shelf_stack_for K vs H Q E) : vs.length = 2 := by
  obtain ⟨a, row, fm, room, q, l, rfl, _⟩ := h
  rfl
theorem ew_stack_for {K : PySem.W.Frag} {σ : L2.St} {H : Hp} {o tr : TE} {a : Addr} {fm : V} {room : Nat} {q : Addr} {l : List (Addr × List Rw)} {row : Rw} (h : Ev o σ H (.ref a)) (s : ShI K H a fm room q l) (h2 : Ev tr σ H (.str (T (R row)))) (hne : 1 < l.length → ∀ e ∈ l, e.2 ≠ []) (hl : l.length ≤ 1000) :
    EvW (tMeth (He.ga K "Shelf") "stack_for" (sp_Shelf_stack_for K) [] E0 o (tCons tr tNil)) σ H (fun v => ∃ f : Nat, v = .int (f : Int) ∧ SfOk (sds l) row l.length f) := fun H1 e Q k => by
  have s2 := s.mono e
  obtain ⟨⟨dx, ha⟩, _⟩ := s2
  exact go_meth (h.mono e) ha rfl (fun H2 e2 => ea_cons (h2.mono (e.trans e2)) ea_nil) fun H2 e2 => ⟨a, row, fm, room, q, l, rfl, s.mono (e.trans e2), hne, hl, fun f hf H3 e3 => k _ H3 ⟨f, rfl, hf⟩ (e2.trans e3)⟩
theorem rd_Shelf_stack_for {K : PySem.W.Frag} (vs : List V) (H : Hp) (Q : VK) (E : XK) (h : sp_Shelf_stack_for K vs H Q E) : t_Shelf_stack_for K { nx := fun _ H' => Q .non H', rt := Q } (start N_Shelf_stack_for vs) H := by
  obtain ⟨a, row, fm, room, q, l, rfl, s, hne, hl, k⟩ := h
  refine q_asg ev_c fun H1 e1 => ?_
  refine q_forEnum (a := q) (xs := l.map fun e => V.ref e.1) (ev_stacks (ev_var rfl) (s.mono e1)) (sq_of (s.mono e1).st)
    (fun i σ' H' => Ex H H' ∧ i ≤ l.length ∧ ∃ (f : Nat) (u w : Option V), σ' = [some (.ref a), some (.str (T (R row))), some (.int (f : Int)), u, w] ∧ SfOk (sds l) row i f) (fun H2 e2 => ⟨e1.trans e2, Nat.zero_le _, 0, none, none, rfl, .inl rfl, fun j h1 h2 => by omega⟩) (fun i σ' H' _ hP => sq_of (s.mono hP.1).st) (fun i x σ' H' H2 hx hP e2 => ?_) (fun σ' H' hP => ?_)
  · obtain ⟨eH, hi, f, u, w, rfl, h1, h2⟩ := hP
    have hil : i < l.length := by
      have := (List.getElem?_eq_some_iff.mp hx).1
      rwa [List.length_map] at this
    rw [List.getElem?_map, List.getElem?_eq_getElem hil] at hx
    obtain rfl := Option.some.inj hx
    have e02 := eH.trans e2
    have hel := (s.mono e02).els _ (List.getElem_mem hil)
    refine s_when (et_and (et_test (ev_gtI (ev_var rfl) ev_c)) fun hpos => et_test (ev_leT (ev_op (ev_var rfl) ev_c (rv_ixL (sq_of hel.1) (RL_hd (hne (by have := of_decide_eq_true hpos; omega) _ (List.getElem_mem hil))))) (ev_var rfl))) (fun hb H3 e3 => ?_) (fun hb H3 e3 => ?_)
    · rw [Bool.and_eq_true] at hb
      have hpos : 0 < i := by have := of_decide_eq_true hb.1; omega
      have hle : ¬ R row < R (hdR l[i].2) := by have := hb.2; simpa using this
      refine s_asg (ev_var rfl) fun H4 e4 => ⟨(e02.trans e3).trans e4, hil, i, _, _, rfl, .inr ⟨hpos, by omega, by rw [sds_at hil]; exact hle⟩, fun j j1 j2 => by omega⟩
    · refine ⟨e02.trans e3, hil, f, _, _, rfl, ?_, fun j j1 j2 => ?_⟩
      · rcases h1 with h1 | ⟨g1, g2, g3⟩
        · exact .inl h1
        · exact .inr ⟨g1, by omega, g3⟩
      · by_cases hj : j < i
        · exact h2 j j1 hj
        · obtain rfl : j = i := by omega
          rw [sds_at hil]
          rw [Bool.and_eq_false_iff] at hb
          rcases hb with hb | hb
          · have := of_decide_eq_false hb; omega
          · simpa using hb
  · obtain ⟨eH, hi, f, u, w, rfl, hs⟩ := hP
    rw [List.length_map] at hs
    exact s_ret (ev_var rfl) fun H2 e2 => k f hs H2 (eH.trans e2)
def N_Shelf_holds : List Str := ["self", "row"]
def t_Shelf_holds (K : PySem.W.Frag) : TS :=
  (tRet (tAndV (tOp rGtI (tCB (rLenK K) (tCons (tFldC (He.ga K "Shelf") (tVar 0) "stacks") tNil)) (tC (.int 0))) (tOp (rIn K false) (tVar 1) (tOp (rIxL K) (tFldC (He.ga K "Shelf") (tVar 0) "stacks") (tMeth (He.ga K "Shelf") "stack_for" (sp_Shelf_stack_for K) [] E0 (tVar 0) (tCons (tVar 1) tNil))))))
def sp_Shelf_holds (K : PySem.W.Frag) : Sp := fun vs H Q _ => ∃ (a : Addr) (row : Rw) (fm : V) (room : Nat) (q : Addr) (l : List (Addr × List Rw)), vs = [.ref a, .str (T (R row))] ∧ ShI K H a fm room q l ∧ Kept room (sds l) ∧ l.length ≤ 1000 ∧ RetV (.bl (decide (row ∈ (sds l).flatten))) H Q
theorem len_Shelf_holds {K : PySem.W.Frag} {vs H Q E} (h : sp_Shelf_holds K vs H Q E) : vs.length = 2 := by
  obtain ⟨a, row, fm, room, q, l, rfl, _⟩ := h
  rfl
theorem ev_holds {K : PySem.W.Frag} {σ : L2.St} {H : Hp} {o tr : TE} {a : Addr} {fm : V} {room : Nat} {q : Addr} {l : List (Addr × List Rw)} {row : Rw} (h : Ev o σ H (.ref a)) (s : ShI K H a fm room q l) (h2 : Ev tr σ H (.str (T (R row)))) (hk : Kept room (sds l)) (hl : l.length ≤ 1000) :
    Ev (tMeth (He.ga K "Shelf") "holds" (sp_Shelf_holds K) [] E0 o (tCons tr tNil)) σ H (.bl (decide (row ∈ (sds l).flatten))) := by
  have s2 := s
  obtain ⟨⟨dx, ha⟩, _⟩ := s
  exact ev_meth h ha rfl (ea_cons h2 ea_nil) fun H1 e Q k E => ⟨a, row, fm, room, q, l, rfl, s2.mono e, hk, hl, k⟩
theorem kept_ne {room : Nat} {l : List (Addr × List Rw)} (hk : Kept room (sds l)) : ∀ e ∈ l, e.2 ≠ [] := fun e he => (hk.sz e.2 (List.mem_map.mpr ⟨e, he, rfl⟩)).1
theorem rd_Shelf_holds {K : PySem.W.Frag} (vs : List V) (H : Hp) (Q : VK) (E : XK) (h : sp_Shelf_holds K vs H Q E) : t_Shelf_holds K { nx := fun _ H' => Q .non H', rt := Q } (start N_Shelf_holds vs) H := by
  obtain ⟨a, row, fm, room, q, l, rfl, s, hk, hl, k⟩ := h
  refine s_ret (ev_is (ev_andV (b := decide (row ∈ (sds l).flatten)) (ev_gtI (ev_lenS (ev_stacks (ev_var rfl) s) (.inl (sq_of s.st))) ev_c) fun hpos => ?_) ?_) fun H1 e1 => k H1 e1
  · have hpos : l ≠ [] := by
      have := of_decide_eq_true hpos
      rw [List.length_map] at this
      intro z
      rw [z] at this
      simp at this
    intro H1 e1 Q2 q2
    refine (ev_var rfl : Ev (tVar 1) (start N_Shelf_holds [.ref a, .str (T (R row))]) H1 (.str (T (R row)))) H1 (Ex.refl H1) _ fun H2 e2 => ?_
    have s2 := (s.mono e1).mono e2
    refine (ev_stacks (o := tVar 0) (σ := start N_Shelf_holds [.ref a, .str (T (R row))]) (ev_var rfl) s2) H2 (Ex.refl H2) _ fun H3 e3 => ?_
    have s3 := s2.mono e3
    refine (ew_stack_for (o := tVar 0) (tr := tVar 1) (σ := start N_Shelf_holds [.ref a, .str (T (R row))]) (ev_var rfl) s3 (ev_var rfl) (fun _ => kept_ne hk) hl) H3 (Ex.refl H3) _ fun v H4 hv e4 => ?_
    obtain ⟨f, rfl, hf⟩ := hv
    have s4 := s3.mono e4
    rw [← sds_len l] at hf
    obtain ⟨A, t, B, hss, hA, hlo, hhi⟩ := sf_split hk.asc (fun x hx => (hk.sz x hx).1) (by intro z; apply hpos; have := sds_len l; rw [z] at this; exact List.length_eq_zero_iff.mp this.symm) hf
    have hfl : f < l.length := by
      have := congrArg List.length hss
      rw [sds_len, List.length_append, List.length_cons] at this
      omega
    refine (rv_ixL (p := q) (v := V.ref l[f].1) (i := (f : Int)) (sq_of s4.st) (atI_nat (by rw [List.getElem?_map, List.getElem?_eq_getElem hfl]; rfl))) H4 (Ex.refl H4) _ fun H5 e5 => ?_
    have hft : l[f].2 = t := by
      have h1 := sds_at hfl
      rw [hss, List.getElem?_append_right (by omega), hA, Nat.sub_self] at h1
      exact (Option.some.inj h1).symm
    have hel := ((s4.mono e5).els _ (List.getElem_mem hfl)).1
    have hin := ev_inRL (K := K) (ta := tC (.str (T (R row)))) (tb := tC (.ref l[f].1)) (σ := []) (H := H5) (row := row) ev_c ev_c (sq_of hel) H5 (Ex.refl H5) Q2 fun H6 e6 => by
      have := q2 H6 (((e2.trans e3).trans (e4.trans e5)).trans e6)
      rwa [show decide (row ∈ (sds l).flatten) = decide (row ∈ l[f].2) from decide_eq_decide.mpr (by rw [hss, hft]; exact in_flat hlo hhi)] at this
    exact hin
  · rw [List.length_map]
    by_cases h0 : l = []
    · subst h0
      rfl
    · have := List.length_pos_iff.mpr h0
      rw [decide_eq_true (show (0 : Int) < (l.length : Int) by omega), Bool.true_and]
def N_place_among : List Str := ["rows", "row", "low", "high", "amid"]
def t_place_among (K : PySem.W.Frag) : TS :=
  (tSeq (tAsg (tC (.int 0)) (gName 2))
    (tSeq (tAsg (tCB (rLenK K) (tCons (tVar 0) tNil)) (gName 3))
    (tSeq (tWhile (tTest (tOp rLtI (tVar 2) (tVar 3)))
    (tSeq (tAsg (tOp rDivI (tOp rAddI (tVar 2) (tVar 3)) (tC (.int 2))) (gName 4))
    (tIfS (tTest (tOp rLtT (tOp (rIxL K) (tVar 0) (tVar 4)) (tVar 1))) (tAsg (tOp rAddI (tVar 4) (tC (.int 1))) (gName 2)) (tAsg (tVar 4) (gName 3)))))
    (tRet (tVar 2)))))
theorem lt_bef {rs : List Rw} {row : Rw} (h : Asc none rs) {i : Nat} (hi : i < rs.length) : R rs[i] < R row ↔ i < (before rs row).length := by
  have hs := asc_split h row
  constructor
  · intro hlt
    refine Classical.byContradiction fun hn => ?_
    have h1 : rs[i]? = (rs.filter fun r => !decide (R r < R row))[i - (before rs row).length]? := by
      conv => lhs; rw [← hs]
      rw [List.getElem?_append_right (by omega)]
    rw [List.getElem?_eq_getElem hi] at h1
    have := (List.mem_filter.mp (List.mem_of_getElem? h1.symm)).2
    simp [hlt] at this
  · intro hlt
    have h1 : rs[i]? = (before rs row)[i]? := by
      conv => lhs; rw [← hs]
      rw [List.getElem?_append_left hlt]
    rw [List.getElem?_eq_getElem hi] at h1
    have := (List.mem_filter.mp (List.mem_of_getElem? h1.symm)).2
    simpa using this
def sp_place_among (K : PySem.W.Frag) : Sp := fun vs H Q _ => ∃ (p : Addr) (rs : List Rw) (row : Rw), vs = [.ref p, .str (T (R row))] ∧ SqL K H p (RL rs) ∧ Asc none rs ∧ rs.length ≤ 100000 ∧ RetV (.int ((before rs row).length : Nat)) H Q
theorem len_place_among {K : PySem.W.Frag} {vs H Q E} (h : sp_place_among K vs H Q E) : vs.length = 2 := by
  obtain ⟨p, rs, row, rfl, _⟩ := h
  rfl
theorem u_place_among {K : PySem.W.Frag} {H : Hp} {p : Addr} {rs : List Rw} {row : Rw} (h : SqL K H p (RL rs)) (ha : Asc none rs) (hl : rs.length ≤ 100000) : SpV (sp_place_among K) [.ref p, .str (T (R row))] H (.int ((before rs row).length : Nat)) := fun H1 e Q q E => ⟨p, rs, row, rfl, ex_l e h, ha, hl, q⟩
theorem rd_place_among {K : PySem.W.Frag} (vs : List V) (H : Hp) (Q : VK) (E : XK) (h : sp_place_among K vs H Q E) : t_place_among K { nx := fun _ H' => Q .non H', rt := Q } (start N_place_among vs) H := by
  obtain ⟨p, rs, row, rfl, hp, ha, hl, q⟩ := h
  refine q_asg ev_c fun H1 e1 => ?_
  refine q_asg (ev_is (ev_lenS (ev_var rfl) (.inl (ex_l e1 hp))) (by rw [RL_len])) fun H2 e2 => ?_
  have hb := bef_le rs row
  refine q_while (fun m σ' H' => Ex H H' ∧ ∃ (lo hi : Nat) (u : Option V), m = hi - lo ∧ lo ≤ (before rs row).length ∧ (before rs row).length ≤ hi ∧ hi ≤ rs.length ∧ σ' = [some (.ref p), some (.str (T (R row))), some (.int (lo : Int)), some (.int (hi : Int)), u]) rs.length ⟨e1.trans e2, 0, rs.length, none, rfl, Nat.zero_le _, hb, Nat.le_refl _, rfl⟩ ?_
  rintro m σ' H' ⟨eH, lo, hi, u, rfl, h1, h2, h3, rfl⟩
  refine ⟨_, et_test (ev_ltI (ev_var rfl) (ev_var rfl)), fun hb3 H3 e3 => ?_, fun hb3 H3 e3 => ?_⟩
  · have hlt : lo < hi := by have := of_decide_eq_true hb3; omega
    have hm : (lo + hi) / 2 < rs.length := by omega
    refine ⟨_, fun _ _ h => h, q_asg (v := .int (((lo + hi) / 2 : Nat) : Int)) (ev_is (ev_divI (ev_addI (ev_var rfl) (ev_var rfl)) ev_c (wide_div (b := 20) (by decide) (by decide) (by decide) (by decide))) (by congr 1)) fun H4 e4 => ?_⟩
    have e04 := (eH.trans e3).trans e4
    refine s_if (et_test (ev_ltT (ev_op (ev_var rfl) (ev_var rfl) (rv_ixL (ex_l e04 hp) (atI_nat (RL_at hm)))) (ev_var rfl))) (fun hb5 H5 e5 => ?_) (fun hb5 H5 e5 => ?_)
    · have := (lt_bef ha hm).mp (of_decide_eq_true hb5)
      exact s_asg (v := .int (((lo + hi) / 2 + 1 : Nat) : Int)) (ev_is (ev_addI (ev_var rfl) ev_c) (by congr 1)) fun H6 e6 => ⟨hi - ((lo + hi) / 2 + 1), by omega, (e04.trans e5).trans e6, (lo + hi) / 2 + 1, hi, _, rfl, by omega, h2, h3, rfl⟩
    · have hn : ¬ (lo + hi) / 2 < (before rs row).length := fun z => of_decide_eq_false hb5 ((lt_bef ha hm).mpr z)
      exact s_asg (ev_var rfl) fun H6 e6 => ⟨(lo + hi) / 2 - lo, by omega, (e04.trans e5).trans e6, lo, (lo + hi) / 2, _, rfl, h1, by omega, by omega, rfl⟩
  · have hge : ¬ lo < hi := by have := of_decide_eq_false hb3; omega
    obtain rfl : lo = (before rs row).length := by omega
    exact s_ret (ev_var rfl) fun H4 e4 => q H4 ((eH.trans e3).trans e4)
def N_Shelf_joined_near : List Str := ["self", "place", "at"]
def t_Shelf_joined_near (K : PySem.W.Frag) : TS :=
  (tFor (iList K (tLst (tCons (tVar 1) (tCons (tOp rSubI (tVar 1) (tC (.int 1))) tNil)))) (gName 2)
    (tIfS (tAnd (tTest (tOp rGeI (tVar 2) (tC (.int 0)))) (tTest (tOp rLtI (tOp rAddI (tVar 2) (tC (.int 1))) (tCB (rLenK K) (tCons (tFldC (He.ga K "Shelf") (tVar 0) "stacks") tNil))))) (tIfS (tTest (tOp rLeI (tOp rAddI (tCB (rLenK K) (tCons (tOp (rIxL K) (tFldC (He.ga K "Shelf") (tVar 0) "stacks") (tVar 2)) tNil)) (tCB (rLenK K) (tCons (tOp (rIxL K) (tFldC (He.ga K "Shelf") (tVar 0) "stacks") (tOp rAddI (tVar 2) (tC (.int 1)))) tNil))) (tFldC (He.ga K "Shelf") (tVar 0) "room"))) (tSeq (tAsg (tOp rCat (tOp (rIxL K) (tFldC (He.ga K "Shelf") (tVar 0) "stacks") (tVar 2)) (tOp (rIxL K) (tFldC (He.ga K "Shelf") (tVar 0) "stacks") (tOp rAddI (tVar 2) (tC (.int 1))))) (gSub (tFldC (He.ga K "Shelf") (tVar 0) "stacks") (tVar 2) rSetL))
    (tDrop (tBM K "list" rPopAt (tFldC (He.ga K "Shelf") (tVar 0) "stacks") (tCons (tOp rAddI (tVar 2) (tC (.int 1))) tNil)))) tNext) tNext))
/-- the addresses that a shelf owns -/
def Own (q : Addr) (l : List (Addr × List Rw)) (b : Addr) : Prop := b = q ∨ ∃ e ∈ l, e.1 = b
/-- nothing but what the shelf owns is touched -/
def ExO (q : Addr) (l : List (Addr × List Rw)) (H H' : Hp) : Prop := ∀ b o, ¬ Own q l b → H b = some o → H' b = some o
theorem ExO.of {q : Addr} {l : List (Addr × List Rw)} {H H' : Hp} (e : Ex H H') : ExO q l H H' := fun b o _ h => e b o h
theorem ExO.ofU {q : Addr} {l : List (Addr × List Rw)} {H H' : Hp} (e : ExU q H H') : ExO q l H H' := fun b o n h => e b o (fun z => n (.inl z)) h
/-- the stacks afterwards: owned before, or new -/
def NewO (q : Addr) (l l' : List (Addr × List Rw)) (H : Hp) : Prop := ∀ e ∈ l', Own q l e.1 ∨ H e.1 = none
theorem ExO.back {q : Addr} {l : List (Addr × List Rw)} {H H' : Hp} {b : Addr} (e : ExO q l H H') (h : H' b = none) : Own q l b ∨ H b = none := by
  by_cases ho : Own q l b
  · exact .inl ho
  · cases hb : H b with
    | none => exact .inr rfl
    | some o => rw [e b o ho hb] at h; cases h
theorem ExO.trans {q : Addr} {l l' : List (Addr × List Rw)} {H H1 H2 : Hp} (e1 : ExO q l H H1) (n : NewO q l l' H) (e2 : ExO q l' H1 H2) : ExO q l H H2 := fun b o ho hb => e2 b o (fun z => by
  rcases z with z | ⟨e, he, rfl⟩
  · exact ho (.inl z)
  · rcases n e he with h | h
    · exact ho h
    · rw [h] at hb; cases hb) (e1 b o ho hb)
theorem NewO.trans {q : Addr} {l l' l2 : List (Addr × List Rw)} {H H1 : Hp} (e1 : ExO q l H H1) (n : NewO q l l' H) (n2 : NewO q l' l2 H1) : NewO q l l2 H := fun e he => by
  rcases n2 e he with h | h
  · rcases h with h | ⟨e', he', h⟩
    · exact .inl (.inl h)
    · rw [← h]
      exact n e' he'
  · exact e1.back h
theorem NewO.refl {q : Addr} {l : List (Addr × List Rw)} {H : Hp} : NewO q l l H := fun e he => .inl (.inr ⟨e, he, rfl⟩)
theorem sz_at {l : List (Addr × List Rw)} {j : Nat} (h : j < l.length) : szAt (sds l) j = l[j].2.length := by
  unfold szAt
  rw [sds_at h]
  rfl
theorem setl_pop {α : Type} {l : List α} {i : Nat} {x : α} (h : i + 1 < l.length) : (l.set i x).eraseIdx (i + 1) = l.take i ++ x :: l.drop (i + 2) := by
  apply List.ext_getElem?
  intro j
  have hl : (l.take i).length = i := by rw [List.length_take]; omega
  rw [List.getElem?_eraseIdx]
  by_cases h1 : j < i
  · rw [if_pos (by omega), List.getElem?_set_ne (by omega), List.getElem?_append_left (by omega), List.getElem?_take_of_lt h1]
  · rw [List.getElem?_append_right (by omega), hl]
    by_cases h2 : j = i
    · subst h2
      rw [if_pos (by omega), List.getElem?_set_self (by omega), Nat.sub_self]
      rfl
    · rw [if_neg (by omega), List.getElem?_set_ne (by omega)]
      obtain ⟨k, hk⟩ : ∃ k, j - i = k + 1 := ⟨j - i - 1, by omega⟩
      rw [hk, List.getElem?_cons_succ, List.getElem?_drop, show i + 2 + k = j + 1 by omega]
theorem map_setl {l : List (Addr × List Rw)} {i : Nat} {p : Addr} {s : List Rw} (h : i + 1 < l.length) : (((l.map fun e => V.ref e.1).set i (.ref p)).eraseIdx (i + 1)) = (l.take i ++ (p, s) :: l.drop (i + 2)).map fun e => V.ref e.1 := by
  rw [setl_pop (by rw [List.length_map]; exact h), List.map_append, List.map_cons, List.map_take, List.map_drop]
def sp_Shelf_joined_near (K : PySem.W.Frag) : Sp := fun vs H Q _ => ∃ (a : Addr) (p : Nat) (fm : V) (room : Nat) (q : Addr) (l : List (Addr × List Rw)), vs = [.ref a, .int (p : Int)] ∧ ShI K H a fm room q l ∧ l.length ≤ 1000 ∧ (∀ e ∈ l, e.2.length ≤ 1000) ∧ room ≤ 20 ∧ p ≤ 1000 ∧
  ∀ H' l', ShI K H' a fm room q l' → sds l' = joinNear room p (sds l) → ExO q l H H' → NewO q l l' H → Q .non H'
theorem len_Shelf_joined_near {K : PySem.W.Frag} {vs H Q E} (h : sp_Shelf_joined_near K vs H Q E) : vs.length = 2 := by
  obtain ⟨a, p, fm, room, q, l, rfl, _⟩ := h
  rfl
theorem s_forNLn {K : PySem.W.Frag} {σ : L2.St} {H : Hp} {D : Ends} {tu : TS} {xs : List V} {tl : TE} {j : Nat} (h : EvL tl σ H xs) (Pv : Addr → Nat → L2.St → Hp → Prop) (h0 : ∀ p H1, H p = none → Ex H H1 → H1 p = some (.lst xs) → Pv p 0 σ H1) (hq : ∀ p i σ' H', i ≤ xs.length → Pv p i σ' H' → SqL K H' p xs)
    (hs : ∀ p (i : Nat) x σ' H', xs[i]? = some x → Pv p i σ' H' → tu { D with nx := Pv p (i + 1), ct := Pv p (i + 1), bk := D.nx } (σ'.set j (some x)) H') (hd : ∀ p σ' H', Pv p xs.length σ' H' → D.nx σ' H') : tFor (iList K tl) (gName j) tu D σ H :=
  show tSeq (tFor (iList K tl) (gName j) tu) tNext D σ H from q_forNLn (tz := tNext) h Pv h0 hq hs hd
theorem rd_Shelf_joined_near {K : PySem.W.Frag} (vs : List V) (H : Hp) (Q : VK) (E : XK) (h : sp_Shelf_joined_near K vs H Q E) : t_Shelf_joined_near K { nx := fun _ H' => Q .non H', rt := Q } (start N_Shelf_joined_near vs) H := by
  obtain ⟨a, p, fm, room, q, l, rfl, s, hl, hz, hr, hp, k⟩ := h
  -- one place
  have step : ∀ (i : Int) (σ : L2.St) (H1 : Hp) (l1 : List (Addr × List Rw)) (D : Ends), σ[0]? = some (some (.ref a)) → σ[2]? = some (some (.int i)) → ShI K H1 a fm room q l1 → l1.length ≤ 1000 → (∀ e ∈ l1, e.2.length ≤ 1000) → i ≤ 1000 → -1 ≤ i →
      (∀ H2 l2, ShI K H2 a fm room q l2 → (i < 0 → sds l2 = sds l1) → (∀ j : Nat, i = (j : Int) → sds l2 = joinAt room j (sds l1)) → ExO q l1 H1 H2 → NewO q l1 l2 H1 → l2.length ≤ 1000 → (∀ e ∈ l2, e.2.length ≤ 1000) → D.nx σ H2) →
      tIfS (tAnd (tTest (tOp rGeI (tVar 2) (tC (.int 0)))) (tTest (tOp rLtI (tOp rAddI (tVar 2) (tC (.int 1))) (tCB (rLenK K) (tCons (tFldC (He.ga K "Shelf") (tVar 0) "stacks") tNil))))) (tIfS (tTest (tOp rLeI (tOp rAddI (tCB (rLenK K) (tCons (tOp (rIxL K) (tFldC (He.ga K "Shelf") (tVar 0) "stacks") (tVar 2)) tNil)) (tCB (rLenK K) (tCons (tOp (rIxL K) (tFldC (He.ga K "Shelf") (tVar 0) "stacks") (tOp rAddI (tVar 2) (tC (.int 1)))) tNil))) (tFldC (He.ga K "Shelf") (tVar 0) "room"))) (tSeq (tAsg (tOp rCat (tOp (rIxL K) (tFldC (He.ga K "Shelf") (tVar 0) "stacks") (tVar 2)) (tOp (rIxL K) (tFldC (He.ga K "Shelf") (tVar 0) "stacks") (tOp rAddI (tVar 2) (tC (.int 1))))) (gSub (tFldC (He.ga K "Shelf") (tVar 0) "stacks") (tVar 2) rSetL))
        (tDrop (tBM K "list" rPopAt (tFldC (He.ga K "Shelf") (tVar 0) "stacks") (tCons (tOp rAddI (tVar 2) (tC (.int 1))) tNil)))) tNext) tNext D σ H1 := by
    intro i σ H1 l1 D g0 g2 s1 hl1 hz1 hi1 hi0 hD
    refine s_when (et_and (et_test (ev_geI (ev_var g2) ev_c)) fun _ => et_test (ev_ltI (ev_addI (ev_var g2) ev_c) (ev_lenS (ev_stacks (ev_var g0) s1) (.inl (sq_of s1.st))))) (fun hb H2 e2 => ?_) (fun hb H2 e2 => ?_)
    · rw [Bool.and_eq_true] at hb
      have b1 : 0 ≤ i := of_decide_eq_true hb.1
      have b2 := of_decide_eq_true hb.2
      rw [List.length_map] at b2
      obtain ⟨j, rfl⟩ := Int.eq_ofNat_of_zero_le b1
      have hj : j + 1 < l1.length := by omega
      have hj0 : j < l1.length := by omega
      have s2 := s1.mono e2
      have at0 : ∀ (H0 : Hp), ShI K H0 a fm room q l1 → Ev (tOp (rIxL K) (tFldC (He.ga K "Shelf") (tVar 0) "stacks") (tVar 2)) σ H0 (.ref l1[j].1) := fun H0 s0 => ev_stack (ev_var g0) s0 (ev_var g2) hj0
      have at1 : ∀ (H0 : Hp), ShI K H0 a fm room q l1 → Ev (tOp (rIxL K) (tFldC (He.ga K "Shelf") (tVar 0) "stacks") (tOp rAddI (tVar 2) (tC (.int 1)))) σ H0 (.ref l1[j + 1].1) := fun H0 s0 => ev_stack (ev_var g0) s0 (ev_is (ev_addI (ev_var g2) ev_c) (by congr 1)) hj
      have el0 := fun (H0 : Hp) (s0 : ShI K H0 a fm room q l1) => (s0.els _ (List.getElem_mem hj0)).1
      have el1 := fun (H0 : Hp) (s0 : ShI K H0 a fm room q l1) => (s0.els _ (List.getElem_mem hj)).1
      refine s_when (et_test (ev_leI (ev_addI (ev_is (ev_lenS (at0 _ s2) (.inl (sq_of (el0 _ s2)))) (by rw [RL_len])) (ev_is (ev_lenS (at1 _ s2) (.inl (sq_of (el1 _ s2)))) (by rw [RL_len]))) (ev_room (ev_var g0) s2))) (fun hb3 H3 e3 => ?_) (fun hb3 H3 e3 => ?_)
      · have hsum : l1[j].2.length + l1[j + 1].2.length ≤ room := by have := of_decide_eq_true hb3; omega
        have s3 := s2.mono e3
        refine (el_catP (at0 _ s3) (el0 _ s3) (at1 _ s3) (el1 _ s3) (by rw [RL_len, RL_len]; omega)) H3 (Ex.refl H3) _ fun pn H4 hpn e4 h4 => ?_
        have s4 := s3.mono e4
        refine g_setL (j := j) s4.st (ev_stacks (ev_var g0) s4) (ev_var g2) (by rw [List.length_map]; exact hj0) fun H5 e5 => ?_
        have s5 := s4.mono e5
        have h5 := e5 _ _ h4
        have hpq : pn ≠ q := fun z => by rw [z, s3.st] at hpn; cases hpn
        -- the shelf with the item set
        obtain ⟨⟨dx, hobj⟩, hst, hels, hnd⟩ := s5
        have haq : a ≠ q := fun z => by rw [z, hst] at hobj; cases hobj
        refine s_popAt (i := j + 1) (l := q) (xs := (l1.map fun e => V.ref e.1).set j (.ref pn)) (y := .ref l1[j + 1].1) upd_same (ev_fldC (dx := dx) (ev_var g0) (by rw [upd_ne haq]; exact hobj) rfl) (ev_is (ev_addI (ev_var g2) ev_c) (by congr 1)) (by rw [List.getElem?_set_ne (by omega), List.getElem?_map, List.getElem?_eq_getElem hj]; rfl) (by omega) fun H6 e6 => ?_
        rw [map_setl (s := l1[j].2 ++ l1[j + 1].2) hj]
        have keep : ∀ b o, b ≠ q → H5 b = some o → upd H6 q (.lst ((l1.take j ++ (pn, l1[j].2 ++ l1[j + 1].2) :: l1.drop (j + 2)).map fun e => V.ref e.1)) b = some o := fun b o hb ho => by
          rw [upd_ne hb]
          exact e6 _ _ (by rw [upd_ne hb]; exact ho)
        have hfresh : ∀ e ∈ l1, e.1 ≠ pn := fun e he z => by
          have := (s3.els e he).1
          rw [z, hpn] at this
          cases this
        have hmem : ∀ e, e ∈ l1.take j ++ (pn, l1[j].2 ++ l1[j + 1].2) :: l1.drop (j + 2) → e ∈ l1 ∨ e = (pn, l1[j].2 ++ l1[j + 1].2) := fun e he => by
          rcases List.mem_append.mp he with he | he
          · exact .inl (List.mem_of_mem_take he)
          · rcases List.mem_cons.mp he with he | he
            · exact .inr he
            · exact .inl (List.mem_of_mem_drop he)
        refine hD _ (l1.take j ++ (pn, l1[j].2 ++ l1[j + 1].2) :: l1.drop (j + 2)) ⟨⟨dx, keep _ _ haq hobj⟩, upd_same, fun e he => ?_, ?_⟩ (fun z => by omega) (fun j' hj' => ?_) (fun b o hb ho => ?_) (fun e he => ?_) ?_ (fun e he => ?_)
        · rcases hmem e he with he | rfl
          · exact ⟨keep _ _ (hels e he).2 (hels e he).1, (hels e he).2⟩
          · refine ⟨keep _ _ hpq (by rw [h5, ← RL_app]), hpq⟩
        · have hsub : (l1.take j ++ l1.drop (j + 2)).Sublist l1 := by
            conv => rhs; rw [← List.take_append_drop j l1]
            refine List.Sublist.append_left ?_ _
            rw [show l1.drop (j + 2) = (l1.drop j).drop 2 by rw [List.drop_drop]]
            exact List.drop_sublist _ _
          have hn2 : ((l1.take j ++ l1.drop (j + 2)).map fun e => e.1).Nodup := hnd.sublist (hsub.map _)
          rw [List.map_append] at hn2
          rw [List.map_append, List.map_cons]
          refine (List.perm_middle.nodup_iff).mpr (List.nodup_cons.mpr ⟨fun hm => ?_, hn2⟩)
          rw [← List.map_append] at hm
          obtain ⟨e, he, hz⟩ := List.mem_map.mp hm
          exact hfresh e (hsub.mem he) hz
        · obtain rfl : j' = j := by omega
          unfold joinAt
          rw [if_pos ⟨by rw [sds_len]; exact hj, by rw [sz_at hj0, sz_at hj]; exact hsum⟩, sds_at hj0, sds_at hj]
          unfold sds
          rw [List.map_append, List.map_cons, List.map_take, List.map_drop]
          rfl
        · have hbq : b ≠ q := fun z => hb (.inl z)
          exact keep b o hbq ((e2.trans (e3.trans (e4.trans e5))) _ _ ho)
        · rcases hmem e he with he | rfl
          · exact .inl (.inr ⟨e, he, rfl⟩)
          · exact .inr (fresh_back (e2.trans e3) hpn)
        · rw [List.length_append, List.length_take, List.length_cons, List.length_drop]
          omega
        · rcases hmem e he with he | rfl
          · exact hz1 e he
          · rw [List.length_append]; omega
      · have hsum : ¬ l1[j].2.length + l1[j + 1].2.length ≤ room := by have := of_decide_eq_false hb3; omega
        refine hD H3 l1 (s2.mono e3) (fun z => by omega) (fun j' hj' => ?_) (.of (e2.trans e3)) .refl hl1 hz1
        obtain rfl : j' = j := by omega
        unfold joinAt
        rw [if_neg]
        rintro ⟨_, z⟩
        rw [sz_at hj0, sz_at hj] at z
        exact hsum z
    · refine hD H2 l1 (s1.mono e2) (fun _ => rfl) (fun j hj => ?_) (.of e2) .refl hl1 hz1
      unfold joinAt
      rw [if_neg]
      rintro ⟨z, _⟩
      rw [sds_len] at z
      rw [Bool.and_eq_false_iff] at hb
      rcases hb with hb | hb
      · have := of_decide_eq_false hb; omega
      · have := of_decide_eq_false hb
        rw [List.length_map] at this
        omega
  refine s_forNLn (xs := [.int (p : Int), .int ((p : Int) - 1)]) (el_lst (ea_cons (ev_var rfl) (ea_cons (ev_subI (ev_var rfl) ev_c) ea_nil)) (by simp))
    (fun c i σ' H' => H' c = some (.lst [.int (p : Int), .int ((p : Int) - 1)]) ∧ ¬ Own q l c ∧ i ≤ 2 ∧ ∃ (l1 : List (Addr × List Rw)) (u : Option V), σ' = [some (.ref a), some (.int (p : Int)), u] ∧ ShI K H' a fm room q l1 ∧ sds l1 = (if i = 0 then sds l else if i = 1 then joinAt room p (sds l) else joinNear room p (sds l)) ∧ ExO q l H H' ∧ NewO q l l1 H ∧ l1.length ≤ 1000 ∧ (∀ e ∈ l1, e.2.length ≤ 1000) ∧ (∀ e ∈ l1, e.1 ≠ c) ∧ H c = none)
    (fun c H1 hc e1 h1 => ⟨h1, (fun z => ?_), by omega, l, none, rfl, s.mono e1, rfl, .of e1, .refl, hl, hz, (fun e he z => by have := (s.els e he).1; rw [z, hc] at this; cases this), hc⟩) (fun c i σ' H' _ hP => sq_of hP.1) (fun c i x σ' H' hx hP => ?_) (fun c σ' H' hP => ?_)
  · rcases z with rfl | ⟨e, he, rfl⟩
    · rw [s.st] at hc; cases hc
    · rw [(s.els e he).1] at hc; cases hc
  · obtain ⟨hc, hco, hi2, l1, u, rfl, s1, hs1, ho1, hn1, hl1, hz1, hec, hcn⟩ := hP
    have fin : ∀ (v : Int) (H2 : Hp) (l2 : List (Addr × List Rw)), ShI K H2 a fm room q l2 → sds l2 = (if i + 1 = 0 then sds l else if i + 1 = 1 then joinAt room p (sds l) else joinNear room p (sds l)) → ExO q l1 H' H2 → NewO q l1 l2 H' → l2.length ≤ 1000 → (∀ e ∈ l2, e.2.length ≤ 1000) → i + 1 ≤ 2 → (H2 c = some (.lst [.int (p : Int), .int ((p : Int) - 1)]) ∧ ¬ Own q l c ∧ i + 1 ≤ 2 ∧ ∃ (l1 : List (Addr × List Rw)) (u : Option V), [some (V.ref a), some (.int (p : Int)), some (.int v)] = [some (.ref a), some (.int (p : Int)), u] ∧ ShI K H2 a fm room q l1 ∧ sds l1 = (if i + 1 = 0 then sds l else if i + 1 = 1 then joinAt room p (sds l) else joinNear room p (sds l)) ∧ ExO q l H H2 ∧ NewO q l l1 H ∧ l1.length ≤ 1000 ∧ (∀ e ∈ l1, e.2.length ≤ 1000) ∧ (∀ e ∈ l1, e.1 ≠ c) ∧ H c = none) := fun v H2 l2 s2 hs2 ho2 hn2 hl2 hz2 hi3 => by
      have hoc : ¬ Own q l1 c := by
        rintro (z | ⟨e, he, z⟩)
        · exact hco (.inl z)
        · exact hec e he z
      refine ⟨ho2 _ _ hoc hc, hco, hi3, l2, _, rfl, s2, hs2, ho1.trans hn1 ho2, hn1.trans ho1 hn2, hl2, hz2, fun e he z => ?_, hcn⟩
      rcases hn2 e he with h | h
      · rw [z] at h; exact hoc h
      · rw [z, hc] at h; cases h
    have hi : i = 0 ∨ i = 1 := by
      have := (List.getElem?_eq_some_iff.mp hx).1
      simp at this
      omega
    rcases hi with rfl | rfl
    · obtain rfl := Option.some.inj hx
      refine step (p : Int) _ H' l1 _ rfl rfl s1 hl1 hz1 (by omega) (by omega) fun H2 l2 s2 _ hj ho2 hn2 hl2 hz2 => fin _ H2 l2 s2 ?_ ho2 hn2 hl2 hz2 (by omega)
      rw [hj p rfl, hs1]
      rfl
    · obtain rfl := Option.some.inj hx
      refine step ((p : Int) - 1) _ H' l1 _ rfl rfl s1 hl1 hz1 (by omega) (by omega) fun H2 l2 s2 hneg hj ho2 hn2 hl2 hz2 => fin _ H2 l2 s2 ?_ ho2 hn2 hl2 hz2 (by omega)
      have hs1 : sds l1 = joinAt room p (sds l) := hs1
      show sds l2 = joinNear room p (sds l)
      unfold joinNear
      by_cases h0 : p = 0
      · rw [if_pos h0, hneg (by omega), hs1]
      · rw [if_neg h0, hj (p - 1) (by omega), hs1]
  · obtain ⟨hc, hco, hi2, l1, u, rfl, s1, hs1, ho1, hn1, _⟩ := hP
    exact k H' l1 s1 hs1 ho1 hn1
def N_Shelf_put : List Str := ["self", "value", "row", "place", "stack", "amid"]
def t_Shelf_put (K : PySem.W.Frag) (E : XK) : TS :=
  (tSeq (tAsg (tMeth (He.ga K "Shelf") "row_for" (sp_Shelf_row_for K) [] E (tVar 0) (tCons (tVar 1) tNil)) (gName 2))
    (tSeq (tIfS (tB (tMeth (He.ga K "Shelf") "holds" (sp_Shelf_holds K) [] E0 (tVar 0) (tCons (tVar 2) tNil))) (tRet (tC (.bl false))) tNext)
    (tSeq (tIfS (tTest (tOp rEq (tCB (rLenK K) (tCons (tFldC (He.ga K "Shelf") (tVar 0) "stacks") tNil)) (tC (.int 0)))) (tDrop (tBM K "list" rAppend (tFldC (He.ga K "Shelf") (tVar 0) "stacks") (tCons (tLst tNil) tNil))) tNext)
    (tSeq (tAsg (tMeth (He.ga K "Shelf") "stack_for" (sp_Shelf_stack_for K) [] E0 (tVar 0) (tCons (tVar 2) tNil)) (gName 3))
    (tSeq (tAsg (tOp (rIxL K) (tFldC (He.ga K "Shelf") (tVar 0) "stacks") (tVar 3)) (gName 4))
    (tSeq (tDrop (tBM K "list" rInsertK (tVar 4) (tCons (tCall (sp_place_among K) [] E0 (tCons (tVar 4) (tCons (tVar 2) tNil))) (tCons (tVar 2) tNil))))
    (tSeq (tIfS (tTest (tOp rGtI (tCB (rLenK K) (tCons (tVar 4) tNil)) (tFldC (He.ga K "Shelf") (tVar 0) "room"))) (tSeq (tAsg (tOp rDivI (tCB (rLenK K) (tCons (tVar 4) tNil)) (tC (.int 2))) (gName 5))
    (tSeq (tAsg (tSl (rSlL K) (tVar 4) tNoPart (tPart (tVar 5))) (gSub (tFldC (He.ga K "Shelf") (tVar 0) "stacks") (tVar 3) rSetL))
    (tSeq (tDrop (tBM K "list" rInsertK (tFldC (He.ga K "Shelf") (tVar 0) "stacks") (tCons (tOp rAddI (tVar 3) (tC (.int 1))) (tCons (tSl (rSlL K) (tVar 4) (tPart (tVar 5)) tNoPart) tNil))))
    (tDrop (tMeth (He.ga K "Shelf") "joined_near" (sp_Shelf_joined_near K) [] E0 (tVar 0) (tCons (tOp rAddI (tVar 3) (tC (.int 1))) tNil)))))) tNext)
    (tSeq (tDrop (tMeth (He.ga K "Shelf") "joined_near" (sp_Shelf_joined_near K) [] E0 (tVar 0) (tCons (tVar 3) tNil)))
    (tRet (tC (.bl true)))))))))))
theorem fl_le1 {l : List (Addr × List Rw)} {m : Nat} (h : (sds l).flatten.length ≤ m) : ∀ e ∈ l, e.2.length ≤ m := fun e he => by
  have : e.2 ∈ sds l := List.mem_map.mpr ⟨e, he, rfl⟩
  have := (List.sublist_flatten_of_mem this).length_le
  omega
theorem ShI.keep {K : PySem.W.Frag} {H H' : Hp} {a : Addr} {fm : V} {room : Nat} {q : Addr} {A B : List (Addr × List Rw)} {c : Addr} {s s' : List Rw} (h : ShI K H a fm room q (A ++ (c, s) :: B)) (hk : ∀ b o, b ≠ c → H b = some o → H' b = some o) (hc : H' c = some (.lst (RL s'))) : ShI K H' a fm room q (A ++ (c, s') :: B) := by
  obtain ⟨⟨dx, h1⟩, h2, h3, h4⟩ := h
  have hcm : (c, s) ∈ A ++ (c, s) :: B := List.mem_append_right _ (List.mem_cons_self ..)
  have hcq := (h3 _ hcm).2
  have hac : a ≠ c := fun z => by have := (h3 _ hcm).1; rw [← z, h1] at this; cases this
  rw [List.map_append, List.map_cons] at h4
  have hnc : ∀ e, e ∈ A ∨ e ∈ B → e.1 ≠ c := fun e he z => by
    have := (List.perm_middle.nodup_iff).mp h4
    refine (List.nodup_cons.mp this).1 ?_
    rw [← List.map_append]
    exact List.mem_map.mpr ⟨e, by rcases he with he | he <;> simp [he], z⟩
  refine ⟨⟨dx, hk _ _ hac h1⟩, ?_, fun e he => ?_, by rw [List.map_append, List.map_cons]; exact h4⟩
  · have := hk _ _ (Ne.symm hcq) h2
    rw [this, List.map_append, List.map_cons, List.map_append, List.map_cons]
  · rcases List.mem_append.mp he with he | he
    · have := h3 e (List.mem_append_left _ he)
      exact ⟨hk _ _ (hnc e (.inl he)) this.1, this.2⟩
    · rcases List.mem_cons.mp he with rfl | he
      · exact ⟨hc, hcq⟩
      · have := h3 e (List.mem_append_right _ (List.mem_cons_of_mem _ he))
        exact ⟨hk _ _ (hnc e (.inr he)) this.1, this.2⟩
theorem ShI.re {K : PySem.W.Frag} {H H' : Hp} {a : Addr} {fm : V} {room : Nat} {q : Addr} {l l' : List (Addr × List Rw)} (s : ShI K H a fm room q l) (hk : ∀ b o, b ≠ q → H b = some o → H' b = some o) (hq : H' q = some (.lst (l'.map fun e => V.ref e.1))) (he : ∀ e ∈ l', e ∈ l ∨ (e.1 ≠ q ∧ H' e.1 = some (.lst (RL e.2)))) (hn : (l'.map fun e => e.1).Nodup) : ShI K H' a fm room q l' := by
  obtain ⟨⟨dx, h1⟩, h2, h3, h4⟩ := s
  have haq : a ≠ q := fun z => by rw [z, h2] at h1; cases h1
  refine ⟨⟨dx, hk _ _ haq h1⟩, hq, fun e hm => ?_, hn⟩
  rcases he e hm with h | h
  · exact ⟨hk _ _ (h3 e h).2 (h3 e h).1, (h3 e h).2⟩
  · exact ⟨h.2, h.1⟩
theorem nodup_mid {A B : List (Addr × List Rw)} {p : Addr} {x y : List Rw} {c : Addr} (h : ((A ++ (c, x) :: B).map fun e => e.1).Nodup) (hp : ∀ e ∈ A ++ (c, x) :: B, e.1 ≠ p) : ((A ++ (p, y) :: B).map fun e => e.1).Nodup := by
  rw [List.map_append, List.map_cons] at h ⊢
  have h1 := (List.nodup_cons.mp ((List.perm_middle.nodup_iff).mp h)).2
  refine (List.perm_middle.nodup_iff).mpr (List.nodup_cons.mpr ⟨fun hm => ?_, h1⟩)
  rw [← List.map_append] at hm
  obtain ⟨e, he, hz⟩ := List.mem_map.mp hm
  exact hp e (by rcases List.mem_append.mp he with he | he <;> simp [he]) hz
theorem nodup_ins {A B : List (Addr × List Rw)} {p : Addr} {y : List Rw} (h : ((A ++ B).map fun e => e.1).Nodup) (hp : ∀ e ∈ A ++ B, e.1 ≠ p) : ((A ++ (p, y) :: B).map fun e => e.1).Nodup := by
  rw [List.map_append] at h
  rw [List.map_append, List.map_cons]
  refine (List.perm_middle.nodup_iff).mpr (List.nodup_cons.mpr ⟨fun hm => ?_, h⟩)
  rw [← List.map_append] at hm
  obtain ⟨e, he, hz⟩ := List.mem_map.mp hm
  exact hp e he hz
/-- which stack, and what comes of the row put there -/
def PutAt (room : Nat) (row : Rw) (l0 l1 : List (Addr × List Rw)) : Prop := ∀ f, SfOk (sds l1) row l1.length f → ∃ (A B : List (Addr × List Rw)) (c : Addr) (s : List Rw), l1 = A ++ (c, s) :: B ∧ A.length = f ∧ Asc none s ∧ s.length ≤ room ∧
  (s.length + 1 ≤ room → Kept room (sds A ++ insR s row :: sds B)) ∧
  (room < s.length + 1 → Kept room (joinNear room A.length (joinNear room (A.length + 1) (sds A ++ (insR s row).take ((s.length + 1) / 2) :: (insR s row).drop ((s.length + 1) / 2) :: sds B))) ∧ (sds A ++ (insR s row).take ((s.length + 1) / 2) :: (insR s row).drop ((s.length + 1) / 2) :: sds B).flatten = (sds A ++ insR s row :: sds B).flatten) ∧
  ∀ r, r ∈ (sds A ++ insR s row :: sds B).flatten ↔ r ∈ (sds l0).flatten ∨ r = row
theorem sds_mid {l : List (Addr × List Rw)} {A' B' : List (List Rw)} {t : List Rw} (h : sds l = A' ++ t :: B') : ∃ (A B : List (Addr × List Rw)) (c : Addr), l = A ++ (c, t) :: B ∧ sds A = A' ∧ sds B = B' := by
  unfold sds at h
  obtain ⟨l1, l2, rfl, h1, h2⟩ := List.map_eq_append_iff.mp h
  obtain ⟨e, r, rfl, h3, h4⟩ := List.map_eq_cons_iff.mp h2
  obtain ⟨c, t'⟩ := e
  have h3 : t' = t := h3
  subst h3
  exact ⟨l1, r, c, rfl, h1, h4⟩
theorem putAt_old {room : Nat} {row : Rw} {l : List (Addr × List Rw)} (hr : 2 ≤ room) (hk : Kept room (sds l)) (h0 : l ≠ []) (hn : row ∉ (sds l).flatten) : PutAt room row l l := fun f hf => by
  rw [← sds_len l] at hf
  obtain ⟨A', t, B', hss, hA, hlo, hhi⟩ := sf_split hk.asc (fun x hx => (hk.sz x hx).1) (by intro z; apply h0; have := sds_len l; rw [z] at this; exact List.length_eq_zero_iff.mp this.symm) hf
  obtain ⟨A, B, c, rfl, rfl, rfl⟩ := sds_mid hss
  rw [sds_len] at hA
  rw [hss] at hk hn
  have hnt : row ∉ t := fun z => hn ((in_flat hlo hhi).mpr z)
  have htm : t ∈ sds A ++ t :: sds B := List.mem_append_right _ (List.mem_cons_self ..)
  refine ⟨A, B, c, t, rfl, hA, sub_asc hk htm, (hk.sz t htm).2, fun hl => kept_put hk hlo hhi hnt hl, fun hl => ?_, fun r => ?_⟩
  · have := kept_part hr hk hlo hhi hnt hl
    rw [sds_len] at this
    exact this
  · rw [mem_putF, hss]
theorem putAt_new {room : Nat} {row : Rw} {c : Addr} (hr : 2 ≤ room) : PutAt room row [] [(c, [])] := fun f hf => by
  have h0 : f = 0 := by
    rcases hf.1 with h | h
    · exact h
    · have := h.2.1; simp at this; omega
  subst h0
  refine ⟨[], [], c, [], rfl, rfl, trivial, Nat.zero_le _, fun _ => ⟨fun s hs => ?_, ?_, fun j _ hj => by simp [sds] at hj⟩, fun z => by simp at z; omega, fun r => by simp [sds, insR]⟩
  · simp [sds, insR] at hs
    subst hs
    exact ⟨by simp, by simp; omega⟩
  · simp [sds, insR, Asc]
def sp_Shelf_put (K : PySem.W.Frag) : Sp := fun vs H Q _ => ∃ (a : Addr) (n : Int) (fm : V) (room : Nat) (q : Addr) (l : List (Addr × List Rw)) (turn : Bool), vs = [.ref a, .int n] ∧ ShI K H a fm room q l ∧ FrmV K H fm turn ∧ SmN n ∧ 2 ≤ room ∧ room ≤ 20 ∧ Kept room (sds l) ∧ (sds l).flatten.length ≤ 500 ∧
  ∀ b H' l', ShI K H' a fm room q l' → Kept room (sds l') → (∀ r, r ∈ (sds l').flatten ↔ r ∈ (sds l).flatten ∨ r = rowW turn n) → ExO q l H H' → NewO q l l' H → Q (.bl b) H'
theorem len_Shelf_put {K : PySem.W.Frag} {vs H Q E} (h : sp_Shelf_put K vs H Q E) : vs.length = 2 := by
  obtain ⟨a, n, fm, room, q, l, turn, rfl, _⟩ := h
  rfl
theorem s_joined {K : PySem.W.Frag} {σ : L2.St} {H : Hp} {D : Ends} {o tp : TE} {a : Addr} {fm : V} {room : Nat} {q : Addr} {l : List (Addr × List Rw)} {p : Nat} (h : Ev o σ H (.ref a)) (hp : Ev tp σ H (.int (p : Int))) (s : ShI K H a fm room q l) (hl : l.length ≤ 1000) (hz : ∀ e ∈ l, e.2.length ≤ 1000) (hr : room ≤ 20) (hp2 : p ≤ 1000)
    (k : ∀ H' l', ShI K H' a fm room q l' → sds l' = joinNear room p (sds l) → ExO q l H H' → NewO q l l' H → D.nx σ H') : tDrop (tMeth (He.ga K "Shelf") "joined_near" (sp_Shelf_joined_near K) [] E0 o (tCons tp tNil)) D σ H := by
  have s2 := s
  obtain ⟨⟨dx, ha⟩, _⟩ := s
  exact go_meth (Q := fun _ H' => D.nx σ H') h ha rfl (fun H1 e => ea_cons (hp.mono e) ea_nil) fun H1 e => ⟨a, p, fm, room, q, l, rfl, s2.mono e, hl, hz, hr, hp2, fun H' l' s' hj ho hn => k H' l' s' hj ((ExO.of e).trans .refl ho) (NewO.trans (.of e) .refl hn)⟩
theorem q_joined {K : PySem.W.Frag} {σ : L2.St} {H : Hp} {D : Ends} {tz : TS} {o tp : TE} {a : Addr} {fm : V} {room : Nat} {q : Addr} {l : List (Addr × List Rw)} {p : Nat} (h : Ev o σ H (.ref a)) (hp : Ev tp σ H (.int (p : Int))) (s : ShI K H a fm room q l) (hl : l.length ≤ 1000) (hz : ∀ e ∈ l, e.2.length ≤ 1000) (hr : room ≤ 20) (hp2 : p ≤ 1000)
    (k : ∀ H' l', ShI K H' a fm room q l' → sds l' = joinNear room p (sds l) → ExO q l H H' → NewO q l l' H → tz D σ H') : tSeq (tDrop (tMeth (He.ga K "Shelf") "joined_near" (sp_Shelf_joined_near K) [] E0 o (tCons tp tNil))) tz D σ H := s_joined (D := { D with nx := tz D }) h hp s hl hz hr hp2 k
theorem ShI.oob {K : PySem.W.Frag} {H : Hp} {a : Addr} {fm : V} {room : Nat} {q : Addr} {l : List (Addr × List Rw)} (s : ShI K H a fm room q l) : a ≠ q := by
  obtain ⟨⟨dx, h1⟩, h2, _⟩ := s
  exact fun z => by rw [z, h2] at h1; cases h1
theorem rd_Shelf_put {K : PySem.W.Frag} (vs : List V) (H : Hp) (Q : VK) (E : XK) (h : sp_Shelf_put K vs H Q E) : t_Shelf_put K E { nx := fun _ H' => Q .non H', rt := Q } (start N_Shelf_put vs) H := by
  obtain ⟨a, n, fm, room, q, l, turn, rfl, s, hfm, hn, r0, r1, hk, hlen, k⟩ := h
  have hll : l.length ≤ 500 := by have := kept_len hk.sz; rw [sds_len] at this; omega
  refine q_asg (ev_row_for (ev_var rfl) s hfm (ev_var rfl) hn) fun H1 e1 => ?_
  generalize rowW turn n = row at k
  have s1 := s.mono e1
  refine q_when (et_B (ev_holds (ev_var rfl) s1 (ev_var rfl) hk (by omega))) (fun hb H2 e2 => ?_) (fun hb H2 e2 => ?_)
  · have hin : row ∈ (sds l).flatten := of_decide_eq_true hb
    exact s_ret ev_c fun H3 e3 => k false H3 l (s1.mono (e2.trans e3)) hk (fun r => ⟨.inl, fun z => z.elim id (fun z => by rw [z]; exact hin)⟩) (.of (e1.trans (e2.trans e3))) .refl
  have hnin : row ∉ (sds l).flatten := of_decide_eq_false hb
  have s2 := s1.mono e2
  have e02 := e1.trans e2
  -- a stack, if there is none
  refine q_cond (fun σ' H' => ∃ l1, σ' = [some (.ref a), some (.int n), some (.str (T (R row))), none, none, none] ∧ ShI K H' a fm room q l1 ∧ PutAt room row l l1 ∧ ExO q l H H' ∧ NewO q l l1 H ∧ l1.length ≤ 501 ∧ (1 < l1.length → ∀ e ∈ l1, e.2 ≠ []) ∧ ∀ e ∈ l1, e.2.length ≤ 500) (fun M hM => ?_) (fun σ' H3 hP => ?_)
  · refine s_when (et_test (ev_eqI (ev_lenS (ev_stacks (ev_var rfl) s2) (.inl (sq_of s2.st))) ev_c)) (fun hb3 H3 e3 => ?_) (fun hb3 H3 e3 => ?_)
    · have h0 : l = [] := by
        have := of_decide_eq_true hb3
        rw [List.length_map] at this
        exact List.length_eq_zero_iff.mp (by omega)
      subst h0
      have s3 := s2.mono e3
      refine s_appN s3.st (ev_stacks (ev_var rfl) s3) (el_lst ea_nil (by simp)) (by simp) fun p H4 hp e4 h4 => ?_
      have s4 := s3.mono e4
      have hpq : p ≠ q := fun z => by rw [z, s3.st] at hp; cases hp
      obtain ⟨⟨dx, ho⟩, hst, _, _⟩ := s4
      refine hM _ _ ⟨[(p, [])], rfl, ⟨⟨dx, by rw [upd_ne s3.oob]; exact ho⟩, upd_same, fun e he => ?_, by simp⟩, putAt_new r0, fun b o hb ho2 => ?_, fun e he => ?_, by simp, fun z => by simp at z, fun e he => by rw [List.mem_singleton.mp he]; simp⟩
      · rw [List.mem_singleton.mp he]
        exact ⟨by rw [upd_ne hpq]; exact h4, hpq⟩
      · rw [upd_ne (fun z => hb (.inl z))]
        exact (e02.trans (e3.trans e4)) _ _ ho2
      · rw [List.mem_singleton.mp he]
        exact .inr (fresh_back (e02.trans e3) hp)
    · have h0 : l ≠ [] := by
        have := of_decide_eq_false hb3
        rw [List.length_map] at this
        intro z
        rw [z] at this
        simp at this
      exact hM _ _ ⟨l, rfl, s2.mono e3, putAt_old r0 hk h0 hnin, .of (e02.trans e3), .refl, by omega, fun _ => kept_ne hk, fl_le1 hlen⟩
  obtain ⟨l1, rfl, s3, hput, ho3, hn3, hl3, hne3, hz3⟩ := hP
  refine q_asgW (ew_stack_for (ev_var rfl) s3 (ev_var rfl) hne3 (by omega)) fun v H4 hv e4 => ?_
  obtain ⟨f, rfl, hf⟩ := hv
  obtain ⟨A, B, c, t, rfl, hA, hta, htr, hk1, hk2, hmem⟩ := hput f hf
  have s4 := s3.mono e4
  have hlA : (A ++ (c, t) :: B).length = A.length + (B.length + 1) := by simp
  have hfl : f < (A ++ (c, t) :: B).length := by omega
  have hat : (A ++ (c, t) :: B)[f] = (c, t) := by
    have : (A ++ (c, t) :: B)[f]? = some (c, t) := by rw [List.getElem?_append_right (by omega), hA, Nat.sub_self]; rfl
    exact (List.getElem?_eq_some_iff.mp this).2
  refine q_asg (v := .ref c) (ev_is (ev_stack (ev_var rfl) s4 (ev_var rfl) hfl) (by rw [hat])) fun H5 e5 => ?_
  have s5 := s4.mono e5
  have hcm : (c, t) ∈ A ++ (c, t) :: B := List.mem_append_right _ (List.mem_cons_self ..)
  have hc5 := (s5.els _ hcm).1
  have hcq := (s5.els _ hcm).2
  have hbt := bef_le t row
  refine q_insert (xs := RL t) hc5 (ev_var rfl) (i := (before t row).length) (ev_call (ea_cons (ev_var rfl) (ea_cons (ev_var rfl) ea_nil)) (u_place_among (rs := t) (row := row) (sq_of hc5) hta (by omega))) (v := .str (T (R row))) (ev_var rfl) (by rw [RL_len]; omega) (by omega) fun H6 e6 => ?_
  rw [RL_put]
  have s6 : ShI K (upd H6 c (.lst (RL (insR t row)))) a fm room q (A ++ (c, insR t row) :: B) := s5.keep (fun b o hb ho => by rw [upd_ne hb]; exact e6 _ _ ho) upd_same
  have ho6 : ExO q l H (upd H6 c (.lst (RL (insR t row)))) := ho3.trans hn3 fun b o hb ho => by
    rw [upd_ne (fun z => hb (.inr ⟨_, hcm, z.symm⟩))]
    exact (e4.trans (e5.trans e6)) _ _ ho
  have hn6 : NewO q l (A ++ (c, insR t row) :: B) H := fun e he => by
    rcases List.mem_append.mp he with he | he
    · exact hn3 e (List.mem_append_left _ he)
    · rcases List.mem_cons.mp he with rfl | he
      · exact hn3 (c, t) hcm
      · exact hn3 e (List.mem_append_right _ (List.mem_cons_of_mem _ he))
  have hil := insR_len t row
  have hzA : ∀ e, e ∈ A ∨ e ∈ B → e.2.length ≤ 500 := fun e he => hz3 e (by rcases he with he | he <;> simp [he])
  change tSeq _ _ _ _ (upd H6 c (.lst (RL (insR t row))))
  generalize upd H6 c (.lst (RL (insR t row))) = H7 at s6 ho6
  have hcm6 : (c, insR t row) ∈ A ++ (c, insR t row) :: B := List.mem_append_right _ (List.mem_cons_self ..)
  have hc7 := (s6.els _ hcm6).1
  have hsdm : ∀ (x : List Rw), sds (A ++ (c, x) :: B) = sds A ++ x :: sds B := fun x => by unfold sds; rw [List.map_append, List.map_cons]
  -- too many in a stack: parted
  have hlen4 : ∀ (w : Option V) (H0 : Hp), H0 c = some (.lst (RL (insR t row))) → Ev (tCB (rLenK K) (tCons (tVar 4) tNil)) [some (.ref a), some (.int n), some (.str (T (R row))), some (.int (f : Int)), some (.ref c), w] H0 (.int ((t.length + 1 : Nat) : Int)) := fun w H0 h0 => ev_is (ev_lenS (ev_var rfl) (.inl (sq_of h0))) (by rw [RL_len, hil])
  refine q_cond (fun σ' H' => ∃ l2 w, σ' = [some (.ref a), some (.int n), some (.str (T (R row))), some (.int (f : Int)), some (.ref c), w] ∧ ShI K H' a fm room q l2 ∧ ExO q l H H' ∧ NewO q l l2 H ∧ l2.length ≤ 600 ∧ (∀ e ∈ l2, e.2.length ≤ 600) ∧ Kept room (joinNear room f (sds l2)) ∧ ∀ r, r ∈ (sds l2).flatten ↔ r ∈ (sds l).flatten ∨ r = row) (fun M hM => ?_) (fun σ' H8 hP => ?_)
  · refine s_when (et_test (ev_gtI (hlen4 none _ hc7) (ev_room (ev_var rfl) s6))) (fun hb8 H8 e8 => ?_) (fun hb8 H8 e8 => ?_)
    · have hbig : room < t.length + 1 := by have := of_decide_eq_true hb8; omega
      obtain ⟨hkk, hff⟩ := hk2 hbig
      have s8 := s6.mono e8
      have hc8 := e8 _ _ hc7
      refine q_asg (v := .int (((t.length + 1) / 2 : Nat) : Int)) (ev_divI (hlen4 none _ hc8) ev_c (wide_div (b := 20) (by decide) (by decide) (by decide) (by decide))) fun H9 e9 => ?_
      have s9 := s8.mono e9
      have hc9 := e9 _ _ hc8
      generalize (t.length + 1) / 2 = md at hkk hff
      have slA := el_sl (K := K) (te := tVar 4) (tl := tNoPart) (th := tPart (tVar 5)) (σ := [some (.ref a), some (.int n), some (.str (T (R row))), some (.int (f : Int)), some (.ref c), some (.int (md : Int))]) (H := H9) (ev_var rfl) eo_none (eo_some (ev_var rfl)) (sq_of hc9)
      rw [cutV_pre, RL_take] at slA
      refine slA H9 (Ex.refl H9) _ fun pA H10 hpA e10 h10 => ?_
      have s10 := s9.mono e10
      have haq := s10.oob
      refine g_setL (j := f) s10.st (ev_stacks (ev_var rfl) s10) (ev_var rfl) (by rw [List.length_map]; simp; omega) fun H11 e11 => ?_
      have s11 := s10.mono e11
      have hpq : pA ≠ q := fun z => by rw [z, s9.st] at hpA; cases hpA
      have hpl : ∀ e ∈ A ++ (c, insR t row) :: B, e.1 ≠ pA := fun e he z => by have := (s9.els e he).1; rw [z, hpA] at this; cases this
      have hset : ((A ++ (c, insR t row) :: B).map fun e => V.ref e.1).set f (.ref pA) = (A ++ (pA, (insR t row).take md) :: B).map fun e => V.ref e.1 := by
        rw [List.map_append, List.map_cons, List.map_append, List.map_cons, List.set_append_right _ _ (by rw [List.length_map]; omega), List.length_map, hA, Nat.sub_self]
        rfl
      rw [hset]
      have s12 : ShI K (upd H11 q (.lst ((A ++ (pA, (insR t row).take md) :: B).map fun e => V.ref e.1))) a fm room q (A ++ (pA, (insR t row).take md) :: B) := s11.re (fun b o hb ho => by rw [upd_ne hb]; exact ho) upd_same (fun e he => by
        rcases List.mem_append.mp he with he | he
        · exact .inl (List.mem_append_left _ he)
        · rcases List.mem_cons.mp he with rfl | he
          · exact .inr ⟨hpq, by rw [upd_ne hpq]; exact e11 _ _ h10⟩
          · exact .inl (List.mem_append_right _ (List.mem_cons_of_mem _ he))) (nodup_mid s11.nd hpl)
      have ho12 : ExO q l H (upd H11 q (.lst ((A ++ (pA, (insR t row).take md) :: B).map fun e => V.ref e.1))) := fun b o hb ho => by
        rw [upd_ne (fun z => hb (.inl z))]
        exact (e8.trans (e9.trans (e10.trans e11))) _ _ (ho6 b o hb ho)
      have hn12 : NewO q l (A ++ (pA, (insR t row).take md) :: B) H := fun e he => by
        rcases List.mem_append.mp he with he | he
        · exact hn6 e (List.mem_append_left _ he)
        · rcases List.mem_cons.mp he with rfl | he
          · exact ho6.back (fresh_back (e8.trans e9) hpA)
          · exact hn6 e (List.mem_append_right _ (List.mem_cons_of_mem _ he))
      have hc12 : upd H11 q (.lst ((A ++ (pA, (insR t row).take md) :: B).map fun e => V.ref e.1)) c = some (.lst (RL (insR t row))) := by
        rw [upd_ne hcq]
        exact (e10.trans e11) _ _ hc9
      generalize upd H11 q (.lst ((A ++ (pA, (insR t row).take md) :: B).map fun e => V.ref e.1)) = H12 at s12 ho12 hc12
      have slB := el_sl (K := K) (te := tVar 4) (tl := tPart (tVar 5)) (th := tNoPart) (σ := [some (.ref a), some (.int n), some (.str (T (R row))), some (.int (f : Int)), some (.ref c), some (.int (md : Int))]) (H := H12) (ev_var rfl) (eo_some (ev_var rfl)) eo_none (sq_of hc12)
      rw [cutV_suf, RL_drop] at slB
      refine q_insN (i := f + 1) s12.st (ev_stacks (ev_var rfl) s12) (ev_is (ev_addI (ev_var rfl) ev_c) (by congr 1)) slB (by rw [List.length_map]; simp; omega) (by omega) fun pB H13 hpB e13 h13 => ?_
      have s13 := s12.mono e13
      have hpq2 : pB ≠ q := fun z => by rw [z, s12.st] at hpB; cases hpB
      have hpl2 : ∀ e ∈ A ++ (pA, (insR t row).take md) :: B, e.1 ≠ pB := fun e he z => by have := (s12.els e he).1; rw [z, hpB] at this; cases this
      have hins : ((A ++ (pA, (insR t row).take md) :: B).map fun e => V.ref e.1).take (f + 1) ++ [.ref pB] ++ ((A ++ (pA, (insR t row).take md) :: B).map fun e => V.ref e.1).drop (f + 1) = (A ++ (pA, (insR t row).take md) :: (pB, (insR t row).drop md) :: B).map fun e => V.ref e.1 := by
        have e1 : (A.map fun e => V.ref e.1).length = f := by rw [List.length_map, hA]
        simp only [List.map_append, List.map_cons]
        rw [← e1, List.take_length_add_append, List.drop_length_add_append]
        simp
      rw [hins]
      have s14 : ShI K (upd H13 q (.lst ((A ++ (pA, (insR t row).take md) :: (pB, (insR t row).drop md) :: B).map fun e => V.ref e.1))) a fm room q (A ++ (pA, (insR t row).take md) :: (pB, (insR t row).drop md) :: B) := s13.re (fun b o hb ho => by rw [upd_ne hb]; exact ho) upd_same (fun e he => by
        rcases List.mem_append.mp he with he | he
        · exact .inl (List.mem_append_left _ he)
        · rcases List.mem_cons.mp he with rfl | he
          · exact .inl (List.mem_append_right _ (List.mem_cons_self ..))
          · rcases List.mem_cons.mp he with rfl | he
            · exact .inr ⟨hpq2, by rw [upd_ne hpq2]; exact h13⟩
            · exact .inl (List.mem_append_right _ (List.mem_cons_of_mem _ he))) (by
        have := nodup_ins (A := A ++ [(pA, (insR t row).take md)]) (B := B) (p := pB) (y := (insR t row).drop md) (by simpa using s13.nd) (by simpa using hpl2)
        simpa using this)
      have ho14 : ExO q l H (upd H13 q (.lst ((A ++ (pA, (insR t row).take md) :: (pB, (insR t row).drop md) :: B).map fun e => V.ref e.1))) := fun b o hb ho => by
        rw [upd_ne (fun z => hb (.inl z))]
        exact e13 _ _ (ho12 b o hb ho)
      have hn14 : NewO q l (A ++ (pA, (insR t row).take md) :: (pB, (insR t row).drop md) :: B) H := fun e he => by
        rcases List.mem_append.mp he with he | he
        · exact hn12 e (List.mem_append_left _ he)
        · rcases List.mem_cons.mp he with rfl | he
          · exact hn12 _ (List.mem_append_right _ (List.mem_cons_self ..))
          · rcases List.mem_cons.mp he with rfl | he
            · exact ho12.back hpB
            · exact hn12 e (List.mem_append_right _ (List.mem_cons_of_mem _ he))
      have hsd : sds (A ++ (pA, (insR t row).take md) :: (pB, (insR t row).drop md) :: B) = sds A ++ (insR t row).take md :: (insR t row).drop md :: sds B := by unfold sds; simp
      refine s_joined (l := A ++ (pA, (insR t row).take md) :: (pB, (insR t row).drop md) :: B) (p := f + 1) (ev_var rfl) (ev_is (ev_addI (ev_var rfl) ev_c) (by congr 1)) s14 (by simp; omega) (fun e he => ?_) r1 (by omega) fun H15 l3 s15 hj15 ho15 hn15 => ?_
      · rcases List.mem_append.mp he with he | he
        · have := hzA e (.inl he); omega
        · rcases List.mem_cons.mp he with rfl | he
          · show ((insR t row).take md).length ≤ 1000
            rw [List.length_take]; omega
          · rcases List.mem_cons.mp he with rfl | he
            · show ((insR t row).drop md).length ≤ 1000
              rw [List.length_drop]; omega
            · have := hzA e (.inr he); omega
      · rw [hsd] at hj15
        have hkk2 : Kept room (joinNear room f (sds l3)) := by rw [hj15, ← hA]; exact hkk
        have hflat : (sds l3).flatten = (sds A ++ insR t row :: sds B).flatten := by rw [hj15, joinNear_flat, hff]
        have hmm : ∀ r, r ∈ (sds l3).flatten ↔ r ∈ (sds l).flatten ∨ r = row := fun r => by rw [hflat]; exact hmem r
        refine hM _ _ ⟨l3, _, rfl, s15, ho14.trans hn14 ho15, hn14.trans ho14 hn15, ?_, ?_, hkk2, hmm⟩
        · have h1 : l3.length ≤ (A ++ (pA, (insR t row).take md) :: (pB, (insR t row).drop md) :: B).length := by
            have h2 := joinNear_le room (f + 1) (sds A ++ (insR t row).take md :: (insR t row).drop md :: sds B)
            rw [← hj15, sds_len] at h2
            simpa [sds_len] using h2
          simp at h1
          omega
        · refine fl_le1 ?_
          have hnd1 : (sds l3).flatten.Nodup := by rw [← joinNear_flat room f]; exact asc_nodup hkk2.asc
          have := (List.Nodup.subset_length hnd1 (l2 := row :: (sds l).flatten) fun r hr => by rcases (hmm r).mp hr with h | h <;> simp [h])
          rw [List.length_cons] at this
          omega
    · have hsm : t.length + 1 ≤ room := by have := of_decide_eq_false hb8; omega
      have hkk := hk1 hsm
      refine hM _ _ ⟨A ++ (c, insR t row) :: B, none, rfl, s6.mono e8, fun b o hb ho => e8 _ _ (ho6 b o hb ho), hn6, by simp; omega, fun e he => ?_, by rw [hsdm]; exact hkk.join, fun r => by rw [hsdm]; exact hmem r⟩
      rcases List.mem_append.mp he with he | he
      · have := hzA e (.inl he); omega
      · rcases List.mem_cons.mp he with rfl | he
        · show (insR t row).length ≤ 600
          omega
        · have := hzA e (.inr he); omega
  · obtain ⟨l2, w, rfl, s8, ho8, hn8, hl8, hz8, hk8, hm8⟩ := hP
    refine q_joined (p := f) (ev_var rfl) (ev_var rfl) s8 (by omega) (fun e he => by have := hz8 e he; omega) r1 (by omega) fun H9 l9 s9 hj9 ho9 hn9 => ?_
    exact s_ret ev_c fun H10 e10 => k true H10 l9 (s9.mono e10) (by rw [hj9]; exact hk8) (fun r => by rw [hj9, joinNear_flat]; exact hm8 r) ((ho8.trans hn8 ho9).trans (hn8.trans ho8 hn9) (.of e10)) (hn8.trans ho8 hn9)
def N_Shelf_take : List Str := ["self", "value", "row", "place"]
def t_Shelf_take (K : PySem.W.Frag) (E : XK) : TS :=
  (tSeq (tAsg (tMeth (He.ga K "Shelf") "row_for" (sp_Shelf_row_for K) [] E (tVar 0) (tCons (tVar 1) tNil)) (gName 2))
    (tSeq (tIfS (tNot (tB (tMeth (He.ga K "Shelf") "holds" (sp_Shelf_holds K) [] E0 (tVar 0) (tCons (tVar 2) tNil)))) (tRet (tC (.bl false))) tNext)
    (tSeq (tAsg (tMeth (He.ga K "Shelf") "stack_for" (sp_Shelf_stack_for K) [] E0 (tVar 0) (tCons (tVar 2) tNil)) (gName 3))
    (tSeq (tDrop (tBM K "list" rRemS (tOp (rIxL K) (tFldC (He.ga K "Shelf") (tVar 0) "stacks") (tVar 3)) (tCons (tVar 2) tNil)))
    (tSeq (tIfS (tTest (tOp rEq (tCB (rLenK K) (tCons (tOp (rIxL K) (tFldC (He.ga K "Shelf") (tVar 0) "stacks") (tVar 3)) tNil)) (tC (.int 0)))) (tDrop (tBM K "list" rPopAt (tFldC (He.ga K "Shelf") (tVar 0) "stacks") (tCons (tVar 3) tNil))) tNext)
    (tSeq (tDrop (tMeth (He.ga K "Shelf") "joined_near" (sp_Shelf_joined_near K) [] E0 (tVar 0) (tCons (tVar 3) tNil)))
    (tRet (tC (.bl true)))))))))
def sp_Shelf_take (K : PySem.W.Frag) : Sp := fun vs H Q _ => ∃ (a : Addr) (n : Int) (fm : V) (room : Nat) (q : Addr) (l : List (Addr × List Rw)) (turn : Bool), vs = [.ref a, .int n] ∧ ShI K H a fm room q l ∧ FrmV K H fm turn ∧ SmN n ∧ 2 ≤ room ∧ room ≤ 20 ∧ Kept room (sds l) ∧ (sds l).flatten.length ≤ 500 ∧
  ∀ b H' l', ShI K H' a fm room q l' → Kept room (sds l') → (∀ r, r ∈ (sds l').flatten ↔ r ∈ (sds l).flatten ∧ r ≠ rowW turn n) → ExO q l H H' → NewO q l l' H → Q (.bl b) H'
theorem len_Shelf_take {K : PySem.W.Frag} {vs H Q E} (h : sp_Shelf_take K vs H Q E) : vs.length = 2 := by
  obtain ⟨a, n, fm, room, q, l, turn, rfl, _⟩ := h
  rfl
theorem rd_Shelf_take {K : PySem.W.Frag} (vs : List V) (H : Hp) (Q : VK) (E : XK) (h : sp_Shelf_take K vs H Q E) : t_Shelf_take K E { nx := fun _ H' => Q .non H', rt := Q } (start N_Shelf_take vs) H := by
  obtain ⟨a, n, fm, room, q, l, turn, rfl, s, hfm, hn, r0, r1, hk, hlen, k⟩ := h
  have hll : l.length ≤ 500 := by have := kept_len hk.sz; rw [sds_len] at this; omega
  refine q_asg (ev_row_for (ev_var rfl) s hfm (ev_var rfl) hn) fun H1 e1 => ?_
  generalize rowW turn n = row at k
  have s1 := s.mono e1
  refine q_when (et_not (et_B (ev_holds (ev_var rfl) s1 (ev_var rfl) hk (by omega)))) (fun hb H2 e2 => ?_) (fun hb H2 e2 => ?_)
  · have hin : row ∉ (sds l).flatten := by simpa using hb
    exact s_ret ev_c fun H3 e3 => k false H3 l (s1.mono (e2.trans e3)) hk (fun r => ⟨fun z => ⟨z, fun z2 => hin (by rw [← z2]; exact z)⟩, fun z => z.1⟩) (.of (e1.trans (e2.trans e3))) .refl
  have hin : row ∈ (sds l).flatten := by simpa using hb
  have s2 := s1.mono e2
  have e02 := e1.trans e2
  refine q_asgW (ew_stack_for (ev_var rfl) s2 (ev_var rfl) (fun _ => kept_ne hk) (by omega)) fun v H4 hv e4 => ?_
  obtain ⟨f, rfl, hf⟩ := hv
  rw [← sds_len l] at hf
  have h0 : l ≠ [] := fun z => by rw [z] at hin; simp [sds] at hin
  obtain ⟨A', t, B', hss, hA, hlo, hhi⟩ := sf_split hk.asc (fun x hx => (hk.sz x hx).1) (by intro z; apply h0; have := sds_len l; rw [z] at this; exact List.length_eq_zero_iff.mp this.symm) hf
  obtain ⟨A, B, c, rfl, rfl, rfl⟩ := sds_mid hss
  rw [sds_len] at hA
  rw [hss] at hk hin k
  have hint : row ∈ t := (in_flat hlo hhi).mp hin
  have htm : t ∈ sds A ++ t :: sds B := List.mem_append_right _ (List.mem_cons_self ..)
  have hta := sub_asc hk htm
  have s4 := s2.mono e4
  have e04 := e02.trans e4
  have hlA : (A ++ (c, t) :: B).length = A.length + (B.length + 1) := by simp
  have hfl : f < (A ++ (c, t) :: B).length := by omega
  have hat : (A ++ (c, t) :: B)[f] = (c, t) := by
    have : (A ++ (c, t) :: B)[f]? = some (c, t) := by rw [List.getElem?_append_right (by omega), hA, Nat.sub_self]; rfl
    exact (List.getElem?_eq_some_iff.mp this).2
  have hcm : (c, t) ∈ A ++ (c, t) :: B := List.mem_append_right _ (List.mem_cons_self ..)
  have hzl := fl_le1 hlen
  refine q_remR (l := c) (s := t) (row := row) (s4.els _ hcm).1 (ev_is (ev_stack (ev_var rfl) s4 (ev_var rfl) hfl) (by rw [hat])) (ev_var rfl) hta hint fun H5 e5 => ?_
  have hcq := (s4.els _ hcm).2
  have s5 : ShI K (upd H5 c (.lst (RL (t.filter fun r => !decide (R r = R row))))) a fm room q (A ++ (c, t.filter fun r => !decide (R r = R row)) :: B) := s4.keep (fun b o hb ho => by rw [upd_ne hb]; exact e5 _ _ ho) upd_same
  have ho5 : ExO q (A ++ (c, t) :: B) H (upd H5 c (.lst (RL (t.filter fun r => !decide (R r = R row))))) := fun b o hb ho => by
    rw [upd_ne (fun z => hb (.inr ⟨_, hcm, z.symm⟩))]
    exact (e04.trans e5) _ _ ho
  have hmemF := fun r => mem_takeF (A := sds A) (B := sds B) (s := t) (row := row) (r := r) hlo hhi
  have hgl := List.length_filter_le (fun r => !decide (R r = R row)) t
  have htz := hzl _ hcm
  have htz : t.length ≤ 500 := htz
  have hkl := fun hne => kept_less (row := row) hk hne
  have hkg := fun he => kept_gone row hk he
  generalize (t.filter fun r => !decide (R r = R row)) = t2 at *
  change tSeq _ _ _ _ (upd H5 c (.lst (RL t2)))
  generalize upd H5 c (.lst (RL t2)) = H6 at s5 ho5
  have hn5 : NewO q (A ++ (c, t) :: B) (A ++ (c, t2) :: B) H := fun e he => by
    rcases List.mem_append.mp he with he | he
    · exact .inl (.inr ⟨e, List.mem_append_left _ he, rfl⟩)
    · rcases List.mem_cons.mp he with rfl | he
      · exact .inl (.inr ⟨(c, t), hcm, rfl⟩)
      · exact .inl (.inr ⟨e, List.mem_append_right _ (List.mem_cons_of_mem _ he), rfl⟩)
  have hcm5 : (c, t2) ∈ A ++ (c, t2) :: B := List.mem_append_right _ (List.mem_cons_self ..)
  have hat5 : (A ++ (c, t2) :: B)[f]'(by simp; omega) = (c, t2) := by
    have : (A ++ (c, t2) :: B)[f]? = some (c, t2) := by rw [List.getElem?_append_right (by omega), hA, Nat.sub_self]; rfl
    exact (List.getElem?_eq_some_iff.mp this).2
  refine q_cond (fun σ' H' => ∃ l2, σ' = [some (.ref a), some (.int n), some (.str (T (R row))), some (.int (f : Int))] ∧ ShI K H' a fm room q l2 ∧ ExO q (A ++ (c, t) :: B) H H' ∧ NewO q (A ++ (c, t) :: B) l2 H ∧ l2.length ≤ 600 ∧ (∀ e ∈ l2, e.2.length ≤ 600) ∧ Kept room (joinNear room f (sds l2)) ∧ ∀ r, r ∈ (sds l2).flatten ↔ r ∈ (sds A ++ t :: sds B).flatten ∧ r ≠ row) (fun M hM => ?_) (fun σ' H8 hP => ?_)
  · refine s_when (et_test (ev_eqI (ev_is (ev_lenS (ev_is (ev_stack (j := f) (ev_var rfl) s5 (ev_var rfl) (by simp; omega)) (by rw [hat5])) (.inl (sq_of (s5.els _ hcm5).1))) (by rw [RL_len])) ev_c)) (fun hb7 H7 e7 => ?_) (fun hb7 H7 e7 => ?_)
    · have he : t2 = [] := by
        have := of_decide_eq_true hb7
        exact List.length_eq_zero_iff.mp (by simpa using this)
      have s7 := s5.mono e7
      refine s_popAt (i := f) (y := .ref c) s7.st (ev_stacks (ev_var rfl) s7) (ev_var rfl) (by rw [List.getElem?_map, List.getElem?_append_right (by omega), hA, Nat.sub_self]; rfl) (by omega) fun H8 e8 => ?_
      have s8 := s7.mono e8
      have hpop : ((A ++ (c, t2) :: B).map fun e => V.ref e.1).eraseIdx f = (A ++ B).map fun e => V.ref e.1 := by
        rw [er_map, ← hA, List.eraseIdx_append_of_length_le (Nat.le_refl _), Nat.sub_self]
        rfl
      rw [hpop]
      refine hM _ _ ⟨A ++ B, rfl, s8.re (fun b o hb ho => by rw [upd_ne hb]; exact ho) upd_same (fun e he => .inl (by rcases List.mem_append.mp he with he | he <;> simp [he])) ?_, fun b o hb ho => ?_, fun e he => hn5 e (by rcases List.mem_append.mp he with he | he <;> simp [he]), ?_, fun e hm => ?_, ?_, fun r => ?_⟩
      · have := s8.nd
        rw [List.map_append, List.map_cons] at this
        rw [List.map_append]
        exact (List.nodup_cons.mp ((List.perm_middle.nodup_iff).mp this)).2
      · rw [upd_ne (fun z => hb (.inl z))]
        exact (e7.trans e8) _ _ (ho5 b o hb ho)
      · simp; omega
      · have := hzl e (by rcases List.mem_append.mp hm with hm | hm <;> simp [hm]); omega
      · have := hkg he
        rw [sds_len, hA] at this
        rw [show sds (A ++ B) = sds A ++ sds B by unfold sds; rw [List.map_append]]
        exact this
      · rw [← hmemF r, he, show sds (A ++ B) = sds A ++ sds B by unfold sds; rw [List.map_append], List.flatten_append, List.nil_append]
    · have he : t2 ≠ [] := by
        have := of_decide_eq_false hb7
        intro z
        rw [z] at this
        exact this rfl
      refine hM _ _ ⟨A ++ (c, t2) :: B, rfl, s5.mono e7, fun b o hb ho => e7 _ _ (ho5 b o hb ho), hn5, by simp; omega, fun e hm => ?_, ?_, fun r => ?_⟩
      · rcases List.mem_append.mp hm with hm | hm
        · have := hzl e (List.mem_append_left _ hm); omega
        · rcases List.mem_cons.mp hm with rfl | hm
          · show t2.length ≤ 600
            omega
          · have := hzl e (List.mem_append_right _ (List.mem_cons_of_mem _ hm)); omega
      · have := hkl he
        rw [sds_len, hA] at this
        rw [show sds (A ++ (c, t2) :: B) = sds A ++ t2 :: sds B by unfold sds; rw [List.map_append, List.map_cons]]
        exact this
      · rw [← hmemF r, show sds (A ++ (c, t2) :: B) = sds A ++ t2 :: sds B by unfold sds; rw [List.map_append, List.map_cons], List.flatten_append, List.flatten_cons]
  · obtain ⟨l2, rfl, s8, ho8, hn8, hl8, hz8, hk8, hm8⟩ := hP
    refine q_joined (p := f) (ev_var rfl) (ev_var rfl) s8 (by omega) (fun e he => by have := hz8 e he; omega) r1 (by omega) fun H9 l9 s9 hj9 ho9 hn9 => ?_
    exact s_ret ev_c fun H10 e10 => k true H10 l9 (s9.mono e10) (by rw [hj9]; exact hk8) (fun r => by rw [hj9, joinNear_flat]; exact hm8 r) ((ho8.trans hn8 ho9).trans (hn8.trans ho8 hn9) (.of e10)) (hn8.trans ho8 hn9)
def N_shared_signs : List Str := ["one", "other", "many"]
def t_shared_signs (K : PySem.W.Frag) : TS :=
  (tSeq (tAsg (tC (.int 0)) (gName 2))
    (tSeq (tWhile (tAnd (tTest (tOp rLtI (tVar 2) (tCB (rLenK K) (tCons (tVar 0) tNil)))) (tAnd (tTest (tOp rLtI (tVar 2) (tCB (rLenK K) (tCons (tVar 1) tNil)))) (tTest (tOp rEq (tOp rIxS (tVar 0) (tVar 2)) (tOp rIxS (tVar 1) (tVar 2))))))
    (tAug 2 (tC (.int 1)) (ipI fun i j => i + j)))
    (tRet (tVar 2))))
def sp_shared_signs (_ : PySem.W.Frag) : Sp := fun vs H Q _ => ∃ a b : List Bool, vs = [.str (T (R a)), .str (T (R b))] ∧ a.length ≤ 1000000 ∧ b.length ≤ 1000000 ∧ RetV (.int (com a b : Nat)) H Q
theorem len_shared_signs {K : PySem.W.Frag} {vs H Q E} (h : sp_shared_signs K vs H Q E) : vs.length = 2 := by
  obtain ⟨a, b, rfl, _⟩ := h
  rfl
theorem u_shared_signs {K : PySem.W.Frag} {H : Hp} {a b : List Bool} (h : a.length ≤ 1000000) (h2 : b.length ≤ 1000000) : SpV (sp_shared_signs K) [.str (T (R a)), .str (T (R b))] H (.int (com a b : Nat)) := fun H1 e Q q E => ⟨a, b, rfl, h, h2, q⟩
theorem rd_shared_signs {K : PySem.W.Frag} (vs : List V) (H : Hp) (Q : VK) (E : XK) (h : sp_shared_signs K vs H Q E) : t_shared_signs K { nx := fun _ H' => Q .non H', rt := Q } (start N_shared_signs vs) H := by
  obtain ⟨a, b, rfl, ha, hb, q⟩ := h
  have la : ∀ (σ : L2.St) (H : Hp), σ[0]? = some (some (.str (T (R a)))) → Ev (tCB (rLenK K) (tCons (tVar 0) tNil)) σ H (.int (a.length : Int)) := fun σ H h => by
    rw [← R_len a]; exact ev_lenT (ev_var h) (by rw [R_len]; omega)
  have lb : ∀ (σ : L2.St) (H : Hp), σ[1]? = some (some (.str (T (R b)))) → Ev (tCB (rLenK K) (tCons (tVar 1) tNil)) σ H (.int (b.length : Int)) := fun σ H h => by
    rw [← R_len b]; exact ev_lenT (ev_var h) (by rw [R_len]; omega)
  refine q_asg ev_c fun H1 e1 => ?_
  refine q_while (fun m σ' H' => Ex H H' ∧ ∃ i : Nat, m = a.length - i ∧ i ≤ a.length ∧ σ' = [some (.str (T (R a))), some (.str (T (R b))), some (.int (i : Int))] ∧ com a b = i + com (a.drop i) (b.drop i)) a.length ⟨e1, 0, rfl, Nat.zero_le _, rfl, (Nat.zero_add _).symm⟩ ?_
  rintro m σ' H' ⟨eH, i, rfl, hi, rfl, hc⟩
  by_cases hh : i < a.length ∧ i < b.length
  · have h1 := hh.1
    have h2 := hh.2
    have e3 := com_at h1 h2
    refine ⟨decide (a[i] = b[i]), ?_, fun hb2 H2 e2 => ?_, fun hb2 H2 e2 => ?_⟩
    · refine et_is (et_and (a := true) (et_test (ev_is (ev_ltI (ev_var rfl) (la _ _ rfl)) (by simpa using h1))) fun _ => et_and (a := true) (et_test (ev_is (ev_ltI (ev_var rfl) (lb _ _ rfl)) (by simpa using h2))) fun _ =>
        et_test (ev_eqT (ev_ixT (ev_var rfl) (ev_var rfl) (by rw [R_len]; omega) (R_at h1)) (ev_ixT (ev_var rfl) (ev_var rfl) (by rw [R_len]; omega) (R_at h2)))) ?_
      cases a[i] <;> cases b[i] <;> rfl
    · have hab : a[i] = b[i] := of_decide_eq_true hb2
      rw [if_pos hab] at e3
      refine ⟨_, fun σ2 H2 h => h, s_aug rfl ev_c fun H3 e4 => ⟨a.length - (i + 1), by omega, (eH.trans e2).trans e4, i + 1, rfl, h1, rfl, by omega⟩⟩
    · have hab : ¬ a[i] = b[i] := of_decide_eq_false hb2
      rw [if_neg hab] at e3
      refine s_ret (ev_var rfl) fun H3 e4 => ?_
      have : com a b = i := by omega
      rw [this] at q
      exact q H3 ((eH.trans e2).trans e4)
  · have e3 := com_end hh
    refine ⟨false, ?_, (fun hb2 => nomatch hb2), fun hb2 H2 e2 => ?_⟩
    · by_cases h1 : i < a.length
      · exact et_and (a := true) (b := false) (et_test (ev_is (ev_ltI (ev_var rfl) (la _ _ rfl)) (by simpa using h1))) fun _ => et_and (a := false) (b := false) (et_test (ev_is (ev_ltI (ev_var rfl) (lb _ _ rfl)) (by simpa using (show ¬ i < b.length by omega)))) fun z => nomatch z
      · exact et_and (a := false) (b := false) (et_test (ev_is (ev_ltI (ev_var rfl) (la _ _ rfl)) (by simpa using h1))) fun z => nomatch z
    · refine s_ret (ev_var rfl) fun H3 e4 => ?_
      have : com a b = i := by omega
      rw [this] at q
      exact q H3 ((eH.trans e2).trans e4)
def N_parting_of : List Str := ["one", "other"]
def t_parting_of (K : PySem.W.Frag) (E : XK) : TS :=
  (tSeq (tIfS (tNot (tTest (tOp rLtT (tVar 0) (tVar 1)))) (tRaiseX (.ref (He.ga K "NotAhead")) E) tNext)
    (tRet (tSl rSlS (tVar 1) tNoPart (tPart (tOp rAddI (tCall (sp_shared_signs K) [] E0 (tCons (tVar 0) (tCons (tVar 1) tNil))) (tC (.int 1)))))))
def sp_parting_of (K : PySem.W.Frag) : Sp := fun vs H Q E => ∃ a b : List Bool, vs = [.str (T (R a)), .str (T (R b))] ∧ a.length ≤ 1000000 ∧ b.length ≤ 1000000 ∧ (R a < R b → RetV (.str (T (R (b.take (com a b + 1))))) H Q) ∧ (¬ R a < R b → RaiseX (.ref (He.ga K "NotAhead")) H E)
theorem len_parting_of {K : PySem.W.Frag} {vs H Q E} (h : sp_parting_of K vs H Q E) : vs.length = 2 := by
  obtain ⟨a, b, rfl, _⟩ := h
  rfl
theorem u_parting_of {K : PySem.W.Frag} {H : Hp} {a b : List Bool} (h : a.length ≤ 1000000) (h2 : b.length ≤ 1000000) (h3 : R a < R b) : SpV (sp_parting_of K) [.str (T (R a)), .str (T (R b))] H (.str (T (R (b.take (com a b + 1))))) := fun H1 e Q q E => ⟨a, b, rfl, h, h2, fun _ => q, fun z => absurd h3 z⟩
theorem rd_parting_of {K : PySem.W.Frag} (vs : List V) (H : Hp) (Q : VK) (E : XK) (h : sp_parting_of K vs H Q E) : t_parting_of K E { nx := fun _ H' => Q .non H', rt := Q } (start N_parting_of vs) H := by
  obtain ⟨a, b, rfl, ha, hb, q, x⟩ := h
  by_cases hlt : R a < R b
  · refine q_when (b := false) (et_not (a := true) (et_test (ev_is (ev_ltT (ev_var rfl) (ev_var rfl)) (by simpa using hlt)))) (fun hf => nomatch hf) (fun _ H1 e1 => ?_)
    have e3 : cutL (R b) none (some ((com a b : Nat) + 1 : Int)) = R (b.take (com a b + 1)) := by
      rw [show ((com a b : Nat) + 1 : Int) = ((com a b + 1 : Nat) : Int) by simp, cutL_pre, R_take]
    exact s_ret (v := .str (T (R (b.take (com a b + 1))))) (ev_is (ev_slT (ev_var rfl) (by rw [R_len]; omega) eo_none (eo_some (ev_addI (ev_call (ea_cons (ev_var rfl) (ea_cons (ev_var rfl) ea_nil)) (u_shared_signs ha hb)) ev_c))) (by rw [e3])) fun H2 e2 => q hlt H2 (e1.trans e2)
  · refine q_when (b := true) (et_not (a := false) (et_test (ev_is (ev_ltT (ev_var rfl) (ev_var rfl)) (by simpa using hlt)))) (fun _ H1 e1 => ?_) (fun hf => nomatch hf)
    exact x hlt H1 e1
def N_Shelf_partings : List Str := ["self", "found", "place"]
def t_Shelf_partings (K : PySem.W.Frag) (E : XK) : TS :=
  (tSeq (tAsg (tLst tNil) (gName 1))
    (tSeq (tFor (iRng2 (tCons (tC (.int 1)) (tCons (tCB (rLenK K) (tCons (tFldC (He.ga K "Shelf") (tVar 0) "stacks") tNil)) tNil))) (gName 2)
    (tDrop (tBM K "list" rAppend (tVar 1) (tCons (tCall (sp_parting_of K) [] E (tCons (tOp (rIxL K) (tOp (rIxL K) (tFldC (He.ga K "Shelf") (tVar 0) "stacks") (tOp rSubI (tVar 2) (tC (.int 1)))) (tUn (rU fun i => .int (-i)) (tC (.int 1)))) (tCons (tOp (rIxL K) (tOp (rIxL K) (tFldC (He.ga K "Shelf") (tVar 0) "stacks") (tVar 2)) (tC (.int 0))) tNil))) tNil))))
    (tRet (tVar 1))))
/-- what parts the pages -/
def partsR (ss : List (List Rw)) : List Rw := (List.range (ss.length - 1)).map fun k => partR ss k
def sp_Shelf_partings (K : PySem.W.Frag) : Sp := fun vs H Q _ => ∃ (a : Addr) (fm : V) (room : Nat) (q : Addr) (l : List (Addr × List Rw)), vs = [.ref a] ∧ ShI K H a fm room q l ∧ Kept room (sds l) ∧ l.length ≤ 1000 ∧ (∀ r ∈ (sds l).flatten, r.length ≤ 301) ∧ RetL (RL (partsR (sds l))) H Q
theorem len_Shelf_partings {K : PySem.W.Frag} {vs H Q E} (h : sp_Shelf_partings K vs H Q E) : vs.length = 1 := by
  obtain ⟨a, fm, room, q, l, rfl, _⟩ := h
  rfl
theorem el_partings {K : PySem.W.Frag} {σ : L2.St} {H : Hp} {E : XK} {o : TE} {a : Addr} {fm : V} {room : Nat} {q : Addr} {l : List (Addr × List Rw)} (h : Ev o σ H (.ref a)) (s : ShI K H a fm room q l) (hk : Kept room (sds l)) (hl : l.length ≤ 1000) (hz : ∀ r ∈ (sds l).flatten, r.length ≤ 301) :
    EvL (tMeth (He.ga K "Shelf") "partings" (sp_Shelf_partings K) [] E o tNil) σ H (RL (partsR (sds l))) := fun H1 e Q k => by
  have s2 := s.mono e
  obtain ⟨⟨dx, ha⟩, _⟩ := s2
  exact go_meth (h.mono e) ha rfl (fun H2 e2 => ea_nil) fun H2 e2 => ⟨a, fm, room, q, l, rfl, s.mono (e.trans e2), hk, hl, hz, fun p H3 hp e3 h3 => k p H3 (fresh_back e2 hp) (e2.trans e3) h3⟩
theorem RL_last {s : List Rw} (h : s ≠ []) : atI (RL s) (-1) = some (.str (T (R (lastR s)))) := by
  rw [atI_last (by unfold RL; simpa using h)]
  unfold RL lastR
  rw [List.getLast?_map, List.getLast?_eq_some_getLast h]
  rfl
theorem rd_Shelf_partings {K : PySem.W.Frag} (vs : List V) (H : Hp) (Q : VK) (E : XK) (h : sp_Shelf_partings K vs H Q E) : t_Shelf_partings K E { nx := fun _ H' => Q .non H', rt := Q } (start N_Shelf_partings vs) H := by
  obtain ⟨a, fm, room, q, l, rfl, s, hk, hl, hz, k⟩ := h
  refine q_asgL (xs := RL []) (el_lst ea_nil (by decide)) fun p H1 hp e1 h1 => ?_
  have s1 := s.mono e1
  refine q_forR2 (lo := 1) (n := (l.length : Int)) (ea_cons ev_c (ea_cons (ev_is (ev_lenS (ev_stacks (ev_var rfl) s1) (.inl (sq_of s1.st))) (by rw [List.length_map])) ea_nil)) (by omega)
    (fun i σ' H' => Ex H H' ∧ i ≤ l.length - 1 ∧ ∃ u, σ' = [some (.ref a), some (.ref p), u] ∧ H' p = some (.lst (RL ((List.range i).map fun k => partR (sds l) k)))) (fun H2 e2 => ⟨e1.trans e2, Nat.zero_le _, none, rfl, e2 _ _ h1⟩) (fun i σ' H' hi hP => ?_) (fun σ' H' hP => ?_)
  · obtain ⟨eH, hil, u, rfl, hp'⟩ := hP
    have hi2 : i + 1 < l.length := by omega
    have hi1 : i < l.length := by omega
    have s2 := s.mono eH
    have n0 := kept_ne hk _ (List.getElem_mem hi1)
    have n1 := kept_ne hk _ (List.getElem_mem hi2)
    have hlt := near_lt hk (k := i) (by rw [sds_len]; exact hi2)
    have g0 : (sds l)[i]'(by rw [sds_len]; exact hi1) = l[i].2 := (List.getElem?_eq_some_iff.mp (sds_at hi1)).2
    have g1 : (sds l)[i + 1]'(by rw [sds_len]; exact hi2) = l[i + 1].2 := (List.getElem?_eq_some_iff.mp (sds_at hi2)).2
    rw [g0, g1] at hlt
    have z0 := hz _ (List.mem_flatten.mpr ⟨l[i].2, List.mem_map.mpr ⟨_, List.getElem_mem hi1, rfl⟩, last_mem n0⟩)
    have z1 := hz _ (List.mem_flatten.mpr ⟨l[i + 1].2, List.mem_map.mpr ⟨_, List.getElem_mem hi2, rfl⟩, hd_mem n1⟩)
    have ep : partR (sds l) i = (hdR l[i + 1].2).take (com (lastR l[i].2) (hdR l[i + 1].2) + 1) := by unfold partR; rw [sds_at hi1, sds_at hi2]; rfl
    refine s_app (v := .str (T (R (partR (sds l) i)))) hp' (ev_var rfl) ?_ (by rw [RL_len, List.length_map, List.length_range]; omega) fun H2 e2 => ⟨(eH.trans e2).mut hp, by omega, _, rfl, by rw [upd_same, List.range_succ, List.map_append]; unfold RL; rw [List.map_append]; rfl⟩
    rw [ep]
    refine ev_call (ea_cons (ev_op (ev_stack (j := i) (ev_var rfl) s2 (ev_is (ev_subI (ev_var rfl) ev_c) (by congr 1; omega)) hi1) (ev_neg ev_c) (rv_ixL (sq_of (s2.els _ (List.getElem_mem hi1)).1) (RL_last n0))) (ea_cons (ev_op (ev_stack (j := i + 1) (ev_var rfl) s2 (ev_is (ev_var rfl) (by congr 1; omega)) hi2) ev_c (rv_ixL (sq_of (s2.els _ (List.getElem_mem hi2)).1) (RL_hd n1))) ea_nil)) (u_parting_of (by omega) (by omega) hlt)
  · obtain ⟨eH, hil, u, rfl, hp'⟩ := hP
    rw [show ((l.length : Int) - 1).toNat = (sds l).length - 1 by rw [sds_len]; omega] at hp'
    exact s_ret (ev_var rfl) fun H2 e2 => k p H2 hp (eH.trans e2) (e2 _ _ hp')
def N_entry_of : List Str := ["last", "row", "common"]
def t_entry_of (K : PySem.W.Frag) (E : XK) : TS :=
  (tSeq (tAsg (tCall (sp_shared_signs K) [] E0 (tCons (tVar 0) (tCons (tVar 1) tNil))) (gName 2))
    (tRet (tOp rAddT (tOp rAddT (tCall (sp_count_row K) [] E (tCons (tVar 2) tNil)) (tCall (sp_count_row K) [] E (tCons (tOp rSubI (tCB (rLenK K) (tCons (tVar 1) tNil)) (tVar 2)) tNil))) (tSl rSlS (tVar 1) (tPart (tVar 2)) tNoPart))))
def sp_entry_of (_ : PySem.W.Frag) : Sp := fun vs H Q _ => ∃ a b : List Bool, vs = [.str (T (R a)), .str (T (R b))] ∧ a.length ≤ 100000 ∧ b.length ≤ 100000 ∧ RetV (.str (T (R (entryRow a b)))) H Q
theorem len_entry_of {K : PySem.W.Frag} {vs H Q E} (h : sp_entry_of K vs H Q E) : vs.length = 2 := by
  obtain ⟨a, b, rfl, _⟩ := h
  rfl
theorem u_entry_of {K : PySem.W.Frag} {H : Hp} {a b : List Bool} (h : a.length ≤ 100000) (h2 : b.length ≤ 100000) : SpV (sp_entry_of K) [.str (T (R a)), .str (T (R b))] H (.str (T (R (entryRow a b)))) := fun H1 e Q q E => ⟨a, b, rfl, h, h2, q⟩
theorem rd_entry_of {K : PySem.W.Frag} (vs : List V) (H : Hp) (Q : VK) (E : XK) (h : sp_entry_of K vs H Q E) : t_entry_of K E { nx := fun _ H' => Q .non H', rt := Q } (start N_entry_of vs) H := by
  obtain ⟨a, b, rfl, ha, hb, q⟩ := h
  have c1 := com_le a b
  have c2 := com_le2 a b
  refine q_asg (ev_call (ea_cons (ev_var rfl) (ea_cons (ev_var rfl) ea_nil)) (u_shared_signs (by omega) (by omega))) fun H1 e1 => ?_
  have k1 := u_count_row (K := K) (H := H1) (n := (com a b : Nat)) (small_count (by omega))
  have k2 := u_count_row (K := K) (H := H1) (n := (b.length - com a b : Nat)) (small_count (by omega))
  rw [Int.toNat_natCast] at k1 k2
  have l1 := small_len (n := com a b) (by omega)
  have l2 := small_len (n := b.length - com a b) (by omega)
  refine s_ret (v := .str (T (R (entryRow a b)))) (ev_addR (ev_addR (ev_call (ea_cons (ev_var rfl) ea_nil) k1) (ev_call (ea_cons (ev_is (ev_subI (ev_lenR (ev_var rfl) (by omega)) (ev_var rfl)) (by rw [Int.ofNat_sub c2])) ea_nil) k2) (by omega)) (ev_is (ev_slT (ev_var rfl) (by rw [R_len]; omega) (eo_some (ev_var rfl)) eo_none) (by rw [cutL_suf, R_drop])) ?_) fun H2 e2 => q H2 (e1.trans e2)
  rw [List.length_append, List.length_drop]
  omega
def N_page_of : List Str := ["rows", "page", "last", "place", "row"]
def t_page_of (K : PySem.W.Frag) (E : XK) : TS :=
  (tSeq (tAsg (tCall (sp_count_row K) [] E (tCons (tCB (rLenK K) (tCons (tVar 0) tNil)) tNil)) (gName 1))
    (tSeq (tAsg (tC (.str (Kr.T []))) (gName 2))
    (tSeq (tFor (iEnum K (tCons (tVar 0) tNil)) (gTup K 2 (gCons (gName 3) (gCons (gName 4) gNil)))
    (tSeq (tIfS (tAnd (tTest (tOp rGtI (tVar 3) (tC (.int 0)))) (tNot (tTest (tOp rLtT (tVar 2) (tVar 4))))) (tRaiseX (.ref (He.ga K "NotAhead")) E) tNext)
    (tSeq (tAsg (tOp rAddT (tVar 1) (tCall (sp_entry_of K) [] E (tCons (tVar 2) (tCons (tVar 4) tNil)))) (gName 1))
    (tAsg (tVar 4) (gName 2)))))
    (tRet (tVar 1)))))
def sp_page_of (K : PySem.W.Frag) : Sp := fun vs H Q E => ∃ (p : Addr) (rs : List (List Bool)), vs = [.ref p] ∧ SqL K H p (RL rs) ∧ rs.length ≤ 1000 ∧ (∀ r ∈ rs, r.length ≤ 1000) ∧ (Asc none rs → RetV (.str (T (R (pageRow rs)))) H Q) ∧ (¬ Asc none rs → RaiseX (.ref (He.ga K "NotAhead")) H E)
theorem len_page_of {K : PySem.W.Frag} {vs H Q E} (h : sp_page_of K vs H Q E) : vs.length = 1 := by
  obtain ⟨p, rs, rfl, _⟩ := h
  rfl
theorem rd_page_of {K : PySem.W.Frag} (vs : List V) (H : Hp) (Q : VK) (E : XK) (h : sp_page_of K vs H Q E) : t_page_of K E { nx := fun _ H' => Q .non H', rt := Q } (start N_page_of vs) H := by
  obtain ⟨p, rs, rfl, hs, hn, hl, q, x⟩ := h
  have k1 := u_count_row (K := K) (H := H) (n := (rs.length : Nat)) (small_count (by omega))
  rw [Int.toNat_natCast] at k1
  have l1 := small_len (n := rs.length) (by omega)
  refine q_asg (ev_call (ea_cons (ev_is (ev_lenS (ev_var rfl) (.inl hs)) (by rw [RL_len])) ea_nil) k1) fun H1 e1 => ?_
  refine q_asg (v := .str (T (R []))) ev_c fun H2 e2 => ?_
  have e02 := e1.trans e2
  -- done: what stands, last: the last row of it, rest: what is to come
  refine q_forEnum (a := p) (xs := RL rs) (ev_var rfl) (ex_l e02 hs)
    (fun i σ' H' => Ex H H' ∧ i ≤ rs.length ∧ ∃ (done last : List Bool) (l : Option (List Bool)) (y z : Option V), σ' = [some (.ref p), some (.str (T (R done))), some (.str (T (R last))), y, z] ∧ last = l.getD [] ∧ (l = none ↔ i = 0) ∧ last.length ≤ 1000 ∧
      done.length ≤ 40 + i * 1080 ∧ done ++ pageBody last (rs.drop i) = pageRow rs ∧ (Asc none rs ↔ Asc l (rs.drop i)))
    (fun H3 e3 => ⟨e02.trans e3, Nat.zero_le _, countRow rs.length, [], none, none, none, rfl, rfl, ⟨fun _ => rfl, fun _ => rfl⟩, by decide, by omega, rfl, Iff.rfl⟩) (fun k σ' H' _ hP => ex_l hP.1 hs) (fun i v σ' H' H3 hv hP e3 => ?_) (fun σ' H' hP => ?_)
  · obtain ⟨eH, hi, done, last, l, y, z, rfl, hlast, hl0, hll, hdl, hpage, hasc⟩ := hP
    have hi2 : i < rs.length := by
      have := (List.getElem?_eq_some_iff.mp hv).1
      rwa [RL_len] at this
    have hv2 : v = .str (T (R rs[i])) := by
      rw [RL_at hi2] at hv
      exact (Option.some.inj hv).symm
    subst hv2
    have hri := hl rs[i] (List.getElem_mem hi2)
    have hdrop : rs.drop i = rs[i] :: rs.drop (i + 1) := List.drop_eq_getElem_cons hi2
    rw [hdrop] at hpage hasc
    have hbad : (decide (0 < (i : Int)) && !decide (R last < R rs[i])) = true ↔ ∃ x, l = some x ∧ ¬ R x < R rs[i] := by
      rw [Bool.and_eq_true, decide_eq_true_eq, Bool.not_eq_true', decide_eq_false_iff_not]
      constructor
      · rintro ⟨h0, h1⟩
        cases l with
        | none => have := hl0.mp rfl; omega
        | some x => exact ⟨x, rfl, by rw [hlast] at h1; exact h1⟩
      · rintro ⟨x, rfl, h1⟩
        refine ⟨?_, by rw [hlast]; exact h1⟩
        have : i ≠ 0 := fun z => by have := hl0.mpr z; cases this
        omega
    refine q_when (b := decide (0 < (i : Int)) && !decide (R last < R rs[i])) (et_and (et_test (ev_gtI (ev_var rfl) ev_c)) fun _ => et_not (et_test (ev_ltT (ev_var rfl) (ev_var rfl)))) (fun hb H4 e4 => ?_) (fun hb H4 e4 => ?_)
    · obtain ⟨w, rfl, hw⟩ := hbad.mp hb
      exact x (fun z => hw ((hasc.mp z).1 w rfl)) _ ((eH.trans e3).trans e4)
    · have hok : ∀ w, l = some w → R w < R rs[i] := fun w hw => Classical.byContradiction fun hn => by
        have := hbad.mpr ⟨w, hw, hn⟩
        rw [hb] at this
        cases this
      have hel := entryRow_len (last := last) (row := rs[i]) (by omega)
      refine q_asg (v := .str (T (R (done ++ entryRow last rs[i])))) (ev_addR (ev_var rfl) (ev_call (ea_cons (ev_var rfl) (ea_cons (ev_var rfl) ea_nil)) (u_entry_of (by omega) (by omega))) (by
        have : i * 1080 ≤ 1000 * 1080 := Nat.mul_le_mul_right _ (by omega)
        omega)) fun H5 e5 => ?_
      refine s_asg (ev_var rfl) fun H6 e6 => ⟨(((eH.trans e3).trans e4).trans e5).trans e6, hi2, _, rs[i], some rs[i], _, _, rfl, rfl, ⟨(fun z => nomatch z), fun z => by omega⟩, hri, ?_, ?_, ?_⟩
      · rw [List.length_append, Nat.succ_mul]
        omega
      · rw [pageBody] at hpage
        rw [List.append_assoc]
        exact hpage
      · rw [hasc]
        exact ⟨fun z => z.2, fun z => ⟨hok, z⟩⟩
  · obtain ⟨eH, hi, done, last, l, y, z, rfl, hlast, hl0, hll, hdl, hpage, hasc⟩ := hP
    rw [RL_len] at hi hpage hasc
    rw [List.drop_eq_nil_of_le (Nat.le_refl _)] at hpage hasc
    rw [pageBody, List.append_nil] at hpage
    subst hpage
    exact s_ret (ev_var rfl) fun H3 e3 => q (hasc.mpr trivial) H3 (eH.trans e3)
def N_Shelf_pages : List Str := ["self", "stack"]
def t_Shelf_pages (K : PySem.W.Frag) (E : XK) : TS :=
  (tRet (tLc (iList K (tFldC (He.ga K "Shelf") (tVar 0) "stacks")) (gName 1) tYes (tCall (sp_page_of K) [] E0 (tCons (tVar 1) tNil)) [1]))
def sp_Shelf_pages (K : PySem.W.Frag) : Sp := fun vs H Q _ => ∃ (a : Addr) (fm : V) (room : Nat) (q : Addr) (l : List (Addr × List Rw)), vs = [.ref a] ∧ ShI K H a fm room q l ∧ Kept room (sds l) ∧ room ≤ 20 ∧ l.length ≤ 1000 ∧ (∀ r ∈ (sds l).flatten, r.length ≤ 301) ∧ RetL (RL ((sds l).map pageRow)) H Q
theorem len_Shelf_pages {K : PySem.W.Frag} {vs H Q E} (h : sp_Shelf_pages K vs H Q E) : vs.length = 1 := by
  obtain ⟨a, fm, room, q, l, rfl, _⟩ := h
  rfl
theorem el_pages {K : PySem.W.Frag} {σ : L2.St} {H : Hp} {E : XK} {o : TE} {a : Addr} {fm : V} {room : Nat} {q : Addr} {l : List (Addr × List Rw)} (h : Ev o σ H (.ref a)) (s : ShI K H a fm room q l) (hk : Kept room (sds l)) (hr : room ≤ 20) (hl : l.length ≤ 1000) (hz : ∀ r ∈ (sds l).flatten, r.length ≤ 301) :
    EvL (tMeth (He.ga K "Shelf") "pages" (sp_Shelf_pages K) [] E o tNil) σ H (RL ((sds l).map pageRow)) := fun H1 e Q k => by
  have s2 := s.mono e
  obtain ⟨⟨dx, ha⟩, _⟩ := s2
  exact go_meth (h.mono e) ha rfl (fun H2 e2 => ea_nil) fun H2 e2 => ⟨a, fm, room, q, l, rfl, s.mono (e.trans e2), hk, hr, hl, hz, fun p H3 hp e3 h3 => k p H3 (fresh_back e2 hp) (e2.trans e3) h3⟩
theorem rd_Shelf_pages {K : PySem.W.Frag} (vs : List V) (H : Hp) (Q : VK) (E : XK) (h : sp_Shelf_pages K vs H Q E) : t_Shelf_pages K E { nx := fun _ H' => Q .non H', rt := Q } (start N_Shelf_pages vs) H := by
  obtain ⟨a, fm, room, q, l, rfl, s, hk, hr, hl, hz, k⟩ := h
  have hmap : RL ((sds l).map pageRow) = l.map fun e => V.str (T (R (pageRow e.2))) := by unfold RL sds; rw [List.map_map, List.map_map]; rfl
  rw [hmap] at k
  refine s_retL (el_mapEL (f := fun e : Addr × List Rw => V.ref e.1) (ev_stacks (ev_var rfl) s) (sq_of s.st) (by omega) (fun x => rfl) fun e he H1 e1 => ?_) k
  have hem : e.2 ∈ sds l := List.mem_map.mpr ⟨e, he, rfl⟩
  refine ev_call (ea_cons (ev_var rfl) ea_nil) fun H2 e2 Q2 q2 E2 => ⟨e.1, e.2, rfl, sq_of (((s.mono e1).mono e2).els e he).1, ?_, fun r hr2 => ?_, fun _ => q2, fun z => absurd (sub_asc hk hem) z⟩
  · have := (hk.sz e.2 hem).2; omega
  · have := hz r (List.mem_flatten.mpr ⟨e.2, hem, hr2⟩); omega
def N__law_texts : List Str := ["_law_found", "_law_row"]
def t__law_texts (K : PySem.W.Frag) : TS :=
  (tSeq (tIfS (tNot (tB (tCB (rIsi K) (tCons (tVar 0) (tCons (tC (.ty "list")) tNil))))) (tRet (tC (.bl false))) tNext)
    (tRet (tOp rEq (tCB (rLenK K) (tCons (tLc (iList K (tVar 0)) (gName 1) (tNot (tB (tCB (rIsi K) (tCons (tVar 1) (tCons (tC (.ty "str")) tNil))))) (tVar 1) [1]) tNil)) (tC (.int 0)))))
def sp__law_texts (K : PySem.W.Frag) : Sp := fun vs H Q _ => ∃ (p : Addr) (rs : List Rw), vs = [.ref p] ∧ H p = some (.lst (RL rs)) ∧ rs.length ≤ 40000 ∧ RetV (.bl true) H Q
theorem len__law_texts {K : PySem.W.Frag} {vs H Q E} (h : sp__law_texts K vs H Q E) : vs.length = 1 := by
  obtain ⟨p, rs, rfl, _⟩ := h
  rfl
theorem u__law_texts {K : PySem.W.Frag} {H : Hp} {p : Addr} {rs : List Rw} (h : H p = some (.lst (RL rs))) (hl : rs.length ≤ 40000) : SpV (sp__law_texts K) [.ref p] H (.bl true) := fun H1 e Q q E => ⟨p, rs, rfl, e _ _ h, hl, q⟩
theorem rd__law_texts {K : PySem.W.Frag} (vs : List V) (H : Hp) (Q : VK) (E : XK) (h : sp__law_texts K vs H Q E) : t__law_texts K { nx := fun _ H' => Q .non H', rt := Q } (start N__law_texts vs) H := by
  obtain ⟨p, rs, rfl, hp, hl, q⟩ := h
  refine q_when (b := false) (et_not (a := true) (et_B (ev_isiL (ev_var rfl) hp (by decide +kernel)))) (fun hf => nomatch hf) (fun _ H1 e1 => ?_)
  exact s_ret (ev_is (ev_eqI (ev_lenNL (el_filt (fun _ => false) (ev_var rfl) (sq_of (e1 _ _ hp)) hl (fun x => rfl) (fun x => rfl) fun r hr H3 e3 => et_not (a := true) (et_B (ev_isi (ev_var rfl) rfl (by decide +kernel))))) ev_c) (by rw [RL_len]; simp)) fun H2 e2 => q H2 (e1.trans e2)
def N_Source___init__ : List Str := ["self", "signs", "at", "fills"]
def t_Source___init__ (K : PySem.W.Frag) : TS :=
  (tSeq (sFldC (He.ga K "Source") (tVar 0) (tVar 1) "signs")
    (tSeq (sFldC (He.ga K "Source") (tVar 0) (tVar 2) "at")
    (sFldC (He.ga K "Source") (tVar 0) (tVar 3) "fills")))
def sp_Source___init__ (K : PySem.W.Frag) : Sp := fun vs H Q _ => ∃ (a dx : Addr) (b : List Bool) (t : Nat) (f : Bool), vs = [.ref a, .str (T (R b)), .int (t : Int), .bl f] ∧ H a = some (.ins (He.ga K "Source") dx []) ∧ ∀ H', ExU a H H' → SrcB K H' a b t f → Q .non H'
theorem len_Source___init__ {K : PySem.W.Frag} {vs H Q E} (h : sp_Source___init__ K vs H Q E) : vs.length = 4 := by
  obtain ⟨a, dx, b, t, f, rfl, _⟩ := h
  rfl
theorem rd_Source___init__ {K : PySem.W.Frag} (vs : List V) (H : Hp) (Q : VK) (E : XK) (h : sp_Source___init__ K vs H Q E) : t_Source___init__ K { nx := fun _ H' => Q .non H', rt := Q } (start N_Source___init__ vs) H := by
  obtain ⟨a, dx, b, t, f, rfl, ha, q⟩ := h
  refine q_fldC (ev_var rfl) (ev_var rfl) ha (by simp) fun H1 e1 h1 => ?_
  refine q_fldC (ev_var rfl) (ev_var rfl) h1 (Nat.lt_of_le_of_lt (putF_len _ _ _) (by simp)) fun H2 e2 h2 => ?_
  refine s_fldC (ev_var rfl) (ev_var rfl) h2 (Nat.lt_of_le_of_lt (putF_len _ _ _) (Nat.lt_of_le_of_lt (Nat.succ_le_succ (putF_len _ _ _)) (by simp))) fun H3 e3 h3 => q H3 ((e1.trans e2).trans e3) ⟨dx, h3⟩
theorem go_source {K : PySem.W.Frag} {σ : L2.St} {H : Hp} {ta : TA} {Q : VK} {b : List Bool} {t : Nat} {f : Bool} (h : EvA ta σ H [.str (T (R b)), .int (t : Int), .bl f]) (k : ∀ x H', Ex H H' → H x = none → SrcB K H' x b t f → Q (.ref x) H') : tMake (He.ga K "Source") (sp_Source___init__ K) [] E0 ta σ H Q :=
  go_make h fun x dx H1 e1 hx hd hne => ⟨x, dx, b, t, f, rfl, upd_same, fun H' e' s' => ⟨rfl, k x H' (fun c o hc => by
    have h1 := e1 _ _ hc
    have n1 : c ≠ x := fun z => by rw [z, hx] at h1; cases h1
    have n2 : c ≠ dx := fun z => by rw [z, hd] at h1; cases h1
    exact e' c o n1 (by rw [upd_ne n1, upd_ne n2]; exact h1)) (fresh_back e1 hx) s'⟩⟩
theorem q_source {K : PySem.W.Frag} {σ : L2.St} {H : Hp} {ta : TA} {D : Ends} {tz : TS} {i : Nat} {b : List Bool} {t : Nat} {f : Bool} (h : EvA ta σ H [.str (T (R b)), .int (t : Int), .bl f]) (k : ∀ x H', Ex H H' → H x = none → SrcB K H' x b t f → tz D (σ.set i (some (.ref x))) H') :
    tSeq (tAsg (tMake (He.ga K "Source") (sp_Source___init__ K) [] E0 ta) (gName i)) tz D σ H :=
  show tMake (He.ga K "Source") (sp_Source___init__ K) [] E0 ta σ H (fun v H' => tz D (σ.set i (some v)) H') from go_source (Q := fun v H' => tz D (σ.set i (some v)) H') h k
/-- what is read of an object made here, told with the place behind it -/
theorem fin_new {K : PySem.W.Frag} {H H1 : Hp} {Q Q2 : VK} {E : XK} {x : Addr} {b : List Bool} {f : Bool} {r : Res Int} (q : FinR K H Q E r) (e : Ex H H1) (hx : H x = none) (h1 : H1 x ≠ none)
    (k : ∀ (v : Int) (t : Nat) H', r = .ok v t → Ex H H' → SrcB K H' x b t f → RetU [.int v, .int (t : Int)] H' Q → Q2 (.int v) H') : Fin K V.int x b f H1 Q2 E r := by
  cases r with
  | ok v t =>
    intro H' e' s'
    have e2 : Ex H H' := ((exu e).trans e').ex hx
    exact k v t H' rfl e2 s' (RetU.mono q e2)
  | bad c p => exact fun d H' hn hd e' h' => q d H' (fresh_back e hd) (((exu e).trans e').ex hx) h'
def N_Short___init__ : List Str := ["self", "place"]
def t_Short___init__ (K : PySem.W.Frag) : TS :=
  (tSeq (tDrop (tRinit (He.ga K "Short") (tCons (tVar 0) (tCons (tC (.str (Kr.T [116, 111, 111, 32, 115, 104, 111, 114, 116]))) tNil))))
    (tOstC (He.ga K "Short") "place" (tVar 0) (tVar 1)))
abbrev sp_Short___init__ (K : PySem.W.Frag) : Sp := placeSp (He.ga K "Short")
theorem len_Short___init__ {K : PySem.W.Frag} {vs H Q E} (h : sp_Short___init__ K vs H Q E) : vs.length = 2 := placeSp_len h
theorem rd_Short___init__ {K : PySem.W.Frag} (vs : List V) (H : Hp) (Q : VK) (E : XK) (h : sp_Short___init__ K vs H Q E) : t_Short___init__ K { nx := fun _ H' => Q .non H', rt := Q } (start N_Short___init__ vs) H := rd_place vs H Q E h
def N_Source_take : List Str := ["self", "wish", "sign"]
def t_Source_take (K : PySem.W.Frag) (E : XK) : TS :=
  (tSeq (tIfS (tTest (tOp rLtI (tFldC (He.ga K "Source") (tVar 0) "at") (tCB (rLenK K) (tCons (tFldC (He.ga K "Source") (tVar 0) "signs") tNil)))) (tAsg (tOp rIxS (tFldC (He.ga K "Source") (tVar 0) "signs") (tFldC (He.ga K "Source") (tVar 0) "at")) (gName 2)) (tIfS (tB (tFldC (He.ga K "Source") (tVar 0) "fills")) (tAsg (tVar 1) (gName 2)) (tRaiseO (He.ga K "Short") (sp_Short___init__ K) (tCons (tCB (rLenK K) (tCons (tFldC (He.ga K "Source") (tVar 0) "signs") tNil)) tNil) E)))
    (tSeq (sFldAugC (He.ga K "Source") (tVar 0) (tC (.int 1)) rAdd "at")
    (tRet (tVar 2))))
def sp_Source_take (K : PySem.W.Frag) : Sp := fun vs H Q E => ∃ (a : Addr) (b : List Bool) (t : Nat) (f w : Bool), vs = [.ref a, .str (T [bc w])] ∧ SrcB K H a b t f ∧ b.length ≤ 1000000 ∧ Fin K vB a b f H Q E (takeB b f false w t)
theorem len_Source_take {K : PySem.W.Frag} {vs H Q E} (h : sp_Source_take K vs H Q E) : vs.length = 2 := by
  obtain ⟨a, b, t, f, w, rfl, _⟩ := h
  rfl
theorem go_take0 {K : PySem.W.Frag} {σ : L2.St} {H : Hp} {o tw : TE} {E : XK} {Q : VK} {a : Addr} {b : List Bool} {t : Nat} {f w : Bool} (h : Ev o σ H (.ref a)) (hw : Ev tw σ H (.str (T [bc w]))) (s : SrcB K H a b t f) (hb : b.length ≤ 1000000) (k : Fin K vB a b f H Q E (takeB b f false w t)) :
    tMeth (He.ga K "Source") "take" (sp_Source_take K) [] E o (tCons tw tNil) σ H Q := by
  obtain ⟨dx, ha⟩ := s
  exact go_meth h ha rfl (fun H1 e => ea_cons (hw.mono e) ea_nil) fun H1 e => ⟨a, b, t, f, w, rfl, ⟨dx, e _ _ ha⟩, hb, k.mono (exu e)⟩
theorem rd_Source_take {K : PySem.W.Frag} (vs : List V) (H : Hp) (Q : VK) (E : XK) (h : sp_Source_take K vs H Q E) : t_Source_take K E { nx := fun _ H' => Q .non H', rt := Q } (start N_Source_take vs) H := by
  obtain ⟨a, b, t, f, w, rfl, ⟨dx, ha⟩, hb, k⟩ := h
  have sg : ∀ (σ : L2.St) (H1 : Hp), Ex H H1 → σ[0]? = some (some (.ref a)) → Ev (tFldC (He.ga K "Source") (tVar 0) "signs") σ H1 (.str (T (R b))) := fun σ H1 e h0 => ev_fldC (ev_var h0) (e _ _ ha) rfl
  have ln : ∀ (σ : L2.St) (H1 : Hp), Ex H H1 → σ[0]? = some (some (.ref a)) → Ev (tCB (rLenK K) (tCons (tFldC (He.ga K "Source") (tVar 0) "signs") tNil)) σ H1 (.int (b.length : Int)) := fun σ H1 e h0 => by
    have := ev_lenT (K := K) (sg σ H1 e h0) (by rw [R_len]; omega)
    rwa [R_len] at this
  have tst : EvT (tTest (tOp rLtI (tFldC (He.ga K "Source") (tVar 0) "at") (tCB (rLenK K) (tCons (tFldC (He.ga K "Source") (tVar 0) "signs") tNil)))) (start N_Source_take [.ref a, .str (T [bc w])]) H (decide ((t : Int) < (b.length : Int))) :=
    et_test (ev_ltI (ev_fldC (ev_var rfl) ha rfl) (ln _ H (Ex.refl H) rfl))
  -- a sign taken, the place goes on
  have fin : ∀ (c : Bool) (H1 : Hp), Ex H H1 → (∀ H', ExU a H H' → SrcB K H' a b (t + 1) f → Q (vB c) H') → tSeq (sFldAugC (He.ga K "Source") (tVar 0) (tC (.int 1)) rAdd "at") (tRet (tVar 2)) { nx := fun _ H' => Q .non H', rt := Q } [some (.ref a), some (.str (T [bc w])), some (vB c)] H1 := fun c H1 e1 q =>
    q_augC (i := (t : Int)) (j := 1) (ev_var rfl) (e1 _ _ ha) rfl ev_c (by simp) fun H2 e2 h2 => s_ret (ev_var rfl) fun H3 e3 => q H3 ((exu e1).trans (e2.trans (exu e3))) ⟨dx, e3 _ _ h2⟩
  unfold takeB at k
  by_cases ht : t < b.length
  · rw [List.getElem?_eq_getElem ht] at k
    refine q_if (b := true) (et_is tst (by simpa using ht)) (fun _ H1 e1 => ?_) (fun hf => nomatch hf)
    refine s_asg (v := vB b[t]) (ev_ixT (sg _ H1 e1 rfl) (ev_fldC (ev_var rfl) (e1 _ _ ha) rfl) (by rw [R_len]; omega) (R_at ht)) fun H2 e2 => ?_
    refine fin b[t] H2 (e1.trans e2) fun H' e' s' => ?_
    have := k H' e' s'
    rwa [show (b[t] != false) = b[t] by cases b[t] <;> rfl] at this
  · rw [List.getElem?_eq_none (by omega)] at k
    refine q_if (b := false) (et_is tst (by simpa using ht)) (fun hf => nomatch hf) (fun _ H1 e1 => ?_)
    cases f with
    | true =>
      refine s_if (b := true) (et_B (ev_fldC (ev_var rfl) (e1 _ _ ha) rfl)) (fun _ H2 e2 => ?_) (fun hf => nomatch hf)
      exact s_asg (v := vB w) (ev_var rfl) fun H3 e3 => fin w H3 ((e1.trans e2).trans e3) k
    | false =>
      refine s_if (b := false) (et_B (ev_fldC (ev_var rfl) (e1 _ _ ha) rfl)) (fun hf => nomatch hf) (fun _ H2 e2 => ?_)
      refine s_raiseO (ea_cons (ln _ H2 (e1.trans e2) rfl) ea_nil) (RaiseU.d (RaiseU.mono (exu (e1.trans e2)) k) ?_)
      rw [(e1.trans e2) _ _ ha]
      exact fun z => nomatch z
abbrev tm_take (K : PySem.W.Frag) (E : XK) (o : TE) (t : TA) : TE := (tMeth (He.ga K "Source") "take" (sp_Source_take K) [] E o t)
theorem go_take {K : PySem.W.Frag} {σ : L2.St} {H : Hp} {o tw : TE} {E : XK} {Q : VK} {x : V} {a : Addr} {b : List Bool} {t j : Nat} {f n w : Bool} (h : Ev o σ H x) (hw : Ev tw σ H (.str (T [bc w]))) (hx : Src K H a x n j) (hj : j ≤ srcD) (s : SrcB K H a b t f)
    (hb : b.length ≤ 1000000) (q : Fin K vB a b f H Q E (takeB b f n w t)) : tm_take K E o (tCons tw tNil) σ H Q := by
  cases hx with
  | base => exact go_take0 h hw s hb q
  | @turn c dx y n2 i hc ne r => exact absurd hj (by unfold srcD; omega)
theorem go_takeS {K : PySem.W.Frag} {σ : L2.St} {H : Hp} {o tw : TE} {E : XK} {Q : VK} {x : V} {a : Addr} {b : List Bool} {t : Nat} {f n w : Bool} {α : Type} {wal : α → V} {g : Bool → Nat → Res α} (h : Ev o σ H x) (hw : Ev tw σ H (.str (T [bc w]))) (r : Rdr srcD K H x a b f n t)
    (q : Fin K wal a b f H Q E ((takeB b f n w t).bind g)) : GoS (tm_take K E o (tCons tw tNil)) σ H fun c H' => ∃ t', takeB b f n w t = .ok c t' ∧ ExU a H H' ∧ Rdr srcD K H' x a b f n t' ∧ Fin K wal a b f H' Q E (g c t') := fun H1 e1 Q' k => by
  obtain ⟨⟨j, hj, hx⟩, s, l⟩ := r
  exact go_take (h.mono e1) (hw.mono e1) (hx.mono (exu e1)) hj (s.mono e1) l (Fin.step (q.mono (exu e1)) fun c t' H' et e' s' q' => k c H' ⟨t', et, (exu e1).trans e', ⟨⟨j, hj, hx.mono ((exu e1).trans e')⟩, s', l⟩, q'⟩)
def N_take_digits : List Str := ["source", "number", "many", "k"]
def t_take_digits (K : PySem.W.Frag) (E : XK) : TS :=
  (tSeq (tFor (iRng1 (tCons (tVar 2) tNil)) (gName 3)
    (tAsg (tOp rAddI (tOp rMulI (tVar 1) (tC (.int 2))) (tCB rIntB (tCons (tOp rEq (tm_take K E (tVar 0) (tCons (tC (.str (Kr.T [48]))) tNil)) (tC (.str (Kr.T [49])))) tNil))) (gName 1)))
    (tRet (tVar 1)))
def sp_take_digits (K : PySem.W.Frag) : Sp := fun vs H Q E => ∃ (x : V) (a : Addr) (b : List Bool) (f n : Bool) (t : Nat) (num : Int) (many : Nat), vs = [x, .int num, .int (many : Int)] ∧ Rdr srcD K H x a b f n t ∧ many ≤ 600 ∧ num.natAbs < 2 ^ 600 ∧ Fin K V.int a b f H Q E (tdig b f n many num t)
theorem len_take_digits {K : PySem.W.Frag} {vs H Q E} (h : sp_take_digits K vs H Q E) : vs.length = 3 := by
  obtain ⟨x, a, b, f, n, t, num, many, rfl, _⟩ := h
  rfl
theorem rd_take_digits {K : PySem.W.Frag} (vs : List V) (H : Hp) (Q : VK) (E : XK) (h : sp_take_digits K vs H Q E) : t_take_digits K E { nx := fun _ H' => Q .non H', rt := Q } (start N_take_digits vs) H := by
  obtain ⟨x, a, b, f, n, t, num, many, rfl, r, hm, hn, q⟩ := h
  refine q_forR1 (n := (many : Int)) (ea_cons (ev_var rfl) ea_nil) (by omega)
    (fun i σ' H' => ∃ (y : Int) (t' : Nat) (z : Option V), σ' = [some x, some (.int y), some (.int (many : Int)), z] ∧ ExU a H H' ∧ Rdr srcD K H' x a b f n t' ∧ y.natAbs < 2 ^ (600 + i) ∧ Fin K V.int a b f H' Q E (tdig b f n (many - i) y t'))
    (fun H1 e1 => ⟨num, t, none, rfl, exu e1, r.mono e1, hn, q.mono (exu e1)⟩) (fun i σ' H' hi hP => ?_) (fun σ' H' hP => ?_)
  · obtain ⟨y, t', z, rfl, e', r', hy, q'⟩ := hP
    have ek : many - i = (many - (i + 1)) + 1 := by omega
    rw [ek] at q'
    refine s_num rfl (mulx_ok (a := 600 + i) (b := 2) hy (by decide) (by omega)) (go_takeS (w := false) (ev_var rfl) ev_c r' q') fun c H2 H3 hp e3 => ?_
    obtain ⟨t2, _, e2, r2, q2⟩ := hp
    exact ⟨_, t2, _, rfl, e'.trans (e2.trans (exu e3)), r2.mono e3, two_step c hy, q2.mono (exu e3)⟩
  · obtain ⟨y, t', z, rfl, e', r', hy, q'⟩ := hP
    rw [Int.toNat_natCast, Nat.sub_self] at q'
    exact s_ret (ev_var rfl) fun H2 e2 => q' H2 (exu e2) (r'.s.mono e2)
def N_take_count : List Str := ["source", "wish", "ones", "size"]
def t_take_count (K : PySem.W.Frag) (E : XK) : TS :=
  (tSeq (tAsg (tC (.int 0)) (gName 2))
    (tSeq (tWhile (tAnd (tTest (tOp rLtI (tVar 2) (tC (.int 7)))) (tTest (tOp rEq (tm_take K E (tVar 0) (tCons (tVar 1) tNil)) (tC (.str (Kr.T [49]))))))
    (tSeq (tAug 2 (tC (.int 1)) (ipI fun i j => i + j))
    (tAsg (tC (.str (Kr.T [48]))) (gName 1))))
    (tSeq (tAsg (tCall (sp_take_digits K) [] E (tCons (tVar 0) (tCons (tC (.int 1)) (tCons (tVar 2) tNil)))) (gName 3))
    (tRet (tOp rSubI (tCall (sp_take_digits K) [] E (tCons (tVar 0) (tCons (tC (.int 1)) (tCons (tOp rSubI (tVar 3) (tC (.int 1))) tNil)))) (tC (.int 1)))))))
def sp_take_count (K : PySem.W.Frag) : Sp := fun vs H Q E => ∃ (x : V) (a : Addr) (b : List Bool) (f n w : Bool) (t : Nat), vs = [x, .str (T [bc w])] ∧ Rdr srcD K H x a b f n t ∧ Fin K V.int a b f H Q E (tcount b f n w t)
theorem len_take_count {K : PySem.W.Frag} {vs H Q E} (h : sp_take_count K vs H Q E) : vs.length = 2 := by
  obtain ⟨x, a, b, f, n, w, t, rfl, _⟩ := h
  rfl
theorem rd_take_count {K : PySem.W.Frag} (vs : List V) (H : Hp) (Q : VK) (E : XK) (h : sp_take_count K vs H Q E) : t_take_count K E { nx := fun _ H' => Q .non H', rt := Q } (start N_take_count vs) H := by
  obtain ⟨x, a, b, f, n, w, t, rfl, r, q⟩ := h
  refine q_asg ev_c fun H1 e1 => ?_
  refine (⟨fun m σ' H' => ∃ (o : Nat) (w' : Bool) (t' : Nat), m = 7 - o ∧ o ≤ 7 ∧ σ' = [some x, some (.str (T [bc w'])), some (.int (o : Int)), none] ∧ ExU a H H' ∧ Rdr srcD K H' x a b f n t' ∧
      Fin K V.int a b f H' Q E ((tones b f n (7 - o) w' o t').bind fun o t1 => (tdig b f n o 1 t1).bind fun s t2 => (tdig b f n (s - 1).toNat 1 t2).bind fun x t3 => .ok (x - 1) t3),
    ⟨7, 0, w, t, rfl, by omega, rfl, exu e1, r.mono e1, q.mono (exu e1)⟩, ?_⟩ : tSeq (tWhile _ _) _ _ _ _)
  rintro m σ' H' ⟨o, w', t', rfl, ho, rfl, e', r', q'⟩
  -- what follows the loop
  have rest : ∀ (w2 : Bool) (t2 : Nat) (H2 : Hp), ExU a H H2 → Rdr srcD K H2 x a b f n t2 → Fin K V.int a b f H2 Q E ((tdig b f n o 1 t2).bind fun s t2 => (tdig b f n (s - 1).toNat 1 t2).bind fun x t3 => .ok (x - 1) t3) →
      tSeq (tAsg (tCall (sp_take_digits K) [] E (tCons (tVar 0) (tCons (tC (.int 1)) (tCons (tVar 2) tNil)))) (gName 3))
        (tRet (tOp rSubI (tCall (sp_take_digits K) [] E (tCons (tVar 0) (tCons (tC (.int 1)) (tCons (tOp rSubI (tVar 3) (tC (.int 1))) tNil)))) (tC (.int 1)))) { nx := fun _ H' => Q .non H', rt := Q } [some x, some (.str (T [bc w2])), some (.int (o : Int)), none] H2 := fun w2 t2 H2 e2 r2 q2 => by
    refine q_asgF (vs := [x, .int 1, .int (o : Int)]) (ea_cons (ev_var rfl) (ea_cons ev_c (ea_cons (ev_var rfl) ea_nil))) fun H3 e3 => ⟨x, a, b, f, n, t2, 1, o, rfl, r2.mono e3, by omega, by decide, Fin.step (q2.mono (exu e3)) fun s t3 H4 es e4 s4 q4 => ?_⟩
    have hs := tdig_rng es
    have hp : (2 : Int) ^ o ≤ 2 ^ 7 := by
      have : o = 0 ∨ o = 1 ∨ o = 2 ∨ o = 3 ∨ o = 4 ∨ o = 5 ∨ o = 6 ∨ o = 7 := by omega
      rcases this with rfl | rfl | rfl | rfl | rfl | rfl | rfl | rfl <;> decide
    have hp0 : (0 : Int) < 2 ^ o := Int.pow_pos (by decide)
    have hs1 : 1 ≤ s ∧ s < 256 := by omega
    obtain ⟨k, hk⟩ := Int.eq_ofNat_of_zero_le (show 0 ≤ s - 1 by omega)
    refine s_retSubF (vs := [x, .int 1, .int (k : Int)]) (ea_cons (ev_var rfl) (ea_cons ev_c (ea_cons (ev_is (ev_subI (ev_var rfl) ev_c) (by rw [hk])) ea_nil))) fun H5 e5 => ?_
    rw [hk, Int.toNat_natCast] at q4
    refine ⟨x, a, b, f, n, t3, 1, k, rfl, (r2.mono e3).after (e4.trans (exu e5)) (s4.mono e5), by omega, by decide, Fin.step (q4.mono (exu e5)) fun y t4 H6 _ e6 s6 q6 => ?_⟩
    exact rv_subI (i := y) (j := 1) H6 (Ex.refl H6) _ fun H7 e7 => q6 H7 (exu e7) (s6.mono e7)
  by_cases h7 : o < 7
  · have ek : 7 - o = (7 - (o + 1)) + 1 := by omega
    rw [ek] at q'
    have q2 : Fin K V.int a b f H' Q E ((takeB b f n w' t').bind fun c t' => (if c then tones b f n (7 - (o + 1)) false (o + 1) t' else .ok o t').bind fun o t1 => (tdig b f n o 1 t1).bind fun s t2 => (tdig b f n (s - 1).toNat 1 t2).bind fun x t3 => .ok (x - 1) t3) := by
      rw [← Res.bind_assoc]; exact q'
    refine (et_test (ev_is (ev_ltI (ev_var rfl) ev_c) (by rw [decide_eq_true (show (o : Int) < 7 by omega)])) : EvT (tTest (tOp rLtI (tVar 2) (tC (.int 7)))) [some x, some (.str (T [bc w'])), some (.int (o : Int)), none] H' true) H' (Ex.refl H') _ fun H2 e2 => ?_
    refine t_one (go_takeS (ev_var rfl) (ev_var rfl) (r'.mono e2) (q2.mono (exu e2))) fun c H3 H4 hp e4 => ?_
    obtain ⟨t3, _, e3, r3, q3⟩ := hp
    have e04 := e'.trans ((exu e2).trans (e3.trans (exu e4)))
    cases c with
    | true =>
      refine ⟨_, fun _ _ h => h, q_aug rfl ev_c fun H5 e5 => s_asg (v := .str (T [bc false])) ev_c fun H6 e6 => ⟨7 - (o + 1), by omega, o + 1, false, t3, rfl, by omega, rfl, e04.trans (exu (e5.trans e6)), (r3.mono e4).mono (e5.trans e6), ?_⟩⟩
      exact q3.mono (exu (e4.trans (e5.trans e6)))
    | false => exact rest w' t3 H4 e04 (r3.mono e4) (q3.mono (exu e4))
  · have ho7 : o = 7 := by omega
    rw [show 7 - o = 0 by omega] at q'
    refine (et_test (ev_is (ev_ltI (ev_var rfl) ev_c) (by rw [decide_eq_false (show ¬ (o : Int) < 7 by omega)])) : EvT (tTest (tOp rLtI (tVar 2) (tC (.int 7)))) [some x, some (.str (T [bc w'])), some (.int (o : Int)), none] H' false) H' (Ex.refl H') _ fun H2 e2 => ?_
    exact rest w' t' H2 (e'.trans (exu e2)) (r'.mono e2) (q'.mono (exu e2))
def N_Source_spot : List Str := ["self"]
def t_Source_spot (K : PySem.W.Frag) : TS :=
  (tRet (tFldC (He.ga K "Source") (tVar 0) "at"))
def sp_Source_spot (K : PySem.W.Frag) : Sp := fun vs H Q _ => ∃ (a : Addr) (b : List Bool) (t : Nat) (f : Bool), vs = [.ref a] ∧ SrcB K H a b t f ∧ RetV (.int (t : Int)) H Q
theorem len_Source_spot {K : PySem.W.Frag} {vs H Q E} (h : sp_Source_spot K vs H Q E) : vs.length = 1 := by
  obtain ⟨a, b, t, f, rfl, _⟩ := h
  rfl
theorem ev_spot {K : PySem.W.Frag} {σ : L2.St} {H : Hp} {o : TE} {a : Addr} {b : List Bool} {t : Nat} {f : Bool} (h : Ev o σ H (.ref a)) (s : SrcB K H a b t f) : Ev (tMeth (He.ga K "Source") "spot" (sp_Source_spot K) [] E0 o tNil) σ H (.int (t : Int)) := by
  obtain ⟨dx, ha⟩ := s
  exact ev_meth h ha rfl ea_nil fun H1 e Q q E => ⟨a, b, t, f, rfl, ⟨dx, e _ _ ha⟩, q⟩
theorem rd_Source_spot {K : PySem.W.Frag} (vs : List V) (H : Hp) (Q : VK) (E : XK) (h : sp_Source_spot K vs H Q E) : t_Source_spot K { nx := fun _ H' => Q .non H', rt := Q } (start N_Source_spot vs) H := by
  obtain ⟨a, b, t, f, rfl, ⟨dx, ha⟩, q⟩ := h
  exact s_ret (ev_fldC (ev_var rfl) ha rfl) q
def N_read_count : List Str := ["signs", "at", "source", "number"]
def t_read_count (K : PySem.W.Frag) (E : XK) : TS :=
  (tSeq (tAsg (tMake (He.ga K "Source") (sp_Source___init__ K) [] E0 (tCons (tVar 0) (tCons (tVar 1) (tCons (tC (.bl false)) tNil)))) (gName 2))
    (tSeq (tAsg (tCall (sp_take_count K) [] E (tCons (tVar 2) (tCons (tC (.str (Kr.T [48]))) tNil))) (gName 3))
    (tRet (tTup (tCons (tVar 3) (tCons (tMeth (He.ga K "Source") "spot" (sp_Source_spot K) [] E0 (tVar 2) tNil) tNil))))))
def sp_read_count (K : PySem.W.Frag) : Sp := fun vs H Q E => ∃ (b : List Bool) (t : Nat), vs = [.str (T (R b)), .int (t : Int)] ∧ b.length ≤ 1000000 ∧ FinR K H Q E (tcount b false false false t)
theorem len_read_count {K : PySem.W.Frag} {vs H Q E} (h : sp_read_count K vs H Q E) : vs.length = 2 := by
  obtain ⟨b, t, rfl, _⟩ := h
  rfl
theorem rd_read_count {K : PySem.W.Frag} (vs : List V) (H : Hp) (Q : VK) (E : XK) (h : sp_read_count K vs H Q E) : t_read_count K E { nx := fun _ H' => Q .non H', rt := Q } (start N_read_count vs) H := by
  obtain ⟨b, t, rfl, hb, q⟩ := h
  refine q_source (b := b) (t := t) (f := false) (ea_cons (ev_var rfl) (ea_cons (ev_var rfl) (ea_cons ev_c ea_nil))) fun x H1 e1 hx s1 => ?_
  refine q_asgF (vs := [.ref x, .str (T [bc false])]) (ea_cons (ev_var rfl) (ea_cons ev_c ea_nil)) fun H2 e2 => ⟨.ref x, x, b, false, false, false, t, rfl, ⟨⟨0, Nat.zero_le _, .base⟩, s1.mono e2, hb⟩, fin_new q (e1.trans e2) hx (s1.mono e2).some fun v t' H3 _ e3 s3 q3 => ?_⟩
  exact s_retU (eu_tup (ea_cons (ev_var rfl) (ea_cons (ev_spot (ev_var rfl) s3) ea_nil)) (by simp)) q3
def N_count_at : List Str := ["page", "at"]
def t_count_at (K : PySem.W.Frag) (E : XK) : TS :=
  (tTryRaise K (.ref (He.ga K "Short")) (fun W => (tRet (tCallS (sp_read_count K) (WE W) (tCons (tVar 0) (tCons (tVar 1) tNil))))) (.ref (He.ga K "BadPage")) E)
def sp_count_at (K : PySem.W.Frag) : Sp := fun vs H Q E => ∃ (b : List Bool) (t : Nat), vs = [.str (T (R b)), .int (t : Int)] ∧ b.length ≤ 1000000 ∧ match tcount b false false false t with
  | .ok v t' => RetU [.int v, .int (t' : Int)] H Q
  | .bad _ _ => RaiseX (.ref (He.ga K "BadPage")) H E
theorem len_count_at {K : PySem.W.Frag} {vs H Q E} (h : sp_count_at K vs H Q E) : vs.length = 2 := by
  obtain ⟨b, t, rfl, _⟩ := h
  rfl
theorem rd_count_at {K : PySem.W.Frag} (kx : Kx K) (vs : List V) (H : Hp) (Q : VK) (E : XK) (h : sp_count_at K vs H Q E) : t_count_at K E { nx := fun _ H' => Q .non H', rt := Q } (start N_count_at vs) H := by
  obtain ⟨b, t, rfl, hb, q⟩ := h
  have sh : ("Short" : Str) ∈ exL := by decide +kernel
  refine s_tryR ?_
  refine s_retX (vs := [.str (T (R b)), .int (t : Int)]) (ea_cons (ev_var rfl) (ea_cons (ev_var rfl) ea_nil)) fun H1 e1 => ⟨b, t, rfl, hb, ?_⟩
  cases e : tcount b false false false t with
  | ok v t' =>
    rw [e] at q
    exact RetU.mono q e1
  | bad c p =>
    rw [e] at q
    obtain ⟨rfl, rfl⟩ := tcount_bad e
    exact fun d H2 hd e2 h2 => ⟨true, by rw [kx.exm sh sh]; rfl, fun _ a ha => q H2 (e1.trans e2), fun z => nomatch z⟩
def N_entry_at : List Str := ["page", "at", "last", "common", "more", "row"]
def t_entry_at (K : PySem.W.Frag) (E : XK) : TS :=
  (tSeq (tAsg (tCall (sp_count_at K) [] E (tCons (tVar 0) (tCons (tVar 1) tNil))) (gTup K 2 (gCons (gName 3) (gCons (gName 1) gNil))))
    (tSeq (tAsg (tCall (sp_count_at K) [] E (tCons (tVar 0) (tCons (tVar 1) tNil))) (gTup K 2 (gCons (gName 4) (gCons (gName 1) gNil))))
    (tSeq (tIfS (tOr (tTest (tOp rGtI (tVar 3) (tCB (rLenK K) (tCons (tVar 2) tNil)))) (tTest (tOp rGtI (tVar 4) (tOp rSubI (tCB (rLenK K) (tCons (tVar 0) tNil)) (tVar 1))))) (tRaiseX (.ref (He.ga K "BadPage")) E) tNext)
    (tSeq (tAsg (tOp rAddT (tSl rSlS (tVar 2) tNoPart (tPart (tVar 3))) (tSl rSlS (tVar 0) (tPart (tVar 1)) (tPart (tOp rAddI (tVar 1) (tVar 4))))) (gName 5))
    (tSeq (tIfS (tTest (tOp rNe (tCall (sp_shared_signs K) [] E0 (tCons (tVar 2) (tCons (tVar 5) tNil))) (tVar 3))) (tRaiseX (.ref (He.ga K "BadPage")) E) tNext)
    (tRet (tTup (tCons (tVar 5) (tCons (tOp rAddI (tVar 1) (tVar 4)) tNil)))))))))
def sp_entry_at (K : PySem.W.Frag) : Sp := fun vs H Q E => ∃ (b last : List Bool) (t : Nat), vs = [.str (T (R b)), .int (t : Int), .str (T (R last))] ∧ b.length ≤ 100000 ∧ last.length ≤ 200000 ∧ t ≤ b.length ∧ match entryAt b t last with
  | some (row, t') => RetU [.str (T (R row)), .int (t' : Int)] H Q
  | none => RaiseX (.ref (He.ga K "BadPage")) H E
theorem len_entry_at {K : PySem.W.Frag} {vs H Q E} (h : sp_entry_at K vs H Q E) : vs.length = 3 := by
  obtain ⟨b, last, t, rfl, _⟩ := h
  rfl
theorem rd_entry_at {K : PySem.W.Frag} (vs : List V) (H : Hp) (Q : VK) (E : XK) (h : sp_entry_at K vs H Q E) : t_entry_at K E { nx := fun _ H' => Q .non H', rt := Q } (start N_entry_at vs) H := by
  obtain ⟨b, last, t, rfl, hb, hl, ht, q⟩ := h
  unfold entryAt at q
  refine q_tupF (vs := [.str (T (R b)), .int (t : Int)]) (ea_cons (ev_var rfl) (ea_cons (ev_var rfl) ea_nil)) fun H1 e1 Q2 hk => ⟨b, t, rfl, by omega, ?_⟩
  cases e : tcount b false false false t with
  | bad c p =>
    rw [e] at q
    exact fun H2 e2 => q H2 (e1.trans e2)
  | ok c t1 =>
    rw [e] at q
    dsimp only at q ⊢
    obtain ⟨hc0, _, ht1⟩ := tcount_ok e
    have ht1 := ht1 ht
    refine hk _ _ fun H2 e2 => ?_
    refine q_tupF (vs := [.str (T (R b)), .int (t1 : Int)]) (ea_cons (ev_var rfl) (ea_cons (ev_var rfl) ea_nil)) fun H3 e3 Q3 hk3 => ⟨b, t1, rfl, by omega, ?_⟩
    have e03 := (e1.trans e2).trans e3
    cases e' : tcount b false false false t1 with
    | bad c' p =>
      rw [e'] at q
      exact fun H4 e4 => q H4 (e03.trans e4)
    | ok m t2 =>
      rw [e'] at q
      dsimp only at q ⊢
      obtain ⟨hm0, _, ht2⟩ := tcount_ok e'
      have ht2 := ht2 ht1
      refine hk3 _ _ fun H4 e4 => ?_
      have e04 := e03.trans e4
      have test : EvT (tOr (tTest (tOp rGtI (tVar 3) (tCB (rLenK K) (tCons (tVar 2) tNil)))) (tTest (tOp rGtI (tVar 4) (tOp rSubI (tCB (rLenK K) (tCons (tVar 0) tNil)) (tVar 1))))) [some (.str (T (R b))), some (.int (t2 : Int)), some (.str (T (R last))), some (.int c), some (.int m), none] H4
          (decide ((last.length : Int) < c) || decide ((b.length : Int) - (t2 : Int) < m)) :=
        et_or (et_test (ev_gtI (ev_var rfl) (ev_lenR (ev_var rfl) (by omega)))) fun _ => et_test (ev_gtI (ev_var rfl) (ev_subI (ev_lenR (ev_var rfl) (by omega)) (ev_var rfl)))
      by_cases hbig : (last.length : Int) < c ∨ (b.length : Int) - (t2 : Int) < m
      · rw [if_pos hbig] at q
        refine q_when (b := true) (et_is test (by rw [← Bool.decide_or, decide_eq_true hbig])) (fun _ H5 e5 => q H5 (e04.trans e5)) (fun hf => nomatch hf)
      · rw [if_neg hbig] at q
        refine q_when (b := false) (et_is test (by rw [← Bool.decide_or, decide_eq_false hbig])) (fun hf => nomatch hf) (fun _ H5 e5 => ?_)
        obtain ⟨cn, hcn⟩ := Int.eq_ofNat_of_zero_le hc0
        obtain ⟨mn, hmn⟩ := Int.eq_ofNat_of_zero_le hm0
        subst hcn hmn
        rw [Int.toNat_natCast, Int.toNat_natCast] at q
        have l1 : (last.take cn).length ≤ 200000 := by rw [List.length_take]; omega
        have l2 : ((b.drop t2).take mn).length ≤ 100000 := by rw [List.length_take, List.length_drop]; omega
        refine q_asg (v := .str (T (R (last.take cn ++ (b.drop t2).take mn)))) (ev_addR (ev_is (ev_slT (ev_var rfl) (by rw [R_len]; omega) eo_none (eo_some (ev_var rfl))) (by rw [cutL_pre, R_take])) (ev_is (ev_slT (ev_var rfl) (by rw [R_len]; omega) (eo_some (ev_var rfl)) (eo_some (ev_is (ev_addI (ev_var rfl) (ev_var rfl)) (by rw [← Int.natCast_add])))) (by rw [R_mid, Nat.add_sub_cancel_left])) (by omega)) fun H6 e6 => ?_
        have l3 : (last.take cn ++ (b.drop t2).take mn).length ≤ 300000 := by rw [List.length_append]; omega
        generalize last.take cn ++ (b.drop t2).take mn = row at l3 q ⊢
        have t2 : EvT (tTest (tOp rNe (tCall (sp_shared_signs K) [] E0 (tCons (tVar 2) (tCons (tVar 5) tNil))) (tVar 3))) [some (.str (T (R b))), some (.int (t2 : Int)), some (.str (T (R last))), some (.int (cn : Int)), some (.int (mn : Int)), some (.str (T (R row)))] H6 (!decide ((com last row : Int) = (cn : Int))) :=
          et_test (ev_neI (ev_call (ea_cons (ev_var rfl) (ea_cons (ev_var rfl) ea_nil)) (u_shared_signs (by omega) (by omega))) (ev_var rfl))
        have e06 := (e04.trans e5).trans e6
        by_cases hcm : com last row = cn
        · rw [if_neg (by simpa using hcm)] at q
          refine q_when (b := false) (et_is t2 (by simp [hcm])) (fun hf => nomatch hf) (fun _ H7 e7 => ?_)
          exact s_retU (eu_tup (ea_cons (ev_var rfl) (ea_cons (ev_is (ev_addI (ev_var rfl) (ev_var rfl)) (by rw [← Int.natCast_add])) ea_nil)) (by simp)) (RetU.mono q (e06.trans e7))
        · rw [if_pos hcm] at q
          refine q_when (b := true) (et_is t2 (by simp; omega)) (fun _ H7 e7 => q H7 (e06.trans e7)) (fun hf => nomatch hf)
def N_rows_of : List Str := ["page", "many", "at", "rows", "last", "row"]
def t_rows_of (K : PySem.W.Frag) (E : XK) : TS :=
  (tSeq (tAsg (tCall (sp_count_at K) [] E (tCons (tVar 0) (tCons (tC (.int 0)) tNil))) (gTup K 2 (gCons (gName 1) (gCons (gName 2) gNil))))
    (tSeq (tAsg (tLst tNil) (gName 3))
    (tSeq (tAsg (tC (.str (Kr.T []))) (gName 4))
    (tSeq (tWhile (tTest (tOp rLtI (tCB (rLenK K) (tCons (tVar 3) tNil)) (tVar 1)))
    (tSeq (tAsg (tCall (sp_entry_at K) [] E (tCons (tVar 0) (tCons (tVar 2) (tCons (tVar 4) tNil)))) (gTup K 2 (gCons (gName 5) (gCons (gName 2) gNil))))
    (tSeq (tIfS (tAnd (tTest (tOp rGtI (tCB (rLenK K) (tCons (tVar 3) tNil)) (tC (.int 0)))) (tNot (tTest (tOp rLtT (tVar 4) (tVar 5))))) (tRaiseX (.ref (He.ga K "BadPage")) E) tNext)
    (tSeq (tDrop (tBM K "list" rAppend (tVar 3) (tCons (tVar 5) tNil)))
    (tAsg (tVar 5) (gName 4))))))
    (tSeq (tIfS (tTest (tOp rLtI (tVar 2) (tCB (rLenK K) (tCons (tVar 0) tNil)))) (tRaiseX (.ref (He.ga K "BadPage")) E) tNext)
    (tRet (tVar 3)))))))
def sp_rows_of (K : PySem.W.Frag) : Sp := fun vs H Q E => ∃ b : List Bool, vs = [.str (T (R b))] ∧ b.length ≤ 90000 ∧ match rowsOf b with
  | some rs => RetL (RL rs) H Q
  | none => RaiseX (.ref (He.ga K "BadPage")) H E
theorem len_rows_of {K : PySem.W.Frag} {vs H Q E} (h : sp_rows_of K vs H Q E) : vs.length = 1 := by
  obtain ⟨b, rfl, _⟩ := h
  rfl
theorem u_rows_of {K : PySem.W.Frag} {H : Hp} {b : List Bool} {rs : List (List Bool)} (hl : b.length ≤ 90000) (h : rowsOf b = some rs) : SpL (sp_rows_of K) [.str (T (R b))] H (RL rs) := fun H1 e Q q E => ⟨b, rfl, hl, by rw [h]; exact q⟩
theorem rd_rows_of {K : PySem.W.Frag} (vs : List V) (H : Hp) (Q : VK) (E : XK) (h : sp_rows_of K vs H Q E) : t_rows_of K E { nx := fun _ H' => Q .non H', rt := Q } (start N_rows_of vs) H := by
  obtain ⟨b, rfl, hb, q⟩ := h
  unfold rowsOf at q
  refine q_tupF (vs := [.str (T (R b)), .int ((0 : Nat) : Int)]) (ea_cons (ev_var rfl) (ea_cons ev_c ea_nil)) fun H1 e1 Q2 hk => ⟨b, 0, rfl, by omega, ?_⟩
  cases e : tcount b false false false 0 with
  | bad c p =>
    rw [e] at q
    exact fun H2 e2 => q H2 (e1.trans e2)
  | ok many t0 =>
    rw [e] at q
    dsimp only at q ⊢
    obtain ⟨hm0, _, ht0⟩ := tcount_ok e
    have ht0 := ht0 (Nat.zero_le _)
    obtain ⟨mn, rfl⟩ := Int.eq_ofNat_of_zero_le hm0
    rw [Int.toNat_natCast] at q
    refine hk _ _ fun H2 e2 => ?_
    refine q_asgL (el_lst ea_nil (by simp)) fun p H3 hp e3 h3 => ?_
    refine q_asg (v := .str (T (R []))) ev_c fun H4 e4 => ?_
    have hpH : H p = none := fresh_back (e1.trans e2) hp
    refine q_while (fun w σ' H' => ∃ (dn : List (List Bool)) (l : Option (List Bool)) (t f : Nat) (z : Option V), w = b.length - t ∧ Ex H H' ∧ H' p = some (.lst (RL dn)) ∧ σ' = [some (.str (T (R b))), some (.int (mn : Int)), some (.int (t : Int)), some (.ref p), some (.str (T (R (l.getD [])))), z] ∧
      t ≤ b.length ∧ b.length - t < f ∧ dn.length ≤ mn ∧ (l = none ↔ dn = []) ∧ dn.length ≤ t ∧ (l.getD []).length ≤ t ∧
      (rowsGo b (b.length + 1) none mn t0 = (rowsGo b f l (mn - dn.length) t).map fun p => (dn ++ p.1, p.2))) (b.length - t0)
      ⟨[], none, t0, b.length + 1, none, rfl, ((e1.trans e2).trans e3).trans e4, e4 _ _ h3, rfl, ht0, by omega, Nat.zero_le _, ⟨fun _ => rfl, fun _ => rfl⟩, Nat.zero_le _, Nat.zero_le _, by
        show rowsGo b (b.length + 1) none mn t0 = (rowsGo b (b.length + 1) none mn t0).map _
        cases rowsGo b (b.length + 1) none mn t0 with
        | none => rfl
        | some z => rfl⟩ ?_
    rintro w σ' H' ⟨dn, l, t, f, z, rfl, eH, hdn, rfl, ht, hf, hlen, hl0, hdt, hlt, hgo⟩
    have test : EvT (tTest (tOp rLtI (tCB (rLenK K) (tCons (tVar 3) tNil)) (tVar 1))) [some (.str (T (R b))), some (.int (mn : Int)), some (.int (t : Int)), some (.ref p), some (.str (T (R (l.getD [])))), z] H' (decide ((dn.length : Int) < (mn : Int))) :=
      et_test (ev_ltI (ev_is (ev_lenS (ev_var rfl) (.inl (sq_of hdn))) (by rw [RL_len])) (ev_var rfl))
    refine ⟨_, test, fun hb2 H5 e5 => ?_, fun hb2 H5 e5 => ?_⟩
    · have hlt2 : dn.length < mn := by have := of_decide_eq_true hb2; omega
      obtain ⟨f', rfl⟩ : ∃ f', f = f' + 1 := ⟨f - 1, by omega⟩
      have ek : mn - dn.length = (mn - (dn.length + 1)) + 1 := by omega
      rw [ek, rowsGo] at hgo
      refine ⟨_, fun _ _ h => h, q_tupF (vs := [.str (T (R b)), .int (t : Int), .str (T (R (l.getD [])))]) (ea_cons (ev_var rfl) (ea_cons (ev_var rfl) (ea_cons (ev_var rfl) ea_nil))) fun H6 e6 Q3 hk3 => ⟨b, l.getD [], t, rfl, by omega, by omega, ht, ?_⟩⟩
      have e06 := (eH.trans e5).trans e6
      cases he : entryAt b t (l.getD []) with
      | none =>
        rw [he] at hgo
        have hgo2 : rowsGo b (b.length + 1) none mn t0 = none := hgo
        rw [hgo2] at q
        exact fun H7 e7 => q H7 (e06.trans e7)
      | some rt =>
        obtain ⟨row, t'⟩ := rt
        rw [he] at hgo
        dsimp only at hgo ⊢
        obtain ⟨g1, g2, g3⟩ := entryAt_le he ht
        refine hk3 _ _ fun H7 e7 => ?_
        have e07 := e06.trans e7
        have hdn7 := (e5.trans (e6.trans e7)) _ _ hdn
        have hbad : (decide (0 < (dn.length : Int)) && !decide (R (l.getD []) < R row)) = true ↔ ∃ x, l = some x ∧ ¬ R x < R row := by
          rw [Bool.and_eq_true, decide_eq_true_eq, Bool.not_eq_true', decide_eq_false_iff_not]
          constructor
          · rintro ⟨h0, h1⟩
            cases l with
            | none => rw [hl0.mp rfl] at h0; simp at h0
            | some x => exact ⟨x, rfl, h1⟩
          · rintro ⟨x, rfl, h1⟩
            refine ⟨?_, h1⟩
            have : dn ≠ [] := fun z => by have := hl0.mpr z; cases this
            have := List.length_pos_iff.mpr this
            omega
        refine q_when (b := decide (0 < (dn.length : Int)) && !decide (R (l.getD []) < R row)) (et_and (et_test (ev_gtI (ev_is (ev_lenS (ev_var rfl) (.inl (sq_of hdn7))) (by rw [RL_len])) ev_c)) fun _ => et_not (et_test (ev_ltT (ev_var rfl) (ev_var rfl)))) (fun hb3 H8 e8 => ?_) (fun hb3 H8 e8 => ?_)
        · rw [if_pos (hbad.mp hb3)] at hgo
          have hgo2 : rowsGo b (b.length + 1) none mn t0 = none := hgo
          rw [hgo2] at q
          exact q H8 (e07.trans e8)
        · have hok : ¬ ∃ x, l = some x ∧ ¬ R x < R row := fun hn => by
            have := hbad.mpr hn
            rw [hb3] at this
            cases this
          rw [if_neg hok] at hgo
          refine q_app (e8 _ _ hdn7) (ev_var rfl) (ev_var rfl) (by rw [RL_len]; omega) fun H9 e9 => ?_
          refine s_asg (ev_var rfl) fun H10 e10 => ⟨b.length - t', by omega, dn ++ [row], some row, t', f', _, rfl, (((e07.trans e8).trans e9).mut hpH).trans e10, e10 _ _ (by rw [upd_same, RL_app]; rfl), rfl, g2, by omega, by rw [List.length_append]; simp; omega, ⟨(fun z => nomatch z), fun z => by simp at z⟩, by rw [List.length_append]; simp; omega, by show row.length ≤ t'; omega, ?_⟩
          rw [hgo, List.length_append]
          show (Option.map _ (rowsGo b f' (some row) (mn - (dn.length + 1)) t')).map _ = (rowsGo b f' (some row) (mn - (dn.length + 1)) t').map _
          cases rowsGo b f' (some row) (mn - (dn.length + 1)) t' with
          | none => rfl
          | some z => simp
    · have hge : dn.length = mn := by have := of_decide_eq_false hb2; omega
      rw [hge, Nat.sub_self] at hgo
      have hgo2 : rowsGo b (b.length + 1) none mn t0 = some (dn, t) := by
        rw [hgo]
        cases f <;> simp [rowsGo]
      rw [hgo2] at q
      dsimp only at q
      have t2 : EvT (tTest (tOp rLtI (tVar 2) (tCB (rLenK K) (tCons (tVar 0) tNil)))) [some (.str (T (R b))), some (.int (mn : Int)), some (.int (t : Int)), some (.ref p), some (.str (T (R (l.getD [])))), z] H5 (decide ((t : Int) < (b.length : Int))) := et_test (ev_ltI (ev_var rfl) (ev_lenR (ev_var rfl) (by omega)))
      by_cases htl : t < b.length
      · rw [if_pos htl] at q
        exact q_when (b := true) (et_is t2 (decide_eq_true (by omega))) (fun _ H6 e6 => q H6 ((eH.trans e5).trans e6)) (fun hf => nomatch hf)
      · rw [if_neg htl] at q
        refine q_when (b := false) (et_is t2 (decide_eq_false (by omega))) (fun hf => nomatch hf) (fun _ H6 e6 => ?_)
        exact s_ret (ev_var rfl) fun H7 e7 => q p H7 hpH (((eH.trans e5).trans e6).trans e7) ((e5.trans (e6.trans e7)) _ _ hdn)
def N__law_parting : List Str := ["_law_one", "_law_other", "_law_k"]
def t__law_parting (K : PySem.W.Frag) : TS :=
  (tSeq (tFor (iRng1 (tCons (tCB (rLenK K) (tCons (tVar 0) tNil)) tNil)) (gName 2)
    (tIfS (tTest (tOp rNe (tSl rSlS (tVar 0) tNoPart (tPart (tOp rAddI (tVar 2) (tC (.int 1))))) (tSl rSlS (tVar 1) tNoPart (tPart (tOp rAddI (tVar 2) (tC (.int 1))))))) (tRet (tSl rSlS (tVar 1) tNoPart (tPart (tOp rAddI (tVar 2) (tC (.int 1)))))) tNext))
    (tRet (tSl rSlS (tVar 1) tNoPart (tPart (tOp rAddI (tCB (rLenK K) (tCons (tVar 0) tNil)) (tC (.int 1)))))))
theorem com_ge : ∀ (n : Nat) (a b : Rw), a.take n = b.take n → n ≤ a.length → n ≤ com a b
  | 0, a, b, _, _ => Nat.zero_le _
  | n + 1, [], b, _, h => by simp at h
  | n + 1, x :: a, [], h, _ => by simp at h
  | n + 1, x :: a, y :: b, h, hl => by
    rw [List.take_succ_cons, List.take_succ_cons] at h
    injection h with h1 h2
    have := com_ge n a b h2 (by simpa using hl)
    rw [com, if_pos h1]
    omega
theorem com_tk {a b : Rw} {n : Nat} (h : n ≤ com a b) : a.take n = b.take n := by
  have := congrArg (List.take n) (com_take a b)
  rwa [List.take_take, List.take_take, Nat.min_eq_left h] at this
def sp__law_parting (_ : PySem.W.Frag) : Sp := fun vs H Q _ => ∃ a b : Rw, vs = [.str (T (R a)), .str (T (R b))] ∧ a.length ≤ 1000 ∧ b.length ≤ 1000 ∧ RetV (.str (T (R (b.take (com a b + 1))))) H Q
theorem len__law_parting {K : PySem.W.Frag} {vs H Q E} (h : sp__law_parting K vs H Q E) : vs.length = 2 := by
  obtain ⟨a, b, rfl, _⟩ := h
  rfl
theorem u__law_parting {K : PySem.W.Frag} {H : Hp} {a b : Rw} (h1 : a.length ≤ 1000) (h2 : b.length ≤ 1000) : SpV (sp__law_parting K) [.str (T (R a)), .str (T (R b))] H (.str (T (R (b.take (com a b + 1))))) := fun H1 e Q q E => ⟨a, b, rfl, h1, h2, q⟩
theorem rd__law_parting {K : PySem.W.Frag} (vs : List V) (H : Hp) (Q : VK) (E : XK) (h : sp__law_parting K vs H Q E) : t__law_parting K { nx := fun _ H' => Q .non H', rt := Q } (start N__law_parting vs) H := by
  obtain ⟨a, b, rfl, ha, hb, q⟩ := h
  have cut : ∀ (i k : Nat) (l : Rw) (σ : L2.St) (H0 : Hp) (te : TE), l.length ≤ 1000 → σ[i]? = some (some (.str (T (R l)))) → Ev te σ H0 (.int (k : Int)) → Ev (tSl rSlS (tVar i) tNoPart (tPart (tOp rAddI te (tC (.int 1))))) σ H0 (.str (T (R (l.take (k + 1))))) := fun i k l σ H0 te hl hi ht => ev_is (ev_slT (l := R l) (ev_var hi) (by rw [R_len]; omega) eo_none (eo_some (i := ((k + 1 : Nat) : Int)) (ev_is (ev_addI ht ev_c) (by congr 1)))) (by rw [cutL_pre, R_take])
  refine q_forR1 (n := (a.length : Int)) (ea_cons (ev_lenR (ev_var rfl) (by omega)) ea_nil) (by omega) (fun i σ' H' => Ex H H' ∧ i ≤ com a b ∧ ∃ u, σ' = [some (.str (T (R a))), some (.str (T (R b))), u]) (fun H1 e1 => ⟨e1, Nat.zero_le _, none, rfl⟩) (fun i σ' H' hi hP => ?_) (fun σ' H' hP => ?_)
  · obtain ⟨eH, hic, u, rfl⟩ := hP
    refine s_when (et_test (ev_neT (cut 0 i a _ _ _ ha rfl (ev_var rfl)) (cut 1 i b _ _ _ hb rfl (ev_var rfl)))) (fun hb1 H1 e1 => ?_) (fun hb1 H1 e1 => ?_)
    · have hne : R (a.take (i + 1)) ≠ R (b.take (i + 1)) := by simpa using hb1
      have hle : com a b ≤ i := Classical.byContradiction fun z => hne (congrArg R (com_tk (a := a) (b := b) (n := i + 1) (by omega)))
      obtain rfl : i = com a b := by omega
      exact s_ret (cut 1 (com a b) b _ _ _ hb rfl (ev_var rfl)) fun H2 e2 => q H2 ((eH.trans e1).trans e2)
    · have he : a.take (i + 1) = b.take (i + 1) := R_inj (by simpa using hb1)
      exact ⟨eH.trans e1, com_ge _ _ _ he (by omega), _, rfl⟩
  · obtain ⟨eH, hic, u, rfl⟩ := hP
    have := com_le a b
    rw [Int.toNat_natCast] at hic
    obtain h : com a b = a.length := by omega
    rw [h] at q
    exact s_ret (cut 1 a.length b _ _ _ hb rfl (ev_lenR (ev_var rfl) (by omega))) fun H2 e2 => q H2 (eH.trans e2)
def N__law_pages : List Str := ["_law_shelf", "_law_room", "_law_kept", "_law_ahead", "_law_found", "_law_told", "_law_page", "_law_parts", "_law_rows", "_law_k"]
def t__law_pages (K : PySem.W.Frag) : TS :=
  (tSeq (tAsg (tLst tNil) (gName 4))
    (tSeq (tIfS (tB (tVar 3)) (tAsg (tMeth (He.ga K "Shelf") "partings" (sp_Shelf_partings K) [] E0 (tVar 0) tNil) (gName 4)) tNext)
    (tSeq (tAsg (tMeth (He.ga K "Shelf") "pages" (sp_Shelf_pages K) [] E0 (tVar 0) tNil) (gName 5))
    (tSeq (tIfS (tNot (tB (tCall (sp__law_texts K) [] E0 (tCons (tVar 5) tNil)))) (tRet (tC (.bl false))) tNext)
    (tSeq (tAsg (tLc (iList K (tVar 5)) (gName 6) tYes (tCall (sp_rows_of K) [] E0 (tCons (tVar 6) tNil)) [6]) (gName 7))
    (tSeq (tAsg (tLst tNil) (gName 8))
    (tSeq (tFor (iRng1 (tCons (tCB (rLenK K) (tCons (tVar 7) tNil)) tNil)) (gName 9)
    (tSeq (tIfS (tOr (tNot (tB (tCall (sp__law_texts K) [] E0 (tCons (tOp (rIxL K) (tVar 7) (tVar 9)) tNil)))) (tOr (tTest (tOp rLtI (tCB (rLenK K) (tCons (tOp (rIxL K) (tVar 7) (tVar 9)) tNil)) (tC (.int 1)))) (tTest (tOp rGtI (tCB (rLenK K) (tCons (tOp (rIxL K) (tVar 7) (tVar 9)) tNil)) (tVar 1))))) (tRet (tC (.bl false))) tNext)
    (tSeq (tIfS (tAnd (tTest (tOp rGtI (tVar 9) (tC (.int 0)))) (tTest (tOp rLeI (tOp rAddI (tCB (rLenK K) (tCons (tOp (rIxL K) (tVar 7) (tOp rSubI (tVar 9) (tC (.int 1)))) tNil)) (tCB (rLenK K) (tCons (tOp (rIxL K) (tVar 7) (tVar 9)) tNil))) (tVar 1)))) (tRet (tC (.bl false))) tNext)
    (tAsg (tOp rCat (tVar 8) (tOp (rIxL K) (tVar 7) (tVar 9))) (gName 8)))))
    (tSeq (tIfS (tTest (tOp (rNeD K) (tVar 8) (tCB (rSortedA K) (tCons (tVar 2) tNil)))) (tRet (tC (.bl false))) tNext)
    (tSeq (tIfS (tNot (tB (tVar 3))) (tAsg (tMeth (He.ga K "Shelf") "partings" (sp_Shelf_partings K) [] E0 (tVar 0) tNil) (gName 4)) tNext)
    (tSeq (tIfS (tOr (tNot (tB (tCall (sp__law_texts K) [] E0 (tCons (tVar 4) tNil)))) (tTest (tOp rNe (tCB (rLenK K) (tCons (tVar 4) tNil)) (tCB rMax2 (tCons (tC (.int 0)) (tCons (tOp rSubI (tCB (rLenK K) (tCons (tVar 7) tNil)) (tC (.int 1))) tNil)))))) (tRet (tC (.bl false))) tNext)
    (tSeq (tFor (iRng1 (tCons (tCB (rLenK K) (tCons (tVar 4) tNil)) tNil)) (gName 9)
    (tIfS (tTest (tOp rNe (tOp (rIxL K) (tVar 4) (tVar 9)) (tCall (sp__law_parting K) [] E0 (tCons (tOp (rIxL K) (tOp (rIxL K) (tVar 7) (tVar 9)) (tUn (rU fun i => .int (-i)) (tC (.int 1)))) (tCons (tOp (rIxL K) (tOp (rIxL K) (tVar 7) (tOp rAddI (tVar 9) (tC (.int 1)))) (tC (.int 0))) tNil))))) (tRet (tC (.bl false))) tNext))
    (tSeq (tAsg (tLst (tCons (tCB (rListK K) (tCons (tVar 5) tNil)) (tCons (tCB (rListK K) (tCons (tVar 4) tNil)) tNil))) (gName 2))
    (tSeq (tDrop (tBM K "list" rAppend (tVar 5) (tCons (tC (.str (Kr.T []))) tNil)))
    (tSeq (tDrop (tBM K "list" rAppend (tVar 4) (tCons (tC (.str (Kr.T []))) tNil)))
    (tRet (tOp (rEqD K) (tLst (tCons (tMeth (He.ga K "Shelf") "pages" (sp_Shelf_pages K) [] E0 (tVar 0) tNil) (tCons (tMeth (He.ga K "Shelf") "partings" (sp_Shelf_partings K) [] E0 (tVar 0) tNil) tNil))) (tVar 2)))))))))))))))))
theorem ev_neSN {K : PySem.W.Frag} {σ : L2.St} {H : Hp} {ta tb : TE} {q : Addr} {xs : List V} (ha : Ev ta σ H (.ref q)) (hq : SqL K H q xs) (hb : EvL tb σ H xs) (h : xs.all plainV = true) : Ev (tOp (rNeD K) ta tb) σ H (.bl false) := fun H1 e Q k =>
  ha H1 e _ fun H2 e2 => hb H2 (e.trans e2) _ fun r H3 _ e3 hr => ⟨.list (xs.map toD), .list (xs.map toD), .lst (ex_l ((e.trans e2).trans e3) hq) (dpAll_plain h), .lst (sq_of hr) (dpAll_plain h), shaped_list h, shaped_list h, by
    rw [eqv_same (shaped_list h)]
    exact k H3 (e2.trans e3)⟩
/-- [a new list for x in a list that stands], told by places -/
theorem er_lcL {K : PySem.W.Frag} {σ : L2.St} {H : Hp} {tl te : TE} {α : Type} {as : List α} {f : α → V} {g : α → List V} {a : Addr} {j : Nat} {vs : List Nat} (h : Ev tl σ H (.ref a)) (hs : H a = some (.lst (as.map f))) (hz : as.length ≤ 40000) (hw : ∀ x, wipe ((wipe σ vs).set j (some x)) vs = wipe σ vs)
    (he : ∀ x ∈ as, ∀ H1, Ex H H1 → EvL te ((wipe σ vs).set j (some (f x))) H1 (g x)) :
    EvR (tLc (iList K tl) (gName j) tYes te vs) σ H (fun ws H1 => ∃ qs : List (Addr × α), ws = qs.map (fun q => V.ref q.1) ∧ qs.map (fun q => q.2) = as ∧ ∀ q ∈ qs, H1 q.1 = some (.lst (g q.2))) := fun H1 e Q q =>
  h H1 e _ fun H2 e2 => ⟨a, rfl, ⟨_, sq_of ((e.trans e2) _ _ hs)⟩, fun D hD => lc_list (xs := as.map f)
    (fun i H' => Ex H2 H' ∧ ∃ qs : List (Addr × α), H' D = some (.lst (qs.map fun q => V.ref q.1)) ∧ qs.map (fun q => q.2) = as.take i ∧ ∀ q ∈ qs, q.1 ≠ D ∧ H' q.1 = some (.lst (g q.2)))
    ⟨Ex.new hD, [], upd_same, rfl, (fun q hq => by cases hq)⟩ (fun i H' _ hI => sq_of (hI.1 _ _ ((e.trans e2) _ _ hs))) (fun i x H' hx hI => by
      obtain ⟨eH, qs, hqs, hl, hq⟩ := hI
      have hi := (List.getElem?_eq_some_iff.mp hx).1
      rw [List.length_map] at hi
      rw [List.getElem?_map, List.getElem?_eq_getElem hi] at hx
      obtain rfl := Option.some.inj hx
      have hu := he as[i] (List.getElem_mem hi) H' ((e.trans e2).trans eH)
      refine ⟨hw _, ?_⟩
      unfold tYes
      simp only [if_true]
      have hql : qs.length = i := by
        have := congrArg List.length hl
        rw [List.length_map, List.length_take] at this
        omega
      refine hu H' (Ex.refl H') _ fun p H4 hp e4 h4 => ⟨_, e4 _ _ hqs, sz_lt (by rw [List.length_map]; omega), (eH.trans e4).mut hD, qs ++ [(p, as[i])], (by rw [upd_same, List.map_append]; rfl), (by rw [List.map_append, hl, List.take_succ_eq_append_getElem hi]; rfl), fun r hr => ?_⟩
      have hpD : p ≠ D := fun z => by rw [z, hqs] at hp; cases hp
      rcases List.mem_append.mp hr with hr | hr
      · obtain ⟨n1, n2⟩ := hq r hr
        exact ⟨n1, by rw [upd_ne n1]; exact e4 _ _ n2⟩
      · rw [List.mem_singleton.mp hr]
        exact ⟨hpD, by rw [upd_ne hpD]; exact h4⟩) fun H' hI => by
      obtain ⟨eH, qs, hqs, hl, hq⟩ := hI
      rw [List.length_map, List.take_length] at hl
      exact q D _ H' (fresh_back e2 hD) (e2.trans eH) hqs ⟨qs, rfl, hl, fun r hr => (hq r hr).2⟩⟩
/-- lists of texts, in a list -/
theorem shaped_two (xs ys : List Rw) : SeqAt.shaped (.list [.list ((RL xs).map toD), .list ((RL ys).map toD)]) = true := by
  have h1 := shaped_list (RL_plain xs)
  have h2 := shaped_list (RL_plain ys)
  unfold SeqAt.shaped at h1 h2 ⊢
  rw [Bool.and_eq_true, decide_eq_true_eq] at h1 h2 ⊢
  have d1 : (PyData.list ((RL xs).map toD)).depth = 1 := by rw [PyData.depth, depthAll_plain]
  have d2 : (PyData.list ((RL ys).map toD)).depth = 1 := by rw [PyData.depth, depthAll_plain]
  refine ⟨?_, ?_⟩
  · simp only [PyData.canLay0, PyData.canLayAll0, Bool.and_eq_true] at h1 h2 ⊢
    exact ⟨h1.1, h2.1, trivial⟩
  · rw [PyData.depth, PyData.depthAll, PyData.depthAll, PyData.depthAll, d1, d2]
    decide
def sp__law_pages (K : PySem.W.Frag) : Sp := fun vs H Q _ => ∃ (a kp : Addr) (fm : V) (room : Nat) (q : Addr) (l : List (Addr × List Rw)) (kept : List Rw) (ahead : Bool), vs = [.ref a, .int (room : Int), .ref kp, .bl ahead] ∧ ShI K H a fm room q l ∧ Kept room (sds l) ∧ room ≤ 20 ∧ H kp = some (.lst (RL kept)) ∧ kept.Nodup ∧ kept.length ≤ 500 ∧ (∀ r, r ∈ (sds l).flatten ↔ r ∈ kept) ∧ (∀ r ∈ kept, r.length ≤ 301) ∧ RetV (.bl true) H Q
theorem len__law_pages {K : PySem.W.Frag} {vs H Q E} (h : sp__law_pages K vs H Q E) : vs.length = 4 := by
  obtain ⟨a, kp, fm, room, q, l, kept, ahead, rfl, _⟩ := h
  rfl
theorem rd__law_pages {K : PySem.W.Frag} (vs : List V) (H : Hp) (Q : VK) (E : XK) (h : sp__law_pages K vs H Q E) : t__law_pages K { nx := fun _ H' => Q .non H', rt := Q } (start N__law_pages vs) H := by
  obtain ⟨a, kp, fm, room, q, l, kept, ahead, rfl, s, hk, hr, hkp, hnd, hkl, hmem, hz, k⟩ := h
  have hflat : (sds l).flatten = sortR kept := asc_ext hk.asc (asc_sort hnd) fun r => by rw [mem_sortR]; exact hmem r
  have hfl : (sds l).flatten.length ≤ 500 := by rw [hflat, len_sortR]; exact hkl
  have hll : l.length ≤ 500 := by have := kept_len hk.sz; rw [sds_len] at this; omega
  have hzf : ∀ r ∈ (sds l).flatten, r.length ≤ 301 := fun r hr => hz r ((hmem r).mp hr)
  have hpl : (partsR (sds l)).length = l.length - 1 := by unfold partsR; rw [List.length_map, List.length_range, sds_len]
  refine q_asgL (xs := RL []) (el_lst ea_nil (by decide)) fun p1 H1 hp1 e1 h1 => ?_
  refine q_cond (fun σ' H' => Ex H H' ∧ ∃ pf, σ' = [some (.ref a), some (.int (room : Int)), some (.ref kp), some (.bl ahead), some (.ref pf), none, none, none, none, none] ∧ H pf = none ∧ H' pf = some (.lst (RL (if ahead then partsR (sds l) else [])))) (fun M hM => ?_) (fun σ' H2 hP => ?_)
  · refine s_when (et_B (ev_var rfl)) (fun hb H2 e2 => ?_) (fun hb H2 e2 => ?_)
    · subst hb
      exact s_asgL (el_partings (ev_var rfl) (s.mono (e1.trans e2)) hk (by omega) hzf) fun p H3 hp e3 h3 => hM _ _ ⟨(e1.trans e2).trans e3, p, rfl, fresh_back (e1.trans e2) hp, h3⟩
    · subst hb
      exact hM _ _ ⟨e1.trans e2, p1, rfl, hp1, e2 _ _ h1⟩
  obtain ⟨e2, pf, rfl, hpf, h2⟩ := hP
  refine q_asgL (el_pages (ev_var rfl) (s.mono e2) hk hr (by omega) hzf) fun pt H3 hpt e3 h3 => ?_
  have hptH := fresh_back e2 hpt
  have e03 := e2.trans e3
  refine q_when (b := false) (et_not (a := true) (et_B (ev_call (ea_cons (ev_var rfl) ea_nil) (u__law_texts h3 (by rw [List.length_map, sds_len]; omega))))) (fun hf => nomatch hf) (fun _ H4 e4 => ?_)
  have e04 := e03.trans e4
  have h4 := e4 _ _ h3
  have h4' : H4 pt = some (.lst ((sds l).map fun t => V.str (T (R (pageRow t))))) := by rw [h4]; unfold RL; rw [List.map_map]; rfl
  refine q_asgR (er_lcL (as := sds l) (f := fun t => V.str (T (R (pageRow t)))) (g := fun t => RL t) (ev_var rfl) h4' (by rw [sds_len]; omega) (fun x => rfl) fun t ht H5 e5 => ?_) fun ws pp H5 hP hpp e5 h5 => ?_
  · have hts := hk.sz t ht
    have htl : ∀ r ∈ t, r.length ≤ 301 := fun r hr2 => hzf r (List.mem_flatten.mpr ⟨t, ht, hr2⟩)
    have hpb := pageBody_len (m := 301) (by decide) (last := []) htl
    have hsl := small_len (n := t.length) (by omega)
    have hm : t.length * (80 + 301) ≤ 20 * 381 := Nat.mul_le_mul_right _ (by omega)
    exact el_call (ea_cons (ev_var rfl) ea_nil) (u_rows_of (by unfold pageRow; rw [List.length_append]; omega) (rowsOf_page (fun r hr2 => by have := htl r hr2; omega) (by omega) (sub_asc hk ht)))
  obtain ⟨qs, rfl, hqs, hq5⟩ := hP
  have hql : qs.length = l.length := by have := congrArg List.length hqs; rwa [List.length_map, sds_len] at this
  have e05 := e04.trans e5
  have qat : ∀ (i : Nat) (hi : i < qs.length), qs[i].2 = (sds l)[i]'(by rw [sds_len]; omega) := fun i hi => by
    have h1 : (qs.map fun q => q.2)[i]? = (sds l)[i]? := by rw [hqs]
    rw [List.getElem?_map, List.getElem?_eq_getElem hi, List.getElem?_eq_getElem (by rw [sds_len]; omega)] at h1
    exact Option.some.inj h1
  have part : ∀ (σ : L2.St) (H0 : Hp) (te : TE) (i : Nat) (hi : i < qs.length), Ex H5 H0 → σ[7]? = some (some (.ref pp)) → Ev te σ H0 (.int (i : Int)) → Ev (tOp (rIxL K) (tVar 7) te) σ H0 (.ref qs[i].1) := fun σ H0 te i hi e h7 ht => ev_op (ev_var h7) ht (rv_ixL (sq_of (e _ _ h5)) (atI_nat (by rw [List.getElem?_map, List.getElem?_eq_getElem hi]; rfl)))
  have pcon : ∀ (H0 : Hp) (i : Nat) (hi : i < qs.length), Ex H5 H0 → H0 qs[i].1 = some (.lst (RL qs[i].2)) := fun H0 i hi e => e _ _ (hq5 _ (List.getElem_mem hi))
  refine q_asgL (xs := RL []) (el_lst ea_nil (by decide)) fun pr H6 hpr e6 h6 => ?_
  -- the pages' rows
  refine q_forR1 (n := (qs.length : Int)) (ea_cons (ev_is (ev_lenS (ev_var rfl) (.inl (sq_of (e6 _ _ h5)))) (by rw [List.length_map])) ea_nil) (by omega)
    (fun i σ' H' => Ex H5 H' ∧ i ≤ qs.length ∧ ∃ pr u, σ' = [some (.ref a), some (.int (room : Int)), some (.ref kp), some (.bl ahead), some (.ref pf), some (.ref pt), none, some (.ref pp), some (.ref pr), u] ∧ H' pr = some (.lst (RL ((sds l).take i).flatten))) (fun H7 e7 => ⟨e6.trans e7, Nat.zero_le _, pr, none, rfl, e7 _ _ h6⟩) (fun i σ' H7 hi hP => ?_) (fun σ' H7 hP => ?_)
  · obtain ⟨e7, hil, pr, u, rfl, h7⟩ := hP
    have hi2 : i < qs.length := by omega
    have hi3 : i < (sds l).length := by rw [sds_len]; omega
    have hsz := hk.sz _ (List.getElem_mem hi3)
    have hpos := List.length_pos_iff.mpr hsz.1
    have lenp : ∀ (σ : L2.St) (H0 : Hp) (te : TE) (j : Nat) (hj : j < qs.length), Ex H5 H0 → σ[7]? = some (some (.ref pp)) → Ev te σ H0 (.int (j : Int)) → Ev (tCB (rLenK K) (tCons (tOp (rIxL K) (tVar 7) te) tNil)) σ H0 (.int (qs[j].2.length : Int)) := fun σ H0 te j hj e h0 ht => ev_is (ev_lenS (part σ H0 te j hj e h0 ht) (.inl (sq_of (pcon H0 j hj e)))) (by rw [RL_len])
    have hqi := qat i hi2
    rw [← hqi] at hsz hpos
    refine q_when (b := false) (et_or (a := false) (b := false) (et_not (a := true) (et_B (ev_call (ea_cons (part _ _ _ i hi2 e7 rfl (ev_var rfl)) ea_nil) (u__law_texts (pcon H7 i hi2 e7) (by omega))))) fun _ => et_is (et_or (et_test (ev_ltI (lenp _ _ _ i hi2 e7 rfl (ev_var rfl)) ev_c)) fun _ => et_test (ev_gtI (lenp _ _ _ i hi2 e7 rfl (ev_var rfl)) (ev_var rfl))) (by rw [decide_eq_false (show ¬ (qs[i].2.length : Int) < 1 by omega), decide_eq_false (show ¬ (room : Int) < (qs[i].2.length : Int) by omega)]; rfl)) (fun hf => nomatch hf) (fun _ H8 e8 => ?_)
    have e78 := e7.trans e8
    refine q_when (b := false) (et_is (et_and (et_test (ev_gtI (ev_var rfl) ev_c)) fun hpos2 => et_test (ev_leI (ev_addI (lenp _ _ _ (i - 1) (by omega) e78 rfl (ev_is (ev_subI (ev_var (v := .int (i : Int)) rfl) (ev_c (v := .int 1))) (congrArg V.int (by have h0 : (0 : Int) < (i : Int) := of_decide_eq_true hpos2; omega)))) (lenp _ _ _ i hi2 e78 rfl (ev_var rfl))) (ev_var rfl))) ?_) (fun hf => nomatch hf) (fun _ H9 e9 => ?_)
    · rw [Bool.and_eq_false_iff]
      by_cases h0 : i = 0
      · exact .inl (decide_eq_false (by omega))
      · refine .inr (decide_eq_false ?_)
        have hb := hk.bd (i - 1) (fun z => z) (by rw [sds_len]; omega)
        have g1 : szAt (sds l) (i - 1) = (qs[i - 1]'(by omega)).2.length := by unfold szAt; rw [List.getElem?_eq_getElem (by rw [sds_len]; omega), qat (i - 1) (by omega)]; rfl
        have g2 : szAt (sds l) (i - 1 + 1) = qs[i].2.length := by unfold szAt; rw [show i - 1 + 1 = i by omega, List.getElem?_eq_getElem hi3, hqi]; rfl
        rw [g1, g2] at hb
        omega
    · have e79 := e78.trans e9
      have hpre : ((sds l).take i).flatten.length ≤ 500 := by
        have := congrArg List.length (show (sds l).flatten = ((sds l).take i).flatten ++ ((sds l).drop i).flatten by rw [← List.flatten_append, List.take_append_drop])
        rw [List.length_append] at this
        omega
      refine s_asgL (el_catP (ev_var rfl) ((e8.trans e9) _ _ h7) (part _ _ _ i hi2 e79 rfl (ev_var rfl)) (pcon H9 i hi2 e79) (by rw [RL_len, RL_len]; omega)) fun pr2 H10 hpr2 e10 h10 => ⟨e79.trans e10, by omega, pr2, _, rfl, ?_⟩
      rw [h10, ← RL_app, hqi, List.take_succ_eq_append_getElem hi3, List.flatten_append]
      simp
  obtain ⟨e7, _, pr, u, rfl, h7⟩ := hP
  rw [Int.toNat_natCast, hql, ← sds_len l, List.take_length] at h7
  have e07 := e05.trans e7
  refine q_when (b := false) (et_test (ev_neSN (ev_var rfl) (sq_of h7) (by rw [hflat]; exact el_sortedV (ev_var rfl) (e07 _ _ hkp) (by omega)) (RL_plain _))) (fun hf => nomatch hf) (fun _ H8 e8 => ?_)
  have e08 := e07.trans e8
  -- the partings
  refine q_cond (fun σ' H' => Ex H8 H' ∧ ∃ pf, σ' = [some (.ref a), some (.int (room : Int)), some (.ref kp), some (.bl ahead), some (.ref pf), some (.ref pt), none, some (.ref pp), some (.ref pr), u] ∧ H pf = none ∧ pf ≠ pt ∧ H' pf = some (.lst (RL (partsR (sds l))))) (fun M hM => ?_) (fun σ' H9 hP => ?_)
  · have npt : pf ≠ pt := fun z => by rw [← z, h2] at hpt; cases hpt
    refine s_when (et_not (et_B (ev_var rfl))) (fun hb H9 e9 => ?_) (fun hb H9 e9 => ?_)
    · refine s_asgL (el_partings (ev_var rfl) (s.mono (e08.trans e9)) hk (by omega) hzf) fun p H10 hp e10 h10 => hM _ _ ⟨e9.trans e10, p, rfl, fresh_back (e08.trans e9) hp, fun z => ?_, h10⟩
      have := (((e5.trans e7).trans e8).trans e9) _ _ h4
      rw [← z, hp] at this
      cases this
    · have ha : ahead = true := by simpa using hb
      rw [if_pos ha] at h2
      exact hM _ _ ⟨e9, pf, rfl, hpf, npt, (((((e3.trans e4).trans e5).trans e7).trans e8).trans e9) _ _ h2⟩
  clear h2 hpf
  obtain ⟨e9, pf, rfl, hpf, npt, h9⟩ := hP
  have e59 := (e7.trans e8).trans e9
  have e09 := e05.trans e59
  refine q_when (b := false) (et_or (a := false) (b := false) (et_not (a := true) (et_B (ev_call (ea_cons (ev_var rfl) ea_nil) (u__law_texts h9 (by omega))))) fun _ => et_test (ev_is (ev_neI (ev_is (ev_lenS (ev_var rfl) (.inl (sq_of h9))) (by rw [RL_len, hpl])) (ev_max2 ev_c (ev_subI (ev_is (ev_lenS (ev_var rfl) (.inl (sq_of (e59 _ _ h5)))) (by rw [List.length_map, hql])) ev_c))) (by
    have : ((l.length - 1 : Nat) : Int) = if (l.length : Int) - 1 > 0 then (l.length : Int) - 1 else 0 := by split <;> omega
    rw [this]; simp))) (fun hf => nomatch hf) (fun _ H10 e10 => ?_)
  refine q_forR1 (n := ((l.length - 1 : Nat) : Int)) (ea_cons (ev_is (ev_lenS (ev_var rfl) (.inl (sq_of (e10 _ _ h9)))) (by rw [RL_len, hpl])) ea_nil) (by omega)
    (fun i σ' H' => Ex H10 H' ∧ ∃ u, σ' = [some (.ref a), some (.int (room : Int)), some (.ref kp), some (.bl ahead), some (.ref pf), some (.ref pt), none, some (.ref pp), some (.ref pr), u]) (fun H11 e11 => ⟨e11, _, rfl⟩) (fun i σ' H11 hi hP => ?_) (fun σ' H11 hP => ?_)
  · obtain ⟨e11, u, rfl⟩ := hP
    have hi1 : i + 1 < qs.length := by omega
    have hi0 : i < qs.length := by omega
    have e511 := (e59.trans e10).trans e11
    have h0n : qs[i].2 ≠ [] := by rw [qat i hi0]; exact (hk.sz _ (List.getElem_mem _)).1
    have h1n : qs[i + 1].2 ≠ [] := by rw [qat (i + 1) hi1]; exact (hk.sz _ (List.getElem_mem _)).1
    have z0 := hzf (lastR qs[i].2) (List.mem_flatten.mpr ⟨qs[i].2, by rw [qat i hi0]; exact List.getElem_mem _, last_mem h0n⟩)
    have z1 := hzf (hdR qs[i + 1].2) (List.mem_flatten.mpr ⟨qs[i + 1].2, by rw [qat (i + 1) hi1]; exact List.getElem_mem _, hd_mem h1n⟩)
    have ep : partR (sds l) i = (hdR qs[i + 1].2).take (com (lastR qs[i].2) (hdR qs[i + 1].2) + 1) := by
      unfold partR
      rw [List.getElem?_eq_getElem (show i < (sds l).length by rw [sds_len]; omega), List.getElem?_eq_getElem (show i + 1 < (sds l).length by rw [sds_len]; omega), qat i hi0, qat (i + 1) hi1]
      rfl
    have hpi : i < (partsR (sds l)).length := by omega
    have hpe : (partsR (sds l))[i] = partR (sds l) i := by
      have h0 : (partsR (sds l))[i]? = some (partR (sds l) i) := by
        unfold partsR
        rw [List.getElem?_map, List.getElem?_range (by rw [sds_len]; omega)]
        rfl
      exact (List.getElem?_eq_some_iff.mp h0).2
    refine s_when (b := false) (et_test (ev_is (ev_neT (a := R (partR (sds l) i)) (ev_is (ev_op (ev_var rfl) (ev_var rfl) (rv_ixL (sq_of ((e10.trans e11) _ _ h9)) (atI_nat (RL_at hpi)))) (by rw [hpe])) (ev_call (ea_cons (ev_op (part _ _ _ i hi0 e511 rfl (ev_var rfl)) (ev_neg ev_c) (rv_ixL (sq_of (pcon _ i hi0 e511)) (RL_last h0n))) (ea_cons (ev_op (part _ _ _ (i + 1) hi1 e511 rfl (ev_is (ev_addI (ev_var rfl) ev_c) (by congr 1))) ev_c (rv_ixL (sq_of (pcon _ (i + 1) hi1 e511)) (RL_hd h1n))) ea_nil)) (u__law_parting (by omega) (by omega)))) (by rw [ep]; simp))) (fun hf => nomatch hf) (fun _ H12 e12 => ⟨e11.trans e12, _, rfl⟩)
  obtain ⟨e11, u, rfl⟩ := hP
  have e011 := (e09.trans e10).trans e11
  have t11 : H11 pt = some (.lst (RL ((sds l).map pageRow))) := (((e5.trans e59).trans e10).trans e11) _ _ h4
  have f11 : H11 pf = some (.lst (RL (partsR (sds l)))) := (e10.trans e11) _ _ h9
  -- told again alike
  refine (el_copy (K := K) (ta := tVar 5) (ev_var rfl) (sq_of t11)) H11 (Ex.refl H11) _ fun c1 H12 hc1 e12 h12 => ?_
  refine (el_copy (K := K) (ta := tVar 4) (ev_var rfl) (sq_of (e12 _ _ f11))) H12 (Ex.refl H12) _ fun c2 H13 hc2 e13 h13 => ?_
  refine ⟨sz_of (by simp), fun c3 hc3 => ?_⟩
  have e14 : Ex H13 (upd H13 c3 (.lst [.ref c1, .ref c2])) := Ex.new hc3
  have hc3s : upd H13 c3 (.lst [.ref c1, .ref c2]) c3 = some (.lst [.ref c1, .ref c2]) := upd_same
  have e014 := e011.trans ((e12.trans e13).trans e14)
  have c1' := (e13.trans e14) _ _ h12
  have c2' := e14 _ _ h13
  have t14 := ((e12.trans e13).trans e14) _ _ t11
  have f14 := ((e12.trans e13).trans e14) _ _ f11
  have n1 : c1 ≠ pt := fun z => by rw [z, t11] at hc1; cases hc1
  have n2 : c1 ≠ pf := fun z => by rw [z, f11] at hc1; cases hc1
  have n3 : c2 ≠ pt := fun z => by rw [z, e12 _ _ t11] at hc2; cases hc2
  have n4 : c2 ≠ pf := fun z => by rw [z, e12 _ _ f11] at hc2; cases hc2
  have n5 : c3 ≠ pt := fun z => by rw [z, (e12.trans e13) _ _ t11] at hc3; cases hc3
  have n6 : c3 ≠ pf := fun z => by rw [z, (e12.trans e13) _ _ f11] at hc3; cases hc3
  change tSeq _ _ _ _ (upd H13 c3 (.lst [.ref c1, .ref c2]))
  generalize upd H13 c3 (.lst [.ref c1, .ref c2]) = H14 at *
  refine q_app (v := .str (T [])) t14 (ev_var rfl) ev_c (by rw [RL_len, List.length_map, sds_len]; omega) fun H15 e15 => ?_
  have e015 : Ex H (upd H15 pt (.lst (RL ((sds l).map pageRow) ++ [.str (T [])]))) := (e014.trans e15).mut hptH
  have f15 : upd H15 pt (.lst (RL ((sds l).map pageRow) ++ [.str (T [])])) pf = some (.lst (RL (partsR (sds l)))) := by rw [upd_ne npt]; exact e15 _ _ f14
  refine q_app (v := .str (T [])) f15 (ev_var rfl) ev_c (by rw [RL_len]; omega) fun H16 e16 => ?_
  have e016 := (e015.trans e16).mut (o := .lst (RL (partsR (sds l)) ++ [.str (T [])])) hpf
  have kp3 : ∀ (b : Addr) (o : HO), b ≠ pt → b ≠ pf → H14 b = some o → upd H16 pf (.lst (RL (partsR (sds l)) ++ [.str (T [])])) b = some o := fun b o hb1 hb2 ho => by
    rw [upd_ne hb2]
    exact e16 _ _ (by rw [upd_ne hb1]; exact e15 _ _ ho)
  have g1 := kp3 _ _ n1 n2 c1'
  have g2 := kp3 _ _ n3 n4 c2'
  have g3 := kp3 _ _ n5 n6 hc3s
  change tRet _ _ _ (upd H16 pf (.lst (RL (partsR (sds l)) ++ [.str (T [])])))
  generalize upd H16 pf (.lst (RL (partsR (sds l)) ++ [.str (T [])])) = H17 at *
  refine s_ret (v := .bl true) (fun H18 e18 Q2 q2 => ?_) fun H18 e18 => k H18 (e016.trans e18)
  have s18 := s.mono (e016.trans e18)
  refine (el_pages (K := K) (o := tVar 0) (σ := [some (.ref a), some (.int (room : Int)), some (.ref c3), some (.bl ahead), some (.ref pf), some (.ref pt), none, some (.ref pp), some (.ref pr), u]) (ev_var rfl) s18 hk hr (by omega) hzf) H18 (Ex.refl H18) _ fun d1 H19 hd1 e19 h19 => ?_
  refine (el_partings (K := K) (o := tVar 0) (σ := [some (.ref a), some (.int (room : Int)), some (.ref c3), some (.bl ahead), some (.ref pf), some (.ref pt), none, some (.ref pp), some (.ref pr), u]) (ev_var rfl) (s18.mono e19) hk (by omega) hzf) H19 (Ex.refl H19) _ fun d2 H20 hd2 e20 h20 => ?_
  refine ⟨sz_of (by simp), fun d3 hd3 => ⟨.ref c3, rfl, .list [.list ((RL ((sds l).map pageRow)).map toD), .list ((RL (partsR (sds l))).map toD)], .list [.list ((RL ((sds l).map pageRow)).map toD), .list ((RL (partsR (sds l))).map toD)], ?_, ?_, shaped_two _ _, shaped_two _ _, ?_⟩⟩
  · have ex := Ex.new (o := .lst [.ref d1, .ref d2]) hd3
    exact .lst (sq_of upd_same) (.cons (.lst (sq_of (ex _ _ (e20 _ _ h19))) (dpAll_plain (RL_plain _))) (.cons (.lst (sq_of (ex _ _ h20)) (dpAll_plain (RL_plain _))) .nil))
  · have ex := ((e18.trans e19).trans e20).trans (Ex.new (o := .lst [.ref d1, .ref d2]) hd3)
    exact .lst (sq_of (ex _ _ g3)) (.cons (.lst (sq_of (ex _ _ g1)) (dpAll_plain (RL_plain _))) (.cons (.lst (sq_of (ex _ _ g2)) (dpAll_plain (RL_plain _))) .nil))
  · rw [eqv_same (shaped_two _ _)]
    exact q2 _ ((e19.trans e20).trans (Ex.new hd3))
def N_law : List Str := ["_law_script", "_law_first", "_law_room", "_law_turn", "_law_form", "_law_shelf", "_law_beside", "_law_kept", "_law_others", "_law_cell", "_law_number_here", "_law_row", "_law_one"]
def t_law (K : PySem.W.Frag) : TS :=
  (tSeq (tAsg (tCall (sp__law_cell_at K) [] E0 (tCons (tVar 0) (tCons (tC (.int 0)) tNil))) (gName 1))
    (tSeq (tAsg (tOp rAddI (tC (.int 2)) (tOp rModI (tVar 1) (tC (.int 5)))) (gName 2))
    (tSeq (tIfS (tTest (tOp rEq (tOp rModI (tOp rDivI (tVar 1) (tC (.int 5))) (tC (.int 4))) (tC (.int 1)))) (tAsg (tOp rAddI (tC (.int 2)) (tOp rModI (tOp rDivI (tVar 1) (tC (.int 20))) (tC (.int 19)))) (gName 2)) tNext)
    (tSeq (tAsg (tOp rEq (tOp rModI (tOp rDivI (tVar 1) (tC (.int 400))) (tC (.int 2))) (tC (.int 1))) (gName 3))
    (tSeq (tAsg (tMake0 (He.ga K "Whole")) (gName 4))
    (tSeq (tIfS (tB (tVar 3)) (tAsg (tMake (He.ga K "Turned") (sp_Turned___init__ K) [] E0 (tCons (tMake0 (He.ga K "Whole")) tNil)) (gName 4)) tNext)
    (tSeq (tAsg (tMake (He.ga K "Shelf") (sp_Shelf___init__ K) [] E0 (tCons (tVar 4) (tCons (tVar 2) tNil))) (gName 5))
    (tSeq (tAsg (tMake (He.ga K "Shelf") (sp_Shelf___init__ K) [] E0 (tCons (tVar 4) (tCons (tOp rAddI (tC (.int 2)) (tOp rModI (tVar 2) (tC (.int 4)))) tNil))) (gName 6))
    (tSeq (tAsg (tLst tNil) (gName 7))
    (tSeq (tAsg (tLst tNil) (gName 8))
    (tSeq (tFor (iList K (tSl (rSlL K) (tVar 0) tNoPart (tPart (tC (.int 24))))) (gName 9)
    (tSeq (tFor (iList K (tLst (tCons (tCall (sp__law_number K) [] E0 (tCons (tVar 9) tNil)) (tCons (tCall (sp__law_number K) [] E0 (tCons (tOp rAddI (tOp rDivI (tVar 9) (tC (.int 48))) (tC (.int 4))) tNil)) tNil)))) (gName 10)
    (tSeq (tAsg (tCall (sp_whole_row K) [] E0 (tCons (tVar 10) tNil)) (gName 11))
    (tSeq (tIfS (tB (tVar 3)) (tAsg (tCall (sp_turned_row K) [] E0 (tCons (tVar 11) tNil)) (gName 11)) tNext)
    (tIfS (tTest (tOp rGtI (tOp rModI (tVar 9) (tC (.int 4))) (tC (.int 0)))) (tSeq (tDrop (tMeth (He.ga K "Shelf") "put" (sp_Shelf_put K) [] E0 (tVar 5) (tCons (tVar 10) tNil)))
    (tIfS (tTest (tOp (rIn K true) (tVar 11) (tVar 7))) (tDrop (tBM K "list" rAppend (tVar 7) (tCons (tVar 11) tNil))) tNext)) (tSeq (tDrop (tMeth (He.ga K "Shelf") "take" (sp_Shelf_take K) [] E0 (tVar 5) (tCons (tVar 10) tNil)))
    (tAsg (tLc (iList K (tVar 7)) (gName 12) (tTest (tOp rNe (tVar 12) (tVar 11))) (tVar 12) [12]) (gName 7)))))))
    (tSeq (tAsg (tCall (sp__law_number K) [] E0 (tCons (tOp rDivI (tVar 9) (tC (.int 7))) tNil)) (gName 10))
    (tSeq (tAsg (tCall (sp_whole_row K) [] E0 (tCons (tVar 10) tNil)) (gName 11))
    (tSeq (tIfS (tB (tVar 3)) (tAsg (tCall (sp_turned_row K) [] E0 (tCons (tVar 11) tNil)) (gName 11)) tNext)
    (tSeq (tDrop (tMeth (He.ga K "Shelf") "put" (sp_Shelf_put K) [] E0 (tVar 6) (tCons (tVar 10) tNil)))
    (tSeq (tIfS (tTest (tOp (rIn K true) (tVar 11) (tVar 8))) (tDrop (tBM K "list" rAppend (tVar 8) (tCons (tVar 11) tNil))) tNext)
    (tIfS (tNot (tB (tCall (sp__law_pages K) [] E0 (tCons (tVar 5) (tCons (tVar 2) (tCons (tVar 7) (tCons (tOp rEq (tOp rModI (tOp rDivI (tVar 9) (tC (.int 5))) (tC (.int 2))) (tC (.int 1))) tNil))))))) (tRet (tC (.bl false))) tNext))))))))
    (tSeq (tIfS (tNot (tB (tCall (sp__law_pages K) [] E0 (tCons (tVar 6) (tCons (tOp rAddI (tC (.int 2)) (tOp rModI (tVar 2) (tC (.int 4)))) (tCons (tVar 8) (tCons (tOp rEq (tOp rModI (tVar 1) (tC (.int 2))) (tC (.int 0))) tNil))))))) (tRet (tC (.bl false))) tNext)
    (tRet (tCall (sp__law_pages K) [] E0 (tCons (tVar 5) (tCons (tVar 2) (tCons (tVar 7) (tCons (tOp rEq (tOp rModI (tVar 1) (tC (.int 2))) (tC (.int 1))) tNil))))))))))))))))))
def sp_law (K : PySem.W.Frag) : Sp := lawSp K
theorem len_law {K : PySem.W.Frag} {vs H Q E} (h : sp_law K vs H Q E) : vs.length = 1 := lawSp_len h
/-- a shelf of the law, and the list of the rows that are there -/
structure ShD where
  a : Addr
  q : Addr
  kp : Addr
  room : Nat
  l : List (Addr × List Rw)
  kept : List Rw
structure Sd (K : PySem.W.Frag) (H0 H : Hp) (fm : V) (x : ShD) : Prop where
  s : ShI K H x.a fm x.room x.q x.l
  k : Kept x.room (sds x.l)
  n : ∀ b, Own x.q x.l b → H0 b = none
  kh : H x.kp = some (.lst (RL x.kept))
  kn : H0 x.kp = none
  ko : ¬ Own x.q x.l x.kp
def Ap (x y : ShD) : Prop := (∀ b, Own x.q x.l b → ¬ Own y.q y.l b) ∧ ¬ Own y.q y.l x.kp ∧ ¬ Own x.q x.l y.kp ∧ x.kp ≠ y.kp
structure Wd (K : PySem.W.Frag) (H0 H : Hp) (fm : V) (turn : Bool) (Cs : List (Addr × List V)) (x y : ShD) : Prop where
  base : Ex H0 H
  fmv : FrmV K H fm turn
  sx : Sd K H0 H fm x
  sy : Sd K H0 H fm y
  ap : Ap x y
  far : ∀ c ∈ Cs, H c.1 = some (.lst c.2) ∧ ¬ Own x.q x.l c.1 ∧ ¬ Own y.q y.l c.1 ∧ c.1 ≠ x.kp ∧ c.1 ≠ y.kp
theorem Wd.swap {K : PySem.W.Frag} {H0 H : Hp} {fm : V} {turn : Bool} {Cs : List (Addr × List V)} {x y : ShD} (w : Wd K H0 H fm turn Cs x y) : Wd K H0 H fm turn Cs y x :=
  ⟨w.base, w.fmv, w.sy, w.sx, ⟨fun b h1 h2 => w.ap.1 b h2 h1, w.ap.2.2.1, w.ap.2.1, Ne.symm w.ap.2.2.2⟩, fun c hc => by obtain ⟨h1, h2, h3, h4, h5⟩ := w.far c hc; exact ⟨h1, h3, h2, h5, h4⟩⟩
theorem Sd.mono {K : PySem.W.Frag} {H0 H H' : Hp} {fm : V} {x : ShD} (e : Ex H H') (d : Sd K H0 H fm x) : Sd K H0 H' fm x := ⟨d.s.mono e, d.k, d.n, e _ _ d.kh, d.kn, d.ko⟩
theorem Wd.mono {K : PySem.W.Frag} {H0 H H' : Hp} {fm : V} {turn : Bool} {Cs : List (Addr × List V)} {x y : ShD} (e : Ex H H') (w : Wd K H0 H fm turn Cs x y) : Wd K H0 H' fm turn Cs x y :=
  ⟨w.base.trans e, w.fmv.mono (.of e), w.sx.mono e, w.sy.mono e, w.ap, fun c hc => ⟨e _ _ (w.far c hc).1, (w.far c hc).2⟩⟩
theorem ShI.far {K : PySem.W.Frag} {H H' : Hp} {a : Addr} {fm : V} {room : Nat} {q2 : Addr} {l2 : List (Addr × List Rw)} (s2 : ShI K H a fm room q2 l2) (hi : InK H H') (hk : ∀ b o, Own q2 l2 b → H b = some o → H' b = some o) : ShI K H' a fm room q2 l2 := by
  obtain ⟨⟨dx, h1⟩, h2, h3, h4⟩ := s2
  exact ⟨⟨dx, hi _ _ _ _ h1⟩, hk _ _ (.inl rfl) h2, fun e he => ⟨hk _ _ (.inr ⟨e, he, rfl⟩) (h3 e he).1, (h3 e he).2⟩, h4⟩
theorem ExO.ins {K : PySem.W.Frag} {H H' : Hp} {a : Addr} {fm : V} {room : Nat} {q : Addr} {l : List (Addr × List Rw)} (s : ShI K H a fm room q l) (h : ExO q l H H') : InK H H' := fun b C dx fs hb => h b _ (fun z => by
  rcases z with rfl | ⟨e, he, rfl⟩
  · rw [s.st] at hb; cases hb
  · rw [(s.els e he).1] at hb; cases hb) hb
theorem none_base {H0 H : Hp} {b : Addr} (e : Ex H0 H) (h : H b = none) : H0 b = none := fresh_back e h
/-- a deed on the first shelf -/
theorem Wd.deed {K : PySem.W.Frag} {H0 H H' : Hp} {fm : V} {turn : Bool} {Cs : List (Addr × List V)} {x y : ShD} {l' : List (Addr × List Rw)} (w : Wd K H0 H fm turn Cs x y) (s : ShI K H' x.a fm x.room x.q l') (k : Kept x.room (sds l')) (ho : ExO x.q x.l H H') (hn : NewO x.q x.l l' H) : Wd K H0 H' fm turn Cs { x with l := l' } y := by
  have hin := ExO.ins w.sx.s ho
  have own : ∀ b, Own x.q l' b → Own x.q x.l b ∨ H b = none := fun b hb => by
    rcases hb with rfl | ⟨e, he, rfl⟩
    · exact .inl (.inl rfl)
    · exact hn e he
  have not : ∀ b o, H b = some o → ¬ Own x.q x.l b → ¬ Own x.q l' b := fun b o hb h1 h2 => by
    rcases own b h2 with h | h
    · exact h1 h
    · rw [h] at hb; cases hb
  refine ⟨fun b o hb => ho b o (fun z => by rw [w.sx.n b z] at hb; cases hb) (w.base b o hb), w.fmv.mono hin, ⟨s, k, fun b hb => ?_, ho _ _ w.sx.ko w.sx.kh, w.sx.kn, not _ _ w.sx.kh w.sx.ko⟩, ⟨w.sy.s.far hin fun b o h1 h2 => ho b o (fun z => w.ap.1 b z h1) h2, w.sy.k, w.sy.n, ho _ _ w.ap.2.2.1 w.sy.kh, w.sy.kn, w.sy.ko⟩, ⟨fun b h1 h2 => ?_, w.ap.2.1, not _ _ w.sy.kh w.ap.2.2.1, w.ap.2.2.2⟩, fun c hc => ?_⟩
  · rcases own b hb with h | h
    · exact w.sx.n b h
    · exact none_base w.base h
  · have h1 : Own x.q l' b := h1
    rcases own b h1 with h | h
    · exact w.ap.1 b h h2
    · rcases h2 with rfl | ⟨e, he, rfl⟩
      · rw [w.sy.s.st] at h; cases h
      · rw [(w.sy.s.els e he).1] at h; cases h
  · obtain ⟨h1, h2, h3, h4, h5⟩ := w.far c hc
    exact ⟨ho _ _ h2 h1, not _ _ h1 h2, h3, h4, h5⟩
/-- a row more in the list beside it -/
theorem Wd.more {K : PySem.W.Frag} {H0 H : Hp} {fm : V} {turn : Bool} {Cs : List (Addr × List V)} {x y : ShD} {row : Rw} (w : Wd K H0 H fm turn Cs x y) : Wd K H0 (upd H x.kp (.lst (RL x.kept ++ [.str (T (R row))]))) fm turn Cs { x with kept := x.kept ++ [row] } y := by
  have hk : ∀ b o, b ≠ x.kp → H b = some o → upd H x.kp (.lst (RL x.kept ++ [.str (T (R row))])) b = some o := fun b o hb ho => by rw [upd_ne hb]; exact ho
  have hin : InK H (upd H x.kp (.lst (RL x.kept ++ [.str (T (R row))]))) := fun b C dx fs hb => hk b _ (fun z => by rw [z, w.sx.kh] at hb; cases hb) hb
  refine ⟨fun b o hb => hk b o (fun z => by rw [z, w.sx.kn] at hb; cases hb) (w.base b o hb), w.fmv.mono hin, ⟨w.sx.s.far hin fun b o h1 h2 => hk b o (fun z => w.sx.ko (by rw [← z]; exact h1)) h2, w.sx.k, w.sx.n, ?_, w.sx.kn, w.sx.ko⟩, ⟨w.sy.s.far hin fun b o h1 h2 => hk b o (fun z => w.ap.2.1 (by rw [← z]; exact h1)) h2, w.sy.k, w.sy.n, hk _ _ (Ne.symm w.ap.2.2.2) w.sy.kh, w.sy.kn, w.sy.ko⟩, w.ap, fun c hc => ?_⟩
  · show upd _ _ _ _ = _
    rw [upd_same]
    unfold RL
    rw [List.map_append]
    rfl
  · obtain ⟨h1, h2, h3, h4, h5⟩ := w.far c hc
    exact ⟨hk _ _ h4 h1, h2, h3, h4, h5⟩
/-- a new list beside it -/
theorem Wd.anew {K : PySem.W.Frag} {H0 H : Hp} {fm : V} {turn : Bool} {Cs : List (Addr × List V)} {x y : ShD} {kp : Addr} {kept : List Rw} {H' : Hp} (w : Wd K H0 H fm turn Cs x y) (e : Ex H H') (hn : H kp = none) (hk : H' kp = some (.lst (RL kept))) : Wd K H0 H' fm turn Cs { x with kp := kp, kept := kept } y := by
  have w2 := w.mono e
  have nx : ¬ Own x.q x.l kp := fun z => by
    rcases z with rfl | ⟨e, he, rfl⟩
    · rw [w.sx.s.st] at hn; cases hn
    · rw [(w.sx.s.els e he).1] at hn; cases hn
  have ny : ¬ Own y.q y.l kp := fun z => by
    rcases z with rfl | ⟨e, he, rfl⟩
    · rw [w.sy.s.st] at hn; cases hn
    · rw [(w.sy.s.els e he).1] at hn; cases hn
  refine ⟨w2.base, w2.fmv, ⟨w2.sx.s, w2.sx.k, w2.sx.n, hk, none_base w.base hn, nx⟩, w2.sy, ⟨w.ap.1, ny, w.ap.2.2.1, fun z => by have h := w.sy.kh; rw [← z] at h; have hn : H kp = none := hn; rw [hn] at h; cases h⟩, fun c hc => ?_⟩
  obtain ⟨h1, h2, h3, h4, h5⟩ := w2.far c hc
  exact ⟨h1, h2, h3, (fun z => by have h := (w.far c hc).1; rw [z] at h; have hn : H kp = none := hn; rw [hn] at h; cases h), h5⟩
/-- a new list guarded -/
theorem Wd.guard {K : PySem.W.Frag} {H0 H H' : Hp} {fm : V} {turn : Bool} {Cs : List (Addr × List V)} {x y : ShD} {c : Addr} {v : List V} (w : Wd K H0 H fm turn Cs x y) (e : Ex H H') (hn : H c = none) (hc : H' c = some (.lst v)) : Wd K H0 H' fm turn ((c, v) :: Cs) x y := by
  have w2 := w.mono e
  refine ⟨w2.base, w2.fmv, w2.sx, w2.sy, w2.ap, fun d hd => ?_⟩
  rcases List.mem_cons.mp hd with rfl | hd
  · have no : ∀ z : ShD, Sd K H0 H fm z → ¬ Own z.q z.l c ∧ c ≠ z.kp := fun z hz => by
      refine ⟨fun o => ?_, fun o => by rw [o, hz.kh] at hn; cases hn⟩
      rcases o with rfl | ⟨e, he, rfl⟩
      · rw [hz.s.st] at hn; cases hn
      · rw [(hz.s.els e he).1] at hn; cases hn
    exact ⟨hc, (no x w.sx).1, (no y w.sy).1, (no x w.sx).2, (no y w.sy).2⟩
  · exact w2.far d hd
theorem Wd.less {K : PySem.W.Frag} {H0 H : Hp} {fm : V} {turn : Bool} {Cs : List (Addr × List V)} {x y : ShD} {c : Addr × List V} (w : Wd K H0 H fm turn (c :: Cs) x y) : Wd K H0 H fm turn Cs x y := ⟨w.base, w.fmv, w.sx, w.sy, w.ap, fun d hd => w.far d (List.mem_cons_of_mem _ hd)⟩
/-- the list tells the rows that are there -/
def Rel (m : Nat) (x : ShD) : Prop := x.kept.Nodup ∧ (∀ r, r ∈ (sds x.l).flatten ↔ r ∈ x.kept) ∧ (∀ r ∈ x.kept, r.length ≤ 301) ∧ x.kept.length ≤ m
theorem Rel.len {m : Nat} {x : ShD} (h : Rel m x) (hk : Kept x.room (sds x.l)) : (sds x.l).flatten.length ≤ m := by
  rw [asc_ext hk.asc (asc_sort h.1) fun r => by rw [mem_sortR]; exact h.2.1 r, len_sortR]
  exact h.2.2.2
theorem u__law_pages {K : PySem.W.Frag} {H0 H : Hp} {fm : V} {x : ShD} {m : Nat} {ahead : Bool} (d : Sd K H0 H fm x) (r : Rel m x) (hm : m ≤ 500) (hr : x.room ≤ 20) : SpV (sp__law_pages K) [.ref x.a, .int (x.room : Int), .ref x.kp, .bl ahead] H (.bl true) := fun H1 e Q q E =>
  ⟨x.a, x.kp, fm, x.room, x.q, x.l, x.kept, ahead, rfl, d.s.mono e, d.k, hr, e _ _ d.kh, r.1, by have := r.2.2.2; omega, r.2.1, r.2.2.1, q⟩
theorem q_forM {K : PySem.W.Frag} {σ : L2.St} {H : Hp} {D : Ends} {tu tz : TS} {tl : TE} {j : Nat} {P : List V → Prop} (h : EvM tl σ H P) (k : ∀ xs p H1, P xs → H p = none → Ex H H1 → H1 p = some (.lst xs) → tSeq (tFor (iList K (tC (.ref p))) (gName j) tu) tz D σ H1) : tSeq (tFor (iList K tl) (gName j) tu) tz D σ H :=
  h H (Ex.refl H) _ fun xs p H1 hP hp e1 h1 => k xs p H1 hP hp e1 h1
theorem seq_assoc {a b c : TS} {D : Ends} {σ : L2.St} {H : Hp} (h : tSeq (tSeq a b) c D σ H) : tSeq a (tSeq b c) D σ H := h
theorem em_twoN {σ : L2.St} {H : Hp} {ta tb : TE} {P : V → Prop} (ha : EvW ta σ H P) (hb : ∀ H1, Ex H H1 → EvW tb σ H1 P) : EvM (tLst (tCons ta (tCons tb tNil))) σ H (fun xs => ∃ x y, xs = [x, y] ∧ P x ∧ P y) := fun H1 e Q q =>
  ha H1 e _ fun x H2 hx e2 => hb H2 (e.trans e2) H2 (Ex.refl H2) _ fun y H3 hy e3 => ⟨sz_of (by simp), fun p hp => q _ p _ ⟨x, y, rfl, hx, hy⟩ (fresh_back (e2.trans e3) hp) ((e2.trans e3).trans (Ex.new hp)) upd_same⟩
theorem rd_law {K : PySem.W.Frag} (vs : List V) (H : Hp) (Q : VK) (E : XK) (h : sp_law K vs H Q E) : t_law K { nx := fun _ H' => Q .non H', rt := Q } (start N_law vs) H := by
  obtain ⟨a, ns, rfl, hs, hl, _, q⟩ := h
  have dv : ∀ (n j : Int), 0 < j → j.natAbs < 2 ^ 20 → CDivW n j := fun n j h0 h1 => wide_div (b := 20) h0 h1 (by decide) (by decide)
  -- a number put, and its row kept
  have doPut : ∀ (i j : Nat) (σ : L2.St) (H1 : Hp) (fm : V) (turn : Bool) (Cs : List (Addr × List V)) (x y : ShD) (n : Int) (m : Nat) (D : Ends), σ[i]? = some (some (.ref x.a)) → σ[j]? = some (some (.ref x.kp)) → σ[10]? = some (some (.int n)) → σ[11]? = some (some (.str (T (R (rowW turn n))))) → SmN n → 2 ≤ x.room → x.room ≤ 20 → m ≤ 400 → Wd K H H1 fm turn Cs x y → Rel m x →
      (∀ H2 x2, x2.a = x.a → x2.q = x.q → x2.room = x.room → x2.kp = x.kp → Wd K H H2 fm turn Cs x2 y → Rel (m + 1) x2 → D.nx σ H2) →
      tSeq (tDrop (tMeth (He.ga K "Shelf") "put" (sp_Shelf_put K) [] E0 (tVar i) (tCons (tVar 10) tNil)))
        (tIfS (tTest (tOp (rIn K true) (tVar 11) (tVar j))) (tDrop (tBM K "list" rAppend (tVar j) (tCons (tVar 11) tNil))) tNext) D σ H1 := by
    intro i j σ H1 fm turn Cs x y n m D g1 g2 g3 g4 hn r0 r1 hm w rel k
    obtain ⟨dx, hobj⟩ := w.sx.s.obj
    have rl := rel.len w.sx.k
    have hrow := rowW_len (turn := turn) hn
    refine go_meth (Q := fun _ H' => tIfS (tTest (tOp (rIn K true) (tVar 11) (tVar j))) (tDrop (tBM K "list" rAppend (tVar j) (tCons (tVar 11) tNil))) tNext D σ H') (ev_var g1) hobj rfl (fun H2 e2 => ea_cons (ev_var g3) ea_nil) fun H2 e2 => ?_
    have w2 := w.mono e2
    refine ⟨x.a, n, fm, x.room, x.q, x.l, turn, rfl, w2.sx.s, w2.fmv, hn, r0, r1, w2.sx.k, by omega, fun b H3 l' s3 k3 m3 ho3 hn3 => ?_⟩
    have w3 := w2.deed s3 k3 ho3 hn3
    obtain ⟨nd, hmem, hz, hkl⟩ := rel
    refine s_when (et_test (ev_niRL (ev_var g4) (ev_var g2) (sq_of w3.sx.kh))) (fun hb H4 e4 => ?_) (fun hb H4 e4 => ?_)
    · have hni : rowW turn n ∉ x.kept := by simpa using hb
      have w4 := w3.mono e4
      refine s_app (v := .str (T (R (rowW turn n)))) w4.sx.kh (ev_var g2) (ev_var g4) (by rw [RL_len]; show x.kept.length < _; omega) fun H5 e5 => k _ { x with l := l', kept := x.kept ++ [rowW turn n] } rfl rfl rfl rfl (w4.mono e5).more ⟨?_, fun r => ?_, fun r hr => ?_, by show (x.kept ++ _).length ≤ _; rw [List.length_append]; simp; omega⟩
      · show (x.kept ++ [rowW turn n]).Nodup
        rw [List.nodup_append]
        refine ⟨nd, by simp, fun a ha b hb z => ?_⟩
        rw [List.mem_singleton.mp hb] at z
        exact hni (by rw [← z]; exact ha)
      · show r ∈ (sds l').flatten ↔ r ∈ x.kept ++ [rowW turn n]
        rw [m3 r, hmem r]
        simp
      · have hr : r ∈ x.kept ++ [rowW turn n] := hr
        rcases List.mem_append.mp hr with hr | hr
        · exact hz r hr
        · rw [List.mem_singleton.mp hr]; exact hrow
    · have hin : rowW turn n ∈ x.kept := by simpa using hb
      refine k H4 { x with l := l' } rfl rfl rfl rfl (w3.mono e4) ⟨nd, fun r => ?_, hz, by show x.kept.length ≤ _; omega⟩
      show r ∈ (sds l').flatten ↔ r ∈ x.kept
      rw [m3 r, hmem r]
      exact ⟨fun z => z.elim id (fun z => by rw [z]; exact hin), .inl⟩
  -- a number's row
  have doRow : ∀ (σ : L2.St) (H1 : Hp) (turn : Bool) (n : Int) (D : Ends) (tz : TS), σ[3]? = some (some (.bl turn)) → σ[10]? = some (some (.int n)) → 11 < σ.length → SmN n → (∀ H2, Ex H1 H2 → tz D (σ.set 11 (some (.str (T (R (rowW turn n)))))) H2) →
      tSeq (tAsg (tCall (sp_whole_row K) [] E0 (tCons (tVar 10) tNil)) (gName 11)) (tSeq (tIfS (tB (tVar 3)) (tAsg (tCall (sp_turned_row K) [] E0 (tCons (tVar 11) tNil)) (gName 11)) tNext) tz) D σ H1 := by
    intro σ H1 turn n D tz g3 g10 g11 hn k
    have hwl := wholeRow_len hn.ok
    refine q_asg (ev_call (ea_cons (ev_var g10) ea_nil) (u_whole_row hn.ok)) fun H2 e2 => ?_
    have g3' : (σ.set 11 (some (V.str (T (R (wholeRow n))))))[3]? = some (some (.bl turn)) := by rw [List.getElem?_set_ne (by decide)]; exact g3
    have g11' : (σ.set 11 (some (V.str (T (R (wholeRow n))))))[11]? = some (some (.str (T (R (wholeRow n))))) := List.getElem?_set_self g11
    refine q_cond (fun σ' H' => Ex H1 H' ∧ σ' = σ.set 11 (some (.str (T (R (rowW turn n)))))) (fun M hM => ?_) (fun σ' H' hP => by obtain ⟨e, rfl⟩ := hP; exact k H' e)
    refine s_when (et_B (ev_var g3')) (fun hb H3 e3 => ?_) (fun hb H3 e3 => ?_)
    · subst hb
      exact s_asg (ev_call (ea_cons (ev_var g11') ea_nil) (u_turned_row (by omega))) fun H4 e4 => hM _ _ ⟨(e2.trans e3).trans e4, by rw [List.set_set]; rfl⟩
    · subst hb
      exact hM _ _ ⟨e2.trans e3, rfl⟩
  have cell0 : ∀ (σ : L2.St) (H0 : Hp), Ex H H0 → σ[0]? = some (some (.ref a)) → Ev (tCall (sp__law_cell_at K) [] E0 (tCons (tVar 0) (tCons (tC (.int 0)) tNil))) σ H0 (.int (cellAt ns 0)) := fun σ H0 e h0 => ev_call (ea_cons (ev_var h0) (ea_cons ev_c ea_nil)) (u__law_cell_at (ex_l e hs) (by decide))
  refine q_asg (cell0 _ _ (Ex.refl H) rfl) fun H1 e1 => ?_
  generalize cellAt ns 0 = first
  have m0 := Int.emod_nonneg first (show (5 : Int) ≠ 0 by decide)
  have m1 := Int.emod_lt_of_pos first (show (0 : Int) < 5 by decide)
  have k0 := Int.emod_nonneg (first / 20) (show (19 : Int) ≠ 0 by decide)
  have k1 := Int.emod_lt_of_pos (first / 20) (show (0 : Int) < 19 by decide)
  refine q_asg (ev_addI ev_c (ev_modI (ev_var rfl) ev_c (by decide))) fun H2 e2 => ?_
  have e02 := e1.trans e2
  refine q_cond (fun σ' H' => Ex H H' ∧ ∃ room : Nat, 2 ≤ room ∧ room ≤ 20 ∧ σ' = [some (.ref a), some (.int first), some (.int (room : Int)), none, none, none, none, none, none, none, none, none, none]) (fun M hM => ?_) (fun σ' H3 hP => ?_)
  · refine s_when (et_test (ev_eqI (ev_modI (ev_divI (ev_var rfl) ev_c (dv _ _ (by decide) (by decide))) ev_c (by decide)) ev_c)) (fun _ H3 e3 => ?_) (fun _ H3 e3 => hM _ _ ⟨e02.trans e3, (2 + first % 5).toNat, by omega, by omega, by rw [Int.toNat_of_nonneg (by omega)]; rfl⟩)
    exact s_asg (ev_addI ev_c (ev_modI (ev_divI (ev_var rfl) ev_c (dv _ _ (by decide) (by decide))) ev_c (by decide))) fun H4 e4 => hM _ _ ⟨(e02.trans e3).trans e4, (2 + first / 20 % 19).toNat, by omega, by omega, by rw [Int.toNat_of_nonneg (by omega)]; rfl⟩
  obtain ⟨e3, room, r0, r1, rfl⟩ := hP
  refine q_asg (ev_eqI (ev_modI (ev_divI (ev_var rfl) ev_c (dv _ _ (by decide) (by decide))) ev_c (by decide)) ev_c) fun H4 e4 => ?_
  generalize decide (first / 400 % 2 = 1) = turn
  refine q_whole fun fm0 H5 e5 hf5 => ?_
  have e05 := (e3.trans e4).trans e5
  refine q_cond (fun σ' H' => Ex H H' ∧ ∃ fm, FrmV K H' fm turn ∧ σ' = [some (.ref a), some (.int first), some (.int (room : Int)), some (.bl turn), some fm, none, none, none, none, none, none, none, none]) (fun M hM => ?_) (fun σ' H6 hP => ?_)
  · refine s_when (et_B (ev_var rfl)) (fun hb H6 e6 => ?_) (fun hb H6 e6 => ?_)
    · subst hb
      exact q_turned fun fm H7 e7 hf7 => hM _ _ ⟨(e05.trans e6).trans e7, fm, hf7, rfl⟩
    · subst hb
      exact hM _ _ ⟨e05.trans e6, fm0, hf5.mono (.of e6), rfl⟩
  obtain ⟨e6, fm, hf6, rfl⟩ := hP
  refine q_shelf (room := room) (ea_cons (ev_var rfl) (ea_cons (ev_var rfl) ea_nil)) r0 r1 fun a1 q1 H7 e7 hq1 s7 => ?_
  have hr2 : (2 : Int) + (room : Int) % 4 = ((2 + room % 4 : Nat) : Int) := by omega
  have room2 : ∀ (σ : L2.St) (H0 : Hp), σ[2]? = some (some (.int (room : Int))) → Ev (tOp rAddI (tC (.int 2)) (tOp rModI (tVar 2) (tC (.int 4)))) σ H0 (.int ((2 + room % 4 : Nat) : Int)) := fun σ H0 h2 => ev_is (ev_addI ev_c (ev_modI (ev_var h2) ev_c (by decide))) (congrArg V.int hr2)
  refine q_shelf (room := 2 + room % 4) (ea_cons (ev_var rfl) (ea_cons (room2 _ _ rfl) ea_nil)) (by omega) (by omega) fun a2 q2 H8 e8 hq2 s8 => ?_
  refine q_asgL (xs := RL []) (el_lst ea_nil (by decide)) fun kp1 H9 hk1 e9 h9 => ?_
  refine q_asgL (xs := RL []) (el_lst ea_nil (by decide)) fun kp2 H10 hk2 e10 h10 => ?_
  have e010 := (((e6.trans e7).trans e8).trans e9).trans e10
  have kepty : ∀ r, Kept r [] := fun r => ⟨(fun s hs => by cases hs), trivial, (fun j _ hj => by simp at hj)⟩
  have own0 : ∀ (q b : Addr), Own q [] b → b = q := fun q b h => by
    rcases h with h | ⟨e, he, _⟩
    · exact h
    · cases he
  have w10 : Wd K H H10 fm turn [] ⟨a1, q1, kp1, room, [], []⟩ ⟨a2, q2, kp2, 2 + room % 4, [], []⟩ := by
    have h1q := ((e8.trans e9).trans e10) _ _ s7.st
    refine ⟨e010, hf6.mono (.of (((e7.trans e8).trans e9).trans e10)), ⟨s7.mono ((e8.trans e9).trans e10), kepty _, fun b hb => by rw [own0 _ _ hb]; exact fresh_back e6 hq1, e10 _ _ h9, fresh_back ((e6.trans e7).trans e8) hk1, fun z => ?_⟩, ⟨s8.mono (e9.trans e10), kepty _, fun b hb => by rw [own0 _ _ hb]; exact fresh_back (e6.trans e7) hq2, h10, fresh_back (((e6.trans e7).trans e8).trans e9) hk2, fun z => ?_⟩, ⟨fun b h1 h2 => ?_, fun z => ?_, fun z => ?_, fun z => ?_⟩, fun c hc => by cases hc⟩
    · have z : kp1 = q1 := own0 _ _ z
      have := e8 _ _ s7.st
      rw [← z, hk1] at this
      cases this
    · have z : kp2 = q2 := own0 _ _ z
      have := e9 _ _ s8.st
      rw [← z, hk2] at this
      cases this
    · have z1 : b = q1 := own0 _ _ h1
      have z2 : b = q2 := own0 _ _ h2
      have := s7.st
      rw [← z1, z2, hq2] at this
      cases this
    · have z : kp1 = q2 := own0 _ _ z
      have := s8.st
      rw [← z, hk1] at this
      cases this
    · have z : kp2 = q1 := own0 _ _ z
      have := (e8.trans e9) _ _ s7.st
      rw [← z, hk2] at this
      cases this
    · have z : kp1 = kp2 := z
      rw [← z, h9] at hk2
      cases hk2
  have rel0 : ∀ (a q kp : Addr) (r : Nat), Rel 0 ⟨a, q, kp, r, [], []⟩ := fun a q kp r => ⟨List.nodup_nil, fun r => by simp [sds], (fun r hr => by cases hr), Nat.le_refl _⟩
  obtain ⟨ms, hms, hml, _⟩ := cut_intsN ns none (some 24)
  have hsl := el_sl (K := K) (te := tVar 0) (σ := [some (.ref a), some (.int first), some (.int (room : Int)), some (.bl turn), some fm, some (.ref a1), some (.ref a2), some (.ref kp1), some (.ref kp2), none, none, none, none]) (ev_var rfl) eo_none (eo_some (ev_c (v := .int ((24 : Nat) : Int)))) (ex_l e010 hs)
  have hm24 : ms.length ≤ 24 := by
    have h1 := cut_lenN (ns := ns) 24
    have h2 := congrArg List.length hms
    rw [List.length_map] at h2
    have h3 : (cutV (ns.map V.int) none (some ((24 : Nat) : Int))).length = ms.length := h2
    rw [h3] at h1
    omega
  rw [show cutV (ns.map V.int) none (some ((24 : Nat) : Int)) = ms.map V.int from hms] at hsl
  refine q_forNLn hsl (fun c i σ' H' => ∃ (x y : ShD) (u9 u10 u11 : Option V), σ' = [some (.ref a), some (.int first), some (.int (room : Int)), some (.bl turn), some fm, some (.ref x.a), some (.ref y.a), some (.ref x.kp), some (.ref y.kp), u9, u10, u11, none] ∧ x.room = room ∧ y.room = 2 + room % 4 ∧ Wd K H H' fm turn [(c, ms.map V.int)] x y ∧ Rel (2 * i) x ∧ Rel i y)
    (fun c H11 hc e11 h11 => ⟨_, _, none, none, none, rfl, rfl, rfl, w10.guard e11 hc h11, rel0 _ _ _ _, rel0 _ _ _ _⟩) (fun c i σ' H' _ hP => by obtain ⟨x, y, _, _, _, _, _, _, w, _⟩ := hP; exact sq_of (w.far _ (List.mem_cons_self ..)).1) (fun c i z σ' H' hz hP => ?_) (fun c σ' H' hP => ?_)
  · obtain ⟨x, y, u9, u10, u11, rfl, hxr, hyr, w, rx, ry⟩ := hP
    have hi := (List.getElem?_eq_some_iff.mp hz).1
    rw [List.length_map] at hi
    rw [List.getElem?_map, List.getElem?_eq_getElem hi] at hz
    obtain rfl := Option.some.inj hz
    generalize ms[i] = cell
    refine q_forM (em_twoN (ew_number (ev_var rfl)) (fun H9 e9 => ew_number (ev_addI (ev_divI (ev_var rfl) ev_c (dv _ _ (by decide) (by decide))) ev_c))) fun xs p H11 hP hp e11 h11 => ?_
    obtain ⟨_, _, rfl, ⟨n1, rfl, hn1⟩, ⟨n2, rfl, hn2⟩⟩ := hP
    refine q_forLn (a := p) (xs := [.int n1, .int n2]) ev_c (sq_of h11) (fun j σ' H' => ∃ (x y : ShD) (u10 u11 : Option V), σ' = [some (.ref a), some (.int first), some (.int (room : Int)), some (.bl turn), some fm, some (.ref x.a), some (.ref y.a), some (.ref x.kp), some (.ref y.kp), some (.int cell), u10, u11, none] ∧ x.room = room ∧ y.room = 2 + room % 4 ∧ Wd K H H' fm turn [(p, [.int n1, .int n2]), (c, ms.map V.int)] x y ∧ Rel (2 * i + j) x ∧ Rel i y)
      (fun H12 e12 => ⟨x, y, u10, u11, rfl, hxr, hyr, (w.guard e11 hp h11).mono e12, rx, ry⟩) (fun j σ' H' _ hP => by obtain ⟨x, y, _, _, _, _, _, w, _⟩ := hP; exact sq_of (w.far _ (List.mem_cons_self ..)).1) (fun j v σ' H12 hv hP => ?_) (fun σ' H12 hP => ?_)
    · obtain ⟨x, y, u10, u11, rfl, hxr, hyr, w, rx, ry⟩ := hP
      have hj : j < 2 := (List.getElem?_eq_some_iff.mp hv).1
      obtain ⟨n, rfl, hn⟩ : ∃ n, v = .int n ∧ SmN n := by
        have : j = 0 ∨ j = 1 := by omega
        rcases this with rfl | rfl
        · exact ⟨n1, (Option.some.inj hv).symm, hn1⟩
        · exact ⟨n2, (Option.some.inj hv).symm, hn2⟩
      refine doRow _ _ turn n _ _ rfl rfl (by simp) hn fun H13 e13 => ?_
      have w13 := w.mono e13
      refine s_if (et_test (ev_gtI (ev_modI (ev_var rfl) ev_c (by decide)) ev_c)) (fun _ H14 e14 => ?_) (fun _ H14 e14 => ?_)
      · refine doPut 5 7 _ H14 fm turn _ x y n (2 * i + j) _ rfl rfl rfl rfl hn (by omega) (by omega) (by omega) (w13.mono e14) rx fun H15 x2 h1 h2 h3 h4 w15 r15 => ⟨x2, y, some (.int n), some (.str (T (R (rowW turn n)))), (by rw [h1, h4]; rfl), by omega, hyr, w15, r15, ry⟩
      · have w14 := w13.mono e14
        obtain ⟨dx, hobj⟩ := w14.sx.s.obj
        have rl := rx.len w14.sx.k
        refine go_meth (Q := fun _ H' => tAsg (tLc (iList K (tVar 7)) (gName 12) (tTest (tOp rNe (tVar 12) (tVar 11))) (tVar 12) [12]) (gName 7) _ _ H') (ev_var rfl) hobj rfl (fun H15 e15 => ea_cons (ev_var rfl) ea_nil) fun H15 e15 => ?_
        have w15 := w14.mono e15
        refine ⟨x.a, n, fm, x.room, x.q, x.l, turn, rfl, w15.sx.s, w15.fmv, hn, by omega, by omega, w15.sx.k, by omega, fun b H16 l' s16 k16 m16 ho16 hn16 => ?_⟩
        have w16 := w15.deed s16 k16 ho16 hn16
        obtain ⟨nd, hmem, hz, hkl⟩ := rx
        refine s_asgL (el_filt (fun r => !decide (R r = R (rowW turn n))) (ev_var rfl) (sq_of w16.sx.kh) (by show x.kept.length ≤ _; omega) (fun x => rfl) (fun x => rfl) fun r hr H17 e17 => et_test (ev_neT (ev_var rfl) (ev_var rfl))) fun kn H17 hkn e17 h17 => ⟨{ x with l := l', kp := kn, kept := x.kept.filter fun r => !decide (R r = R (rowW turn n)) }, y, _, _, rfl, hxr, hyr, w16.anew e17 hkn h17, ⟨nd.filter _, fun r => ?_, fun r hr => hz r (List.mem_filter.mp hr).1, ?_⟩, ry⟩
        · show r ∈ (sds l').flatten ↔ r ∈ x.kept.filter _
          rw [m16 r, hmem r, List.mem_filter]
          refine and_congr_right fun _ => ?_
          rw [Bool.not_eq_true', decide_eq_false_iff_not]
          exact ⟨fun h z => h (R_inj z), fun h z => h (by rw [z])⟩
        · show (x.kept.filter _).length ≤ _
          exact Nat.le_trans (List.length_filter_le _ _) (by omega)
    · obtain ⟨x, y, u10, u11, rfl, hxr, hyr, w, rx, ry⟩ := hP
      have rx : Rel (2 * i + 2) x := rx
      have w12 := w.less
      refine q_asgW (ew_number (ev_divI (ev_var rfl) ev_c (dv _ _ (by decide) (by decide)))) fun v H13 hv e13 => ?_
      obtain ⟨n, rfl, hn⟩ := hv
      refine doRow _ _ turn n _ _ rfl rfl (by simp) hn fun H14 e14 => ?_
      have w14 := (w12.mono e13).mono e14
      refine seq_assoc ?_
      refine q_cond (fun σ' H' => ∃ (y2 : ShD), σ' = [some (.ref a), some (.int first), some (.int (room : Int)), some (.bl turn), some fm, some (.ref x.a), some (.ref y2.a), some (.ref x.kp), some (.ref y2.kp), some (.int cell), some (.int n), some (.str (T (R (rowW turn n)))), none] ∧ y2.room = 2 + room % 4 ∧ Wd K H H' fm turn [(c, ms.map V.int)] x y2 ∧ Rel (i + 1) y2) (fun M hM => ?_) (fun σ' H15 hP => ?_)
      · refine doPut 6 8 _ H14 fm turn _ y x n i _ rfl rfl rfl rfl hn (by omega) (by omega) (by omega) w14.swap ry fun H15 y2 h1 h2 h3 h4 w15 r15 => hM _ _ ⟨y2, ?_, by omega, w15.swap, r15⟩
        rw [h1, h4]
        rfl
      · obtain ⟨y2, rfl, hyr2, w15, ry2⟩ := hP
        refine s_when (b := false) (et_not (a := true) (et_B (ev_call (ea_cons (ev_var rfl) (ea_cons (ev_var rfl) (ea_cons (ev_var rfl) (ea_cons (ev_eqI (ev_modI (ev_divI (ev_var rfl) ev_c (dv _ _ (by decide) (by decide))) ev_c (by decide)) ev_c) ea_nil)))) (by rw [← hxr]; exact u__law_pages w15.sx rx (by omega) (by omega))))) (fun hf => nomatch hf) (fun _ H16 e16 => ⟨x, y2, _, _, _, rfl, hxr, hyr2, w15.mono e16, rx, ry2⟩)
  · obtain ⟨x, y, u9, u10, u11, rfl, hxr, hyr, w, rx, ry⟩ := hP
    rw [List.length_map] at rx ry
    have pg : ∀ (σ : L2.St) (H0 : Hp) (te : TE) (ahead : Bool), Ex H' H0 → σ[6]? = some (some (.ref y.a)) → σ[8]? = some (some (.ref y.kp)) → σ[2]? = some (some (.int (room : Int))) → Ev te σ H0 (.bl ahead) → Ev (tCall (sp__law_pages K) [] E0 (tCons (tVar 6) (tCons (tOp rAddI (tC (.int 2)) (tOp rModI (tVar 2) (tC (.int 4)))) (tCons (tVar 8) (tCons te tNil))))) σ H0 (.bl true) := fun σ H0 te ahead e g6 g8 g2 ht => ev_call (ea_cons (ev_var g6) (ea_cons (room2 _ _ g2) (ea_cons (ev_var g8) (ea_cons ht ea_nil)))) (by rw [← hyr]; exact u__law_pages (w.mono e).sy ry (by omega) (by omega))
    refine q_when (b := false) (et_not (a := true) (et_B (pg _ _ _ _ (Ex.refl _) rfl rfl rfl (ev_eqI (ev_modI (ev_var rfl) ev_c (by decide)) ev_c)))) (fun hf => nomatch hf) (fun _ H12 e12 => ?_)
    exact s_ret (v := .bl true) (ev_call (ea_cons (ev_var rfl) (ea_cons (ev_var rfl) (ea_cons (ev_var rfl) (ea_cons (ev_eqI (ev_modI (ev_var rfl) ev_c (by decide)) ev_c) ea_nil)))) (by rw [← hxr]; exact u__law_pages (w.mono e12).sx rx (by omega) (by omega))) fun H13 e13 => q H13
/-! ### the text, def by def -/
def topS (i : Nat) : Stmt := PySem.Challenge.pw_keyrise_k72_pages_and_partings.main.body.getD i (.Pass ⟨0, 0, 0, 0⟩)
abbrev s__law_cell_at : Stmt := topS 46
theorem sc__law_cell_at : FnScope N__law_cell_at ["_law_script", "_law_k"] (defScope s__law_cell_at) := ⟨rfl, rfl, rfl, by decide +kernel, rfl, by decide +kernel, by decide +kernel⟩
def d__law_cell_at : He.DefD := ⟨("_law_cell_at", none), "_law_cell_at", "_law_cell_at", defArgs s__law_cell_at, defBody s__law_cell_at, defScope s__law_cell_at, [], []⟩
abbrev s_Turned___init__ : Stmt := inClass (topS 44) 0
theorem sc_Turned___init__ : FnScope N_Turned___init__ ["self", "inner"] (defScope s_Turned___init__) := ⟨rfl, rfl, rfl, by decide +kernel, rfl, by decide +kernel, by decide +kernel⟩
def d_Turned___init__ : He.DefD := ⟨("Turned", some "__init__"), "__init__", "Turned.__init__", defArgs s_Turned___init__, defBody s_Turned___init__, defScope s_Turned___init__, [], []⟩
abbrev s_Shelf___init__ : Stmt := inClass (topS 36) 0
theorem sc_Shelf___init__ : FnScope N_Shelf___init__ ["self", "form", "room"] (defScope s_Shelf___init__) := ⟨rfl, rfl, rfl, by decide +kernel, rfl, by decide +kernel, by decide +kernel⟩
def d_Shelf___init__ : He.DefD := ⟨("Shelf", some "__init__"), "__init__", "Shelf.__init__", defArgs s_Shelf___init__, defBody s_Shelf___init__, defScope s_Shelf___init__, [], []⟩
abbrev s__law_number : Stmt := topS 50
theorem sc__law_number : FnScope N__law_number ["_law_cell"] (defScope s__law_number) := ⟨rfl, rfl, rfl, by decide +kernel, rfl, by decide +kernel, by decide +kernel⟩
def d__law_number : He.DefD := ⟨("_law_number", none), "_law_number", "_law_number", defArgs s__law_number, defBody s__law_number, defScope s__law_number, [], []⟩
abbrev s_digits_of : Stmt := topS 16
theorem sc_digits_of : FnScope N_digits_of ["number", "many"] (defScope s_digits_of) := ⟨rfl, rfl, rfl, by decide +kernel, rfl, by decide +kernel, by decide +kernel⟩
def d_digits_of : He.DefD := ⟨("digits_of", none), "digits_of", "digits_of", defArgs s_digits_of, defBody s_digits_of, defScope s_digits_of, [], []⟩
abbrev s_count_row : Stmt := topS 17
theorem sc_count_row : FnScope N_count_row ["n"] (defScope s_count_row) := ⟨rfl, rfl, rfl, by decide +kernel, rfl, by decide +kernel, by decide +kernel⟩
def d_count_row : He.DefD := ⟨("count_row", none), "count_row", "count_row", defArgs s_count_row, defBody s_count_row, defScope s_count_row, [], []⟩
abbrev s_other_sign : Stmt := topS 9
theorem sc_other_sign : FnScope N_other_sign ["sign"] (defScope s_other_sign) := ⟨rfl, rfl, rfl, by decide +kernel, rfl, by decide +kernel, by decide +kernel⟩
def d_other_sign : He.DefD := ⟨("other_sign", none), "other_sign", "other_sign", defArgs s_other_sign, defBody s_other_sign, defScope s_other_sign, [], []⟩
abbrev s_turned_row : Stmt := topS 15
theorem sc_turned_row : FnScope N_turned_row ["row"] (defScope s_turned_row) := ⟨rfl, rfl, rfl, by decide +kernel, rfl, by decide +kernel, by decide +kernel⟩
def d_turned_row : He.DefD := ⟨("turned_row", none), "turned_row", "turned_row", defArgs s_turned_row, defBody s_turned_row, defScope s_turned_row, [], []⟩
abbrev s_whole_row : Stmt := topS 18
theorem sc_whole_row : FnScope N_whole_row ["n"] (defScope s_whole_row) := ⟨rfl, rfl, rfl, by decide +kernel, rfl, by decide +kernel, by decide +kernel⟩
def d_whole_row : He.DefD := ⟨("whole_row", none), "whole_row", "whole_row", defArgs s_whole_row, defBody s_whole_row, defScope s_whole_row, [], []⟩
abbrev s_has_row : Stmt := topS 40
theorem sc_has_row : FnScope N_has_row ["number"] (defScope s_has_row) := ⟨rfl, rfl, rfl, by decide +kernel, rfl, by decide +kernel, by decide +kernel⟩
def d_has_row : He.DefD := ⟨("has_row", none), "has_row", "has_row", defArgs s_has_row, defBody s_has_row, defScope s_has_row, [], []⟩
abbrev s_is_whole : Stmt := topS 39
theorem sc_is_whole : FnScope N_is_whole ["value"] (defScope s_is_whole) := ⟨rfl, rfl, rfl, by decide +kernel, rfl, by decide +kernel, by decide +kernel⟩
def d_is_whole : He.DefD := ⟨("is_whole", none), "is_whole", "is_whole", defArgs s_is_whole, defBody s_is_whole, defScope s_is_whole, [], []⟩
abbrev s_Whole_fits : Stmt := inClass (topS 42) 0
theorem sc_Whole_fits : FnScope N_Whole_fits ["self", "value"] (defScope s_Whole_fits) := ⟨rfl, rfl, rfl, by decide +kernel, rfl, by decide +kernel, by decide +kernel⟩
def d_Whole_fits : He.DefD := ⟨("Whole", some "fits"), "fits", "Whole.fits", defArgs s_Whole_fits, defBody s_Whole_fits, defScope s_Whole_fits, [], []⟩
abbrev s_Turned_fits : Stmt := inClass (topS 44) 1
theorem sc_Turned_fits : FnScope N_Turned_fits ["self", "value"] (defScope s_Turned_fits) := ⟨rfl, rfl, rfl, by decide +kernel, rfl, by decide +kernel, by decide +kernel⟩
def d_Turned_fits : He.DefD := ⟨("Turned", some "fits"), "fits", "Turned.fits", defArgs s_Turned_fits, defBody s_Turned_fits, defScope s_Turned_fits, [], []⟩
abbrev s_Whole_laid : Stmt := inClass (topS 42) 1
theorem sc_Whole_laid : FnScope N_Whole_laid ["self", "value"] (defScope s_Whole_laid) := ⟨rfl, rfl, rfl, by decide +kernel, rfl, by decide +kernel, by decide +kernel⟩
def d_Whole_laid : He.DefD := ⟨("Whole", some "laid"), "laid", "Whole.laid", defArgs s_Whole_laid, defBody s_Whole_laid, defScope s_Whole_laid, [], []⟩
abbrev s_Whole_row : Stmt := inClass (topS 41) 5
theorem sc_Whole_row : FnScope N_Whole_row ["self", "value"] (defScope s_Whole_row) := ⟨rfl, rfl, rfl, by decide +kernel, rfl, by decide +kernel, by decide +kernel⟩
def d_Whole_row : He.DefD := ⟨("Whole", some "row"), "row", "Form.row", defArgs s_Whole_row, defBody s_Whole_row, defScope s_Whole_row, [], []⟩
abbrev s_Turned_laid : Stmt := inClass (topS 44) 2
theorem sc_Turned_laid : FnScope N_Turned_laid ["self", "value"] (defScope s_Turned_laid) := ⟨rfl, rfl, rfl, by decide +kernel, rfl, by decide +kernel, by decide +kernel⟩
def d_Turned_laid : He.DefD := ⟨("Turned", some "laid"), "laid", "Turned.laid", defArgs s_Turned_laid, defBody s_Turned_laid, defScope s_Turned_laid, [], []⟩
abbrev s_Turned_row : Stmt := inClass (topS 41) 5
theorem sc_Turned_row : FnScope N_Turned_row ["self", "value"] (defScope s_Turned_row) := ⟨rfl, rfl, rfl, by decide +kernel, rfl, by decide +kernel, by decide +kernel⟩
def d_Turned_row : He.DefD := ⟨("Turned", some "row"), "row", "Form.row", defArgs s_Turned_row, defBody s_Turned_row, defScope s_Turned_row, [], []⟩
abbrev s_Shelf_row_for : Stmt := inClass (topS 36) 2
theorem sc_Shelf_row_for : FnScope N_Shelf_row_for ["self", "value"] (defScope s_Shelf_row_for) := ⟨rfl, rfl, rfl, by decide +kernel, rfl, by decide +kernel, by decide +kernel⟩
def d_Shelf_row_for : He.DefD := ⟨("Shelf", some "row_for"), "row_for", "Shelf.row_for", defArgs s_Shelf_row_for, defBody s_Shelf_row_for, defScope s_Shelf_row_for, [], []⟩
abbrev s_Shelf_stack_for : Stmt := inClass (topS 36) 1
theorem sc_Shelf_stack_for : FnScope N_Shelf_stack_for ["self", "row"] (defScope s_Shelf_stack_for) := ⟨rfl, rfl, rfl, by decide +kernel, rfl, by decide +kernel, by decide +kernel⟩
def d_Shelf_stack_for : He.DefD := ⟨("Shelf", some "stack_for"), "stack_for", "Shelf.stack_for", defArgs s_Shelf_stack_for, defBody s_Shelf_stack_for, defScope s_Shelf_stack_for, [], []⟩
abbrev s_Shelf_holds : Stmt := inClass (topS 36) 3
theorem sc_Shelf_holds : FnScope N_Shelf_holds ["self", "row"] (defScope s_Shelf_holds) := ⟨rfl, rfl, rfl, by decide +kernel, rfl, by decide +kernel, by decide +kernel⟩
def d_Shelf_holds : He.DefD := ⟨("Shelf", some "holds"), "holds", "Shelf.holds", defArgs s_Shelf_holds, defBody s_Shelf_holds, defScope s_Shelf_holds, [], []⟩
abbrev s_place_among : Stmt := topS 35
theorem sc_place_among : FnScope N_place_among ["rows", "row"] (defScope s_place_among) := ⟨rfl, rfl, rfl, by decide +kernel, rfl, by decide +kernel, by decide +kernel⟩
def d_place_among : He.DefD := ⟨("place_among", none), "place_among", "place_among", defArgs s_place_among, defBody s_place_among, defScope s_place_among, [], []⟩
abbrev s_Shelf_joined_near : Stmt := inClass (topS 36) 4
theorem sc_Shelf_joined_near : FnScope N_Shelf_joined_near ["self", "place"] (defScope s_Shelf_joined_near) := ⟨rfl, rfl, rfl, by decide +kernel, rfl, by decide +kernel, by decide +kernel⟩
def d_Shelf_joined_near : He.DefD := ⟨("Shelf", some "joined_near"), "joined_near", "Shelf.joined_near", defArgs s_Shelf_joined_near, defBody s_Shelf_joined_near, defScope s_Shelf_joined_near, [], []⟩
abbrev s_Shelf_put : Stmt := inClass (topS 36) 6
theorem sc_Shelf_put : FnScope N_Shelf_put ["self", "value"] (defScope s_Shelf_put) := ⟨rfl, rfl, rfl, by decide +kernel, rfl, by decide +kernel, by decide +kernel⟩
def d_Shelf_put : He.DefD := ⟨("Shelf", some "put"), "put", "Shelf.put", defArgs s_Shelf_put, defBody s_Shelf_put, defScope s_Shelf_put, [], []⟩
abbrev s_Shelf_take : Stmt := inClass (topS 36) 7
theorem sc_Shelf_take : FnScope N_Shelf_take ["self", "value"] (defScope s_Shelf_take) := ⟨rfl, rfl, rfl, by decide +kernel, rfl, by decide +kernel, by decide +kernel⟩
def d_Shelf_take : He.DefD := ⟨("Shelf", some "take"), "take", "Shelf.take", defArgs s_Shelf_take, defBody s_Shelf_take, defScope s_Shelf_take, [], []⟩
abbrev s_shared_signs : Stmt := topS 24
theorem sc_shared_signs : FnScope N_shared_signs ["one", "other"] (defScope s_shared_signs) := ⟨rfl, rfl, rfl, by decide +kernel, rfl, by decide +kernel, by decide +kernel⟩
def d_shared_signs : He.DefD := ⟨("shared_signs", none), "shared_signs", "shared_signs", defArgs s_shared_signs, defBody s_shared_signs, defScope s_shared_signs, [], []⟩
abbrev s_parting_of : Stmt := topS 25
theorem sc_parting_of : FnScope N_parting_of ["one", "other"] (defScope s_parting_of) := ⟨rfl, rfl, rfl, by decide +kernel, rfl, by decide +kernel, by decide +kernel⟩
def d_parting_of : He.DefD := ⟨("parting_of", none), "parting_of", "parting_of", defArgs s_parting_of, defBody s_parting_of, defScope s_parting_of, [], []⟩
abbrev s_Shelf_partings : Stmt := inClass (topS 36) 10
theorem sc_Shelf_partings : FnScope N_Shelf_partings ["self"] (defScope s_Shelf_partings) := ⟨rfl, rfl, rfl, by decide +kernel, rfl, by decide +kernel, by decide +kernel⟩
def d_Shelf_partings : He.DefD := ⟨("Shelf", some "partings"), "partings", "Shelf.partings", defArgs s_Shelf_partings, defBody s_Shelf_partings, defScope s_Shelf_partings, [], []⟩
abbrev s_entry_of : Stmt := topS 27
theorem sc_entry_of : FnScope N_entry_of ["last", "row"] (defScope s_entry_of) := ⟨rfl, rfl, rfl, by decide +kernel, rfl, by decide +kernel, by decide +kernel⟩
def d_entry_of : He.DefD := ⟨("entry_of", none), "entry_of", "entry_of", defArgs s_entry_of, defBody s_entry_of, defScope s_entry_of, [], []⟩
abbrev s_page_of : Stmt := topS 28
theorem sc_page_of : FnScope N_page_of ["rows"] (defScope s_page_of) := ⟨rfl, rfl, rfl, by decide +kernel, rfl, by decide +kernel, by decide +kernel⟩
def d_page_of : He.DefD := ⟨("page_of", none), "page_of", "page_of", defArgs s_page_of, defBody s_page_of, defScope s_page_of, [], []⟩
abbrev s_Shelf_pages : Stmt := inClass (topS 36) 9
theorem sc_Shelf_pages : FnScope N_Shelf_pages ["self"] (defScope s_Shelf_pages) := ⟨rfl, rfl, rfl, by decide +kernel, rfl, by decide +kernel, by decide +kernel⟩
def d_Shelf_pages : He.DefD := ⟨("Shelf", some "pages"), "pages", "Shelf.pages", defArgs s_Shelf_pages, defBody s_Shelf_pages, defScope s_Shelf_pages, [], []⟩
abbrev s__law_texts : Stmt := topS 47
theorem sc__law_texts : FnScope N__law_texts ["_law_found"] (defScope s__law_texts) := ⟨rfl, rfl, rfl, by decide +kernel, rfl, by decide +kernel, by decide +kernel⟩
def d__law_texts : He.DefD := ⟨("_law_texts", none), "_law_texts", "_law_texts", defArgs s__law_texts, defBody s__law_texts, defScope s__law_texts, [], []⟩
abbrev s_Source___init__ : Stmt := inClass (topS 10) 0
theorem sc_Source___init__ : FnScope N_Source___init__ ["self", "signs", "at", "fills"] (defScope s_Source___init__) := ⟨rfl, rfl, rfl, by decide +kernel, rfl, by decide +kernel, by decide +kernel⟩
def d_Source___init__ : He.DefD := ⟨("Source", some "__init__"), "__init__", "Source.__init__", defArgs s_Source___init__, defBody s_Source___init__, defScope s_Source___init__, [], []⟩
abbrev s_Short___init__ : Stmt := inClass (topS 7) 0
theorem sc_Short___init__ : FnScope N_Short___init__ ["self", "place"] (defScope s_Short___init__) := ⟨rfl, rfl, rfl, by decide +kernel, rfl, by decide +kernel, by decide +kernel⟩
def d_Short___init__ : He.DefD := ⟨("Short", some "__init__"), "__init__", "Short.__init__", defArgs s_Short___init__, defBody s_Short___init__, defScope s_Short___init__, [], []⟩
abbrev s_Source_take : Stmt := inClass (topS 10) 2
theorem sc_Source_take : FnScope N_Source_take ["self", "wish"] (defScope s_Source_take) := ⟨rfl, rfl, rfl, by decide +kernel, rfl, by decide +kernel, by decide +kernel⟩
def d_Source_take : He.DefD := ⟨("Source", some "take"), "take", "Source.take", defArgs s_Source_take, defBody s_Source_take, defScope s_Source_take, [], []⟩
abbrev s_take_digits : Stmt := topS 19
theorem sc_take_digits : FnScope N_take_digits ["source", "number", "many"] (defScope s_take_digits) := ⟨rfl, rfl, rfl, by decide +kernel, rfl, by decide +kernel, by decide +kernel⟩
def d_take_digits : He.DefD := ⟨("take_digits", none), "take_digits", "take_digits", defArgs s_take_digits, defBody s_take_digits, defScope s_take_digits, [], []⟩
abbrev s_take_count : Stmt := topS 20
theorem sc_take_count : FnScope N_take_count ["source", "wish"] (defScope s_take_count) := ⟨rfl, rfl, rfl, by decide +kernel, rfl, by decide +kernel, by decide +kernel⟩
def d_take_count : He.DefD := ⟨("take_count", none), "take_count", "take_count", defArgs s_take_count, defBody s_take_count, defScope s_take_count, [], []⟩
abbrev s_Source_spot : Stmt := inClass (topS 10) 1
theorem sc_Source_spot : FnScope N_Source_spot ["self"] (defScope s_Source_spot) := ⟨rfl, rfl, rfl, by decide +kernel, rfl, by decide +kernel, by decide +kernel⟩
def d_Source_spot : He.DefD := ⟨("Source", some "spot"), "spot", "Source.spot", defArgs s_Source_spot, defBody s_Source_spot, defScope s_Source_spot, [], []⟩
abbrev s_read_count : Stmt := topS 22
theorem sc_read_count : FnScope N_read_count ["signs", "at"] (defScope s_read_count) := ⟨rfl, rfl, rfl, by decide +kernel, rfl, by decide +kernel, by decide +kernel⟩
def d_read_count : He.DefD := ⟨("read_count", none), "read_count", "read_count", defArgs s_read_count, defBody s_read_count, defScope s_read_count, [], []⟩
abbrev s_count_at : Stmt := topS 29
theorem sc_count_at : FnScope N_count_at ["page", "at"] (defScope s_count_at) := ⟨rfl, rfl, rfl, by decide +kernel, rfl, by decide +kernel, by decide +kernel⟩
def d_count_at : He.DefD := ⟨("count_at", none), "count_at", "count_at", defArgs s_count_at, defBody s_count_at, defScope s_count_at, [], []⟩
abbrev s_entry_at : Stmt := topS 30
theorem sc_entry_at : FnScope N_entry_at ["page", "at", "last"] (defScope s_entry_at) := ⟨rfl, rfl, rfl, by decide +kernel, rfl, by decide +kernel, by decide +kernel⟩
def d_entry_at : He.DefD := ⟨("entry_at", none), "entry_at", "entry_at", defArgs s_entry_at, defBody s_entry_at, defScope s_entry_at, [], []⟩
abbrev s_rows_of : Stmt := topS 31
theorem sc_rows_of : FnScope N_rows_of ["page"] (defScope s_rows_of) := ⟨rfl, rfl, rfl, by decide +kernel, rfl, by decide +kernel, by decide +kernel⟩
def d_rows_of : He.DefD := ⟨("rows_of", none), "rows_of", "rows_of", defArgs s_rows_of, defBody s_rows_of, defScope s_rows_of, [], []⟩
abbrev s__law_parting : Stmt := topS 48
theorem sc__law_parting : FnScope N__law_parting ["_law_one", "_law_other"] (defScope s__law_parting) := ⟨rfl, rfl, rfl, by decide +kernel, rfl, by decide +kernel, by decide +kernel⟩
def d__law_parting : He.DefD := ⟨("_law_parting", none), "_law_parting", "_law_parting", defArgs s__law_parting, defBody s__law_parting, defScope s__law_parting, [], []⟩
abbrev s__law_pages : Stmt := topS 49
theorem sc__law_pages : FnScope N__law_pages ["_law_shelf", "_law_room", "_law_kept", "_law_ahead"] (defScope s__law_pages) := ⟨rfl, rfl, rfl, by decide +kernel, rfl, by decide +kernel, by decide +kernel⟩
def d__law_pages : He.DefD := ⟨("_law_pages", none), "_law_pages", "_law_pages", defArgs s__law_pages, defBody s__law_pages, defScope s__law_pages, [], []⟩
abbrev s_law : Stmt := topS 51
theorem sc_law : FnScope N_law ["_law_script"] (defScope s_law) := ⟨rfl, rfl, rfl, by decide +kernel, rfl, by decide +kernel, by decide +kernel⟩
def d_law : He.DefD := ⟨("law", none), "law", "law", defArgs s_law, defBody s_law, defScope s_law, [], []⟩
def exAll (K : PySem.W.Frag) : Bool := exsB K exL && rootB K && ownB K "Short" && mk0B K "Whole"
def fa : List He.Fa := [.free "len", .glo "_law_cell_at", .glo "Whole", .cls "Turned", .noat "Turned" "inner", .mkr "Turned", .glo "Turned", .int "MOST_ROOM" 20, .int "LEAST_ROOM" 2, .exc "NoForm", .glo "NoForm", .cls "Shelf", .noat "Shelf" "form", .noat "Shelf" "room", .noat "Shelf" "stacks", .mkr "Shelf", .glo "Shelf", .glo "_law_number", .int "MOST_DIGITS_counts" 255, .exc "NoFit", .glo "NoFit", .int "MOST_ONES" 7, .free "range", .glo "digits_of", .glo "count_row", .glo "other_sign", .glo "turned_row", .glo "whole_row", .meth "Shelf" "put", .meth "Shelf" "row_for", .cls "Whole", .meth "Whole" "fits", .free "max", .int "MOST_DIGITS_forms" 255, .glo "has_row", .free "bool", .free "isinstance", .free "int", .glo "is_whole", .meth "Turned" "fits", .meth "Whole" "row", .meth "Whole" "laid", .meth "Turned" "row", .meth "Turned" "laid", .meth "Shelf" "holds", .meth "Shelf" "stack_for", .free "enumerate", .glo "place_among", .meth "Shelf" "joined_near", .meth "Shelf" "take", .meth "Shelf" "partings", .exc "NotAhead", .glo "NotAhead", .glo "shared_signs", .glo "parting_of", .meth "Shelf" "pages", .glo "entry_of", .glo "page_of", .free "list", .free "str", .glo "_law_texts", .exc "BadPage", .cls "Source", .noat "Source" "signs", .noat "Source" "at", .noat "Source" "fills", .mkr "Source", .glo "Source", .meth "Source" "take", .glo "RiseError", .glo "Short", .glo "take_digits", .glo "take_count", .meth "Source" "spot", .glo "read_count", .glo "BadPage", .glo "count_at", .glo "entry_at", .glo "rows_of", .free "sorted", .glo "_law_parting", .glo "_law_pages", .glo "law"]
def fn : List He.DefD := [d__law_cell_at, d_Turned___init__, d_Shelf___init__, d__law_number, d_digits_of, d_count_row, d_other_sign, d_turned_row, d_whole_row, d_has_row, d_is_whole, d_Whole_fits, d_Turned_fits, d_Whole_laid, d_Whole_row, d_Turned_laid, d_Turned_row, d_Shelf_row_for, d_Shelf_stack_for, d_Shelf_holds, d_place_among, d_Shelf_joined_near, d_Shelf_put, d_Shelf_take, d_shared_signs, d_parting_of, d_Shelf_partings, d_entry_of, d_page_of, d_Shelf_pages, d__law_texts, d_Source___init__, d_Short___init__, d_Source_take, d_take_digits, d_take_count, d_Source_spot, d_read_count, d_count_at, d_entry_at, d_rows_of, d__law_parting, d__law_pages, d_law]
/-- what the top has written -/
structure Tx (K : PySem.W.Frag) (mg : Str → Option Value) : Prop where
  c : He.SaysD fa fn K
  x : exAll K = true
  h : ∃ h : Heap, K.In h ∧ h.Ns mainGlobals mg
section
variable {K : PySem.W.Frag} {mg : Str → Option Value}
theorem Tx.free_len (T : Tx K mg) : mg "len" = none := by
  obtain ⟨h, X, G⟩ := T.h
  exact He.free_ok X G (T.c.fact 0 (f := .free "len") rfl)
theorem Tx.glo__law_cell_at (T : Tx K mg) : mg "_law_cell_at" = some (.ref (He.ga K "_law_cell_at")) := by
  obtain ⟨h, X, G⟩ := T.h
  exact He.glo_ok X G (T.c.fact 1 (f := .glo "_law_cell_at") rfl)
theorem Tx.glo_Whole (T : Tx K mg) : mg "Whole" = some (.ref (He.ga K "Whole")) := by
  obtain ⟨h, X, G⟩ := T.h
  exact He.glo_ok X G (T.c.fact 2 (f := .glo "Whole") rfl)
theorem Tx.cls_Turned (T : Tx K mg) : Cls K (He.ga K "Turned") := He.cls_ok (T.c.fact 3 (f := .cls "Turned") rfl)
theorem Tx.noat_Turned_inner (T : Tx K mg) : NoAttr K (He.ga K "Turned") "inner" := He.noat_ok (T.c.fact 4 (f := .noat "Turned" "inner") rfl)
theorem Tx.mkr_Turned (T : Tx K mg) : Mk K (He.ga K "Turned") (He.ma K (He.ga K "Turned") "__init__") := He.mkr_ok (T.c.fact 5 (f := .mkr "Turned") rfl)
theorem Tx.glo_Turned (T : Tx K mg) : mg "Turned" = some (.ref (He.ga K "Turned")) := by
  obtain ⟨h, X, G⟩ := T.h
  exact He.glo_ok X G (T.c.fact 6 (f := .glo "Turned") rfl)
theorem Tx.int_MOST_ROOM_20 (T : Tx K mg) : ∃ t, mg "MOST_ROOM" = some (.int 20 t) := by
  obtain ⟨h, X, G⟩ := T.h
  exact He.int_ok X G (T.c.fact 7 (f := .int "MOST_ROOM" 20) rfl)
theorem Tx.int_LEAST_ROOM_2 (T : Tx K mg) : ∃ t, mg "LEAST_ROOM" = some (.int 2 t) := by
  obtain ⟨h, X, G⟩ := T.h
  exact He.int_ok X G (T.c.fact 8 (f := .int "LEAST_ROOM" 2) rfl)
theorem Tx.exc_NoForm (T : Tx K mg) : PySem.W.excIn K (He.ga K "NoForm") He.veBase "ValueError.__new__" = true ∧ PySem.W.keepIn K (.ref (He.ga K "NoForm")) = true ∧ PySem.W.subIn K (.ref (He.ga K "NoForm")) (.type "BaseException") = some true ∧ PySem.W.typeIn K (.ref (He.ga K "NoForm")) = some (.type "type") := He.exc_ok (T.c.fact 9 (f := .exc "NoForm") rfl)
theorem Tx.glo_NoForm (T : Tx K mg) : mg "NoForm" = some (.ref (He.ga K "NoForm")) := by
  obtain ⟨h, X, G⟩ := T.h
  exact He.glo_ok X G (T.c.fact 10 (f := .glo "NoForm") rfl)
theorem Tx.cls_Shelf (T : Tx K mg) : Cls K (He.ga K "Shelf") := He.cls_ok (T.c.fact 11 (f := .cls "Shelf") rfl)
theorem Tx.noat_Shelf_form (T : Tx K mg) : NoAttr K (He.ga K "Shelf") "form" := He.noat_ok (T.c.fact 12 (f := .noat "Shelf" "form") rfl)
theorem Tx.noat_Shelf_room (T : Tx K mg) : NoAttr K (He.ga K "Shelf") "room" := He.noat_ok (T.c.fact 13 (f := .noat "Shelf" "room") rfl)
theorem Tx.noat_Shelf_stacks (T : Tx K mg) : NoAttr K (He.ga K "Shelf") "stacks" := He.noat_ok (T.c.fact 14 (f := .noat "Shelf" "stacks") rfl)
theorem Tx.mkr_Shelf (T : Tx K mg) : Mk K (He.ga K "Shelf") (He.ma K (He.ga K "Shelf") "__init__") := He.mkr_ok (T.c.fact 15 (f := .mkr "Shelf") rfl)
theorem Tx.glo_Shelf (T : Tx K mg) : mg "Shelf" = some (.ref (He.ga K "Shelf")) := by
  obtain ⟨h, X, G⟩ := T.h
  exact He.glo_ok X G (T.c.fact 16 (f := .glo "Shelf") rfl)
theorem Tx.glo__law_number (T : Tx K mg) : mg "_law_number" = some (.ref (He.ga K "_law_number")) := by
  obtain ⟨h, X, G⟩ := T.h
  exact He.glo_ok X G (T.c.fact 17 (f := .glo "_law_number") rfl)
theorem Tx.int_MOST_DIGITS_counts_255 (T : Tx K mg) : ∃ t, mg "MOST_DIGITS_counts" = some (.int 255 t) := by
  obtain ⟨h, X, G⟩ := T.h
  exact He.int_ok X G (T.c.fact 18 (f := .int "MOST_DIGITS_counts" 255) rfl)
theorem Tx.exc_NoFit (T : Tx K mg) : PySem.W.excIn K (He.ga K "NoFit") He.veBase "ValueError.__new__" = true ∧ PySem.W.keepIn K (.ref (He.ga K "NoFit")) = true ∧ PySem.W.subIn K (.ref (He.ga K "NoFit")) (.type "BaseException") = some true ∧ PySem.W.typeIn K (.ref (He.ga K "NoFit")) = some (.type "type") := He.exc_ok (T.c.fact 19 (f := .exc "NoFit") rfl)
theorem Tx.glo_NoFit (T : Tx K mg) : mg "NoFit" = some (.ref (He.ga K "NoFit")) := by
  obtain ⟨h, X, G⟩ := T.h
  exact He.glo_ok X G (T.c.fact 20 (f := .glo "NoFit") rfl)
theorem Tx.int_MOST_ONES_7 (T : Tx K mg) : ∃ t, mg "MOST_ONES" = some (.int 7 t) := by
  obtain ⟨h, X, G⟩ := T.h
  exact He.int_ok X G (T.c.fact 21 (f := .int "MOST_ONES" 7) rfl)
theorem Tx.free_range (T : Tx K mg) : mg "range" = none := by
  obtain ⟨h, X, G⟩ := T.h
  exact He.free_ok X G (T.c.fact 22 (f := .free "range") rfl)
theorem Tx.glo_digits_of (T : Tx K mg) : mg "digits_of" = some (.ref (He.ga K "digits_of")) := by
  obtain ⟨h, X, G⟩ := T.h
  exact He.glo_ok X G (T.c.fact 23 (f := .glo "digits_of") rfl)
theorem Tx.glo_count_row (T : Tx K mg) : mg "count_row" = some (.ref (He.ga K "count_row")) := by
  obtain ⟨h, X, G⟩ := T.h
  exact He.glo_ok X G (T.c.fact 24 (f := .glo "count_row") rfl)
theorem Tx.glo_other_sign (T : Tx K mg) : mg "other_sign" = some (.ref (He.ga K "other_sign")) := by
  obtain ⟨h, X, G⟩ := T.h
  exact He.glo_ok X G (T.c.fact 25 (f := .glo "other_sign") rfl)
theorem Tx.glo_turned_row (T : Tx K mg) : mg "turned_row" = some (.ref (He.ga K "turned_row")) := by
  obtain ⟨h, X, G⟩ := T.h
  exact He.glo_ok X G (T.c.fact 26 (f := .glo "turned_row") rfl)
theorem Tx.glo_whole_row (T : Tx K mg) : mg "whole_row" = some (.ref (He.ga K "whole_row")) := by
  obtain ⟨h, X, G⟩ := T.h
  exact He.glo_ok X G (T.c.fact 27 (f := .glo "whole_row") rfl)
theorem Tx.meth_Shelf_put (T : Tx K mg) : Meth K (He.ga K "Shelf") "put" (He.ma K (He.ga K "Shelf") "put") := He.meth_ok (T.c.fact 28 (f := .meth "Shelf" "put") rfl)
theorem Tx.meth_Shelf_row_for (T : Tx K mg) : Meth K (He.ga K "Shelf") "row_for" (He.ma K (He.ga K "Shelf") "row_for") := He.meth_ok (T.c.fact 29 (f := .meth "Shelf" "row_for") rfl)
theorem Tx.cls_Whole (T : Tx K mg) : Cls K (He.ga K "Whole") := He.cls_ok (T.c.fact 30 (f := .cls "Whole") rfl)
theorem Tx.meth_Whole_fits (T : Tx K mg) : Meth K (He.ga K "Whole") "fits" (He.ma K (He.ga K "Whole") "fits") := He.meth_ok (T.c.fact 31 (f := .meth "Whole" "fits") rfl)
theorem Tx.free_max (T : Tx K mg) : mg "max" = none := by
  obtain ⟨h, X, G⟩ := T.h
  exact He.free_ok X G (T.c.fact 32 (f := .free "max") rfl)
theorem Tx.int_MOST_DIGITS_forms_255 (T : Tx K mg) : ∃ t, mg "MOST_DIGITS_forms" = some (.int 255 t) := by
  obtain ⟨h, X, G⟩ := T.h
  exact He.int_ok X G (T.c.fact 33 (f := .int "MOST_DIGITS_forms" 255) rfl)
theorem Tx.glo_has_row (T : Tx K mg) : mg "has_row" = some (.ref (He.ga K "has_row")) := by
  obtain ⟨h, X, G⟩ := T.h
  exact He.glo_ok X G (T.c.fact 34 (f := .glo "has_row") rfl)
theorem Tx.free_bool (T : Tx K mg) : mg "bool" = none := by
  obtain ⟨h, X, G⟩ := T.h
  exact He.free_ok X G (T.c.fact 35 (f := .free "bool") rfl)
theorem Tx.free_isinstance (T : Tx K mg) : mg "isinstance" = none := by
  obtain ⟨h, X, G⟩ := T.h
  exact He.free_ok X G (T.c.fact 36 (f := .free "isinstance") rfl)
theorem Tx.free_int (T : Tx K mg) : mg "int" = none := by
  obtain ⟨h, X, G⟩ := T.h
  exact He.free_ok X G (T.c.fact 37 (f := .free "int") rfl)
theorem Tx.glo_is_whole (T : Tx K mg) : mg "is_whole" = some (.ref (He.ga K "is_whole")) := by
  obtain ⟨h, X, G⟩ := T.h
  exact He.glo_ok X G (T.c.fact 38 (f := .glo "is_whole") rfl)
theorem Tx.meth_Turned_fits (T : Tx K mg) : Meth K (He.ga K "Turned") "fits" (He.ma K (He.ga K "Turned") "fits") := He.meth_ok (T.c.fact 39 (f := .meth "Turned" "fits") rfl)
theorem Tx.meth_Whole_row (T : Tx K mg) : Meth K (He.ga K "Whole") "row" (He.ma K (He.ga K "Whole") "row") := He.meth_ok (T.c.fact 40 (f := .meth "Whole" "row") rfl)
theorem Tx.meth_Whole_laid (T : Tx K mg) : Meth K (He.ga K "Whole") "laid" (He.ma K (He.ga K "Whole") "laid") := He.meth_ok (T.c.fact 41 (f := .meth "Whole" "laid") rfl)
theorem Tx.meth_Turned_row (T : Tx K mg) : Meth K (He.ga K "Turned") "row" (He.ma K (He.ga K "Turned") "row") := He.meth_ok (T.c.fact 42 (f := .meth "Turned" "row") rfl)
theorem Tx.meth_Turned_laid (T : Tx K mg) : Meth K (He.ga K "Turned") "laid" (He.ma K (He.ga K "Turned") "laid") := He.meth_ok (T.c.fact 43 (f := .meth "Turned" "laid") rfl)
theorem Tx.meth_Shelf_holds (T : Tx K mg) : Meth K (He.ga K "Shelf") "holds" (He.ma K (He.ga K "Shelf") "holds") := He.meth_ok (T.c.fact 44 (f := .meth "Shelf" "holds") rfl)
theorem Tx.meth_Shelf_stack_for (T : Tx K mg) : Meth K (He.ga K "Shelf") "stack_for" (He.ma K (He.ga K "Shelf") "stack_for") := He.meth_ok (T.c.fact 45 (f := .meth "Shelf" "stack_for") rfl)
theorem Tx.free_enumerate (T : Tx K mg) : mg "enumerate" = none := by
  obtain ⟨h, X, G⟩ := T.h
  exact He.free_ok X G (T.c.fact 46 (f := .free "enumerate") rfl)
theorem Tx.glo_place_among (T : Tx K mg) : mg "place_among" = some (.ref (He.ga K "place_among")) := by
  obtain ⟨h, X, G⟩ := T.h
  exact He.glo_ok X G (T.c.fact 47 (f := .glo "place_among") rfl)
theorem Tx.meth_Shelf_joined_near (T : Tx K mg) : Meth K (He.ga K "Shelf") "joined_near" (He.ma K (He.ga K "Shelf") "joined_near") := He.meth_ok (T.c.fact 48 (f := .meth "Shelf" "joined_near") rfl)
theorem Tx.meth_Shelf_take (T : Tx K mg) : Meth K (He.ga K "Shelf") "take" (He.ma K (He.ga K "Shelf") "take") := He.meth_ok (T.c.fact 49 (f := .meth "Shelf" "take") rfl)
theorem Tx.meth_Shelf_partings (T : Tx K mg) : Meth K (He.ga K "Shelf") "partings" (He.ma K (He.ga K "Shelf") "partings") := He.meth_ok (T.c.fact 50 (f := .meth "Shelf" "partings") rfl)
theorem Tx.exc_NotAhead (T : Tx K mg) : PySem.W.excIn K (He.ga K "NotAhead") He.veBase "ValueError.__new__" = true ∧ PySem.W.keepIn K (.ref (He.ga K "NotAhead")) = true ∧ PySem.W.subIn K (.ref (He.ga K "NotAhead")) (.type "BaseException") = some true ∧ PySem.W.typeIn K (.ref (He.ga K "NotAhead")) = some (.type "type") := He.exc_ok (T.c.fact 51 (f := .exc "NotAhead") rfl)
theorem Tx.glo_NotAhead (T : Tx K mg) : mg "NotAhead" = some (.ref (He.ga K "NotAhead")) := by
  obtain ⟨h, X, G⟩ := T.h
  exact He.glo_ok X G (T.c.fact 52 (f := .glo "NotAhead") rfl)
theorem Tx.glo_shared_signs (T : Tx K mg) : mg "shared_signs" = some (.ref (He.ga K "shared_signs")) := by
  obtain ⟨h, X, G⟩ := T.h
  exact He.glo_ok X G (T.c.fact 53 (f := .glo "shared_signs") rfl)
theorem Tx.glo_parting_of (T : Tx K mg) : mg "parting_of" = some (.ref (He.ga K "parting_of")) := by
  obtain ⟨h, X, G⟩ := T.h
  exact He.glo_ok X G (T.c.fact 54 (f := .glo "parting_of") rfl)
theorem Tx.meth_Shelf_pages (T : Tx K mg) : Meth K (He.ga K "Shelf") "pages" (He.ma K (He.ga K "Shelf") "pages") := He.meth_ok (T.c.fact 55 (f := .meth "Shelf" "pages") rfl)
theorem Tx.glo_entry_of (T : Tx K mg) : mg "entry_of" = some (.ref (He.ga K "entry_of")) := by
  obtain ⟨h, X, G⟩ := T.h
  exact He.glo_ok X G (T.c.fact 56 (f := .glo "entry_of") rfl)
theorem Tx.glo_page_of (T : Tx K mg) : mg "page_of" = some (.ref (He.ga K "page_of")) := by
  obtain ⟨h, X, G⟩ := T.h
  exact He.glo_ok X G (T.c.fact 57 (f := .glo "page_of") rfl)
theorem Tx.free_list (T : Tx K mg) : mg "list" = none := by
  obtain ⟨h, X, G⟩ := T.h
  exact He.free_ok X G (T.c.fact 58 (f := .free "list") rfl)
theorem Tx.free_str (T : Tx K mg) : mg "str" = none := by
  obtain ⟨h, X, G⟩ := T.h
  exact He.free_ok X G (T.c.fact 59 (f := .free "str") rfl)
theorem Tx.glo__law_texts (T : Tx K mg) : mg "_law_texts" = some (.ref (He.ga K "_law_texts")) := by
  obtain ⟨h, X, G⟩ := T.h
  exact He.glo_ok X G (T.c.fact 60 (f := .glo "_law_texts") rfl)
theorem Tx.exc_BadPage (T : Tx K mg) : PySem.W.excIn K (He.ga K "BadPage") He.veBase "ValueError.__new__" = true ∧ PySem.W.keepIn K (.ref (He.ga K "BadPage")) = true ∧ PySem.W.subIn K (.ref (He.ga K "BadPage")) (.type "BaseException") = some true ∧ PySem.W.typeIn K (.ref (He.ga K "BadPage")) = some (.type "type") := He.exc_ok (T.c.fact 61 (f := .exc "BadPage") rfl)
theorem Tx.cls_Source (T : Tx K mg) : Cls K (He.ga K "Source") := He.cls_ok (T.c.fact 62 (f := .cls "Source") rfl)
theorem Tx.noat_Source_signs (T : Tx K mg) : NoAttr K (He.ga K "Source") "signs" := He.noat_ok (T.c.fact 63 (f := .noat "Source" "signs") rfl)
theorem Tx.noat_Source_at (T : Tx K mg) : NoAttr K (He.ga K "Source") "at" := He.noat_ok (T.c.fact 64 (f := .noat "Source" "at") rfl)
theorem Tx.noat_Source_fills (T : Tx K mg) : NoAttr K (He.ga K "Source") "fills" := He.noat_ok (T.c.fact 65 (f := .noat "Source" "fills") rfl)
theorem Tx.mkr_Source (T : Tx K mg) : Mk K (He.ga K "Source") (He.ma K (He.ga K "Source") "__init__") := He.mkr_ok (T.c.fact 66 (f := .mkr "Source") rfl)
theorem Tx.glo_Source (T : Tx K mg) : mg "Source" = some (.ref (He.ga K "Source")) := by
  obtain ⟨h, X, G⟩ := T.h
  exact He.glo_ok X G (T.c.fact 67 (f := .glo "Source") rfl)
theorem Tx.meth_Source_take (T : Tx K mg) : Meth K (He.ga K "Source") "take" (He.ma K (He.ga K "Source") "take") := He.meth_ok (T.c.fact 68 (f := .meth "Source" "take") rfl)
theorem Tx.glo_RiseError (T : Tx K mg) : mg "RiseError" = some (.ref (He.ga K "RiseError")) := by
  obtain ⟨h, X, G⟩ := T.h
  exact He.glo_ok X G (T.c.fact 69 (f := .glo "RiseError") rfl)
theorem Tx.glo_Short (T : Tx K mg) : mg "Short" = some (.ref (He.ga K "Short")) := by
  obtain ⟨h, X, G⟩ := T.h
  exact He.glo_ok X G (T.c.fact 70 (f := .glo "Short") rfl)
theorem Tx.glo_take_digits (T : Tx K mg) : mg "take_digits" = some (.ref (He.ga K "take_digits")) := by
  obtain ⟨h, X, G⟩ := T.h
  exact He.glo_ok X G (T.c.fact 71 (f := .glo "take_digits") rfl)
theorem Tx.glo_take_count (T : Tx K mg) : mg "take_count" = some (.ref (He.ga K "take_count")) := by
  obtain ⟨h, X, G⟩ := T.h
  exact He.glo_ok X G (T.c.fact 72 (f := .glo "take_count") rfl)
theorem Tx.meth_Source_spot (T : Tx K mg) : Meth K (He.ga K "Source") "spot" (He.ma K (He.ga K "Source") "spot") := He.meth_ok (T.c.fact 73 (f := .meth "Source" "spot") rfl)
theorem Tx.glo_read_count (T : Tx K mg) : mg "read_count" = some (.ref (He.ga K "read_count")) := by
  obtain ⟨h, X, G⟩ := T.h
  exact He.glo_ok X G (T.c.fact 74 (f := .glo "read_count") rfl)
theorem Tx.glo_BadPage (T : Tx K mg) : mg "BadPage" = some (.ref (He.ga K "BadPage")) := by
  obtain ⟨h, X, G⟩ := T.h
  exact He.glo_ok X G (T.c.fact 75 (f := .glo "BadPage") rfl)
theorem Tx.glo_count_at (T : Tx K mg) : mg "count_at" = some (.ref (He.ga K "count_at")) := by
  obtain ⟨h, X, G⟩ := T.h
  exact He.glo_ok X G (T.c.fact 76 (f := .glo "count_at") rfl)
theorem Tx.glo_entry_at (T : Tx K mg) : mg "entry_at" = some (.ref (He.ga K "entry_at")) := by
  obtain ⟨h, X, G⟩ := T.h
  exact He.glo_ok X G (T.c.fact 77 (f := .glo "entry_at") rfl)
theorem Tx.glo_rows_of (T : Tx K mg) : mg "rows_of" = some (.ref (He.ga K "rows_of")) := by
  obtain ⟨h, X, G⟩ := T.h
  exact He.glo_ok X G (T.c.fact 78 (f := .glo "rows_of") rfl)
theorem Tx.free_sorted (T : Tx K mg) : mg "sorted" = none := by
  obtain ⟨h, X, G⟩ := T.h
  exact He.free_ok X G (T.c.fact 79 (f := .free "sorted") rfl)
theorem Tx.glo__law_parting (T : Tx K mg) : mg "_law_parting" = some (.ref (He.ga K "_law_parting")) := by
  obtain ⟨h, X, G⟩ := T.h
  exact He.glo_ok X G (T.c.fact 80 (f := .glo "_law_parting") rfl)
theorem Tx.glo__law_pages (T : Tx K mg) : mg "_law_pages" = some (.ref (He.ga K "_law_pages")) := by
  obtain ⟨h, X, G⟩ := T.h
  exact He.glo_ok X G (T.c.fact 81 (f := .glo "_law_pages") rfl)
theorem Tx.glo_law (T : Tx K mg) : mg "law" = some (.ref (He.ga K "law")) := by
  obtain ⟨h, X, G⟩ := T.h
  exact He.glo_ok X G (T.c.fact 82 (f := .glo "law") rfl)
theorem Tx.mk0_Whole (T : Tx K mg) : Mk0 K (He.ga K "Whole") := mk0B_ok (He.ba T.x).2
theorem Tx.own_Short (T : Tx K mg) : OwnX K (He.ga K "Short") (He.ma K (He.ga K "Short") "__init__") := ownB_ok (He.ba (He.ba T.x).1).2
theorem Tx.root (T : Tx K mg) : RootX K := rootB_ok (He.ba (He.ba (He.ba T.x).1).1).2
theorem Tx.kx (T : Tx K mg) : Kx K := ⟨(He.ba (He.ba (He.ba T.x).1).1).1⟩
theorem Tx.ko (T : Tx K mg) : Ko K := fun x hx => by
  simp only [ownL, List.mem_cons, List.not_mem_nil, or_false] at hx
  subst hx
  exact T.own_Short
theorem F__law_cell_at (T : Tx K mg) : FunD K "_law_cell_at" "_law_cell_at" (defArgs s__law_cell_at) (defBody s__law_cell_at) (defScope s__law_cell_at) [] [] (He.fAd K d__law_cell_at.at_) (fdOf K d__law_cell_at.at_) := fun_fdOf (T.c.def_ 0 (d := d__law_cell_at) rfl)
theorem b__law_cell_at (T : Tx K mg) : Binds K (fdOf K d__law_cell_at.at_) ["_law_script", "_law_k"] [] := (F__law_cell_at T).bindsN fun _ _ _ _ _ _ us hl => match us, hl with | [_, _], _ => rfl
theorem F_Turned___init__ (T : Tx K mg) : FunD K "__init__" "Turned.__init__" (defArgs s_Turned___init__) (defBody s_Turned___init__) (defScope s_Turned___init__) [] [] (He.fAd K d_Turned___init__.at_) (fdOf K d_Turned___init__.at_) := fun_fdOf (T.c.def_ 1 (d := d_Turned___init__) rfl)
theorem b_Turned___init__ (T : Tx K mg) : Binds K (fdOf K d_Turned___init__.at_) ["self", "inner"] [] := (F_Turned___init__ T).bindsN fun _ _ _ _ _ _ us hl => match us, hl with | [_, _], _ => rfl
theorem F_Shelf___init__ (T : Tx K mg) : FunD K "__init__" "Shelf.__init__" (defArgs s_Shelf___init__) (defBody s_Shelf___init__) (defScope s_Shelf___init__) [] [] (He.fAd K d_Shelf___init__.at_) (fdOf K d_Shelf___init__.at_) := fun_fdOf (T.c.def_ 2 (d := d_Shelf___init__) rfl)
theorem b_Shelf___init__ (T : Tx K mg) : Binds K (fdOf K d_Shelf___init__.at_) ["self", "form", "room"] [] := (F_Shelf___init__ T).bindsN fun _ _ _ _ _ _ us hl => match us, hl with | [_, _, _], _ => rfl
theorem F__law_number (T : Tx K mg) : FunD K "_law_number" "_law_number" (defArgs s__law_number) (defBody s__law_number) (defScope s__law_number) [] [] (He.fAd K d__law_number.at_) (fdOf K d__law_number.at_) := fun_fdOf (T.c.def_ 3 (d := d__law_number) rfl)
theorem b__law_number (T : Tx K mg) : Binds K (fdOf K d__law_number.at_) ["_law_cell"] [] := (F__law_number T).bindsN fun _ _ _ _ _ _ us hl => match us, hl with | [_], _ => rfl
theorem F_digits_of (T : Tx K mg) : FunD K "digits_of" "digits_of" (defArgs s_digits_of) (defBody s_digits_of) (defScope s_digits_of) [] [] (He.fAd K d_digits_of.at_) (fdOf K d_digits_of.at_) := fun_fdOf (T.c.def_ 4 (d := d_digits_of) rfl)
theorem b_digits_of (T : Tx K mg) : Binds K (fdOf K d_digits_of.at_) ["number", "many"] [] := (F_digits_of T).bindsN fun _ _ _ _ _ _ us hl => match us, hl with | [_, _], _ => rfl
theorem F_count_row (T : Tx K mg) : FunD K "count_row" "count_row" (defArgs s_count_row) (defBody s_count_row) (defScope s_count_row) [] [] (He.fAd K d_count_row.at_) (fdOf K d_count_row.at_) := fun_fdOf (T.c.def_ 5 (d := d_count_row) rfl)
theorem b_count_row (T : Tx K mg) : Binds K (fdOf K d_count_row.at_) ["n"] [] := (F_count_row T).bindsN fun _ _ _ _ _ _ us hl => match us, hl with | [_], _ => rfl
theorem F_other_sign (T : Tx K mg) : FunD K "other_sign" "other_sign" (defArgs s_other_sign) (defBody s_other_sign) (defScope s_other_sign) [] [] (He.fAd K d_other_sign.at_) (fdOf K d_other_sign.at_) := fun_fdOf (T.c.def_ 6 (d := d_other_sign) rfl)
theorem b_other_sign (T : Tx K mg) : Binds K (fdOf K d_other_sign.at_) ["sign"] [] := (F_other_sign T).bindsN fun _ _ _ _ _ _ us hl => match us, hl with | [_], _ => rfl
theorem F_turned_row (T : Tx K mg) : FunD K "turned_row" "turned_row" (defArgs s_turned_row) (defBody s_turned_row) (defScope s_turned_row) [] [] (He.fAd K d_turned_row.at_) (fdOf K d_turned_row.at_) := fun_fdOf (T.c.def_ 7 (d := d_turned_row) rfl)
theorem b_turned_row (T : Tx K mg) : Binds K (fdOf K d_turned_row.at_) ["row"] [] := (F_turned_row T).bindsN fun _ _ _ _ _ _ us hl => match us, hl with | [_], _ => rfl
theorem F_whole_row (T : Tx K mg) : FunD K "whole_row" "whole_row" (defArgs s_whole_row) (defBody s_whole_row) (defScope s_whole_row) [] [] (He.fAd K d_whole_row.at_) (fdOf K d_whole_row.at_) := fun_fdOf (T.c.def_ 8 (d := d_whole_row) rfl)
theorem b_whole_row (T : Tx K mg) : Binds K (fdOf K d_whole_row.at_) ["n"] [] := (F_whole_row T).bindsN fun _ _ _ _ _ _ us hl => match us, hl with | [_], _ => rfl
theorem F_has_row (T : Tx K mg) : FunD K "has_row" "has_row" (defArgs s_has_row) (defBody s_has_row) (defScope s_has_row) [] [] (He.fAd K d_has_row.at_) (fdOf K d_has_row.at_) := fun_fdOf (T.c.def_ 9 (d := d_has_row) rfl)
theorem b_has_row (T : Tx K mg) : Binds K (fdOf K d_has_row.at_) ["number"] [] := (F_has_row T).bindsN fun _ _ _ _ _ _ us hl => match us, hl with | [_], _ => rfl
theorem F_is_whole (T : Tx K mg) : FunD K "is_whole" "is_whole" (defArgs s_is_whole) (defBody s_is_whole) (defScope s_is_whole) [] [] (He.fAd K d_is_whole.at_) (fdOf K d_is_whole.at_) := fun_fdOf (T.c.def_ 10 (d := d_is_whole) rfl)
theorem b_is_whole (T : Tx K mg) : Binds K (fdOf K d_is_whole.at_) ["value"] [] := (F_is_whole T).bindsN fun _ _ _ _ _ _ us hl => match us, hl with | [_], _ => rfl
theorem F_Whole_fits (T : Tx K mg) : FunD K "fits" "Whole.fits" (defArgs s_Whole_fits) (defBody s_Whole_fits) (defScope s_Whole_fits) [] [] (He.fAd K d_Whole_fits.at_) (fdOf K d_Whole_fits.at_) := fun_fdOf (T.c.def_ 11 (d := d_Whole_fits) rfl)
theorem b_Whole_fits (T : Tx K mg) : Binds K (fdOf K d_Whole_fits.at_) ["self", "value"] [] := (F_Whole_fits T).bindsN fun _ _ _ _ _ _ us hl => match us, hl with | [_, _], _ => rfl
theorem F_Turned_fits (T : Tx K mg) : FunD K "fits" "Turned.fits" (defArgs s_Turned_fits) (defBody s_Turned_fits) (defScope s_Turned_fits) [] [] (He.fAd K d_Turned_fits.at_) (fdOf K d_Turned_fits.at_) := fun_fdOf (T.c.def_ 12 (d := d_Turned_fits) rfl)
theorem b_Turned_fits (T : Tx K mg) : Binds K (fdOf K d_Turned_fits.at_) ["self", "value"] [] := (F_Turned_fits T).bindsN fun _ _ _ _ _ _ us hl => match us, hl with | [_, _], _ => rfl
theorem F_Whole_laid (T : Tx K mg) : FunD K "laid" "Whole.laid" (defArgs s_Whole_laid) (defBody s_Whole_laid) (defScope s_Whole_laid) [] [] (He.fAd K d_Whole_laid.at_) (fdOf K d_Whole_laid.at_) := fun_fdOf (T.c.def_ 13 (d := d_Whole_laid) rfl)
theorem b_Whole_laid (T : Tx K mg) : Binds K (fdOf K d_Whole_laid.at_) ["self", "value"] [] := (F_Whole_laid T).bindsN fun _ _ _ _ _ _ us hl => match us, hl with | [_, _], _ => rfl
theorem F_Whole_row (T : Tx K mg) : FunD K "row" "Form.row" (defArgs s_Whole_row) (defBody s_Whole_row) (defScope s_Whole_row) [] [] (He.fAd K d_Whole_row.at_) (fdOf K d_Whole_row.at_) := fun_fdOf (T.c.def_ 14 (d := d_Whole_row) rfl)
theorem b_Whole_row (T : Tx K mg) : Binds K (fdOf K d_Whole_row.at_) ["self", "value"] [] := (F_Whole_row T).bindsN fun _ _ _ _ _ _ us hl => match us, hl with | [_, _], _ => rfl
theorem F_Turned_laid (T : Tx K mg) : FunD K "laid" "Turned.laid" (defArgs s_Turned_laid) (defBody s_Turned_laid) (defScope s_Turned_laid) [] [] (He.fAd K d_Turned_laid.at_) (fdOf K d_Turned_laid.at_) := fun_fdOf (T.c.def_ 15 (d := d_Turned_laid) rfl)
theorem b_Turned_laid (T : Tx K mg) : Binds K (fdOf K d_Turned_laid.at_) ["self", "value"] [] := (F_Turned_laid T).bindsN fun _ _ _ _ _ _ us hl => match us, hl with | [_, _], _ => rfl
theorem F_Turned_row (T : Tx K mg) : FunD K "row" "Form.row" (defArgs s_Turned_row) (defBody s_Turned_row) (defScope s_Turned_row) [] [] (He.fAd K d_Turned_row.at_) (fdOf K d_Turned_row.at_) := fun_fdOf (T.c.def_ 16 (d := d_Turned_row) rfl)
theorem b_Turned_row (T : Tx K mg) : Binds K (fdOf K d_Turned_row.at_) ["self", "value"] [] := (F_Turned_row T).bindsN fun _ _ _ _ _ _ us hl => match us, hl with | [_, _], _ => rfl
theorem F_Shelf_row_for (T : Tx K mg) : FunD K "row_for" "Shelf.row_for" (defArgs s_Shelf_row_for) (defBody s_Shelf_row_for) (defScope s_Shelf_row_for) [] [] (He.fAd K d_Shelf_row_for.at_) (fdOf K d_Shelf_row_for.at_) := fun_fdOf (T.c.def_ 17 (d := d_Shelf_row_for) rfl)
theorem b_Shelf_row_for (T : Tx K mg) : Binds K (fdOf K d_Shelf_row_for.at_) ["self", "value"] [] := (F_Shelf_row_for T).bindsN fun _ _ _ _ _ _ us hl => match us, hl with | [_, _], _ => rfl
theorem F_Shelf_stack_for (T : Tx K mg) : FunD K "stack_for" "Shelf.stack_for" (defArgs s_Shelf_stack_for) (defBody s_Shelf_stack_for) (defScope s_Shelf_stack_for) [] [] (He.fAd K d_Shelf_stack_for.at_) (fdOf K d_Shelf_stack_for.at_) := fun_fdOf (T.c.def_ 18 (d := d_Shelf_stack_for) rfl)
theorem b_Shelf_stack_for (T : Tx K mg) : Binds K (fdOf K d_Shelf_stack_for.at_) ["self", "row"] [] := (F_Shelf_stack_for T).bindsN fun _ _ _ _ _ _ us hl => match us, hl with | [_, _], _ => rfl
theorem F_Shelf_holds (T : Tx K mg) : FunD K "holds" "Shelf.holds" (defArgs s_Shelf_holds) (defBody s_Shelf_holds) (defScope s_Shelf_holds) [] [] (He.fAd K d_Shelf_holds.at_) (fdOf K d_Shelf_holds.at_) := fun_fdOf (T.c.def_ 19 (d := d_Shelf_holds) rfl)
theorem b_Shelf_holds (T : Tx K mg) : Binds K (fdOf K d_Shelf_holds.at_) ["self", "row"] [] := (F_Shelf_holds T).bindsN fun _ _ _ _ _ _ us hl => match us, hl with | [_, _], _ => rfl
theorem F_place_among (T : Tx K mg) : FunD K "place_among" "place_among" (defArgs s_place_among) (defBody s_place_among) (defScope s_place_among) [] [] (He.fAd K d_place_among.at_) (fdOf K d_place_among.at_) := fun_fdOf (T.c.def_ 20 (d := d_place_among) rfl)
theorem b_place_among (T : Tx K mg) : Binds K (fdOf K d_place_among.at_) ["rows", "row"] [] := (F_place_among T).bindsN fun _ _ _ _ _ _ us hl => match us, hl with | [_, _], _ => rfl
theorem F_Shelf_joined_near (T : Tx K mg) : FunD K "joined_near" "Shelf.joined_near" (defArgs s_Shelf_joined_near) (defBody s_Shelf_joined_near) (defScope s_Shelf_joined_near) [] [] (He.fAd K d_Shelf_joined_near.at_) (fdOf K d_Shelf_joined_near.at_) := fun_fdOf (T.c.def_ 21 (d := d_Shelf_joined_near) rfl)
theorem b_Shelf_joined_near (T : Tx K mg) : Binds K (fdOf K d_Shelf_joined_near.at_) ["self", "place"] [] := (F_Shelf_joined_near T).bindsN fun _ _ _ _ _ _ us hl => match us, hl with | [_, _], _ => rfl
theorem F_Shelf_put (T : Tx K mg) : FunD K "put" "Shelf.put" (defArgs s_Shelf_put) (defBody s_Shelf_put) (defScope s_Shelf_put) [] [] (He.fAd K d_Shelf_put.at_) (fdOf K d_Shelf_put.at_) := fun_fdOf (T.c.def_ 22 (d := d_Shelf_put) rfl)
theorem b_Shelf_put (T : Tx K mg) : Binds K (fdOf K d_Shelf_put.at_) ["self", "value"] [] := (F_Shelf_put T).bindsN fun _ _ _ _ _ _ us hl => match us, hl with | [_, _], _ => rfl
theorem F_Shelf_take (T : Tx K mg) : FunD K "take" "Shelf.take" (defArgs s_Shelf_take) (defBody s_Shelf_take) (defScope s_Shelf_take) [] [] (He.fAd K d_Shelf_take.at_) (fdOf K d_Shelf_take.at_) := fun_fdOf (T.c.def_ 23 (d := d_Shelf_take) rfl)
theorem b_Shelf_take (T : Tx K mg) : Binds K (fdOf K d_Shelf_take.at_) ["self", "value"] [] := (F_Shelf_take T).bindsN fun _ _ _ _ _ _ us hl => match us, hl with | [_, _], _ => rfl
theorem F_shared_signs (T : Tx K mg) : FunD K "shared_signs" "shared_signs" (defArgs s_shared_signs) (defBody s_shared_signs) (defScope s_shared_signs) [] [] (He.fAd K d_shared_signs.at_) (fdOf K d_shared_signs.at_) := fun_fdOf (T.c.def_ 24 (d := d_shared_signs) rfl)
theorem b_shared_signs (T : Tx K mg) : Binds K (fdOf K d_shared_signs.at_) ["one", "other"] [] := (F_shared_signs T).bindsN fun _ _ _ _ _ _ us hl => match us, hl with | [_, _], _ => rfl
theorem F_parting_of (T : Tx K mg) : FunD K "parting_of" "parting_of" (defArgs s_parting_of) (defBody s_parting_of) (defScope s_parting_of) [] [] (He.fAd K d_parting_of.at_) (fdOf K d_parting_of.at_) := fun_fdOf (T.c.def_ 25 (d := d_parting_of) rfl)
theorem b_parting_of (T : Tx K mg) : Binds K (fdOf K d_parting_of.at_) ["one", "other"] [] := (F_parting_of T).bindsN fun _ _ _ _ _ _ us hl => match us, hl with | [_, _], _ => rfl
theorem F_Shelf_partings (T : Tx K mg) : FunD K "partings" "Shelf.partings" (defArgs s_Shelf_partings) (defBody s_Shelf_partings) (defScope s_Shelf_partings) [] [] (He.fAd K d_Shelf_partings.at_) (fdOf K d_Shelf_partings.at_) := fun_fdOf (T.c.def_ 26 (d := d_Shelf_partings) rfl)
theorem b_Shelf_partings (T : Tx K mg) : Binds K (fdOf K d_Shelf_partings.at_) ["self"] [] := (F_Shelf_partings T).bindsN fun _ _ _ _ _ _ us hl => match us, hl with | [_], _ => rfl
theorem F_entry_of (T : Tx K mg) : FunD K "entry_of" "entry_of" (defArgs s_entry_of) (defBody s_entry_of) (defScope s_entry_of) [] [] (He.fAd K d_entry_of.at_) (fdOf K d_entry_of.at_) := fun_fdOf (T.c.def_ 27 (d := d_entry_of) rfl)
theorem b_entry_of (T : Tx K mg) : Binds K (fdOf K d_entry_of.at_) ["last", "row"] [] := (F_entry_of T).bindsN fun _ _ _ _ _ _ us hl => match us, hl with | [_, _], _ => rfl
theorem F_page_of (T : Tx K mg) : FunD K "page_of" "page_of" (defArgs s_page_of) (defBody s_page_of) (defScope s_page_of) [] [] (He.fAd K d_page_of.at_) (fdOf K d_page_of.at_) := fun_fdOf (T.c.def_ 28 (d := d_page_of) rfl)
theorem b_page_of (T : Tx K mg) : Binds K (fdOf K d_page_of.at_) ["rows"] [] := (F_page_of T).bindsN fun _ _ _ _ _ _ us hl => match us, hl with | [_], _ => rfl
theorem F_Shelf_pages (T : Tx K mg) : FunD K "pages" "Shelf.pages" (defArgs s_Shelf_pages) (defBody s_Shelf_pages) (defScope s_Shelf_pages) [] [] (He.fAd K d_Shelf_pages.at_) (fdOf K d_Shelf_pages.at_) := fun_fdOf (T.c.def_ 29 (d := d_Shelf_pages) rfl)
theorem b_Shelf_pages (T : Tx K mg) : Binds K (fdOf K d_Shelf_pages.at_) ["self"] [] := (F_Shelf_pages T).bindsN fun _ _ _ _ _ _ us hl => match us, hl with | [_], _ => rfl
theorem F__law_texts (T : Tx K mg) : FunD K "_law_texts" "_law_texts" (defArgs s__law_texts) (defBody s__law_texts) (defScope s__law_texts) [] [] (He.fAd K d__law_texts.at_) (fdOf K d__law_texts.at_) := fun_fdOf (T.c.def_ 30 (d := d__law_texts) rfl)
theorem b__law_texts (T : Tx K mg) : Binds K (fdOf K d__law_texts.at_) ["_law_found"] [] := (F__law_texts T).bindsN fun _ _ _ _ _ _ us hl => match us, hl with | [_], _ => rfl
theorem F_Source___init__ (T : Tx K mg) : FunD K "__init__" "Source.__init__" (defArgs s_Source___init__) (defBody s_Source___init__) (defScope s_Source___init__) [] [] (He.fAd K d_Source___init__.at_) (fdOf K d_Source___init__.at_) := fun_fdOf (T.c.def_ 31 (d := d_Source___init__) rfl)
theorem b_Source___init__ (T : Tx K mg) : Binds K (fdOf K d_Source___init__.at_) ["self", "signs", "at", "fills"] [] := (F_Source___init__ T).bindsN fun _ _ _ _ _ _ us hl => match us, hl with | [_, _, _, _], _ => rfl
theorem F_Short___init__ (T : Tx K mg) : FunD K "__init__" "Short.__init__" (defArgs s_Short___init__) (defBody s_Short___init__) (defScope s_Short___init__) [] [] (He.fAd K d_Short___init__.at_) (fdOf K d_Short___init__.at_) := fun_fdOf (T.c.def_ 32 (d := d_Short___init__) rfl)
theorem b_Short___init__ (T : Tx K mg) : Binds K (fdOf K d_Short___init__.at_) ["self", "place"] [] := (F_Short___init__ T).bindsN fun _ _ _ _ _ _ us hl => match us, hl with | [_, _], _ => rfl
theorem F_Source_take (T : Tx K mg) : FunD K "take" "Source.take" (defArgs s_Source_take) (defBody s_Source_take) (defScope s_Source_take) [] [] (He.fAd K d_Source_take.at_) (fdOf K d_Source_take.at_) := fun_fdOf (T.c.def_ 33 (d := d_Source_take) rfl)
theorem b_Source_take (T : Tx K mg) : Binds K (fdOf K d_Source_take.at_) ["self", "wish"] [] := (F_Source_take T).bindsN fun _ _ _ _ _ _ us hl => match us, hl with | [_, _], _ => rfl
theorem F_take_digits (T : Tx K mg) : FunD K "take_digits" "take_digits" (defArgs s_take_digits) (defBody s_take_digits) (defScope s_take_digits) [] [] (He.fAd K d_take_digits.at_) (fdOf K d_take_digits.at_) := fun_fdOf (T.c.def_ 34 (d := d_take_digits) rfl)
theorem b_take_digits (T : Tx K mg) : Binds K (fdOf K d_take_digits.at_) ["source", "number", "many"] [] := (F_take_digits T).bindsN fun _ _ _ _ _ _ us hl => match us, hl with | [_, _, _], _ => rfl
theorem F_take_count (T : Tx K mg) : FunD K "take_count" "take_count" (defArgs s_take_count) (defBody s_take_count) (defScope s_take_count) [] [] (He.fAd K d_take_count.at_) (fdOf K d_take_count.at_) := fun_fdOf (T.c.def_ 35 (d := d_take_count) rfl)
theorem b_take_count (T : Tx K mg) : Binds K (fdOf K d_take_count.at_) ["source", "wish"] [] := (F_take_count T).bindsN fun _ _ _ _ _ _ us hl => match us, hl with | [_, _], _ => rfl
theorem F_Source_spot (T : Tx K mg) : FunD K "spot" "Source.spot" (defArgs s_Source_spot) (defBody s_Source_spot) (defScope s_Source_spot) [] [] (He.fAd K d_Source_spot.at_) (fdOf K d_Source_spot.at_) := fun_fdOf (T.c.def_ 36 (d := d_Source_spot) rfl)
theorem b_Source_spot (T : Tx K mg) : Binds K (fdOf K d_Source_spot.at_) ["self"] [] := (F_Source_spot T).bindsN fun _ _ _ _ _ _ us hl => match us, hl with | [_], _ => rfl
theorem F_read_count (T : Tx K mg) : FunD K "read_count" "read_count" (defArgs s_read_count) (defBody s_read_count) (defScope s_read_count) [] [] (He.fAd K d_read_count.at_) (fdOf K d_read_count.at_) := fun_fdOf (T.c.def_ 37 (d := d_read_count) rfl)
theorem b_read_count (T : Tx K mg) : Binds K (fdOf K d_read_count.at_) ["signs", "at"] [] := (F_read_count T).bindsN fun _ _ _ _ _ _ us hl => match us, hl with | [_, _], _ => rfl
theorem F_count_at (T : Tx K mg) : FunD K "count_at" "count_at" (defArgs s_count_at) (defBody s_count_at) (defScope s_count_at) [] [] (He.fAd K d_count_at.at_) (fdOf K d_count_at.at_) := fun_fdOf (T.c.def_ 38 (d := d_count_at) rfl)
theorem b_count_at (T : Tx K mg) : Binds K (fdOf K d_count_at.at_) ["page", "at"] [] := (F_count_at T).bindsN fun _ _ _ _ _ _ us hl => match us, hl with | [_, _], _ => rfl
theorem F_entry_at (T : Tx K mg) : FunD K "entry_at" "entry_at" (defArgs s_entry_at) (defBody s_entry_at) (defScope s_entry_at) [] [] (He.fAd K d_entry_at.at_) (fdOf K d_entry_at.at_) := fun_fdOf (T.c.def_ 39 (d := d_entry_at) rfl)
theorem b_entry_at (T : Tx K mg) : Binds K (fdOf K d_entry_at.at_) ["page", "at", "last"] [] := (F_entry_at T).bindsN fun _ _ _ _ _ _ us hl => match us, hl with | [_, _, _], _ => rfl
theorem F_rows_of (T : Tx K mg) : FunD K "rows_of" "rows_of" (defArgs s_rows_of) (defBody s_rows_of) (defScope s_rows_of) [] [] (He.fAd K d_rows_of.at_) (fdOf K d_rows_of.at_) := fun_fdOf (T.c.def_ 40 (d := d_rows_of) rfl)
theorem b_rows_of (T : Tx K mg) : Binds K (fdOf K d_rows_of.at_) ["page"] [] := (F_rows_of T).bindsN fun _ _ _ _ _ _ us hl => match us, hl with | [_], _ => rfl
theorem F__law_parting (T : Tx K mg) : FunD K "_law_parting" "_law_parting" (defArgs s__law_parting) (defBody s__law_parting) (defScope s__law_parting) [] [] (He.fAd K d__law_parting.at_) (fdOf K d__law_parting.at_) := fun_fdOf (T.c.def_ 41 (d := d__law_parting) rfl)
theorem b__law_parting (T : Tx K mg) : Binds K (fdOf K d__law_parting.at_) ["_law_one", "_law_other"] [] := (F__law_parting T).bindsN fun _ _ _ _ _ _ us hl => match us, hl with | [_, _], _ => rfl
theorem F__law_pages (T : Tx K mg) : FunD K "_law_pages" "_law_pages" (defArgs s__law_pages) (defBody s__law_pages) (defScope s__law_pages) [] [] (He.fAd K d__law_pages.at_) (fdOf K d__law_pages.at_) := fun_fdOf (T.c.def_ 42 (d := d__law_pages) rfl)
theorem b__law_pages (T : Tx K mg) : Binds K (fdOf K d__law_pages.at_) ["_law_shelf", "_law_room", "_law_kept", "_law_ahead"] [] := (F__law_pages T).bindsN fun _ _ _ _ _ _ us hl => match us, hl with | [_, _, _, _], _ => rfl
theorem F_law (T : Tx K mg) : FunD K "law" "law" (defArgs s_law) (defBody s_law) (defScope s_law) [] [] (He.fAd K d_law.at_) (fdOf K d_law.at_) := fun_fdOf (T.c.def_ 43 (d := d_law) rfl)
theorem b_law (T : Tx K mg) : Binds K (fdOf K d_law.at_) ["_law_script"] [] := (F_law T).bindsN fun _ _ _ _ _ _ us hl => match us, hl with | [_], _ => rfl
end
section
variable {P : Program} {w : World} {K : PySem.W.Frag} {mg : Str → Option Value} {base : Heap}
theorem ok__law_cell_at (T : Tx K mg) : FnOk P w K mg base (L2.CX P w) 1 (He.fAd K d__law_cell_at.at_) (fdOf K d__law_cell_at.at_) ["_law_script", "_law_k"] (sp__law_cell_at K) := by
  refine (F__law_cell_at T).ok (k := 0) sc__law_cell_at (fun vs H Q E h => len__law_cell_at h) (fun cdv A outer s H vs Q E hr h => ⟨t__law_cell_at K, ?_, rd__law_cell_at vs H Q E h⟩)
  exact PSs.nox (pss_cons (ps_if (pt_cmpR op_lt (pv 1) (pe_callB call_lenK (by rfl) T.free_len (by decide +kernel) (pa_cons (pv 0) pa_nil)) (nomark _)) (pss_one (ps_ret (pe_ix ix_list (pv 0) (pv 1) (fun _ _ => rfl)))) pss_nil)
    (pss_one (ps_ret pe_int)))
theorem ok_Turned___init__ (T : Tx K mg) : FnOk P w K mg base (L2.CX P w) 1 (He.fAd K d_Turned___init__.at_) (fdOf K d_Turned___init__.at_) ["self", "inner"] (sp_Turned___init__ K) := by
  refine (F_Turned___init__ T).ok (k := 0) sc_Turned___init__ (fun vs H Q E h => len_Turned___init__ h) (fun cdv A outer s H vs Q E hr h => ⟨t_Turned___init__ K, ?_, rd_Turned___init__ vs H Q E h⟩)
  exact PSs.nox (pss_one (ps_fldC T.cls_Turned T.noat_Turned_inner (pv 0) (pv 1)))
theorem ok_Shelf___init__ (T : Tx K mg) : FnOk P w K mg base (L2.CX P w) 1 (He.fAd K d_Shelf___init__.at_) (fdOf K d_Shelf___init__.at_) ["self", "form", "room"] (sp_Shelf___init__ K) := by
  refine (F_Shelf___init__ T).ok (k := 0) sc_Shelf___init__ (fun vs H Q E h => len_Shelf___init__ h) (fun cdv A outer s H vs Q E hr h => ⟨t_Shelf___init__ K E, ?_, rd_Shelf___init__ vs H Q E h⟩)
  exact (pss_cons (ps_if (PW.pt (pw_or (pt_cmpR op_lt (pv 2) (pe_gint (by rfl) T.int_LEAST_ROOM_2) (nomark _)) (pw_or1 (pt_cmpR op_gt (pv 2) (pe_gint (by rfl) T.int_MOST_ROOM_20) (nomark _))))) (pss_one (ps_raise rfl (takes_of rfl rfl rfl rfl) (pmk_txt T.exc_NoForm T.glo_NoForm))) pss_nil)
    (pss_cons (ps_fldC T.cls_Shelf T.noat_Shelf_form (pv 0) (pv 1))
    (pss_cons (ps_fldC T.cls_Shelf T.noat_Shelf_room (pv 0) (pv 2))
    (pss_one (ps_fldC T.cls_Shelf T.noat_Shelf_stacks (pv 0) (pe_lst pa_nil))))))
theorem ok__law_number (T : Tx K mg) : FnOk P w K mg base (L2.CX P w) 1 (He.fAd K d__law_number.at_) (fdOf K d__law_number.at_) ["_law_cell"] (sp__law_number K) := by
  refine (F__law_number T).ok (k := 0) sc__law_number (fun vs H Q E h => len__law_number h) (fun cdv A outer s H vs Q E hr h => ⟨t__law_number K, ?_, rd__law_number vs H Q E h⟩)
  exact PSs.nox (pss_cons (ps_set (i := 1) sc__law_number.nd rfl (.inl rfl) (pe_op op_mod (pe_op op_fdivW (pv 0) pe_int) (pe_ix ix_list (pe_lst (pa_cons pe_int (pa_cons pe_int (pa_cons (pe_op op_pow pe_int pe_int) pa_nil)))) (pe_op op_mod (pe_op op_fdivW (pv 0) pe_int) pe_int) (fun _ _ => rfl))))
    (pss_cons (ps_if (pt_cmpR op_eq (pe_op op_mod (pe_op op_fdivW (pv 0) pe_int) pe_int) pe_int (nomark _)) (pss_one (ps_ret (pe_op op_sub pe_int (pv 1)))) pss_nil)
    (pss_one (ps_ret (pv 1)))))
theorem ok_digits_of (T : Tx K mg) : FnOk P w K mg base (L2.CX P w) 1 (He.fAd K d_digits_of.at_) (fdOf K d_digits_of.at_) ["number", "many"] (sp_digits_of K) := by
  refine (F_digits_of T).ok (k := 0) sc_digits_of (fun vs H Q E h => len_digits_of h) (fun cdv A outer s H vs Q E hr h => ⟨t_digits_of K, ?_, rd_digits_of vs H Q E h⟩)
  exact PSs.nox (pss_one (ps_ret (pe_bm PySem.F.plainAttrs_str PySem.F.slot_str_join PySem.F.type_str_join mt_joinK (pe_T (l := []) (by decide +kernel)) (pa_cons (pe_lc (own := [("k", 2)]) (g := (gName 2)) (tt := tYes) rfl sc_digits_of.nd (pi_range1 (by rfl) T.free_range (pa_cons (pv 1) pa_nil)) (blkOk_by (N := N_digits_of) (sc := defScope s_digits_of) (by decide +kernel)) (fun _ _ _ _ _ => (pg_name (i := 2) sc_digits_of.nd rfl (.inl rfl))) (fun _ _ _ _ _ => by exact pts_nil) (fun _ _ _ _ _ => by exact (pe_ix ix_str (pe_T (l := [48, 49]) (by decide +kernel)) (pe_op op_and (pe_op op_shr (pv 0) (pe_op op_sub (pe_op op_sub (pv 1) pe_int) (pv 2))) pe_int) (fun _ _ => rfl)))) pa_nil))))
theorem ok_count_row (T : Tx K mg) : FnOk P w K mg base (L2.CX P w) 2 (He.fAd K d_count_row.at_) (fdOf K d_count_row.at_) ["n"] (sp_count_row K) := by
  refine (F_count_row T).ok (k := 1) sc_count_row (fun vs H Q E h => len_count_row h) (fun cdv A outer s H vs Q E hr h => ⟨t_count_row K E, ?_, rd_count_row vs H Q E h⟩)
  exact (pss_cons (ps_set (i := 1) sc_count_row.nd rfl (.inl rfl) (pe_op op_add (pv 0) pe_int))
    (pss_cons (ps_if (PW.pt (pw_or (pt_cmpR op_lt (pv 0) pe_int (nomark _)) (pw_or1 (pt_cmpR op_gt (pe_bits (pv 1)) (pe_gint (by rfl) T.int_MOST_DIGITS_counts_255) (nomark _))))) (pss_one (ps_raise rfl (takes_of rfl rfl rfl rfl) (pmk_txt T.exc_NoFit T.glo_NoFit))) pss_nil)
    (pss_cons (ps_set (i := 2) sc_count_row.nd rfl (.inl rfl) (pe_bits (pv 1)))
    (pss_cons (ps_set (i := 3) sc_count_row.nd rfl (.inl rfl) (pe_op op_sub (pe_bits (pv 2)) pe_int))
    (pss_cons (ps_set (i := 4) sc_count_row.nd rfl (.inl rfl) (pe_op op_mulT (pe_T (l := [49]) (by decide +kernel)) (pv 3)))
    (pss_cons (ps_if (pt_cmpR op_lt (pv 3) (pe_gint (by rfl) T.int_MOST_ONES_7) (nomark _)) (pss_one (ps_set (i := 4) sc_count_row.nd rfl (.inl rfl) (pe_op op_addT (pv 4) (pe_T (l := [48]) (by decide +kernel))))) pss_nil)
    (pss_one (ps_ret (pe_op op_addT (pe_op op_addT (pv 4) (pe_call (ok_digits_of T) (hr.mono (by omega)) (by rfl) T.glo_digits_of (F_digits_of T).kp (b_digits_of T) .nil passL (pa_cons (pv 2) (pa_cons (pv 3) pa_nil)))) (pe_call (ok_digits_of T) (hr.mono (by omega)) (by rfl) T.glo_digits_of (F_digits_of T).kp (b_digits_of T) .nil passL (pa_cons (pv 1) (pa_cons (pe_op op_sub (pv 2) pe_int) pa_nil))))))))))))
theorem ok_other_sign (T : Tx K mg) : FnOk P w K mg base (L2.CX P w) 1 (He.fAd K d_other_sign.at_) (fdOf K d_other_sign.at_) ["sign"] (sp_other_sign K) := by
  refine (F_other_sign T).ok (k := 0) sc_other_sign (fun vs H Q E h => len_other_sign h) (fun cdv A outer s H vs Q E hr h => ⟨t_other_sign K, ?_, rd_other_sign vs H Q E h⟩)
  exact PSs.nox (pss_cons (ps_if (pt_cmpR op_eq (pv 0) (pe_T (l := [48]) (by decide +kernel)) (nomark _)) (pss_one (ps_ret (pe_T (l := [49]) (by decide +kernel)))) pss_nil)
    (pss_one (ps_ret (pe_T (l := [48]) (by decide +kernel)))))
theorem ok_turned_row (T : Tx K mg) : FnOk P w K mg base (L2.CX P w) 2 (He.fAd K d_turned_row.at_) (fdOf K d_turned_row.at_) ["row"] (sp_turned_row K) := by
  refine (F_turned_row T).ok (k := 1) sc_turned_row (fun vs H Q E h => len_turned_row h) (fun cdv A outer s H vs Q E hr h => ⟨t_turned_row K, ?_, rd_turned_row vs H Q E h⟩)
  exact PSs.nox (pss_one (ps_ret (pe_bm PySem.F.plainAttrs_str PySem.F.slot_str_join PySem.F.type_str_join mt_joinK (pe_T (l := []) (by decide +kernel)) (pa_cons (pe_lc (own := [("sign", 1)]) (g := (gName 1)) (tt := tYes) rfl sc_turned_row.nd (pi_str (pv 0)) (blkOk_by (N := N_turned_row) (sc := defScope s_turned_row) (by decide +kernel)) (fun _ _ _ _ _ => (pg_name (i := 1) sc_turned_row.nd rfl (.inl rfl))) (fun _ _ _ _ _ => by exact pts_nil) (fun _ _ _ _ _ => by exact (pe_call (ok_other_sign T) (hr.mono (by omega)) (by rfl) T.glo_other_sign (F_other_sign T).kp (b_other_sign T) .nil passL (pa_cons (pv 1) pa_nil)))) pa_nil))))
theorem ok_whole_row (T : Tx K mg) : FnOk P w K mg base (L2.CX P w) 3 (He.fAd K d_whole_row.at_) (fdOf K d_whole_row.at_) ["n"] (sp_whole_row K) := by
  refine (F_whole_row T).ok (k := 2) sc_whole_row (fun vs H Q E h => len_whole_row h) (fun cdv A outer s H vs Q E hr h => ⟨t_whole_row K E, ?_, rd_whole_row vs H Q E h⟩)
  exact (pss_cons (ps_if (pt_cmpR op_lt (pv 0) pe_int (nomark _)) (pss_one (ps_ret (pe_op op_addT (pe_T (l := [48]) (by decide +kernel)) (pe_call (ok_turned_row T) (hr.mono (by omega)) (by rfl) T.glo_turned_row (F_turned_row T).kp (b_turned_row T) .nil passL (pa_cons (pe_call (ok_count_row T) (hr.mono (by omega)) (by rfl) T.glo_count_row (F_count_row T).kp (b_count_row T) .nil (passes_call (takes_of rfl rfl rfl rfl) (fun _ _ _ _ h => h)) (pa_cons (pe_op op_sub (pe_un un_neg pe_int) (pv 0)) pa_nil)) pa_nil))))) pss_nil)
    (pss_one (ps_ret (pe_op op_addT (pe_T (l := [49]) (by decide +kernel)) (pe_call (ok_count_row T) (hr.mono (by omega)) (by rfl) T.glo_count_row (F_count_row T).kp (b_count_row T) .nil (passes_call (takes_of rfl rfl rfl rfl) (fun _ _ _ _ h => h)) (pa_cons (pv 0) pa_nil))))))
theorem ok_has_row (T : Tx K mg) : FnOk P w K mg base (L2.CX P w) 1 (He.fAd K d_has_row.at_) (fdOf K d_has_row.at_) ["number"] (sp_has_row K) := by
  refine (F_has_row T).ok (k := 0) sc_has_row (fun vs H Q E h => len_has_row h) (fun cdv A outer s H vs Q E hr h => ⟨t_has_row K, ?_, rd_has_row vs H Q E h⟩)
  exact PSs.nox (pss_one (ps_ret (pe_cmpR op_le (pe_bits (pe_callB (call_max2 rfl) (by rfl) T.free_max (by decide +kernel) (pa_cons (pe_op op_add (pv 0) pe_int) (pa_cons (pe_op op_sub pe_int (pv 0)) pa_nil)))) (pe_gint (by rfl) T.int_MOST_DIGITS_forms_255) (nomark _))))
theorem ok_is_whole (T : Tx K mg) : FnOk P w K mg base (L2.CX P w) 1 (He.fAd K d_is_whole.at_) (fdOf K d_is_whole.at_) ["value"] (sp_is_whole K) := by
  refine (F_is_whole T).ok (k := 0) sc_is_whole (fun vs H Q E h => len_is_whole h) (fun cdv A outer s H vs Q E hr h => ⟨t_is_whole K, ?_, rd_is_whole vs H Q E h⟩)
  exact PSs.nox (pss_one (ps_ret (pe_and (pe_callB call_isi (by rfl) T.free_isinstance (by decide +kernel) (pa_cons (pv 0) (pa_cons (pe_bltn (v := .ty "int") (by rfl) T.free_int (by decide +kernel) rfl) pa_nil))) (pe_one (pe_not (pe_callB call_isi (by rfl) T.free_isinstance (by decide +kernel) (pa_cons (pv 0) (pa_cons (pe_bltn (v := .ty "bool") (by rfl) T.free_bool (by decide +kernel) rfl) pa_nil))))))))
theorem ok_Whole_fits (T : Tx K mg) : FnOk P w K mg base (L2.CX P w) 2 (He.fAd K d_Whole_fits.at_) (fdOf K d_Whole_fits.at_) ["self", "value"] (sp_Whole_fits K) := by
  refine (F_Whole_fits T).ok (k := 1) sc_Whole_fits (fun vs H Q E h => len_Whole_fits h) (fun cdv A outer s H vs Q E hr h => ⟨t_Whole_fits K, ?_, rd_Whole_fits vs H Q E h⟩)
  exact PSs.nox (pss_one (ps_ret (pe_and (pe_call (ok_is_whole T) (hr.mono (by omega)) (by rfl) T.glo_is_whole (F_is_whole T).kp (b_is_whole T) .nil passL (pa_cons (pv 1) pa_nil)) (pe_one (pe_call (ok_has_row T) (hr.mono (by omega)) (by rfl) T.glo_has_row (F_has_row T).kp (b_has_row T) .nil passL (pa_cons (pv 1) pa_nil))))))
theorem ok_Turned_fits (T : Tx K mg) : FnOk P w K mg base (L2.CX P w) 3 (He.fAd K d_Turned_fits.at_) (fdOf K d_Turned_fits.at_) ["self", "value"] (sp_Turned_fits K) := by
  refine (F_Turned_fits T).ok (k := 2) sc_Turned_fits (fun vs H Q E h => len_Turned_fits h) (fun cdv A outer s H vs Q E hr h => ⟨t_Turned_fits K, ?_, rd_Turned_fits vs H Q E h⟩)
  exact PSs.nox (pss_one (ps_ret (pe_meth (pe_fldC T.cls_Turned T.noat_Turned_inner (pv 0)) T.cls_Whole T.meth_Whole_fits (ok_Whole_fits T) (hr.mono (by omega)) (b_Whole_fits T) .nil passL (pa_cons (pv 1) pa_nil))))
theorem ok_Whole_laid (T : Tx K mg) : FnOk P w K mg base (L2.CX P w) 4 (He.fAd K d_Whole_laid.at_) (fdOf K d_Whole_laid.at_) ["self", "value"] (sp_Whole_laid K) := by
  refine (F_Whole_laid T).ok (k := 3) sc_Whole_laid (fun vs H Q E h => len_Whole_laid h) (fun cdv A outer s H vs Q E hr h => ⟨t_Whole_laid K E, ?_, rd_Whole_laid vs H Q E h⟩)
  exact (pss_one (ps_ret (pe_call (ok_whole_row T) (hr.mono (by omega)) (by rfl) T.glo_whole_row (F_whole_row T).kp (b_whole_row T) .nil (passes_call (takes_of rfl rfl rfl rfl) (fun _ _ _ _ h => h)) (pa_cons (pv 1) pa_nil))))
theorem ok_Whole_row (T : Tx K mg) : FnOk P w K mg base (L2.CX P w) 5 (He.fAd K d_Whole_row.at_) (fdOf K d_Whole_row.at_) ["self", "value"] (sp_Whole_row K) := by
  refine (F_Whole_row T).ok (k := 4) sc_Whole_row (fun vs H Q E h => len_Whole_row h) (fun cdv A outer s H vs Q E hr h => ⟨t_Whole_row K E, ?_, rd_Whole_row vs H Q E h⟩)
  exact (pss_cons (ps_if (pt_not (pt_val (pe_meth (pv 0) T.cls_Whole T.meth_Whole_fits (ok_Whole_fits T) (hr.mono (by omega)) (b_Whole_fits T) .nil passL (pa_cons (pv 1) pa_nil)))) (pss_one (ps_raise rfl (takes_of rfl rfl rfl rfl) (pmk_txt T.exc_NoFit T.glo_NoFit))) pss_nil)
    (pss_one (ps_ret (pe_meth (pv 0) T.cls_Whole T.meth_Whole_laid (ok_Whole_laid T) (hr.mono (by omega)) (b_Whole_laid T) .nil (passes_call (takes_of rfl rfl rfl rfl) (fun _ _ _ _ h => h)) (pa_cons (pv 1) pa_nil)))))
theorem ok_Turned_laid (T : Tx K mg) : FnOk P w K mg base (L2.CX P w) 5 (He.fAd K d_Turned_laid.at_) (fdOf K d_Turned_laid.at_) ["self", "value"] (sp_Turned_laid K) := by
  refine (F_Turned_laid T).ok (k := 4) sc_Turned_laid (fun vs H Q E h => len_Turned_laid h) (fun cdv A outer s H vs Q E hr h => ⟨t_Turned_laid K E, ?_, rd_Turned_laid vs H Q E h⟩)
  exact (pss_one (ps_ret (pe_call (ok_turned_row T) (hr.mono (by omega)) (by rfl) T.glo_turned_row (F_turned_row T).kp (b_turned_row T) .nil passL (pa_cons (pe_meth (pe_fldC T.cls_Turned T.noat_Turned_inner (pv 0)) T.cls_Whole T.meth_Whole_laid (ok_Whole_laid T) (hr.mono (by omega)) (b_Whole_laid T) .nil (passes_call (takes_of rfl rfl rfl rfl) (fun _ _ _ _ h => h)) (pa_cons (pv 1) pa_nil)) pa_nil))))
theorem ok_Turned_row (T : Tx K mg) : FnOk P w K mg base (L2.CX P w) 6 (He.fAd K d_Turned_row.at_) (fdOf K d_Turned_row.at_) ["self", "value"] (sp_Turned_row K) := by
  refine (F_Turned_row T).ok (k := 5) sc_Turned_row (fun vs H Q E h => len_Turned_row h) (fun cdv A outer s H vs Q E hr h => ⟨t_Turned_row K E, ?_, rd_Turned_row vs H Q E h⟩)
  exact (pss_cons (ps_if (pt_not (pt_val (pe_meth (pv 0) T.cls_Turned T.meth_Turned_fits (ok_Turned_fits T) (hr.mono (by omega)) (b_Turned_fits T) .nil passL (pa_cons (pv 1) pa_nil)))) (pss_one (ps_raise rfl (takes_of rfl rfl rfl rfl) (pmk_txt T.exc_NoFit T.glo_NoFit))) pss_nil)
    (pss_one (ps_ret (pe_meth (pv 0) T.cls_Turned T.meth_Turned_laid (ok_Turned_laid T) (hr.mono (by omega)) (b_Turned_laid T) .nil (passes_call (takes_of rfl rfl rfl rfl) (fun _ _ _ _ h => h)) (pa_cons (pv 1) pa_nil)))))
theorem ok_Shelf_row_for (T : Tx K mg) : FnOk P w K mg base (L2.CX P w) 7 (He.fAd K d_Shelf_row_for.at_) (fdOf K d_Shelf_row_for.at_) ["self", "value"] (sp_Shelf_row_for K) := by
  refine (F_Shelf_row_for T).ok (k := 6) sc_Shelf_row_for (fun vs H Q E h => len_Shelf_row_for h) (fun cdv A outer s H vs Q E hr h => ⟨t_Shelf_row_for K E, ?_, rd_Shelf_row_for vs H Q E h⟩)
  exact (pss_cons (ps_if (pt_not (pt_val (pe_or2 (pe_meth (pe_fldC T.cls_Shelf T.noat_Shelf_form (pv 0)) T.cls_Whole T.meth_Whole_fits (ok_Whole_fits T) (hr.mono (by omega)) (b_Whole_fits T) .nil passL (pa_cons (pv 1) pa_nil)) (pe_meth (pe_fldC T.cls_Shelf T.noat_Shelf_form (pv 0)) T.cls_Turned T.meth_Turned_fits (ok_Turned_fits T) (hr.mono (by omega)) (b_Turned_fits T) .nil passL (pa_cons (pv 1) pa_nil))))) (pss_one (ps_raise rfl (takes_of rfl rfl rfl rfl) (pmk_txt T.exc_NoFit T.glo_NoFit))) pss_nil)
    (pss_one (ps_ret (pe_or2 (pe_meth (pe_fldC T.cls_Shelf T.noat_Shelf_form (pv 0)) T.cls_Whole T.meth_Whole_row (ok_Whole_row T) (hr.mono (by omega)) (b_Whole_row T) .nil (passes_call (takes_of rfl rfl rfl rfl) (fun _ _ _ _ h => h)) (pa_cons (pv 1) pa_nil)) (pe_meth (pe_fldC T.cls_Shelf T.noat_Shelf_form (pv 0)) T.cls_Turned T.meth_Turned_row (ok_Turned_row T) (hr.mono (by omega)) (b_Turned_row T) .nil (passes_call (takes_of rfl rfl rfl rfl) (fun _ _ _ _ h => h)) (pa_cons (pv 1) pa_nil))))))
theorem ok_Shelf_stack_for (T : Tx K mg) : FnOk P w K mg base (L2.CX P w) 1 (He.fAd K d_Shelf_stack_for.at_) (fdOf K d_Shelf_stack_for.at_) ["self", "row"] (sp_Shelf_stack_for K) := by
  refine (F_Shelf_stack_for T).ok (k := 0) sc_Shelf_stack_for (fun vs H Q E h => len_Shelf_stack_for h) (fun cdv A outer s H vs Q E hr h => ⟨t_Shelf_stack_for K, ?_, rd_Shelf_stack_for vs H Q E h⟩)
  exact PSs.nox (pss_cons (ps_set (i := 2) sc_Shelf_stack_for.nd rfl (.inl rfl) pe_int)
    (pss_cons (ps_for PassesOwn.never rfl (pi_enum (by rfl) T.free_enumerate (pa_cons (pe_fldC T.cls_Shelf T.noat_Shelf_stacks (pv 0)) pa_nil)) (pg_tup rfl (pgs_cons (pg_name (i := 3) sc_Shelf_stack_for.nd rfl (.inl rfl)) (pgs_cons (pg_name (i := 4) sc_Shelf_stack_for.nd rfl (.inl rfl)) pgs_nil))) (pss_one (ps_if (PW.pt (pw_and (pt_cmpR op_gt (pv 3) pe_int (nomark _)) (pw_and1 (pt_cmpR op_leT' (pe_ix ix_list (pv 4) pe_int (fun _ _ => rfl)) (pv 1) (nomark _))))) (pss_one (ps_set (i := 2) sc_Shelf_stack_for.nd rfl (.inl rfl) (pv 3))) pss_nil)))
    (pss_one (ps_ret (pv 2)))))
theorem ok_Shelf_holds (T : Tx K mg) : FnOk P w K mg base (L2.CX P w) 2 (He.fAd K d_Shelf_holds.at_) (fdOf K d_Shelf_holds.at_) ["self", "row"] (sp_Shelf_holds K) := by
  refine (F_Shelf_holds T).ok (k := 1) sc_Shelf_holds (fun vs H Q E h => len_Shelf_holds h) (fun cdv A outer s H vs Q E hr h => ⟨t_Shelf_holds K, ?_, rd_Shelf_holds vs H Q E h⟩)
  exact PSs.nox (pss_one (ps_ret (pe_and (pe_cmpR op_gt (pe_callB call_lenK (by rfl) T.free_len (by decide +kernel) (pa_cons (pe_fldC T.cls_Shelf T.noat_Shelf_stacks (pv 0)) pa_nil)) pe_int (nomark _)) (pe_one (pe_cmpR op_in_seq (pv 1) (pe_ix ix_list (pe_fldC T.cls_Shelf T.noat_Shelf_stacks (pv 0)) (pe_meth (pv 0) T.cls_Shelf T.meth_Shelf_stack_for (ok_Shelf_stack_for T) (hr.mono (by omega)) (b_Shelf_stack_for T) .nil passL (pa_cons (pv 1) pa_nil)) (fun _ _ => rfl)) (by rfl))))))
theorem ok_place_among (T : Tx K mg) : FnOk P w K mg base (L2.CX P w) 1 (He.fAd K d_place_among.at_) (fdOf K d_place_among.at_) ["rows", "row"] (sp_place_among K) := by
  refine (F_place_among T).ok (k := 0) sc_place_among (fun vs H Q E h => len_place_among h) (fun cdv A outer s H vs Q E hr h => ⟨t_place_among K, ?_, rd_place_among vs H Q E h⟩)
  exact PSs.nox (pss_cons (ps_set (i := 2) sc_place_among.nd rfl (.inl rfl) pe_int)
    (pss_cons (ps_set (i := 3) sc_place_among.nd rfl (.inl rfl) (pe_callB call_lenK (by rfl) T.free_len (by decide +kernel) (pa_cons (pv 0) pa_nil)))
    (pss_cons (ps_while PassesOwn.never (pt_cmpR op_lt (pv 2) (pv 3) (nomark _)) (pss_cons (ps_set (i := 4) sc_place_among.nd rfl (.inl rfl) (pe_op op_fdivW (pe_op op_add (pv 2) (pv 3)) pe_int))
    (pss_one (ps_if (pt_cmpR op_ltT' (pe_ix ix_list (pv 0) (pv 4) (fun _ _ => rfl)) (pv 1) (nomark _)) (pss_one (ps_set (i := 2) sc_place_among.nd rfl (.inl rfl) (pe_op op_add (pv 4) pe_int))) (pss_one (ps_set (i := 3) sc_place_among.nd rfl (.inl rfl) (pv 4)))))))
    (pss_one (ps_ret (pv 2))))))
theorem ok_Shelf_joined_near (T : Tx K mg) : FnOk P w K mg base (L2.CX P w) 1 (He.fAd K d_Shelf_joined_near.at_) (fdOf K d_Shelf_joined_near.at_) ["self", "place"] (sp_Shelf_joined_near K) := by
  refine (F_Shelf_joined_near T).ok (k := 0) sc_Shelf_joined_near (fun vs H Q E h => len_Shelf_joined_near h) (fun cdv A outer s H vs Q E hr h => ⟨t_Shelf_joined_near K, ?_, rd_Shelf_joined_near vs H Q E h⟩)
  exact PSs.nox (pss_one (ps_for PassesOwn.never rfl (pi_list (pe_lst (pa_cons (pv 1) (pa_cons (pe_op op_sub (pv 1) pe_int) pa_nil)))) (pg_name (i := 2) sc_Shelf_joined_near.nd rfl (.inl rfl)) (pss_one (ps_if (PW.pt (pw_and (pt_cmpR op_ge (pv 2) pe_int (nomark _)) (pw_and1 (pt_cmpR op_lt (pe_op op_add (pv 2) pe_int) (pe_callB call_lenK (by rfl) T.free_len (by decide +kernel) (pa_cons (pe_fldC T.cls_Shelf T.noat_Shelf_stacks (pv 0)) pa_nil)) (nomark _))))) (pss_one (ps_if (pt_cmpR op_le (pe_op op_add (pe_callB call_lenK (by rfl) T.free_len (by decide +kernel) (pa_cons (pe_ix ix_list (pe_fldC T.cls_Shelf T.noat_Shelf_stacks (pv 0)) (pv 2) (fun _ _ => rfl)) pa_nil)) (pe_callB call_lenK (by rfl) T.free_len (by decide +kernel) (pa_cons (pe_ix ix_list (pe_fldC T.cls_Shelf T.noat_Shelf_stacks (pv 0)) (pe_op op_add (pv 2) pe_int) (fun _ _ => rfl)) pa_nil))) (pe_fldC T.cls_Shelf T.noat_Shelf_room (pv 0)) (nomark _)) (pss_cons (ps_asg (pe_op op_cat (pe_ix ix_list (pe_fldC T.cls_Shelf T.noat_Shelf_stacks (pv 0)) (pv 2) (fun _ _ => rfl)) (pe_ix ix_list (pe_fldC T.cls_Shelf T.noat_Shelf_stacks (pv 0)) (pe_op op_add (pv 2) pe_int) (fun _ _ => rfl))) (pg_sub (pe_fldC T.cls_Shelf T.noat_Shelf_stacks (pv 0)) (pv 2) set_list))
    (pss_one (ps_expr (pe_bm PySem.F.plainAttrs_list PySem.F.slot_list_pop PySem.F.type_list_pop mt_popAt (pe_fldC T.cls_Shelf T.noat_Shelf_stacks (pv 0)) (pa_cons (pe_op op_add (pv 2) pe_int) pa_nil))))) pss_nil)) pss_nil))))
theorem ok_Shelf_put (T : Tx K mg) : FnOk P w K mg base (L2.CX P w) 8 (He.fAd K d_Shelf_put.at_) (fdOf K d_Shelf_put.at_) ["self", "value"] (sp_Shelf_put K) := by
  refine (F_Shelf_put T).ok (k := 7) sc_Shelf_put (fun vs H Q E h => len_Shelf_put h) (fun cdv A outer s H vs Q E hr h => ⟨t_Shelf_put K E, ?_, rd_Shelf_put vs H Q E h⟩)
  exact (pss_cons (ps_set (i := 2) sc_Shelf_put.nd rfl (.inl rfl) (pe_meth (pv 0) T.cls_Shelf T.meth_Shelf_row_for (ok_Shelf_row_for T) (hr.mono (by omega)) (b_Shelf_row_for T) .nil (passes_call (takes_of rfl rfl rfl rfl) (fun _ _ _ _ h => h)) (pa_cons (pv 1) pa_nil)))
    (pss_cons (ps_if (pt_val (pe_meth (pv 0) T.cls_Shelf T.meth_Shelf_holds (ok_Shelf_holds T) (hr.mono (by omega)) (b_Shelf_holds T) .nil passL (pa_cons (pv 2) pa_nil))) (pss_one (ps_ret pe_bl)) pss_nil)
    (pss_cons (ps_if (pt_cmpR op_eq (pe_callB call_lenK (by rfl) T.free_len (by decide +kernel) (pa_cons (pe_fldC T.cls_Shelf T.noat_Shelf_stacks (pv 0)) pa_nil)) pe_int (nomark _)) (pss_one (ps_expr (pe_bm PySem.F.plainAttrs_list PySem.F.slot_list_append PySem.F.type_list_append mt_append (pe_fldC T.cls_Shelf T.noat_Shelf_stacks (pv 0)) (pa_cons (pe_lst pa_nil) pa_nil)))) pss_nil)
    (pss_cons (ps_set (i := 3) sc_Shelf_put.nd rfl (.inl rfl) (pe_meth (pv 0) T.cls_Shelf T.meth_Shelf_stack_for (ok_Shelf_stack_for T) (hr.mono (by omega)) (b_Shelf_stack_for T) .nil passL (pa_cons (pv 2) pa_nil)))
    (pss_cons (ps_set (i := 4) sc_Shelf_put.nd rfl (.inl rfl) (pe_ix ix_list (pe_fldC T.cls_Shelf T.noat_Shelf_stacks (pv 0)) (pv 3) (fun _ _ => rfl)))
    (pss_cons (ps_expr (pe_bm PySem.F.plainAttrs_list PySem.F.slot_list_insert PySem.F.type_list_insert mt_insertK (pv 4) (pa_cons (pe_call (ok_place_among T) (hr.mono (by omega)) (by rfl) T.glo_place_among (F_place_among T).kp (b_place_among T) .nil passL (pa_cons (pv 4) (pa_cons (pv 2) pa_nil))) (pa_cons (pv 2) pa_nil))))
    (pss_cons (ps_if (pt_cmpR op_gt (pe_callB call_lenK (by rfl) T.free_len (by decide +kernel) (pa_cons (pv 4) pa_nil)) (pe_fldC T.cls_Shelf T.noat_Shelf_room (pv 0)) (nomark _)) (pss_cons (ps_set (i := 5) sc_Shelf_put.nd rfl (.inl rfl) (pe_op op_fdivW (pe_callB call_lenK (by rfl) T.free_len (by decide +kernel) (pa_cons (pv 4) pa_nil)) pe_int))
    (pss_cons (ps_asg (pe_slice sl_list (pv 4) po_none (po_some (pv 5))) (pg_sub (pe_fldC T.cls_Shelf T.noat_Shelf_stacks (pv 0)) (pv 3) set_list))
    (pss_cons (ps_expr (pe_bm PySem.F.plainAttrs_list PySem.F.slot_list_insert PySem.F.type_list_insert mt_insertK (pe_fldC T.cls_Shelf T.noat_Shelf_stacks (pv 0)) (pa_cons (pe_op op_add (pv 3) pe_int) (pa_cons (pe_slice sl_list (pv 4) (po_some (pv 5)) po_none) pa_nil))))
    (pss_one (ps_expr (pe_meth (pv 0) T.cls_Shelf T.meth_Shelf_joined_near (ok_Shelf_joined_near T) (hr.mono (by omega)) (b_Shelf_joined_near T) .nil passL (pa_cons (pe_op op_add (pv 3) pe_int) pa_nil))))))) pss_nil)
    (pss_cons (ps_expr (pe_meth (pv 0) T.cls_Shelf T.meth_Shelf_joined_near (ok_Shelf_joined_near T) (hr.mono (by omega)) (b_Shelf_joined_near T) .nil passL (pa_cons (pv 3) pa_nil)))
    (pss_one (ps_ret pe_bl))))))))))
theorem ok_Shelf_take (T : Tx K mg) : FnOk P w K mg base (L2.CX P w) 8 (He.fAd K d_Shelf_take.at_) (fdOf K d_Shelf_take.at_) ["self", "value"] (sp_Shelf_take K) := by
  refine (F_Shelf_take T).ok (k := 7) sc_Shelf_take (fun vs H Q E h => len_Shelf_take h) (fun cdv A outer s H vs Q E hr h => ⟨t_Shelf_take K E, ?_, rd_Shelf_take vs H Q E h⟩)
  exact (pss_cons (ps_set (i := 2) sc_Shelf_take.nd rfl (.inl rfl) (pe_meth (pv 0) T.cls_Shelf T.meth_Shelf_row_for (ok_Shelf_row_for T) (hr.mono (by omega)) (b_Shelf_row_for T) .nil (passes_call (takes_of rfl rfl rfl rfl) (fun _ _ _ _ h => h)) (pa_cons (pv 1) pa_nil)))
    (pss_cons (ps_if (pt_not (pt_val (pe_meth (pv 0) T.cls_Shelf T.meth_Shelf_holds (ok_Shelf_holds T) (hr.mono (by omega)) (b_Shelf_holds T) .nil passL (pa_cons (pv 2) pa_nil)))) (pss_one (ps_ret pe_bl)) pss_nil)
    (pss_cons (ps_set (i := 3) sc_Shelf_take.nd rfl (.inl rfl) (pe_meth (pv 0) T.cls_Shelf T.meth_Shelf_stack_for (ok_Shelf_stack_for T) (hr.mono (by omega)) (b_Shelf_stack_for T) .nil passL (pa_cons (pv 2) pa_nil)))
    (pss_cons (ps_expr (pe_bm PySem.F.plainAttrs_list PySem.F.slot_list_remove PySem.F.type_list_remove mt_removeS (pe_ix ix_list (pe_fldC T.cls_Shelf T.noat_Shelf_stacks (pv 0)) (pv 3) (fun _ _ => rfl)) (pa_cons (pv 2) pa_nil)))
    (pss_cons (ps_if (pt_cmpR op_eq (pe_callB call_lenK (by rfl) T.free_len (by decide +kernel) (pa_cons (pe_ix ix_list (pe_fldC T.cls_Shelf T.noat_Shelf_stacks (pv 0)) (pv 3) (fun _ _ => rfl)) pa_nil)) pe_int (nomark _)) (pss_one (ps_expr (pe_bm PySem.F.plainAttrs_list PySem.F.slot_list_pop PySem.F.type_list_pop mt_popAt (pe_fldC T.cls_Shelf T.noat_Shelf_stacks (pv 0)) (pa_cons (pv 3) pa_nil)))) pss_nil)
    (pss_cons (ps_expr (pe_meth (pv 0) T.cls_Shelf T.meth_Shelf_joined_near (ok_Shelf_joined_near T) (hr.mono (by omega)) (b_Shelf_joined_near T) .nil passL (pa_cons (pv 3) pa_nil)))
    (pss_one (ps_ret pe_bl))))))))
theorem ok_shared_signs (T : Tx K mg) : FnOk P w K mg base (L2.CX P w) 1 (He.fAd K d_shared_signs.at_) (fdOf K d_shared_signs.at_) ["one", "other"] (sp_shared_signs K) := by
  refine (F_shared_signs T).ok (k := 0) sc_shared_signs (fun vs H Q E h => len_shared_signs h) (fun cdv A outer s H vs Q E hr h => ⟨t_shared_signs K, ?_, rd_shared_signs vs H Q E h⟩)
  exact PSs.nox (pss_cons (ps_set (i := 2) sc_shared_signs.nd rfl (.inl rfl) pe_int)
    (pss_cons (ps_while PassesOwn.never (PW.pt (pw_and (pt_cmpR op_lt (pv 2) (pe_callB call_lenK (by rfl) T.free_len (by decide +kernel) (pa_cons (pv 0) pa_nil)) (nomark _)) (pw_and (pt_cmpR op_lt (pv 2) (pe_callB call_lenK (by rfl) T.free_len (by decide +kernel) (pa_cons (pv 1) pa_nil)) (nomark _)) (pw_and1 (pt_cmpR op_eq (pe_ix ix_str (pv 0) (pv 2) (fun _ _ => rfl)) (pe_ix ix_str (pv 1) (pv 2) (fun _ _ => rfl)) (nomark _)))))) (pss_one (ps_aug (i := 2) sc_shared_signs.nd rfl (.inl rfl) pe_int ip_add)))
    (pss_one (ps_ret (pv 2)))))
theorem ok_parting_of (T : Tx K mg) : FnOk P w K mg base (L2.CX P w) 2 (He.fAd K d_parting_of.at_) (fdOf K d_parting_of.at_) ["one", "other"] (sp_parting_of K) := by
  refine (F_parting_of T).ok (k := 1) sc_parting_of (fun vs H Q E h => len_parting_of h) (fun cdv A outer s H vs Q E hr h => ⟨t_parting_of K E, ?_, rd_parting_of vs H Q E h⟩)
  exact (pss_cons (ps_if (pt_not (pt_cmpR op_ltT' (pv 0) (pv 1) (nomark _))) (pss_one (ps_raise rfl (takes_of rfl rfl rfl rfl) (pmk_txt T.exc_NotAhead T.glo_NotAhead))) pss_nil)
    (pss_one (ps_ret (pe_slice sl_str (pv 1) po_none (po_some (pe_op op_add (pe_call (ok_shared_signs T) (hr.mono (by omega)) (by rfl) T.glo_shared_signs (F_shared_signs T).kp (b_shared_signs T) .nil passL (pa_cons (pv 0) (pa_cons (pv 1) pa_nil))) pe_int))))))
theorem ok_Shelf_partings (T : Tx K mg) : FnOk P w K mg base (L2.CX P w) 3 (He.fAd K d_Shelf_partings.at_) (fdOf K d_Shelf_partings.at_) ["self"] (sp_Shelf_partings K) := by
  refine (F_Shelf_partings T).ok (k := 2) sc_Shelf_partings (fun vs H Q E h => len_Shelf_partings h) (fun cdv A outer s H vs Q E hr h => ⟨t_Shelf_partings K E, ?_, rd_Shelf_partings vs H Q E h⟩)
  exact (pss_cons (ps_set (i := 1) sc_Shelf_partings.nd rfl (.inl rfl) (pe_lst pa_nil))
    (pss_cons (ps_for (passes_of rfl) rfl (pi_range2 (by rfl) T.free_range (pa_cons pe_int (pa_cons (pe_callB call_lenK (by rfl) T.free_len (by decide +kernel) (pa_cons (pe_fldC T.cls_Shelf T.noat_Shelf_stacks (pv 0)) pa_nil)) pa_nil))) (pg_name (i := 2) sc_Shelf_partings.nd rfl (.inl rfl)) (pss_one (ps_expr (pe_bm PySem.F.plainAttrs_list PySem.F.slot_list_append PySem.F.type_list_append mt_append (pv 1) (pa_cons (pe_call (ok_parting_of T) (hr.mono (by omega)) (by rfl) T.glo_parting_of (F_parting_of T).kp (b_parting_of T) .nil (passes_call (takes_of rfl rfl rfl rfl) (fun _ _ _ _ h => h)) (pa_cons (pe_ix ix_list (pe_ix ix_list (pe_fldC T.cls_Shelf T.noat_Shelf_stacks (pv 0)) (pe_op op_sub (pv 2) pe_int) (fun _ _ => rfl)) (pe_un un_neg pe_int) (fun _ _ => rfl)) (pa_cons (pe_ix ix_list (pe_ix ix_list (pe_fldC T.cls_Shelf T.noat_Shelf_stacks (pv 0)) (pv 2) (fun _ _ => rfl)) pe_int (fun _ _ => rfl)) pa_nil))) pa_nil)))))
    (pss_one (ps_ret (pv 1)))))
theorem ok_entry_of (T : Tx K mg) : FnOk P w K mg base (L2.CX P w) 3 (He.fAd K d_entry_of.at_) (fdOf K d_entry_of.at_) ["last", "row"] (sp_entry_of K) := by
  refine (F_entry_of T).ok (k := 2) sc_entry_of (fun vs H Q E h => len_entry_of h) (fun cdv A outer s H vs Q E hr h => ⟨t_entry_of K E, ?_, rd_entry_of vs H Q E h⟩)
  exact (pss_cons (ps_set (i := 2) sc_entry_of.nd rfl (.inl rfl) (pe_call (ok_shared_signs T) (hr.mono (by omega)) (by rfl) T.glo_shared_signs (F_shared_signs T).kp (b_shared_signs T) .nil passL (pa_cons (pv 0) (pa_cons (pv 1) pa_nil))))
    (pss_one (ps_ret (pe_op op_addT (pe_op op_addT (pe_call (ok_count_row T) (hr.mono (by omega)) (by rfl) T.glo_count_row (F_count_row T).kp (b_count_row T) .nil (passes_call (takes_of rfl rfl rfl rfl) (fun _ _ _ _ h => h)) (pa_cons (pv 2) pa_nil)) (pe_call (ok_count_row T) (hr.mono (by omega)) (by rfl) T.glo_count_row (F_count_row T).kp (b_count_row T) .nil (passes_call (takes_of rfl rfl rfl rfl) (fun _ _ _ _ h => h)) (pa_cons (pe_op op_sub (pe_callB call_lenK (by rfl) T.free_len (by decide +kernel) (pa_cons (pv 1) pa_nil)) (pv 2)) pa_nil))) (pe_slice sl_str (pv 1) (po_some (pv 2)) po_none)))))
theorem ok_page_of (T : Tx K mg) : FnOk P w K mg base (L2.CX P w) 4 (He.fAd K d_page_of.at_) (fdOf K d_page_of.at_) ["rows"] (sp_page_of K) := by
  refine (F_page_of T).ok (k := 3) sc_page_of (fun vs H Q E h => len_page_of h) (fun cdv A outer s H vs Q E hr h => ⟨t_page_of K E, ?_, rd_page_of vs H Q E h⟩)
  exact (pss_cons (ps_set (i := 1) sc_page_of.nd rfl (.inl rfl) (pe_call (ok_count_row T) (hr.mono (by omega)) (by rfl) T.glo_count_row (F_count_row T).kp (b_count_row T) .nil (passes_call (takes_of rfl rfl rfl rfl) (fun _ _ _ _ h => h)) (pa_cons (pe_callB call_lenK (by rfl) T.free_len (by decide +kernel) (pa_cons (pv 0) pa_nil)) pa_nil)))
    (pss_cons (ps_set (i := 2) sc_page_of.nd rfl (.inl rfl) (pe_T (l := []) (by decide +kernel)))
    (pss_cons (ps_for (passes_of rfl) rfl (pi_enum (by rfl) T.free_enumerate (pa_cons (pv 0) pa_nil)) (pg_tup rfl (pgs_cons (pg_name (i := 3) sc_page_of.nd rfl (.inl rfl)) (pgs_cons (pg_name (i := 4) sc_page_of.nd rfl (.inl rfl)) pgs_nil))) (pss_cons (ps_if (PW.pt (pw_and (pt_cmpR op_gt (pv 3) pe_int (nomark _)) (pw_and1 (pt_not (pt_cmpR op_ltT' (pv 2) (pv 4) (nomark _)))))) (pss_one (ps_raise rfl (takes_of rfl rfl rfl rfl) (pmk_txt T.exc_NotAhead T.glo_NotAhead))) pss_nil)
    (pss_cons (ps_set (i := 1) sc_page_of.nd rfl (.inl rfl) (pe_op op_addT (pv 1) (pe_call (ok_entry_of T) (hr.mono (by omega)) (by rfl) T.glo_entry_of (F_entry_of T).kp (b_entry_of T) .nil (passes_call (takes_of rfl rfl rfl rfl) (fun _ _ _ _ h => h)) (pa_cons (pv 2) (pa_cons (pv 4) pa_nil)))))
    (pss_one (ps_set (i := 2) sc_page_of.nd rfl (.inl rfl) (pv 4))))))
    (pss_one (ps_ret (pv 1))))))
theorem ok_Shelf_pages (T : Tx K mg) : FnOk P w K mg base (L2.CX P w) 5 (He.fAd K d_Shelf_pages.at_) (fdOf K d_Shelf_pages.at_) ["self"] (sp_Shelf_pages K) := by
  refine (F_Shelf_pages T).ok (k := 4) sc_Shelf_pages (fun vs H Q E h => len_Shelf_pages h) (fun cdv A outer s H vs Q E hr h => ⟨t_Shelf_pages K E, ?_, rd_Shelf_pages vs H Q E h⟩)
  exact (pss_one (ps_ret (pe_lc (own := [("stack", 1)]) (g := (gName 1)) (tt := tYes) rfl sc_Shelf_pages.nd (pi_list (pe_fldC T.cls_Shelf T.noat_Shelf_stacks (pv 0))) (blkOk_by (N := N_Shelf_pages) (sc := defScope s_Shelf_pages) (by decide +kernel)) (fun _ _ _ _ _ => (pg_name (i := 1) sc_Shelf_pages.nd rfl (.inl rfl))) (fun _ _ _ _ _ => by exact pts_nil) (fun _ _ _ _ _ => by exact (pe_call (ok_page_of T) (hr.mono (by omega)) (by rfl) T.glo_page_of (F_page_of T).kp (b_page_of T) .nil passL (pa_cons (pv 1) pa_nil))))))
theorem ok__law_texts (T : Tx K mg) : FnOk P w K mg base (L2.CX P w) 1 (He.fAd K d__law_texts.at_) (fdOf K d__law_texts.at_) ["_law_found"] (sp__law_texts K) := by
  refine (F__law_texts T).ok (k := 0) sc__law_texts (fun vs H Q E h => len__law_texts h) (fun cdv A outer s H vs Q E hr h => ⟨t__law_texts K, ?_, rd__law_texts vs H Q E h⟩)
  exact PSs.nox (pss_cons (ps_if (pt_not (pt_val (pe_callB call_isi (by rfl) T.free_isinstance (by decide +kernel) (pa_cons (pv 0) (pa_cons (pe_bltn (v := .ty "list") (by rfl) T.free_list (by decide +kernel) rfl) pa_nil))))) (pss_one (ps_ret pe_bl)) pss_nil)
    (pss_one (ps_ret (pe_cmpR op_eq (pe_callB call_lenK (by rfl) T.free_len (by decide +kernel) (pa_cons (pe_lc (own := [("_law_row", 1)]) (g := (gName 1)) (tt := (tNot (tB (tCB (rIsi K) (tCons (tVar 1) (tCons (tC (.ty "str")) tNil)))))) rfl sc__law_texts.nd (pi_list (pv 0)) (blkOk_by (N := N__law_texts) (sc := defScope s__law_texts) (by decide +kernel)) (fun _ _ _ _ _ => (pg_name (i := 1) sc__law_texts.nd rfl (.inl rfl))) (fun _ _ _ _ _ => by exact (pts_one (pt_not (pt_val (pe_callB call_isi (by rfl) T.free_isinstance (by decide +kernel) (pa_cons (pv 1) (pa_cons (pe_bltn (v := .ty "str") (by rfl) T.free_str (by decide +kernel) rfl) pa_nil))))))) (fun _ _ _ _ _ => by exact (pv 1))) pa_nil)) pe_int (nomark _)))))
theorem ok_Source___init__ (T : Tx K mg) : FnOk P w K mg base (L2.CX P w) 1 (He.fAd K d_Source___init__.at_) (fdOf K d_Source___init__.at_) ["self", "signs", "at", "fills"] (sp_Source___init__ K) := by
  refine (F_Source___init__ T).ok (k := 0) sc_Source___init__ (fun vs H Q E h => len_Source___init__ h) (fun cdv A outer s H vs Q E hr h => ⟨t_Source___init__ K, ?_, rd_Source___init__ vs H Q E h⟩)
  exact PSs.nox (pss_cons (ps_fldC T.cls_Source T.noat_Source_signs (pv 0) (pv 1))
    (pss_cons (ps_fldC T.cls_Source T.noat_Source_at (pv 0) (pv 2))
    (pss_one (ps_fldC T.cls_Source T.noat_Source_fills (pv 0) (pv 3)))))
theorem ok_Short___init__ (T : Tx K mg) : FnOk P w K mg base (L2.CX P w) 1 (He.fAd K d_Short___init__.at_) (fdOf K d_Short___init__.at_) ["self", "place"] (sp_Short___init__ K) := by
  refine (F_Short___init__ T).ok (k := 0) sc_Short___init__ (fun vs H Q E h => len_Short___init__ h) (fun cdv A outer s H vs Q E hr h => ⟨t_Short___init__ K, ?_, rd_Short___init__ vs H Q E h⟩)
  exact PSs.nox (pss_cons (ps_expr (pe_rinit (T.own_Short) T.root (by rfl) T.glo_RiseError (pa_cons (pv 0) (pa_cons (pe_T (l := [116, 111, 111, 32, 115, 104, 111, 114, 116]) (by decide +kernel)) pa_nil))))
    (pss_one (ps_ostC T.own_Short (pv 0) (pv 1))))
theorem okN_Source_take (T : Tx K mg) : FnOk P w K mg base (L2N.CX P w) 3 (He.fAd K d_Source_take.at_) (fdOf K d_Source_take.at_) ["self", "wish"] (sp_Source_take K) := by
  refine (F_Source_take T).ok (k := 2) sc_Source_take (fun vs H Q E h => len_Source_take h) (fun cdv A outer s H vs Q E hr h => ⟨t_Source_take K E, ?_, rd_Source_take vs H Q E h⟩)
  exact (pss_cons (ps_if (pt_cmpR op_lt (pe_fldC T.cls_Source T.noat_Source_at (pv 0)) (pe_callB call_lenK (by rfl) T.free_len (by decide +kernel) (pa_cons (pe_fldC T.cls_Source T.noat_Source_signs (pv 0)) pa_nil)) (nomark _)) (pss_one (ps_set (i := 2) sc_Source_take.nd rfl (.inl rfl) (pe_ix ix_str (pe_fldC T.cls_Source T.noat_Source_signs (pv 0)) (pe_fldC T.cls_Source T.noat_Source_at (pv 0)) (fun _ _ => rfl)))) (pss_one (ps_if (pt_val (pe_fldC T.cls_Source T.noat_Source_fills (pv 0))) (pss_one (ps_set (i := 2) sc_Source_take.nd rfl (.inl rfl) (pv 1))) (pss_one (L2N.ps_raise rfl (L2N.takes_of rfl rfl rfl rfl) (pmkN_oex T.own_Short.T T.own_Short.i T.own_Short.t (ok_Short___init__ T) (hr.mono (by omega)) (b_Short___init__ T) passL (by rfl) T.glo_Short (pa_cons (pe_callB call_lenK (by rfl) T.free_len (by decide +kernel) (pa_cons (pe_fldC T.cls_Source T.noat_Source_signs (pv 0)) pa_nil)) pa_nil)))))))
    (pss_cons (ps_fldaugC T.cls_Source T.noat_Source_at (pv 0) pe_int in_add)
    (pss_one (ps_ret (pv 2)))))
theorem ok_Source_take (T : Tx K mg) : FnOk P w K mg base (L2.CX P w) 3 (He.fAd K d_Source_take.at_) (fdOf K d_Source_take.at_) ["self", "wish"] (sp_Source_take K) := fnok_up (okN_Source_take T)
theorem okN_take_digits (T : Tx K mg) : FnOk P w K mg base (L2N.CX P w) 4 (He.fAd K d_take_digits.at_) (fdOf K d_take_digits.at_) ["source", "number", "many"] (sp_take_digits K) := by
  refine (F_take_digits T).ok (k := 3) sc_take_digits (fun vs H Q E h => len_take_digits h) (fun cdv A outer s H vs Q E hr h => ⟨t_take_digits K E, ?_, rd_take_digits vs H Q E h⟩)
  exact (pss_cons (ps_for (passes_of rfl) rfl (pi_range1 (by rfl) T.free_range (pa_cons (pv 2) pa_nil)) (pg_name (i := 3) sc_take_digits.nd rfl (.inl rfl)) (pss_one (ps_set (i := 1) sc_take_digits.nd rfl (.inl rfl) (pe_op op_add (pe_op op_mulX (pv 1) pe_int) (pe_callTy call_intB (by rfl) T.free_int (by decide +kernel) (pa_cons (pe_cmpR op_eq (pe_meth (pv 0) T.cls_Source T.meth_Source_take (okN_Source_take T) (hr.mono (by omega)) (b_Source_take T) .nil (L2N.passes_call (L2N.takes_of rfl rfl rfl rfl) (fun _ _ _ _ h => h)) (pa_cons (pe_T (l := [48]) (by decide +kernel)) pa_nil)) (pe_T (l := [49]) (by decide +kernel)) (nomark _)) pa_nil))))))
    (pss_one (ps_ret (pv 1))))
theorem ok_take_digits (T : Tx K mg) : FnOk P w K mg base (L2.CX P w) 4 (He.fAd K d_take_digits.at_) (fdOf K d_take_digits.at_) ["source", "number", "many"] (sp_take_digits K) := fnok_up (okN_take_digits T)
theorem okN_take_count (T : Tx K mg) : FnOk P w K mg base (L2N.CX P w) 5 (He.fAd K d_take_count.at_) (fdOf K d_take_count.at_) ["source", "wish"] (sp_take_count K) := by
  refine (F_take_count T).ok (k := 4) sc_take_count (fun vs H Q E h => len_take_count h) (fun cdv A outer s H vs Q E hr h => ⟨t_take_count K E, ?_, rd_take_count vs H Q E h⟩)
  exact (pss_cons (ps_set (i := 2) sc_take_count.nd rfl (.inl rfl) pe_int)
    (pss_cons (ps_while (passes_of rfl) (PW.pt (pw_and (pt_cmpR op_lt (pv 2) (pe_gint (by rfl) T.int_MOST_ONES_7) (nomark _)) (pw_and1 (pt_cmpR op_eq (pe_meth (pv 0) T.cls_Source T.meth_Source_take (okN_Source_take T) (hr.mono (by omega)) (b_Source_take T) .nil (L2N.passes_call (L2N.takes_of rfl rfl rfl rfl) (fun _ _ _ _ h => h)) (pa_cons (pv 1) pa_nil)) (pe_T (l := [49]) (by decide +kernel)) (nomark _))))) (pss_cons (ps_aug (i := 2) sc_take_count.nd rfl (.inl rfl) pe_int ip_add)
    (pss_one (ps_set (i := 1) sc_take_count.nd rfl (.inl rfl) (pe_T (l := [48]) (by decide +kernel))))))
    (pss_cons (ps_set (i := 3) sc_take_count.nd rfl (.inl rfl) (pe_call (okN_take_digits T) (hr.mono (by omega)) (by rfl) T.glo_take_digits (F_take_digits T).kp (b_take_digits T) .nil (L2N.passes_call (L2N.takes_of rfl rfl rfl rfl) (fun _ _ _ _ h => h)) (pa_cons (pv 0) (pa_cons pe_int (pa_cons (pv 2) pa_nil)))))
    (pss_one (ps_ret (pe_op op_sub (pe_call (okN_take_digits T) (hr.mono (by omega)) (by rfl) T.glo_take_digits (F_take_digits T).kp (b_take_digits T) .nil (L2N.passes_call (L2N.takes_of rfl rfl rfl rfl) (fun _ _ _ _ h => h)) (pa_cons (pv 0) (pa_cons pe_int (pa_cons (pe_op op_sub (pv 3) pe_int) pa_nil)))) pe_int))))))
theorem ok_take_count (T : Tx K mg) : FnOk P w K mg base (L2.CX P w) 5 (He.fAd K d_take_count.at_) (fdOf K d_take_count.at_) ["source", "wish"] (sp_take_count K) := fnok_up (okN_take_count T)
theorem ok_Source_spot (T : Tx K mg) : FnOk P w K mg base (L2.CX P w) 1 (He.fAd K d_Source_spot.at_) (fdOf K d_Source_spot.at_) ["self"] (sp_Source_spot K) := by
  refine (F_Source_spot T).ok (k := 0) sc_Source_spot (fun vs H Q E h => len_Source_spot h) (fun cdv A outer s H vs Q E hr h => ⟨t_Source_spot K, ?_, rd_Source_spot vs H Q E h⟩)
  exact PSs.nox (pss_one (ps_ret (pe_fldC T.cls_Source T.noat_Source_at (pv 0))))
theorem okN_read_count (T : Tx K mg) : FnOk P w K mg base (L2N.CX P w) 6 (He.fAd K d_read_count.at_) (fdOf K d_read_count.at_) ["signs", "at"] (sp_read_count K) := by
  refine (F_read_count T).ok (k := 5) sc_read_count (fun vs H Q E h => len_read_count h) (fun cdv A outer s H vs Q E hr h => ⟨t_read_count K E, ?_, rd_read_count vs H Q E h⟩)
  exact (pss_cons (ps_set (i := 2) sc_read_count.nd rfl (.inl rfl) (pe_make T.mkr_Source (ok_Source___init__ T) (hr.mono (by omega)) (by rfl) T.glo_Source (b_Source___init__ T) .nil passL (pa_cons (pv 0) (pa_cons (pv 1) (pa_cons pe_bl pa_nil)))))
    (pss_cons (ps_set (i := 3) sc_read_count.nd rfl (.inl rfl) (pe_call (okN_take_count T) (hr.mono (by omega)) (by rfl) T.glo_take_count (F_take_count T).kp (b_take_count T) .nil (L2N.passes_call (L2N.takes_of rfl rfl rfl rfl) (fun _ _ _ _ h => h)) (pa_cons (pv 2) (pa_cons (pe_T (l := [48]) (by decide +kernel)) pa_nil))))
    (pss_one (ps_ret (pe_tup (pa_cons (pv 3) (pa_cons (pe_meth0 (pv 2) T.cls_Source T.meth_Source_spot (ok_Source_spot T) (hr.mono (by omega)) (b_Source_spot T) .nil passL) pa_nil)))))))
theorem ok_read_count (T : Tx K mg) : FnOk P w K mg base (L2.CX P w) 6 (He.fAd K d_read_count.at_) (fdOf K d_read_count.at_) ["signs", "at"] (sp_read_count K) := fnok_up (okN_read_count T)
theorem ok_count_at (T : Tx K mg) : FnOk P w K mg base (L2.CX P w) 7 (He.fAd K d_count_at.at_) (fdOf K d_count_at.at_) ["page", "at"] (sp_count_at K) := by
  refine (F_count_at T).ok (k := 6) sc_count_at (fun vs H Q E h => len_count_at h) (fun cdv A outer s H vs Q E hr h => ⟨t_count_at K E, ?_, rd_count_at T.kx vs H Q E h⟩)
  exact (pss_one (L2H.ps_try_onlyX (tb := fun W => (tRet (tCallS (sp_read_count K) (WE W) (tCons (tVar 0) (tCons (tVar 1) tNil))))) (ts := fun _ _ _ => tRaiseX (.ref (He.ga K "BadPage")) E) (Wout := fun cls d _ H => E cls d H) rfl rfl ⟨rfl, by decide, .inl T.glo_Short⟩ (L2H.passesAt_of rfl) (takes_of rfl rfl rfl rfl)
    (fun W pn xe tk tk2 ho => by exact (pss_one (ps_ret (pe_callS (okN_read_count T) (hr.mono (by omega)) (by rfl) T.glo_read_count (F_read_count T).kp (b_read_count T) (fun σ => L2N.passAt tk σ) (pa_cons (pv 0) (pa_cons (pv 1) pa_nil))))))
    (fun a oe cls d pn hz hf tk3 hot => by exact (pss_one (L2H.ps_raiseH hot tk3 (pmkN_txt T.exc_BadPage T.glo_BadPage))))))
theorem ok_entry_at (T : Tx K mg) : FnOk P w K mg base (L2.CX P w) 8 (He.fAd K d_entry_at.at_) (fdOf K d_entry_at.at_) ["page", "at", "last"] (sp_entry_at K) := by
  refine (F_entry_at T).ok (k := 7) sc_entry_at (fun vs H Q E h => len_entry_at h) (fun cdv A outer s H vs Q E hr h => ⟨t_entry_at K E, ?_, rd_entry_at vs H Q E h⟩)
  exact (pss_cons (ps_asg (pe_call (ok_count_at T) (hr.mono (by omega)) (by rfl) T.glo_count_at (F_count_at T).kp (b_count_at T) .nil (passes_call (takes_of rfl rfl rfl rfl) (fun _ _ _ _ h => h)) (pa_cons (pv 0) (pa_cons (pv 1) pa_nil))) (pg_tup rfl (pgs_cons (pg_name (i := 3) sc_entry_at.nd rfl (.inl rfl)) (pgs_cons (pg_name (i := 1) sc_entry_at.nd rfl (.inl rfl)) pgs_nil))))
    (pss_cons (ps_asg (pe_call (ok_count_at T) (hr.mono (by omega)) (by rfl) T.glo_count_at (F_count_at T).kp (b_count_at T) .nil (passes_call (takes_of rfl rfl rfl rfl) (fun _ _ _ _ h => h)) (pa_cons (pv 0) (pa_cons (pv 1) pa_nil))) (pg_tup rfl (pgs_cons (pg_name (i := 4) sc_entry_at.nd rfl (.inl rfl)) (pgs_cons (pg_name (i := 1) sc_entry_at.nd rfl (.inl rfl)) pgs_nil))))
    (pss_cons (ps_if (PW.pt (pw_or (pt_cmpR op_gt (pv 3) (pe_callB call_lenK (by rfl) T.free_len (by decide +kernel) (pa_cons (pv 2) pa_nil)) (nomark _)) (pw_or1 (pt_cmpR op_gt (pv 4) (pe_op op_sub (pe_callB call_lenK (by rfl) T.free_len (by decide +kernel) (pa_cons (pv 0) pa_nil)) (pv 1)) (nomark _))))) (pss_one (ps_raise rfl (takes_of rfl rfl rfl rfl) (pmk_txt T.exc_BadPage T.glo_BadPage))) pss_nil)
    (pss_cons (ps_set (i := 5) sc_entry_at.nd rfl (.inl rfl) (pe_op op_addT (pe_slice sl_str (pv 2) po_none (po_some (pv 3))) (pe_slice sl_str (pv 0) (po_some (pv 1)) (po_some (pe_op op_add (pv 1) (pv 4))))))
    (pss_cons (ps_if (pt_cmpR op_ne (pe_call (ok_shared_signs T) (hr.mono (by omega)) (by rfl) T.glo_shared_signs (F_shared_signs T).kp (b_shared_signs T) .nil passL (pa_cons (pv 2) (pa_cons (pv 5) pa_nil))) (pv 3) (nomark _)) (pss_one (ps_raise rfl (takes_of rfl rfl rfl rfl) (pmk_txt T.exc_BadPage T.glo_BadPage))) pss_nil)
    (pss_one (ps_ret (pe_tup (pa_cons (pv 5) (pa_cons (pe_op op_add (pv 1) (pv 4)) pa_nil))))))))))
theorem ok_rows_of (T : Tx K mg) : FnOk P w K mg base (L2.CX P w) 9 (He.fAd K d_rows_of.at_) (fdOf K d_rows_of.at_) ["page"] (sp_rows_of K) := by
  refine (F_rows_of T).ok (k := 8) sc_rows_of (fun vs H Q E h => len_rows_of h) (fun cdv A outer s H vs Q E hr h => ⟨t_rows_of K E, ?_, rd_rows_of vs H Q E h⟩)
  exact (pss_cons (ps_asg (pe_call (ok_count_at T) (hr.mono (by omega)) (by rfl) T.glo_count_at (F_count_at T).kp (b_count_at T) .nil (passes_call (takes_of rfl rfl rfl rfl) (fun _ _ _ _ h => h)) (pa_cons (pv 0) (pa_cons pe_int pa_nil))) (pg_tup rfl (pgs_cons (pg_name (i := 1) sc_rows_of.nd rfl (.inl rfl)) (pgs_cons (pg_name (i := 2) sc_rows_of.nd rfl (.inl rfl)) pgs_nil))))
    (pss_cons (ps_set (i := 3) sc_rows_of.nd rfl (.inl rfl) (pe_lst pa_nil))
    (pss_cons (ps_set (i := 4) sc_rows_of.nd rfl (.inl rfl) (pe_T (l := []) (by decide +kernel)))
    (pss_cons (ps_while (passes_of rfl) (pt_cmpR op_lt (pe_callB call_lenK (by rfl) T.free_len (by decide +kernel) (pa_cons (pv 3) pa_nil)) (pv 1) (nomark _)) (pss_cons (ps_asg (pe_call (ok_entry_at T) (hr.mono (by omega)) (by rfl) T.glo_entry_at (F_entry_at T).kp (b_entry_at T) .nil (passes_call (takes_of rfl rfl rfl rfl) (fun _ _ _ _ h => h)) (pa_cons (pv 0) (pa_cons (pv 2) (pa_cons (pv 4) pa_nil)))) (pg_tup rfl (pgs_cons (pg_name (i := 5) sc_rows_of.nd rfl (.inl rfl)) (pgs_cons (pg_name (i := 2) sc_rows_of.nd rfl (.inl rfl)) pgs_nil))))
    (pss_cons (ps_if (PW.pt (pw_and (pt_cmpR op_gt (pe_callB call_lenK (by rfl) T.free_len (by decide +kernel) (pa_cons (pv 3) pa_nil)) pe_int (nomark _)) (pw_and1 (pt_not (pt_cmpR op_ltT' (pv 4) (pv 5) (nomark _)))))) (pss_one (ps_raise rfl (takes_of rfl rfl rfl rfl) (pmk_txt T.exc_BadPage T.glo_BadPage))) pss_nil)
    (pss_cons (ps_expr (pe_bm PySem.F.plainAttrs_list PySem.F.slot_list_append PySem.F.type_list_append mt_append (pv 3) (pa_cons (pv 5) pa_nil)))
    (pss_one (ps_set (i := 4) sc_rows_of.nd rfl (.inl rfl) (pv 5)))))))
    (pss_cons (ps_if (pt_cmpR op_lt (pv 2) (pe_callB call_lenK (by rfl) T.free_len (by decide +kernel) (pa_cons (pv 0) pa_nil)) (nomark _)) (pss_one (ps_raise rfl (takes_of rfl rfl rfl rfl) (pmk_txt T.exc_BadPage T.glo_BadPage))) pss_nil)
    (pss_one (ps_ret (pv 3))))))))
theorem ok__law_parting (T : Tx K mg) : FnOk P w K mg base (L2.CX P w) 1 (He.fAd K d__law_parting.at_) (fdOf K d__law_parting.at_) ["_law_one", "_law_other"] (sp__law_parting K) := by
  refine (F__law_parting T).ok (k := 0) sc__law_parting (fun vs H Q E h => len__law_parting h) (fun cdv A outer s H vs Q E hr h => ⟨t__law_parting K, ?_, rd__law_parting vs H Q E h⟩)
  exact PSs.nox (pss_cons (ps_for PassesOwn.never rfl (pi_range1 (by rfl) T.free_range (pa_cons (pe_callB call_lenK (by rfl) T.free_len (by decide +kernel) (pa_cons (pv 0) pa_nil)) pa_nil)) (pg_name (i := 2) sc__law_parting.nd rfl (.inl rfl)) (pss_one (ps_if (pt_cmpR op_ne (pe_slice sl_str (pv 0) po_none (po_some (pe_op op_add (pv 2) pe_int))) (pe_slice sl_str (pv 1) po_none (po_some (pe_op op_add (pv 2) pe_int))) (nomark _)) (pss_one (ps_ret (pe_slice sl_str (pv 1) po_none (po_some (pe_op op_add (pv 2) pe_int))))) pss_nil)))
    (pss_one (ps_ret (pe_slice sl_str (pv 1) po_none (po_some (pe_op op_add (pe_callB call_lenK (by rfl) T.free_len (by decide +kernel) (pa_cons (pv 0) pa_nil)) pe_int))))))
theorem ok__law_pages (T : Tx K mg) : FnOk P w K mg base (L2.CX P w) 10 (He.fAd K d__law_pages.at_) (fdOf K d__law_pages.at_) ["_law_shelf", "_law_room", "_law_kept", "_law_ahead"] (sp__law_pages K) := by
  refine (F__law_pages T).ok (k := 9) sc__law_pages (fun vs H Q E h => len__law_pages h) (fun cdv A outer s H vs Q E hr h => ⟨t__law_pages K, ?_, rd__law_pages vs H Q E h⟩)
  exact PSs.nox (pss_cons (ps_set (i := 4) sc__law_pages.nd rfl (.inl rfl) (pe_lst pa_nil))
    (pss_cons (ps_if (pt_val (pv 3)) (pss_one (ps_set (i := 4) sc__law_pages.nd rfl (.inl rfl) (pe_meth0 (pv 0) T.cls_Shelf T.meth_Shelf_partings (ok_Shelf_partings T) (hr.mono (by omega)) (b_Shelf_partings T) .nil passL))) pss_nil)
    (pss_cons (ps_set (i := 5) sc__law_pages.nd rfl (.inl rfl) (pe_meth0 (pv 0) T.cls_Shelf T.meth_Shelf_pages (ok_Shelf_pages T) (hr.mono (by omega)) (b_Shelf_pages T) .nil passL))
    (pss_cons (ps_if (pt_not (pt_val (pe_call (ok__law_texts T) (hr.mono (by omega)) (by rfl) T.glo__law_texts (F__law_texts T).kp (b__law_texts T) .nil passL (pa_cons (pv 5) pa_nil)))) (pss_one (ps_ret pe_bl)) pss_nil)
    (pss_cons (ps_setLc (i := 7) (own := [("_law_page", 6)]) (g := (gName 6)) (tt := tYes) rfl sc__law_pages.nd rfl rfl (sw_true rfl rfl rfl (by decide +kernel)) (pi_list (pv 5)) (blkOk_by (N := N__law_pages) (sc := defScope s__law_pages) (by decide +kernel)) (fun _ _ _ _ _ => (pg_name (i := 6) sc__law_pages.nd rfl (.inl rfl))) (fun _ _ _ _ _ => by exact pts_nil) (fun _ _ _ _ _ => by exact (pe_call (ok_rows_of T) (hr.mono (by omega)) (by rfl) T.glo_rows_of (F_rows_of T).kp (b_rows_of T) .nil passL (pa_cons (pv 6) pa_nil))))
    (pss_cons (ps_set (i := 8) sc__law_pages.nd rfl (.inl rfl) (pe_lst pa_nil))
    (pss_cons (ps_for PassesOwn.never rfl (pi_range1 (by rfl) T.free_range (pa_cons (pe_callB call_lenK (by rfl) T.free_len (by decide +kernel) (pa_cons (pv 7) pa_nil)) pa_nil)) (pg_name (i := 9) sc__law_pages.nd rfl (.inl rfl)) (pss_cons (ps_if (PW.pt (pw_or (pt_not (pt_val (pe_call (ok__law_texts T) (hr.mono (by omega)) (by rfl) T.glo__law_texts (F__law_texts T).kp (b__law_texts T) .nil passL (pa_cons (pe_ix ix_list (pv 7) (pv 9) (fun _ _ => rfl)) pa_nil)))) (pw_or (pt_cmpR op_lt (pe_callB call_lenK (by rfl) T.free_len (by decide +kernel) (pa_cons (pe_ix ix_list (pv 7) (pv 9) (fun _ _ => rfl)) pa_nil)) pe_int (nomark _)) (pw_or1 (pt_cmpR op_gt (pe_callB call_lenK (by rfl) T.free_len (by decide +kernel) (pa_cons (pe_ix ix_list (pv 7) (pv 9) (fun _ _ => rfl)) pa_nil)) (pv 1) (nomark _)))))) (pss_one (ps_ret pe_bl)) pss_nil)
    (pss_cons (ps_if (PW.pt (pw_and (pt_cmpR op_gt (pv 9) pe_int (nomark _)) (pw_and1 (pt_cmpR op_le (pe_op op_add (pe_callB call_lenK (by rfl) T.free_len (by decide +kernel) (pa_cons (pe_ix ix_list (pv 7) (pe_op op_sub (pv 9) pe_int) (fun _ _ => rfl)) pa_nil)) (pe_callB call_lenK (by rfl) T.free_len (by decide +kernel) (pa_cons (pe_ix ix_list (pv 7) (pv 9) (fun _ _ => rfl)) pa_nil))) (pv 1) (nomark _))))) (pss_one (ps_ret pe_bl)) pss_nil)
    (pss_one (ps_set (i := 8) sc__law_pages.nd rfl (.inl rfl) (pe_op op_cat (pv 8) (pe_ix ix_list (pv 7) (pv 9) (fun _ _ => rfl))))))))
    (pss_cons (ps_if (pt_cmpR (op_neD hr.units) (pv 8) (pe_callB cr_sortedA (by rfl) T.free_sorted (by decide +kernel) (pa_cons (pv 2) pa_nil)) (nomark _)) (pss_one (ps_ret pe_bl)) pss_nil)
    (pss_cons (ps_if (pt_not (pt_val (pv 3))) (pss_one (ps_set (i := 4) sc__law_pages.nd rfl (.inl rfl) (pe_meth0 (pv 0) T.cls_Shelf T.meth_Shelf_partings (ok_Shelf_partings T) (hr.mono (by omega)) (b_Shelf_partings T) .nil passL))) pss_nil)
    (pss_cons (ps_if (PW.pt (pw_or (pt_not (pt_val (pe_call (ok__law_texts T) (hr.mono (by omega)) (by rfl) T.glo__law_texts (F__law_texts T).kp (b__law_texts T) .nil passL (pa_cons (pv 4) pa_nil)))) (pw_or1 (pt_cmpR op_ne (pe_callB call_lenK (by rfl) T.free_len (by decide +kernel) (pa_cons (pv 4) pa_nil)) (pe_callB (call_max2 rfl) (by rfl) T.free_max (by decide +kernel) (pa_cons pe_int (pa_cons (pe_op op_sub (pe_callB call_lenK (by rfl) T.free_len (by decide +kernel) (pa_cons (pv 7) pa_nil)) pe_int) pa_nil))) (nomark _))))) (pss_one (ps_ret pe_bl)) pss_nil)
    (pss_cons (ps_for PassesOwn.never rfl (pi_range1 (by rfl) T.free_range (pa_cons (pe_callB call_lenK (by rfl) T.free_len (by decide +kernel) (pa_cons (pv 4) pa_nil)) pa_nil)) (pg_name (i := 9) sc__law_pages.nd rfl (.inl rfl)) (pss_one (ps_if (pt_cmpR op_ne (pe_ix ix_list (pv 4) (pv 9) (fun _ _ => rfl)) (pe_call (ok__law_parting T) (hr.mono (by omega)) (by rfl) T.glo__law_parting (F__law_parting T).kp (b__law_parting T) .nil passL (pa_cons (pe_ix ix_list (pe_ix ix_list (pv 7) (pv 9) (fun _ _ => rfl)) (pe_un un_neg pe_int) (fun _ _ => rfl)) (pa_cons (pe_ix ix_list (pe_ix ix_list (pv 7) (pe_op op_add (pv 9) pe_int) (fun _ _ => rfl)) pe_int (fun _ _ => rfl)) pa_nil))) (nomark _)) (pss_one (ps_ret pe_bl)) pss_nil)))
    (pss_cons (ps_set (i := 2) sc__law_pages.nd rfl (.inl rfl) (pe_lst (pa_cons (pe_callTy call_listK (by rfl) T.free_list (by decide +kernel) (pa_cons (pv 5) pa_nil)) (pa_cons (pe_callTy call_listK (by rfl) T.free_list (by decide +kernel) (pa_cons (pv 4) pa_nil)) pa_nil))))
    (pss_cons (ps_expr (pe_bm PySem.F.plainAttrs_list PySem.F.slot_list_append PySem.F.type_list_append mt_append (pv 5) (pa_cons (pe_T (l := []) (by decide +kernel)) pa_nil)))
    (pss_cons (ps_expr (pe_bm PySem.F.plainAttrs_list PySem.F.slot_list_append PySem.F.type_list_append mt_append (pv 4) (pa_cons (pe_T (l := []) (by decide +kernel)) pa_nil)))
    (pss_one (ps_ret (pe_cmpR (op_eqD hr.units) (pe_lst (pa_cons (pe_meth0 (pv 0) T.cls_Shelf T.meth_Shelf_pages (ok_Shelf_pages T) (hr.mono (by omega)) (b_Shelf_pages T) .nil passL) (pa_cons (pe_meth0 (pv 0) T.cls_Shelf T.meth_Shelf_partings (ok_Shelf_partings T) (hr.mono (by omega)) (b_Shelf_partings T) .nil passL) pa_nil))) (pv 2) (nomark _))))))))))))))))))
theorem ok_law (T : Tx K mg) : FnOk P w K mg base (L2.CX P w) 11 (He.fAd K d_law.at_) (fdOf K d_law.at_) ["_law_script"] (sp_law K) := by
  refine (F_law T).ok (k := 10) sc_law (fun vs H Q E h => len_law h) (fun cdv A outer s H vs Q E hr h => ⟨t_law K, ?_, rd_law vs H Q E h⟩)
  exact PSs.nox (pss_cons (ps_set (i := 1) sc_law.nd rfl (.inl rfl) (pe_call (ok__law_cell_at T) (hr.mono (by omega)) (by rfl) T.glo__law_cell_at (F__law_cell_at T).kp (b__law_cell_at T) .nil passL (pa_cons (pv 0) (pa_cons pe_int pa_nil))))
    (pss_cons (ps_set (i := 2) sc_law.nd rfl (.inl rfl) (pe_op op_add pe_int (pe_op op_mod (pv 1) pe_int)))
    (pss_cons (ps_if (pt_cmpR op_eq (pe_op op_mod (pe_op op_fdivW (pv 1) pe_int) pe_int) pe_int (nomark _)) (pss_one (ps_set (i := 2) sc_law.nd rfl (.inl rfl) (pe_op op_add pe_int (pe_op op_mod (pe_op op_fdivW (pv 1) pe_int) pe_int)))) pss_nil)
    (pss_cons (ps_set (i := 3) sc_law.nd rfl (.inl rfl) (pe_cmpR op_eq (pe_op op_mod (pe_op op_fdivW (pv 1) pe_int) pe_int) pe_int (nomark _)))
    (pss_cons (ps_set (i := 4) sc_law.nd rfl (.inl rfl) (pe_make00 T.mk0_Whole (by rfl) T.glo_Whole))
    (pss_cons (ps_if (pt_val (pv 3)) (pss_one (ps_set (i := 4) sc_law.nd rfl (.inl rfl) (pe_make T.mkr_Turned (ok_Turned___init__ T) (hr.mono (by omega)) (by rfl) T.glo_Turned (b_Turned___init__ T) .nil passL (pa_cons (pe_make00 T.mk0_Whole (by rfl) T.glo_Whole) pa_nil)))) pss_nil)
    (pss_cons (ps_set (i := 5) sc_law.nd rfl (.inl rfl) (pe_make T.mkr_Shelf (ok_Shelf___init__ T) (hr.mono (by omega)) (by rfl) T.glo_Shelf (b_Shelf___init__ T) .nil passL (pa_cons (pv 4) (pa_cons (pv 2) pa_nil))))
    (pss_cons (ps_set (i := 6) sc_law.nd rfl (.inl rfl) (pe_make T.mkr_Shelf (ok_Shelf___init__ T) (hr.mono (by omega)) (by rfl) T.glo_Shelf (b_Shelf___init__ T) .nil passL (pa_cons (pv 4) (pa_cons (pe_op op_add pe_int (pe_op op_mod (pv 2) pe_int)) pa_nil))))
    (pss_cons (ps_set (i := 7) sc_law.nd rfl (.inl rfl) (pe_lst pa_nil))
    (pss_cons (ps_set (i := 8) sc_law.nd rfl (.inl rfl) (pe_lst pa_nil))
    (pss_cons (ps_for PassesOwn.never rfl (pi_list (pe_slice sl_list (pv 0) po_none (po_some pe_int))) (pg_name (i := 9) sc_law.nd rfl (.inl rfl)) (pss_cons (ps_for PassesOwn.never rfl (pi_list (pe_lst (pa_cons (pe_call (ok__law_number T) (hr.mono (by omega)) (by rfl) T.glo__law_number (F__law_number T).kp (b__law_number T) .nil passL (pa_cons (pv 9) pa_nil)) (pa_cons (pe_call (ok__law_number T) (hr.mono (by omega)) (by rfl) T.glo__law_number (F__law_number T).kp (b__law_number T) .nil passL (pa_cons (pe_op op_add (pe_op op_fdivW (pv 9) pe_int) pe_int) pa_nil)) pa_nil)))) (pg_name (i := 10) sc_law.nd rfl (.inl rfl)) (pss_cons (ps_set (i := 11) sc_law.nd rfl (.inr rfl) (pe_call (ok_whole_row T) (hr.mono (by omega)) (by rfl) T.glo_whole_row (F_whole_row T).kp (b_whole_row T) .nil passL (pa_cons (pv 10) pa_nil)))
    (pss_cons (ps_if (pt_val (pv 3)) (pss_one (ps_set (i := 11) sc_law.nd rfl (.inr rfl) (pe_call (ok_turned_row T) (hr.mono (by omega)) (by rfl) T.glo_turned_row (F_turned_row T).kp (b_turned_row T) .nil passL (pa_cons (pv 11) pa_nil)))) pss_nil)
    (pss_one (ps_if (pt_cmpR op_gt (pe_op op_mod (pv 9) pe_int) pe_int (nomark _)) (pss_cons (ps_expr (pe_meth (pv 5) T.cls_Shelf T.meth_Shelf_put (ok_Shelf_put T) (hr.mono (by omega)) (b_Shelf_put T) .nil passL (pa_cons (pv 10) pa_nil)))
    (pss_one (ps_if (pt_cmpR op_notIn_seq (pv 11) (pv 7) (by rfl)) (pss_one (ps_expr (pe_bm PySem.F.plainAttrs_list PySem.F.slot_list_append PySem.F.type_list_append mt_append (pv 7) (pa_cons (pv 11) pa_nil)))) pss_nil))) (pss_cons (ps_expr (pe_meth (pv 5) T.cls_Shelf T.meth_Shelf_take (ok_Shelf_take T) (hr.mono (by omega)) (b_Shelf_take T) .nil passL (pa_cons (pv 10) pa_nil)))
    (pss_one (ps_setLc (i := 7) (own := [("_law_one", 12)]) (g := (gName 12)) (tt := (tTest (tOp rNe (tVar 12) (tVar 11)))) rfl sc_law.nd rfl rfl (sw_true rfl rfl rfl (by decide +kernel)) (pi_list (pv 7)) (blkOk_by (N := N_law) (sc := defScope s_law) (by decide +kernel)) (fun _ _ _ _ _ => (pg_name (i := 12) sc_law.nd rfl (.inl rfl))) (fun _ _ _ _ _ => by exact (pts_one (pt_cmpR op_ne (pv 12) (pv 11) (nomark _)))) (fun _ _ _ _ _ => by exact (pv 12))))))))))
    (pss_cons (ps_set (i := 10) sc_law.nd rfl (.inl rfl) (pe_call (ok__law_number T) (hr.mono (by omega)) (by rfl) T.glo__law_number (F__law_number T).kp (b__law_number T) .nil passL (pa_cons (pe_op op_fdivW (pv 9) pe_int) pa_nil)))
    (pss_cons (ps_set (i := 11) sc_law.nd rfl (.inr rfl) (pe_call (ok_whole_row T) (hr.mono (by omega)) (by rfl) T.glo_whole_row (F_whole_row T).kp (b_whole_row T) .nil passL (pa_cons (pv 10) pa_nil)))
    (pss_cons (ps_if (pt_val (pv 3)) (pss_one (ps_set (i := 11) sc_law.nd rfl (.inr rfl) (pe_call (ok_turned_row T) (hr.mono (by omega)) (by rfl) T.glo_turned_row (F_turned_row T).kp (b_turned_row T) .nil passL (pa_cons (pv 11) pa_nil)))) pss_nil)
    (pss_cons (ps_expr (pe_meth (pv 6) T.cls_Shelf T.meth_Shelf_put (ok_Shelf_put T) (hr.mono (by omega)) (b_Shelf_put T) .nil passL (pa_cons (pv 10) pa_nil)))
    (pss_cons (ps_if (pt_cmpR op_notIn_seq (pv 11) (pv 8) (by rfl)) (pss_one (ps_expr (pe_bm PySem.F.plainAttrs_list PySem.F.slot_list_append PySem.F.type_list_append mt_append (pv 8) (pa_cons (pv 11) pa_nil)))) pss_nil)
    (pss_one (ps_if (pt_not (pt_val (pe_call (ok__law_pages T) (hr.mono (by omega)) (by rfl) T.glo__law_pages (F__law_pages T).kp (b__law_pages T) .nil passL (pa_cons (pv 5) (pa_cons (pv 2) (pa_cons (pv 7) (pa_cons (pe_cmpR op_eq (pe_op op_mod (pe_op op_fdivW (pv 9) pe_int) pe_int) pe_int (nomark _)) pa_nil))))))) (pss_one (ps_ret pe_bl)) pss_nil)))))))))
    (pss_cons (ps_if (pt_not (pt_val (pe_call (ok__law_pages T) (hr.mono (by omega)) (by rfl) T.glo__law_pages (F__law_pages T).kp (b__law_pages T) .nil passL (pa_cons (pv 6) (pa_cons (pe_op op_add pe_int (pe_op op_mod (pv 2) pe_int)) (pa_cons (pv 8) (pa_cons (pe_cmpR op_eq (pe_op op_mod (pv 1) pe_int) pe_int (nomark _)) pa_nil))))))) (pss_one (ps_ret pe_bl)) pss_nil)
    (pss_one (ps_ret (pe_call (ok__law_pages T) (hr.mono (by omega)) (by rfl) T.glo__law_pages (F__law_pages T).kp (b__law_pages T) .nil passL (pa_cons (pv 5) (pa_cons (pv 2) (pa_cons (pv 7) (pa_cons (pe_cmpR op_eq (pe_op op_mod (pv 1) pe_int) pe_int (nomark _)) pa_nil)))))))))))))))))))
end
def loose0 : List Str := ["_wall", "RiseError", "NoFit", "NoForm", "NotAhead", "BadPage", "Short", "other_sign", "Source", "TurnedSource", "MOST_ONES", "MOST_DIGITS_counts", "turned_row", "digits_of", "count_row", "whole_row", "take_digits", "take_count", "take_whole", "read_count", "shared_signs", "parting_of", "entry_of", "page_of", "count_at", "entry_at", "rows_of", "LEAST_ROOM", "MOST_ROOM", "place_among"]
def loose1 : List Str := ["Shelf", "MOST_DIGITS_forms", "is_whole", "has_row", "Form", "Whole", "Turned", "_law_cell_at", "_law_texts", "_law_parting", "_law_pages", "_law_number"]
def looseAll : List Str := loose0 ++ loose1
/-! ### the top -/
abbrev LawRow : PySem.W.OpenRow := PySem.W.OpenLaw.row PySem.Challenge.rw_keyrise_k72_pages_and_partings
abbrev hk : PySem.W.Hook := hookM 5 fa fn exAll
def ob (s : PySem.W.SharedT) : AlM := obsM 5 fa fn exAll (HandSHeadRun.getT s)
theorem ob_eq (s : PySem.W.SharedT) : ob s = hk.obs s.abs := obsM_eq (HandSHeadRun.getT_eq s)
theorem run (w : World) : HandSHeadRun.RunEq LawRow (PySem.W.view LawRow.prog [51]) hk ob 20000 looseAll w := by
  intro os
  kernel_rfl
theorem facts {P : Program} {w : World} {K : PySem.W.Frag} {h : Heap} {mg : Str → Option Value} {f : Addr} (X : K.In h) (G : h.Ns mainGlobals mg) (hfa : mg ("law" : Str) = some (.ref f)) (c : He.SaysD fa fn K) (cx : exAll K = true) :
    ∃ fd : FuncData, (∀ (s : Shared) (v : Value), BindsTo s fd ⟨[v], []⟩ [("_law_script", v)]) ∧ ∀ base : Heap, K.In base → base.Ns mainGlobals mg → FnOk P w K mg base (L2.CX P w) 11 f fd ["_law_script"] (sp_law K) := by
  have T : Tx K mg := ⟨c, cx, h, X, G⟩
  have e := hfa.symm.trans T.glo_law
  cases e
  have b := FunD.bindsA (ps := ["_law_script"]) (F_law T) fun _ _ _ _ _ _ us hl => match us, hl with | [_], _ => rfl
  exact ⟨_, fun s v => b s [v] rfl, fun base _ _ => ok_law T⟩
end Kr
open PySem PySem.W PySem.Calls PyProof.Rows
theorem PySem.Challenge.cw_keyrise_k72_pages_and_partings_holds : PySem.Challenge.rw_keyrise_k72_pages_and_partings.Holds := by
  w_on; o_law
  refine HandSHeadRun.head_any (r := OpenLaw.row PySem.Challenge.rw_keyrise_k72_pages_and_partings) (q := view (OpenLaw.row PySem.Challenge.rw_keyrise_k72_pages_and_partings).prog [51]) (H := Kr.hk) (ob := Kr.ob) (M := 20000) (loose := Kr.looseAll) (d := HandSHeadRun.topDef (OpenLaw.row PySem.Challenge.rw_keyrise_k72_pages_and_partings).prog 51) (kwd := []) Kr.ob_eq
    (by kernel_rfl) (fun s => by kernel_rfl) Kr.run (by kernel_rfl) (by kernel_rfl) (by kernel_rfl) (by rfl) (by first | assumption | decide +kernel) (by decide +kernel) ⟨rfl, rfl, rfl, rfl, rfl, by decide +kernel⟩ ?hw ?hc
  case hw => w_witness2
  case hc =>
    refine Kr.walk_w (l := PySem.Challenge.rw_keyrise_k72_pages_and_partings) (n := 63) (k := 11) (x := "_law_script") rfl (by decide) (by kernel_rfl) ⟨rfl, by decide, by decide⟩ ?F
    case F =>
      intro w mg fa h Y G hmg0
      obtain ⟨K, KX, c, cx⟩ := Y
      have hmg : mg ("law" : PySem.Str) = some (.ref fa) := by
        have e : (HandSHeadRun.topDef (OpenLaw.row PySem.Challenge.rw_keyrise_k72_pages_and_partings).prog 51).name = ("law" : PySem.Str) := by kernel_rfl
        rw [← e]
        exact hmg0
      obtain ⟨fd, hb, hF⟩ := Kr.facts (P := (PySem.Challenge.rw_keyrise_k72_pages_and_partings).prog) (w := w) KX G hmg c cx
      exact ⟨K, fd, KX, hb, fun H a ns hl hO hS => Kr.law_in hl hO hS, hF⟩

