import PyProof.Rows.All
import Wide.All
import OpenK.AllK
import Wide.FinOn
import HandS.ForMost
import HandS.ForExc
import HandS.Evl
import HandS.Walk
import HandS.IsInst
import HandS.StrMore
import HandS.EndBits
import HandS.Wide
import HandS.Codes
import HandS.Style
import HandS.Conv
import HandS.Deep
import HandS.SortOrd
import HandS.SortRule
import HandS.SortInts
import HandS.More
import HandS.Lambda
import HandS.EndTab
import KE.KSortKey
import KE.KSortTupAny
import HandS.Set
import HandS.SetFor
import HandS.SetTxt0
import HandS.Zip
import PyProof.StrLoop
import HandS.SetKeys
import HandS.EndOwn
import HandS.WordsExc
import HandS.ExcCtx
import HandS.ExcIs
import HandS.HotCalls
import HandS.CallLocal
import PyProof.ReprRoads
import PySem.Challenge.RW_wordpieces_k09_whole_anew
set_option Elab.async false
set_option linter.all false
set_option maxRecDepth 100000
set_option maxHeartbeats 8000000
namespace WP
open PySem PySem.Spec PyProof.Rows L2 Evl
open SX (S S_len S_cat S_inj S_tl)

/-! ### defs of the top that are called -/
/-- the def named x stands in the module and keeps the promise sp -/
structure Cal (P : Program) (w : World) (K : PySem.W.Frag) (mg : Str → Option Value) (base : Heap) (k : Nat) (x : Str) (ps : List Str) (sp : Sp) : Prop where
  ex : ∃ (f : Addr) (fd : FuncData), FnOk P w K mg base (L2.CX P w) k f fd ps sp ∧ mg x = some (.ref f) ∧ PySem.W.keepIn K (.ref f) = true ∧ Binds K fd ps []
theorem pe_cal {X : Cx} {k : Nat} {ps : List Str} {sp : Sp} {E : XK} {x : Str} {p pos : Pos} {e : Expr} {es : List Expr} {t : TA} (C : Cal X.prog X.w X.K X.mg X.base k x ps sp) (hr : Room k X.A) (hg : Gl X x) (hx : Passes (L2.CX X.prog X.w) X E) (ha : PA X (e :: es) t)
    (hdb : (x == ("__debug__" : Str)) = false := by decide) (he : starEach (e :: es) X.env = (false, eval e X.env) :: starEach es X.env := by rfl) (hpl : (backTo pos (starEach es X.env)).any (·.1) = false := by rfl) :
    PE X (.Call (.Name x p) (e :: es) [] pos) (tCall sp [] E t) := by
  obtain ⟨f, fd, F, hm, hk, hb⟩ := C.ex
  exact pe_call F hr hg hm hk hb .nil hx ha hdb he hpl

/-- the built-in names are not hidden -/
structure Bl (mg : Str → Option Value) : Prop where
  len : mg "len" = none
  range : mg "range" = none
  isinstance : mg "isinstance" = none
  str_ : mg "str" = none
  int_ : mg "int" = none
  bool_ : mg "bool" = none
  list_ : mg "list" = none
  all_ : mg "all" = none
  any_ : mg "any" = none
  zip : mg "zip" = none
  sorted : mg "sorted" = none
  sum_ : mg "sum" = none
  set_ : mg "set" = none
  enumerate : mg "enumerate" = none
  tuple_ : mg "tuple" = none
  max_ : mg "max" = none
  min_ : mg "min" = none
  abs_ : mg "abs" = none

/-- an own error class straight under another of them, at C -/
structure Er (K : PySem.W.Frag) (mg : Str → Option Value) (x : Str) (C : Addr) (bm : List Value) : Prop where
  g : mg x = some (.ref C)
  x : PySem.W.excIn K C bm "ValueError.__new__" = true
  k : PySem.W.keepIn K (.ref C) = true
  b : PySem.W.subIn K (.ref C) (.type "BaseException") = some true
  t : PySem.W.typeIn K (.ref C) = some (.type "type")

/-! ### great numbers -/
def CMulV (i j : Int) : Prop := i.natAbs.log2 + j.natAbs.log2 < 100000000
theorem CMulV.ok {i j : Int} (h : CMulV i j) : IntMulOk i j := by
  have b : ∀ x : Int, Builtin.Int.intBits x ≤ x.natAbs.log2 + 1 := fun x => by
    unfold Builtin.Int.intBits
    split <;> omega
  have h1 := b i
  have h2 := b j
  have h3 : i.natAbs.log2 + j.natAbs.log2 < 100000000 := h
  have e : bitsLine = 134217728 := by decide
  unfold IntMulOk
  intro z
  rw [Bool.and_eq_true] at z
  have z2 := z.2
  unfold Builtin.Int.intTooBig at z2
  have z3 := of_decide_eq_true z2
  rw [e] at z3
  omega
theorem op_mulV {X : Cx} : OpR X (binaryOp .Mult) (rI CMulV fun i j => .int (i * j)) := opI fun _ _ _ _ _ _ _ hc q => mul_int q hc.ok
/-- a number of at most n bits -/
def Lim (n : Nat) (i : Int) : Prop := ∃ a : Nat, 0 < a ∧ a ≤ n ∧ i.natAbs < 2 ^ a
theorem Lim.log {n : Nat} {i : Int} (h : Lim n i) : i.natAbs.log2 < n := by
  obtain ⟨a, h0, h1, h2⟩ := h
  exact Nat.lt_of_lt_of_le (PySem.Flt.log2_lt_of h0 h2) h1
theorem Lim.add {n : Nat} {i j : Int} (h : Lim n i) (g : Lim n j) : Lim (n + 1) (i + j) := by
  obtain ⟨a, h0, h1, h2⟩ := h
  obtain ⟨b, g0, g1, g2⟩ := g
  refine ⟨n + 1, by omega, Nat.le_refl _, ?_⟩
  have p1 : 2 ^ a ≤ 2 ^ n := Nat.pow_le_pow_right (by decide) h1
  have p2 : 2 ^ b ≤ 2 ^ n := Nat.pow_le_pow_right (by decide) g1
  rw [Nat.pow_succ]
  have : (i + j).natAbs ≤ i.natAbs + j.natAbs := Int.natAbs_add_le i j
  omega
theorem Lim.mono {n m : Nat} {i : Int} (h : Lim n i) (g : n ≤ m) : Lim m i := by
  obtain ⟨a, h0, h1, h2⟩ := h
  exact ⟨a, h0, by omega, h2⟩
theorem Lim.mul {n m : Nat} {i j : Int} (h : Lim n i) (g : Lim m j) : Lim (n + m) (i * j) := by
  obtain ⟨a, h0, h1, h2⟩ := h
  obtain ⟨b, g0, g1, g2⟩ := g
  exact ⟨a + b, by omega, by omega, wide_lt h2 g2⟩
theorem Lim.small {i : Int} (h1 : -1000000000 ≤ i) (h2 : i ≤ 1000000000) : Lim 30 i := ⟨30, by decide, by decide, by
  have : (2 : Nat) ^ 30 = 1073741824 := by decide
  omega⟩
theorem Lim.mulOk {n m : Nat} {i j : Int} (h : Lim n i) (g : Lim m j) (z : n + m ≤ 100000000) : CMulV i j := by
  have a := h.log
  have b := g.log
  unfold CMulV
  omega
theorem Lim.of_bits {i : Int} (h : Builtin.Int.intBits i ≤ 1048576) : Lim 1048577 i := by
  refine ⟨i.natAbs.log2 + 1, by omega, ?_, Nat.lt_log2_self⟩
  unfold Builtin.Int.intBits at h
  split at h
  · rename_i e
    have z : i.natAbs = 0 := by
      first
        | (have := of_decide_eq_true e; omega)
        | (simp at e; omega)
    rw [z, show Nat.log2 0 = 0 by decide]
    decide
  · omega

/-! ### values of texts -/
theorem rv_str2 {f : Str → Str → V} {C : Str → Str → Prop} {a b : Str} {H : Hp} (hc : C a b) : RV (fun x y H Q => ∃ i j, x = .str i ∧ y = .str j ∧ C i j ∧ Q (f i j) H) (.str a) (.str b) H (f a b) := fun H1 _ _ q => ⟨a, b, rfl, rfl, hc, q H1 (Ex.refl H1)⟩
theorem rv_str2' {f : Str → Str → V} {a b : Str} {H : Hp} : RV (fun x y H Q => ∃ i j, x = .str i ∧ y = .str j ∧ Q (f i j) H) (.str a) (.str b) H (f a b) := fun H1 _ _ q => ⟨a, b, rfl, rfl, q H1 (Ex.refl H1)⟩
/-- s + t -/
theorem rv_addS {a b : List Nat} {H : Hp} (h : a.length + b.length ≤ 1000000) : RV (fun x y H Q => ∃ i j, x = .str i ∧ y = .str j ∧ i.length + j.length ≤ sizeLine ∧ Q (.str (i ++ j)) H) (.str (S a)) (.str (S b)) H (.str (S (a ++ b))) := by
  rw [← S_cat]
  refine rv_str2 (f := fun i j => .str (i ++ j)) (C := fun i j => i.length + j.length ≤ sizeLine) ?_
  rw [S_len, S_len]
  exact Nat.le_trans h (by decide)
theorem dec_S {a b : List Nat} : decide (V.str (S a) = V.str (S b)) = decide (a = b) := by
  rw [Bool.eq_iff_iff]
  simp only [decide_eq_true_eq]
  exact ⟨fun h => S_inj (V.str.inj h), fun h => by rw [h]⟩
theorem rv_eqS {a b : List Nat} {H : Hp} : RV rEq (.str (S a)) (.str (S b)) H (.bl (decide (a = b))) := by
  rw [← dec_S]
  exact rv_eq rfl
theorem rv_neS {a b : List Nat} {H : Hp} : RV rNe (.str (S a)) (.str (S b)) H (.bl (!decide (a = b))) := by
  rw [← dec_S]
  exact rv_ne rfl
theorem dec_I {a b : Int} : decide (V.int a = V.int b) = decide (a = b) := by
  rw [Bool.eq_iff_iff]
  simp only [decide_eq_true_eq]
  exact ⟨fun h => V.int.inj h, fun h => by rw [h]⟩
theorem rv_eqI {a b : Int} {H : Hp} : RV rEq (.int a) (.int b) H (.bl (decide (a = b))) := by
  rw [← dec_I]
  exact rv_eq rfl
theorem rv_neI {a b : Int} {H : Hp} : RV rNe (.int a) (.int b) H (.bl (!decide (a = b))) := by
  rw [← dec_I]
  exact rv_ne rfl
/-- l[lo:hi] -/
def cut (l : List Nat) (lo hi : Option Int) : List Nat := (l.drop (HT.sIx l.length 0 lo)).take (HT.sIx l.length l.length hi - HT.sIx l.length 0 lo)
theorem cutS_S (l : List Nat) (lo hi : Option Int) : cutS (S l) lo hi = S (cut l lo hi) := by
  unfold cutS cut
  rw [S_len]
theorem cut_len (l : List Nat) (lo hi : Option Int) : (cut l lo hi).length ≤ l.length := by
  unfold cut
  rw [List.length_take, List.length_drop]
  omega
theorem cut_mem {l : List Nat} {lo hi : Option Int} {c : Nat} (h : c ∈ cut l lo hi) : c ∈ l := List.mem_of_mem_drop (List.mem_of_mem_take h)
theorem cut_from (l : List Nat) (i : Nat) : cut l (some (i : Int)) none = l.drop i := by
  unfold cut
  rw [HT.sIx_nat, HT.sIx_none]
  by_cases h : i ≤ l.length
  · rw [Nat.min_eq_left h, List.take_of_length_le (by rw [List.length_drop]; omega)]
  · rw [Nat.min_eq_right (by omega), List.drop_of_length_le (Nat.le_refl _), List.drop_of_length_le (by omega), List.take_nil]
theorem cut_to (l : List Nat) (i : Nat) : cut l none (some (i : Int)) = l.take i := by
  unfold cut
  rw [HT.sIx_nat, HT.sIx_none, List.drop_zero, Nat.sub_zero]
  by_cases h : i ≤ l.length
  · rw [Nat.min_eq_left h]
  · rw [Nat.min_eq_right (by omega), List.take_of_length_le (Nat.le_refl _), List.take_of_length_le (by omega)]
theorem cut_mid (l : List Nat) (i j : Nat) : cut l (some (i : Int)) (some (j : Int)) = (l.drop i).take (j - i) := by
  unfold cut
  rw [HT.sIx_nat, HT.sIx_nat]
  by_cases h : i ≤ l.length
  · rw [Nat.min_eq_left h]
    by_cases g : j ≤ l.length
    · rw [Nat.min_eq_left g]
    · rw [Nat.min_eq_right (by omega), List.take_of_length_le (by rw [List.length_drop]; omega), List.take_of_length_le (by rw [List.length_drop]; omega)]
  · rw [Nat.min_eq_right (show l.length ≤ i by omega), List.drop_of_length_le (Nat.le_refl _), List.drop_of_length_le (show l.length ≤ i by omega), List.take_nil, List.take_nil]
theorem cut_last (l : List Nat) : cut l none (some (-1)) = l.dropLast := by
  unfold cut
  rw [HT.sIx_none, List.drop_zero, Nat.sub_zero, List.dropLast_eq_take]
  congr 1
  show (if (-1 : Int) < 0 then ((-1 : Int) + (l.length : Int)).toNat else min (-1 : Int).toNat l.length) = l.length - 1
  rw [if_pos (by decide)]
  omega
section
variable {K : PySem.W.Frag} {σ : L2.St} {H H' : Hp} {ta tb te tx : TE} {t u : TT} {x y z v : V} {r : R2}
theorem ev_slS {tl th : TO} {l : List Nat} {lo hi : Option Int} (h : Ev te σ H (.str (S l))) (h1 : EvO tl σ H lo) (h2 : EvO th σ H hi) (hl : l.length ≤ 1000000) : Ev (tSl rSlS te tl th) σ H (.str (S (cut l lo hi))) := fun H1 e _ q =>
  h H1 e _ fun H2 e2 => h1 H2 (e.trans e2) _ fun H3 e3 => h2 H3 ((e.trans e2).trans e3) _ fun H4 e4 =>
    ⟨S l, rfl, by rw [S_len]; exact Nat.le_trans hl (by decide), by rw [cutS_S]; exact q H4 ((e2.trans e3).trans e4)⟩
def rLenStr : List V → Hp → VK → Prop := fun xs H Q => ∃ z, xs = [.str z] ∧ z.length ≤ sizeLine ∧ Q (.int z.length) H
theorem ev_lenS {l : List Nat} (h : Ev ta σ H (.str (S l))) (hl : l.length ≤ 1000000) : Ev (tCB (fun xs H Q => ∃ z, xs = [.str z] ∧ z.length ≤ sizeLine ∧ Q (.int z.length) H) (tCons ta tNil)) σ H (.int (l.length : Int)) := fun H1 e Q q =>
  h H1 e _ fun H2 e2 => ⟨S l, rfl, by rw [S_len]; exact Nat.le_trans hl (by decide), by rw [S_len]; exact q H2 e2⟩
theorem rv_ixS' {l : List Nat} {i : Int} {c : Nat} (hl : l.length ≤ 100000) (ha : atI l i = some c) : RV rIxS (.str (S l)) (.int i) H (.str (S [c])) := fun H1 _ _ q => ⟨S l, i, c, rfl, rfl, by rw [S_len]; exact sz_of hl, ha, q H1 (Ex.refl H1)⟩
/-- a built-in's method by values -/
def RM (r : V → List V → Hp → VK → Prop) (x : V) (vs : List V) (H : Hp) (z : V) : Prop := ∀ H1, Ex H H1 → ∀ Q : VK, (∀ H2, Ex H1 H2 → Q z H2) → r x vs H1 Q
theorem ev_bm {T : String} {r : V → List V → Hp → VK → Prop} {t : TA} {vs : List V} (h : Ev ta σ H x) (hT : ∀ H1, Ex H H1 → tyV K T x H1) (ha : EvA t σ H vs) (hr : RM r x vs H z) : Ev (tBM K T r ta t) σ H z := fun H1 e Q q =>
  h H1 e _ fun H2 e2 => ⟨hT H2 (e.trans e2), ha H2 (e.trans e2) _ fun H3 e3 => hr H3 ((e.trans e2).trans e3) Q fun H4 e4 => q H4 ((e2.trans e3).trans e4)⟩
/-- any value with a property -/
def EvQ (te : TE) (σ : L2.St) (H : Hp) (P : V → Prop) : Prop := ∀ H1, Ex H H1 → ∀ Q : VK, (∀ v H2, P v → Ex H1 H2 → Q v H2) → te σ H1 Q
def SpQ (sp : Sp) (vs : List V) (H : Hp) (P : V → Prop) : Prop := ∀ H1, Ex H H1 → ∀ Q : VK, (∀ v H2, P v → Ex H1 H2 → Q v H2) → ∀ E : XK, sp vs H1 Q E
theorem EvQ.mono {P : V → Prop} (e : Ex H H') (h : EvQ te σ H P) : EvQ te σ H' P := fun H1 a Q q => h H1 (e.trans a) Q q
theorem EvQ.imp {P P' : V → Prop} (h : EvQ te σ H P) (i : ∀ v, P v → P' v) : EvQ te σ H P' := fun H1 e Q q => h H1 e Q fun v H2 p e2 => q v H2 (i v p) e2
theorem Ev.toQ {P : V → Prop} (h : Ev te σ H v) (p : P v) : EvQ te σ H P := fun H1 e Q q => h H1 e Q fun H2 e2 => q v H2 p e2
theorem eq_call {sp : Sp} {dvs vs : List V} {E : XK} {ta : TA} {P : V → Prop} (h : EvA ta σ H vs) (hs : SpQ sp (vs ++ dvs) H P) : EvQ (tCall sp dvs E ta) σ H P := fun H1 e Q q =>
  h H1 e _ fun H2 e2 => hs H2 (e.trans e2) Q (fun v H3 p e3 => q v H3 p (e2.trans e3)) E
/-- an operation whose second operand is told by a property -/
theorem eq_op2 {P P2 : V → Prop} (ha : Ev ta σ H x) (hb : EvQ tb σ H P2) (hr : ∀ y, P2 y → ∃ z, P z ∧ RV r x y H z) : EvQ (tOp r ta tb) σ H P := fun H1 e Q q =>
  ha H1 e _ fun H2 e2 => hb H2 (e.trans e2) _ fun y H3 p e3 => by
    obtain ⟨z, pz, h⟩ := hr y p
    exact h H3 ((e.trans e2).trans e3) Q fun H4 e4 => q z H4 pz ((e2.trans e3).trans e4)
theorem eq_op1 {P P1 : V → Prop} (ha : EvQ ta σ H P1) (hb : Ev tb σ H y) (hr : ∀ x, P1 x → ∃ z, P z ∧ RV r x y H z) : EvQ (tOp r ta tb) σ H P := fun H1 e Q q =>
  ha H1 e _ fun x H2 p e2 => hb H2 (e.trans e2) _ fun H3 e3 => by
    obtain ⟨z, pz, h⟩ := hr x p
    exact h H3 ((e.trans e2).trans e3) Q fun H4 e4 => q z H4 pz ((e2.trans e3).trans e4)
variable {D : Ends} {tu tw tz : TS} {g : TG}
theorem s_asgQ {i : Nat} {P : V → Prop} (h : EvQ te σ H P) (k : ∀ v H1, P v → Ex H H1 → D.nx (σ.set i (some v)) H1) : tAsg te (gName i) D σ H := h H (Ex.refl H) _ fun v H1 p e => k v H1 p e
theorem q_asgQ {i : Nat} {P : V → Prop} (h : EvQ te σ H P) (k : ∀ v H1, P v → Ex H H1 → tz D (σ.set i (some v)) H1) : tSeq (tAsg te (gName i)) tz D σ H := s_asgQ (D := { D with nx := tz D }) h k
theorem s_retQ {P : V → Prop} (h : EvQ te σ H P) (k : ∀ v H1, P v → Ex H H1 → D.rt v H1) : tRet te D σ H := h H (Ex.refl H) _ fun v H1 p e => k v H1 p e
end
/-! ### s * n -/
theorem rep_S (l : List Nat) (n : Nat) : (⟨(List.replicate n (S l).cps).foldl (· ++ ·) #[]⟩ : Str) = S ((List.replicate n l).flatten) := by
  have h : ∀ (n : Nat) (acc : List Nat), (List.replicate n (S l).cps).foldl (· ++ ·) acc.toArray = (acc ++ (List.replicate n l).flatten).toArray := by
    intro n
    induction n with
    | zero => intro acc; simp
    | succ n ih =>
      intro acc
      rw [List.replicate_succ, List.foldl_cons, List.replicate_succ, List.flatten_cons, ← List.append_assoc, ← ih]
      congr 1
      simp
  have := h n []
  rw [List.nil_append] at this
  rw [this]
def rMulS : R2 := fun x y H Q => ∃ (l : List Nat) (n : Nat), x = .str (S l) ∧ y = .int (n : Int) ∧ l.length * n ≤ 1000000 ∧ n ≤ 1000000 ∧ Q (.str (S ((List.replicate n l).flatten))) H
theorem op_mul_str {X : Cx} : OpR X (binaryOp .Mult) rMulS := by
  intro pins s σ H x y v u Q I rx ry h
  obtain ⟨l, n, rfl, rfl, hl, hn, q⟩ := h
  obtain ⟨t, rfl⟩ := rx
  obtain ⟨t2, rfl⟩ := ry
  have hz : l.length * n ≤ sizeLine := Nat.le_trans hl (by decide)
  refine PySem.P.mul_str ?_ ?_ ?_ ?_
  · rw [decide_eq_false (by omega), decide_eq_false (by omega)]; rfl
  · intro h1 _
    rw [S_len]
    have e : ((2 : Int) ^ 63 - 1) / (n : Int) ≥ l.length := by
      apply Int.le_ediv_of_mul_le (by omega)
      have : ((l.length * n : Nat) : Int) ≤ 1000000 := by omega
      rw [Int.natCast_mul] at this
      omega
    omega
  · intro _ _
    rw [S_len, Int.toNat_natCast]
    unfold Builtin.Str.tooLong
    simp
    omega
  · by_cases h1 : (n : Int) < 1
    · have e : n = 0 := by omega
      subst e
      rw [if_pos h1]
      exact ⟨by decide, .str (S []), H, I.tok _, ⟨_, rfl⟩, q⟩
    · rw [if_neg h1]
      by_cases h2 : (((n : Int) == 1) || ((S l).length == 0)) = true
      · rw [if_pos h2]
        have e : (List.replicate n l).flatten = l := by
          rw [Bool.or_eq_true] at h2
          rcases h2 with h2 | h2
          · have : n = 1 := by have := eq_of_beq h2; omega
            subst this
            simp
          · rw [S_len] at h2
            have : l = [] := List.eq_nil_of_length_eq_zero (eq_of_beq h2)
            subst this
            simp
        rw [e] at q
        exact ⟨.str (S l), H, I, ⟨_, rfl⟩, q⟩
      · rw [if_neg h2, Int.toNat_natCast, rep_S]
        refine ⟨?_, .str _, H, I.tok _, ⟨_, rfl⟩, q⟩
        rw [S_len, List.length_flatten]
        simp
        rw [Nat.mul_comm]
        exact hz
theorem rv_mulS {l : List Nat} {n : Nat} {H : Hp} (h : l.length * n ≤ 1000000) (h2 : n ≤ 1000000) : RV rMulS (.str (S l)) (.int (n : Int)) H (.str (S ((List.replicate n l).flatten))) := fun H1 _ _ q => ⟨l, n, rfl, rfl, h, h2, q H1 (Ex.refl H1)⟩
end WP
namespace WP
open PySem PySem.Spec PyProof.Rows L2 Evl
open SX (S S_len S_cat S_inj S_tl)
/-! ### kinds of things -/
/-- what may be handed in, with its type's name -/
inductive Thing (H : Hp) : V → String → Prop where
  | non : Thing H .non "NoneType"
  | bl (b : Bool) : Thing H (.bl b) "bool"
  | int (i : Int) : Thing H (.int i) "int"
  | str (l : List Nat) (h : l.length ≤ 1000000) : Thing H (.str (S l)) "str"
  | lst {a : Addr} {xs : List V} (e : H a = some (.lst xs)) : Thing H (.ref a) "list"
  | tup {a : Addr} {xs : List V} (e : H a = some (.tup xs)) : Thing H (.ref a) "tuple"
  | dK {a : Addr} {kvs : List (Key × V)} (e : H a = some (.dK kvs)) : Thing H (.ref a) "dict"
theorem Thing.ex {H H' : Hp} {v : V} {n : String} (e : Ex H H') (h : Thing H v n) : Thing H' v n := by
  cases h with
  | non => exact .non
  | bl b => exact .bl b
  | int i => exact .int i
  | str l h => exact .str l h
  | lst q => exact .lst (e _ _ q)
  | tup q => exact .tup (e _ _ q)
  | dK q => exact .dK (e _ _ q)
theorem Thing.ty {K : PySem.W.Frag} {H : Hp} {v : V} {n : String} (h : Thing H v n) : TyX K H v (.type n) := by
  cases h with
  | non => exact .base .non
  | bl b => exact .base (.bl b)
  | int i => exact .base (.int i)
  | str l h => exact .base (.str _)
  | lst q => exact .base (.lst q)
  | tup q => exact .base (.tup q)
  | dK q => exact .base (.dK q)
section
variable {K : PySem.W.Frag} {σ : L2.St} {H H' : Hp} {ta tb te tx : TE} {t u : TT} {x y z v : V} {r : R2}
/-- isinstance(x, T), T a built-in type -/
theorem ev_isi {T n : String} {b : Bool} (h : Ev ta σ H v) (th : Thing H v n) (hk : kitB n T = some b) : Ev (tCB (rIsi K) (tCons ta (tCons (tC (.ty T)) tNil))) σ H (.bl b) := fun H1 e Q q =>
  h H1 e _ fun H2 e2 => ⟨v, .ty T, .type n, .type T, b, rfl, .ty T, (th.ex (e.trans e2)).ty, kit_ty hk, q H2 e2⟩
/-- .. of an own class's instance, or any value whose type is known -/
theorem ev_isiX {c : V} {ty u : Value} {b : Bool} (h : Ev ta σ H v) (hc : ClsV c u) (th : ∀ H1, Ex H H1 → TyX K H1 v ty) (hk : PySem.W.kitOne K ty u = some b) : Ev (tCB (rIsi K) (tCons ta (tCons (tC c) tNil))) σ H (.bl b) := fun H1 e Q q =>
  h H1 e _ fun H2 e2 => ⟨v, c, ty, u, b, rfl, hc, th H2 (e.trans e2), hk, q H2 e2⟩
end
/-! ### strip -/
theorem tw_all {p : Nat → Bool} : ∀ l : List Nat, (∀ c ∈ l, p c = true) → l.takeWhile p = l
  | [], _ => rfl
  | c :: r, h => by rw [List.takeWhile_cons, if_pos (h c List.mem_cons_self), tw_all r fun d hd => h d (List.mem_cons_of_mem _ hd)]
theorem tw_mem {p : Nat → Bool} : ∀ {l : List Nat} {c : Nat}, c ∈ l.takeWhile p → p c = true
  | [], c, h => by cases h
  | d :: r, c, h => by
    rw [List.takeWhile_cons] at h
    by_cases hp : p d = true
    · rw [if_pos hp] at h
      rcases List.mem_cons.mp h with e | e
      · rw [e]; exact hp
      · exact tw_mem e
    · rw [if_neg hp] at h
      cases h
theorem strip_S (l cs : List Nat) : decide (Txt.stripChars (S l) (S cs) = S []) = l.all (fun c => cs.contains c) := by
  have hg : ∀ c, (S cs).cps.contains c = cs.contains c := fun c => by
    show cs.toArray.contains c = cs.contains c
    simp
  rw [Bool.eq_iff_iff, decide_eq_true_eq, List.all_eq_true]
  constructor
  · intro h
    unfold Txt.stripChars Txt.stripBy at h
    split at h
    · have e := S_inj h
      subst e
      intro c hc
      cases hc
    · unfold stripped Builtin.Str.strSub at h
      have hlen : ((S l).cps.extract (stripLo (S cs).cps.contains true (S l)) (stripHi (S cs).cps.contains true (S l) (stripLo (S cs).cps.contains true (S l)))).size = 0 := by
        have := congrArg (fun z : Str => z.cps.size) h
        simpa using this
      rw [Array.size_extract] at hlen
      unfold stripLo stripHi at hlen
      simp only [if_true] at hlen
      have ecps : (S l).cps.toList = l := rfl
      have esz : (S l).cps.size = l.length := by simp [S]
      have hs : l.toArray.size = l.length := by simp
      have hlen2 : min (l.length - ((l.drop (l.takeWhile (S cs).cps.contains).length).reverse.takeWhile (S cs).cps.contains).length) l.length - (l.takeWhile (S cs).cps.contains).length = 0 := by
        rw [S_len, hs] at hlen
        exact hlen
      have a1 : (l.takeWhile (S cs).cps.contains).length ≤ l.length := (List.takeWhile_prefix _).length_le
      have a2 : ((l.drop (l.takeWhile (S cs).cps.contains).length).reverse.takeWhile (S cs).cps.contains).length ≤ (l.drop (l.takeWhile (S cs).cps.contains).length).reverse.length := (List.takeWhile_prefix _).length_le
      rw [List.length_reverse, List.length_drop] at a2
      have key : ∀ (p : Nat → Bool) (l : List Nat), l.length ≤ (l.takeWhile p).length + ((l.drop (l.takeWhile p).length).reverse.takeWhile p).length → ∀ c ∈ l, p c = true := by
        intro p l hl
        have hd : l.drop (l.takeWhile p).length = l.dropWhile p := by
          have := List.takeWhile_append_dropWhile (p := p) (l := l)
          conv => lhs; rw [← this]
          rw [show (l.takeWhile p ++ l.dropWhile p).takeWhile p = l.takeWhile p by rw [this]]
          exact List.drop_left
        rw [hd] at hl
        have hln : l.length = (l.takeWhile p).length + (l.dropWhile p).length := by
          rw [← List.length_append, List.takeWhile_append_dropWhile]
        have h3 : (l.dropWhile p).reverse.takeWhile p = (l.dropWhile p).reverse := by
          have hs : (l.dropWhile p).reverse.takeWhile p <+: (l.dropWhile p).reverse := List.takeWhile_prefix p
          exact hs.eq_of_length_le (by rw [List.length_reverse]; omega)
        intro c hc
        rw [← List.takeWhile_append_dropWhile (p := p) (l := l)] at hc
        rcases List.mem_append.mp hc with q | q
        · exact tw_mem q
        · have : c ∈ (l.dropWhile p).reverse.takeWhile p := by rw [h3]; exact List.mem_reverse.mpr q
          exact tw_mem this
      intro c hc
      rw [← hg]
      exact key _ l (by omega) c hc
  · intro h
    have hp : ∀ c ∈ l, (S cs).cps.contains c = true := fun c hc => by rw [hg]; exact h c hc
    have e0 : stripLo (S cs).cps.contains true (S l) = l.length := by
      unfold stripLo
      rw [if_pos rfl]
      show (l.takeWhile _).length = _
      rw [tw_all l hp]
    have e1 : stripHi (S cs).cps.contains true (S l) l.length = l.length := by
      unfold stripHi
      rw [if_pos rfl, S_len]
      show l.length - ((l.drop l.length).reverse.takeWhile _).length = _
      rw [List.drop_length]
      simp
    unfold Txt.stripChars Txt.stripBy stripSame
    rw [e0, e1, S_len]
    by_cases hl : l.length = 0
    · have : l = [] := List.eq_nil_of_length_eq_zero hl
      subst this
      rfl
    · rw [if_neg (by simp [hl])]
      unfold stripped Builtin.Str.strSub
      rw [e0, e1]
      simp [S]
/-! ### == of lists of plain things -/
section
variable {K : PySem.W.Frag} {H : Hp} {a b : Addr}
theorem dp_map {α : Type} {f : α → V} {g : α → PyData} (hd : ∀ x, Dp K H (f x) (g x)) : ∀ xs : List α, DpAll K H (xs.map f) (xs.map g)
  | [] => .nil
  | x :: xs => .cons (hd x) (dp_map hd xs)
theorem shaped_map {α : Type} {g : α → PyData} : ∀ (xs : List α), (∀ x ∈ xs, (g x).canLay0 = true ∧ (g x).depth ≤ 1) → SeqAt.shaped (.list (xs.map g)) = true := by
  have h1 : ∀ (xs : List α), (∀ x ∈ xs, (g x).canLay0 = true ∧ (g x).depth ≤ 1) → PyData.canLayAll0 (xs.map g) = true ∧ PyData.depthAll (xs.map g) ≤ 1 := by
    intro xs
    induction xs with
    | nil => intro _; exact ⟨rfl, by simp [PyData.depthAll]⟩
    | cons x xs ih =>
      intro hl
      have q := ih fun y hy => hl y (List.mem_cons_of_mem _ hy)
      have p := hl x List.mem_cons_self
      rw [List.map_cons, PyData.canLayAll0, PyData.depthAll, p.1, q.1]
      exact ⟨rfl, by omega⟩
  intro xs hl
  have q := h1 xs hl
  unfold SeqAt.shaped
  rw [Bool.and_eq_true, decide_eq_true_eq]
  refine ⟨by rw [PyData.canLay0]; exact q.1, ?_⟩
  rw [PyData.depth]
  omega
theorem eqvAll_map {α : Type} [DecidableEq α] {g : α → PyData} (he : ∀ x y, PyData.eqv (g x) (g y) = decide (x = y)) : ∀ xs ys : List α, PyData.eqvAll (xs.map g) (ys.map g) = decide (xs = ys)
  | [], [] => by simp [PyData.eqvAll]
  | x :: xs, [] => by simp [PyData.eqvAll]
  | [], y :: ys => by simp [PyData.eqvAll]
  | x :: xs, y :: ys => by
    rw [List.map_cons, List.map_cons, PyData.eqvAll, he, eqvAll_map he xs ys, Bool.eq_iff_iff, Bool.and_eq_true, decide_eq_true_eq, decide_eq_true_eq, decide_eq_true_eq, List.cons.injEq]
theorem rv_eqL {α : Type} [DecidableEq α] (f : α → V) (g : α → PyData) (hd : ∀ H1 x, Dp K H1 (f x) (g x)) (he : ∀ x y, PyData.eqv (g x) (g y) = decide (x = y)) {xs ys : List α} (hl : ∀ x ∈ xs, (g x).canLay0 = true ∧ (g x).depth ≤ 1) (hl2 : ∀ x ∈ ys, (g x).canLay0 = true ∧ (g x).depth ≤ 1) (ha : SqL K H a (xs.map f)) (hb : SqL K H b (ys.map f)) :
    RV (rEqD K) (.ref a) (.ref b) H (.bl (decide (xs = ys))) := fun H1 e Q q =>
  ⟨.list (xs.map g), .list (ys.map g), .lst (ex_l e ha) (dp_map (hd H1) xs), .lst (ex_l e hb) (dp_map (hd H1) ys), shaped_map xs hl, shaped_map ys hl2, by
    rw [PyData.eqv, eqvAll_map he]
    exact q H1 (Ex.refl H1)⟩
theorem rv_neL {α : Type} [DecidableEq α] (f : α → V) (g : α → PyData) (hd : ∀ H1 x, Dp K H1 (f x) (g x)) (he : ∀ x y, PyData.eqv (g x) (g y) = decide (x = y)) {xs ys : List α} (hl : ∀ x ∈ xs, (g x).canLay0 = true ∧ (g x).depth ≤ 1) (hl2 : ∀ x ∈ ys, (g x).canLay0 = true ∧ (g x).depth ≤ 1) (ha : SqL K H a (xs.map f)) (hb : SqL K H b (ys.map f)) :
    RV (rNeD K) (.ref a) (.ref b) H (.bl (!decide (xs = ys))) := fun H1 e Q q =>
  ⟨.list (xs.map g), .list (ys.map g), .lst (ex_l e ha) (dp_map (hd H1) xs), .lst (ex_l e hb) (dp_map (hd H1) ys), shaped_map xs hl, shaped_map ys hl2, by
    rw [PyData.eqv, eqvAll_map he]
    exact q H1 (Ex.refl H1)⟩
theorem eqv_int (x y : Int) : PyData.eqv (.int x) (.int y) = decide (x = y) := by
  rw [PyData.eqv, Bool.eq_iff_iff, beq_iff_eq, decide_eq_true_eq]
theorem eqv_str (x y : List Nat) : PyData.eqv (.str (S x)) (.str (S y)) = decide (x = y) := by
  rw [PyData.eqv, Bool.eq_iff_iff, beq_iff_eq, decide_eq_true_eq]
  exact ⟨fun h => S_inj h, fun h => by rw [h]⟩
theorem eqv_bool (x y : Bool) : PyData.eqv (.bool x) (.bool y) = decide (x = y) := by
  rw [PyData.eqv, Bool.eq_iff_iff, beq_iff_eq, decide_eq_true_eq]
theorem lay_int' (x : Nat) : (PyData.int (x : Int)).canLay0 = true ∧ (PyData.int (x : Int)).depth ≤ 1 := ⟨by simp [PyData.canLay0], by simp [PyData.depth]⟩
theorem eqv_nat (x y : Nat) : PyData.eqv (.int (x : Int)) (.int (y : Int)) = decide (x = y) := by
  rw [eqv_int, Bool.eq_iff_iff, decide_eq_true_eq, decide_eq_true_eq]
  omega
theorem lay_int (x : Int) : (PyData.int x).canLay0 = true ∧ (PyData.int x).depth ≤ 1 := ⟨by simp [PyData.canLay0], by simp [PyData.depth]⟩
theorem lay_bool (x : Bool) : (PyData.bool x).canLay0 = true ∧ (PyData.bool x).depth ≤ 1 := ⟨by simp [PyData.canLay0], by simp [PyData.depth]⟩
abbrev vS (l : List Nat) : V := .str (S l)
/-- signs that are code points -/
def Cps (l : List Nat) : Prop := ∀ c ∈ l, c < 1000
theorem lay_str {x : List Nat} (h : Cps x) : (PyData.str (S x)).canLay0 = true ∧ (PyData.str (S x)).depth ≤ 1 := by
  refine ⟨?_, by simp [PyData.depth]⟩
  rw [PyData.canLay0]
  unfold PyData.strOk
  rw [← Array.all_toList, List.all_eq_true]
  intro c hc
  have : c < 1000 := h c hc
  exact decide_eq_true (by omega)
theorem rv_eqLI {xs ys : List Int} (ha : SqL K H a (xs.map V.int)) (hb : SqL K H b (ys.map V.int)) : RV (rEqD K) (.ref a) (.ref b) H (.bl (decide (xs = ys))) := rv_eqL V.int .int (fun _ x => .int x) eqv_int (fun x _ => lay_int x) (fun x _ => lay_int x) ha hb
theorem rv_neLI {xs ys : List Int} (ha : SqL K H a (xs.map V.int)) (hb : SqL K H b (ys.map V.int)) : RV (rNeD K) (.ref a) (.ref b) H (.bl (!decide (xs = ys))) := rv_neL V.int .int (fun _ x => .int x) eqv_int (fun x _ => lay_int x) (fun x _ => lay_int x) ha hb
abbrev vN (n : Nat) : V := .int (n : Int)
theorem rv_eqLN {xs ys : List Nat} (ha : SqL K H a (xs.map vN)) (hb : SqL K H b (ys.map vN)) : RV (rEqD K) (.ref a) (.ref b) H (.bl (decide (xs = ys))) := rv_eqL vN (fun n => .int (n : Int)) (fun _ x => .int _) eqv_nat (fun x _ => lay_int' x) (fun x _ => lay_int' x) ha hb
theorem rv_neLN {xs ys : List Nat} (ha : SqL K H a (xs.map vN)) (hb : SqL K H b (ys.map vN)) : RV (rNeD K) (.ref a) (.ref b) H (.bl (!decide (xs = ys))) := rv_neL vN (fun n => .int (n : Int)) (fun _ x => .int _) eqv_nat (fun x _ => lay_int' x) (fun x _ => lay_int' x) ha hb
theorem rv_eqLB {xs ys : List Bool} (ha : SqL K H a (xs.map V.bl)) (hb : SqL K H b (ys.map V.bl)) : RV (rEqD K) (.ref a) (.ref b) H (.bl (decide (xs = ys))) := rv_eqL V.bl .bool (fun _ x => .bl x) eqv_bool (fun x _ => lay_bool x) (fun x _ => lay_bool x) ha hb
theorem rv_neLB {xs ys : List Bool} (ha : SqL K H a (xs.map V.bl)) (hb : SqL K H b (ys.map V.bl)) : RV (rNeD K) (.ref a) (.ref b) H (.bl (!decide (xs = ys))) := rv_neL V.bl .bool (fun _ x => .bl x) eqv_bool (fun x _ => lay_bool x) (fun x _ => lay_bool x) ha hb
theorem rv_eqLS {xs ys : List (List Nat)} (hx : ∀ l ∈ xs, Cps l) (hy : ∀ l ∈ ys, Cps l) (ha : SqL K H a (xs.map vS)) (hb : SqL K H b (ys.map vS)) : RV (rEqD K) (.ref a) (.ref b) H (.bl (decide (xs = ys))) := rv_eqL vS (fun l => .str (S l)) (fun _ x => .str _) eqv_str (fun x h => lay_str (hx x h)) (fun x h => lay_str (hy x h)) ha hb
theorem rv_neLS {xs ys : List (List Nat)} (hx : ∀ l ∈ xs, Cps l) (hy : ∀ l ∈ ys, Cps l) (ha : SqL K H a (xs.map vS)) (hb : SqL K H b (ys.map vS)) : RV (rNeD K) (.ref a) (.ref b) H (.bl (!decide (xs = ys))) := rv_neL vS (fun l => .str (S l)) (fun _ x => .str _) eqv_str (fun x h => lay_str (hx x h)) (fun x h => lay_str (hy x h)) ha hb
end
/-! ### comprehensions -/
section
variable {K : PySem.W.Frag} {σ : L2.St} {H H' : Hp} {ta tb te tx : TE} {t u : TT} {x y z v : V} {r : R2}
/-- over range(n), n of any sign -/
theorem el_lcR {ta : TA} {j : Nat} {vs : List Nat} {n : Int} (f : Nat → Bool) (v : Nat → V) (h : EvA ta σ H [.int n]) (hn : -100000 ≤ n ∧ n ≤ 40000) (hw : ∀ x, wipe ((wipe σ vs).set j (some x)) vs = wipe σ vs)
    (ht : ∀ (i : Nat) H1, Ex H H1 → (i : Int) < n → EvT t ((wipe σ vs).set j (some (.int (i : Int)))) H1 (f i)) (he : ∀ (i : Nat) H1, Ex H H1 → (i : Int) < n → f i = true → Ev te ((wipe σ vs).set j (some (.int (i : Int)))) H1 (v i)) :
    EvL (tLc (iRng1 ta) (gName j) t te vs) σ H (given n.toNat f v) := fun H0 e Q q => h H0 e _ fun H1 e1 => ⟨n, rfl, by omega, by omega, fun Dl hD =>
  lc_range (lo := 0) (n := n.toNat) (Cw H1 f v Dl) ⟨hD, Ex.new hD, upd_same⟩ (fun i H' hi p => by
    have e0 : (0 : Int) + (i : Int) = (i : Int) := Int.zero_add _
    show wipe ((wipe σ vs).set j (some (.int ((0 : Int) + (i : Int))))) vs = wipe σ vs ∧ t ((wipe σ vs).set j (some (.int ((0 : Int) + (i : Int))))) H' fun b H3 => if b = true then te ((wipe σ vs).set j (some (.int ((0 : Int) + (i : Int))))) H3 fun y H4 => ∃ acc, H4 Dl = some (.lst acc) ∧ acc.length < sizeLine ∧ Cw H1 f v Dl (i + 1) (upd H4 Dl (.lst (acc ++ [y]))) else Cw H1 f v Dl (i + 1) H3
    rw [e0]
    exact ⟨hw _, cw_turn p (by omega) (ht i H1 (e.trans e1) (by omega)) (fun hf => he i H1 (e.trans e1) (by omega) hf)⟩) (fun H' p => q Dl H' (fresh_back e1 p.1) (e1.trans p.2.1) p.2.2)⟩
theorem et_yes : EvT tYes σ H true := fun H1 _ _ q => q H1 (Ex.refl H1)
theorem given_all (n : Nat) (v : Nat → V) : given n (fun _ => true) v = (List.range n).map v := by
  unfold given
  rw [List.filter_eq_self.mpr (fun _ _ => rfl)]
/-- the first operand a new tuple -/
theorem ev_opU1 {xs : List V} (ha : EvU ta σ H xs) (hb : Ev tb σ H y) (hr : ∀ p H1, H1 p = some (.tup xs) → Ex H H1 → RV r (.ref p) y H1 z) : Ev (tOp r ta tb) σ H z := fun H1 e Q q =>
  ha H1 e _ fun p H2 _ e2 hp => hb H2 (e.trans e2) _ fun H3 e3 => hr p H3 (e3 p _ hp) ((e.trans e2).trans e3) H3 (Ex.refl H3) Q fun H4 e4 => q H4 ((e2.trans e3).trans e4)
/-- f(..), a call that may raise, as a statement; x = f(..); return f(..) -/
theorem q_dropC {sp : Sp} {dvs vs : List V} {E : XK} {ta : TA} {tz : TS} {D : Ends} (h : EvA ta σ H vs) (k : ∀ H1, Ex H H1 → sp (vs ++ dvs) H1 (fun _ H2 => tz D σ H2) E) : tSeq (tDrop (tCall sp dvs E ta)) tz D σ H := h H (Ex.refl H) _ fun H1 e => k H1 e
theorem q_asgC {i : Nat} {sp : Sp} {dvs vs : List V} {E : XK} {ta : TA} {tz : TS} {D : Ends} (h : EvA ta σ H vs) (k : ∀ H1, Ex H H1 → sp (vs ++ dvs) H1 (fun v H2 => tz D (σ.set i (some v)) H2) E) : tSeq (tAsg (tCall sp dvs E ta) (gName i)) tz D σ H := h H (Ex.refl H) _ fun H1 e => k H1 e
theorem s_retC {sp : Sp} {dvs vs : List V} {E : XK} {ta : TA} {D : Ends} (h : EvA ta σ H vs) (k : ∀ H1, Ex H H1 → sp (vs ++ dvs) H1 D.rt E) : tRet (tCall sp dvs E ta) D σ H := h H (Ex.refl H) _ fun H1 e => k H1 e
/-- xs[::-1], xs + ys, new lists -/
theorem el_rev {a : Addr} {xs : List V} (h : Ev te σ H (.ref a)) (hs : SqL K H a xs) : EvL (tRevL K te) σ H xs.reverse := fun H1 e _ q =>
  h H1 e _ fun H2 e2 => ⟨a, xs, rfl, ex_l (e.trans e2) hs, fun p hp => q p _ (fresh_back e2 hp) (e2.trans (Ex.new hp)) upd_same⟩
theorem el_revN {xs : List V} (h : EvL te σ H xs) : EvL (tRevL K te) σ H xs.reverse := fun H1 e _ q =>
  h H1 e _ fun a H2 _ e2 ha => ⟨a, xs, rfl, sq_of ha, fun p hp => q p _ (fresh_back e2 hp) (e2.trans (Ex.new hp)) upd_same⟩
theorem el_slN {tl th : TO} {xs : List V} {lo hi : Option Int} (h : EvL te σ H xs) (h1 : EvO tl σ H lo) (h2 : EvO th σ H hi) : EvL (tSl (rSlL K) te tl th) σ H (cutV xs lo hi) := fun H1 e _ q =>
  h H1 e _ fun a H2 _ e2 ha => h1 H2 (e.trans e2) _ fun H3 e3 => h2 H3 ((e.trans e2).trans e3) _ fun H4 e4 =>
    ⟨a, xs, rfl, sq_of ((e3.trans e4) _ _ ha), fun p hp => q p _ (fresh_back ((e2.trans e3).trans e4) hp) (((e2.trans e3).trans e4).trans (Ex.new hp)) upd_same⟩
theorem el_cat {a : Addr} {xs ys : List V} (ha : Ev ta σ H (.ref a)) (hs : H a = some (.lst xs)) (hb : EvL tb σ H ys) (hz : xs.length + ys.length ≤ 1000000) : EvL (tOp rCat ta tb) σ H (xs ++ ys) := fun H1 e _ q =>
  ha H1 e _ fun H2 e2 => hb H2 (e.trans e2) _ fun b H3 hn e3 hb3 => ⟨a, b, xs, ys, rfl, rfl, ((e.trans e2).trans e3) _ _ hs, hb3, Nat.le_trans hz (by decide), fun p hp => q p _ (fresh_back (e2.trans e3) hp) ((e2.trans e3).trans (Ex.new hp)) upd_same⟩
theorem el_catN {xs ys : List V} (ha : EvL ta σ H xs) (hb : EvL tb σ H ys) (hz : xs.length + ys.length ≤ 1000000) : EvL (tOp rCat ta tb) σ H (xs ++ ys) := fun H1 e _ q =>
  ha H1 e _ fun a H2 _ e2 hs => hb H2 (e.trans e2) _ fun b H3 hn e3 hb3 => ⟨a, b, xs, ys, rfl, rfl, e3 _ _ hs, hb3, Nat.le_trans hz (by decide), fun p hp => q p _ (fresh_back (e2.trans e3) hp) ((e2.trans e3).trans (Ex.new hp)) upd_same⟩
/-- all, any, sum of a new list; len of one, list(xs) -/
theorem ev_all {bs : List Bool} (h : EvL ta σ H (bs.map V.bl)) : Ev (tCB (rAll K) (tCons ta tNil)) σ H (.bl (bs.all id)) := fun H1 e Q q => h H1 e _ fun p H2 _ e2 h2 => ⟨p, bs, rfl, sq_of h2, q H2 e2⟩
theorem ev_any {bs : List Bool} (h : EvL ta σ H (bs.map V.bl)) : Ev (tCB (rAny K) (tCons ta tNil)) σ H (.bl (bs.any id)) := fun H1 e Q q => h H1 e _ fun p H2 _ e2 h2 => ⟨p, bs, rfl, sq_of h2, q H2 e2⟩
theorem ev_sum {ns : List Int} (h : EvL ta σ H (ns.map V.int)) : Ev (tCB (rSum K) (tCons ta tNil)) σ H (.int ns.sum) := fun H1 e Q q => h H1 e _ fun p H2 _ e2 h2 => ⟨p, ns, rfl, sq_of h2, q H2 e2⟩
/-- a call whose first argument is a new list -/
theorem eq_callL1 {sp : Sp} {E : XK} {tr : TA} {xs vs : List V} {P : V → Prop} (h : EvL ta σ H xs) (hr : EvA tr σ H vs) (hs : ∀ p H1, H1 p = some (.lst xs) → Ex H H1 → SpQ sp (.ref p :: vs) H1 P) : EvQ (tCall sp [] E (tCons ta tr)) σ H P := fun H1 e Q q =>
  h H1 e _ fun p H2 _ e2 hp => hr H2 (e.trans e2) _ fun H3 e3 => by
    show sp ((.ref p :: vs) ++ []) H3 Q E
    rw [List.append_nil]
    exact hs p H3 (e3 _ _ hp) ((e.trans e2).trans e3) H3 (Ex.refl H3) Q (fun v H4 pv e4 => q v H4 pv ((e2.trans e3).trans e4)) E
theorem ev_callL1 {sp : Sp} {E : XK} {tr : TA} {xs vs : List V} (h : EvL ta σ H xs) (hr : EvA tr σ H vs) (hs : ∀ p H1, H1 p = some (.lst xs) → Ex H H1 → SpV sp (.ref p :: vs) H1 z) : Ev (tCall sp [] E (tCons ta tr)) σ H z := fun H1 e Q q =>
  h H1 e _ fun p H2 _ e2 hp => hr H2 (e.trans e2) _ fun H3 e3 => by
    show sp ((.ref p :: vs) ++ []) H3 Q E
    rw [List.append_nil]
    exact hs p H3 (e3 _ _ hp) ((e.trans e2).trans e3) H3 (Ex.refl H3) Q (fun H4 e4 => q H4 ((e2.trans e3).trans e4)) E
/-- a, b = e1, e2, by a new tuple -/
theorem q_asgT2 {te1 te2 : TE} {i j : Nat} {P1 P2 : V → Prop} {tz : TS} {D : Ends} (h1 : EvQ te1 σ H P1) (h2 : EvQ te2 σ H P2) (k : ∀ v1 v2 H1, P1 v1 → P2 v2 → Ex H H1 → tz D ((σ.set i (some v1)).set j (some v2)) H1) :
    tSeq (tAsg (tTup (tCons te1 (tCons te2 tNil))) (gTup K 2 (gCons (gName i) (gCons (gName j) gNil)))) tz D σ H := h1 H (Ex.refl H) _ fun v1 H1 p1 e1 => h2 H1 e1 _ fun v2 H2 p2 e2 =>
  ⟨by show 2 ≤ sizeLine; decide, fun p hp => ⟨p, [v1, v2], rfl, .inl (.inl upd_same), rfl, v1, [v2], rfl, v2, [], rfl, rfl, k v1 v2 _ p1 p2 ((e1.trans e2).trans (Ex.new hp))⟩⟩
/-- a new list, told by a property -/
def EvLQ (te : TE) (σ : L2.St) (H : Hp) (P : List V → Prop) : Prop := ∀ H1, Ex H H1 → ∀ Q : VK, (∀ xs p H2, P xs → H1 p = none → Ex H1 H2 → H2 p = some (.lst xs) → Q (.ref p) H2) → te σ H1 Q
/-- over enumerate of a new list, no test: each value has a property -/
theorem eq_lcE {xs : List V} {tl : TE} {i j : Nat} {vs : List Nat} (P : Nat → V → Prop) (h : EvL tl σ H xs) (hz : xs.length ≤ 40000) (hw : ∀ x y, wipe (((wipe σ vs).set i (some x)).set j (some y)) vs = wipe σ vs)
    (he : ∀ (k : Nat) (x : V) H1, Ex H H1 → xs[k]? = some x → EvQ te (((wipe σ vs).set i (some (.int (k : Int)))).set j (some x)) H1 (P k)) :
    EvLQ (tLc (iEnum K (tCons tl tNil)) (gTup K 2 (gCons (gName i) (gCons (gName j) gNil))) tYes te vs) σ H (fun ys => ys.length = xs.length ∧ ∀ k y, ys[k]? = some y → P k y) := fun H0 e Q q => by
  refine h H0 e _ fun a H1 ha e1 hx => ⟨a, xs, rfl, sq_of hx, fun D hD => ?_⟩
  refine lc_it (w := walk_enum (K := K) (a := a) (xs := xs)) (fun k H' => ∃ acc, H1 D = none ∧ Ex H1 H' ∧ H' D = some (.lst acc) ∧ acc.length = k ∧ ∀ m y, acc[m]? = some y → P m y) ⟨[], hD, Ex.new hD, upd_same, rfl, fun m y hm => by cases hm⟩ (fun k H' _ p => ?_) (fun k x H' H'' hk p y => ?_) (fun H' p => ?_)
  · obtain ⟨acc, p1, p2, p3, p4, p5⟩ := p
    exact sq_of (p2 _ _ hx)
  · obtain ⟨acc, p1, p2, p3, p4, p5⟩ := p
    obtain ⟨T, a1, a2, rfl, nT, rfl, e3, e4⟩ := y
    cases (Option.some.inj e3)
    refine ⟨T, [.int (k : Nat), a2], rfl, .inl (.inl upd_same), rfl, _, _, rfl, _, _, rfl, rfl, hw _ _, ?_⟩
    unfold tYes
    simp only [↓reduceIte]
    have x1 : Ex H1 (upd H' T (.tup [.int (k : Nat), a2])) := p2.trans (Ex.new nT)
    refine he k a2 H1 (e.trans e1) e4 _ x1 _ fun v H3 pv e3 => ⟨acc, e3 _ _ ?_, sz_lt (by omega), acc ++ [v], p1, Ex.mut (x1.trans e3) p1, upd_same, ?_, fun m y hm => ?_⟩
    · rw [upd_ne (ne_of_none p3 nT)]
      exact p3
    · rw [List.length_append, p4]
      rfl
    · by_cases hmk : m < acc.length
      · rw [List.getElem?_append_left hmk] at hm
        exact p5 m y hm
      · rw [List.getElem?_append_right (by omega)] at hm
        have : m - acc.length = 0 := by
          cases hh : m - acc.length with
          | zero => rfl
          | succ n => rw [hh] at hm; cases hm
        rw [this] at hm
        cases hm
        have : m = k := by omega
        subst this
        exact pv
  · obtain ⟨acc, p1, p2, p3, p4, p5⟩ := p
    exact q acc D H' ⟨p4, p5⟩ (fresh_back e1 p1) (e1.trans p2) p3
end
end WP
namespace WP
open PySem PySem.Spec PyProof.Rows L2 Evl
open SX (S S_len S_cat S_inj S_tl)
/-! ### mirrors and promises -/
def azs : List Nat := [97, 98, 99, 100, 101, 102, 103, 104, 105, 106, 107, 108, 109, 110, 111, 112, 113, 114, 115, 116, 117, 118, 119, 120, 121, 122]
def bmE : List Value := [.type "ValueError", .type "Exception", .type "BaseException", .type "object"]
/-- a text of letters -/
def Az (l : List Nat) : Prop := ∀ c ∈ l, c ∈ azs
/-- a word -/
def Wd (l : List Nat) : Prop := l.length ≤ 100 ∧ Az l
theorem azs_lt {c : Nat} (h : c ∈ azs) : c < 1000 := by
  have : ∀ c ∈ azs, c < 1000 := by decide
  exact this c h
theorem Az.cps {l : List Nat} (h : Az l) : Cps l := fun c hc => azs_lt (h c hc)
theorem Az.nil : Az [] := fun c h => by cases h
theorem Az.app {a b : List Nat} (h : Az a) (g : Az b) : Az (a ++ b) := fun c hc => (List.mem_append.mp hc).elim (h c) (g c)
theorem Az.cut {l : List Nat} {lo hi : Option Int} (h : Az l) : Az (cut l lo hi) := fun c hc => h c (cut_mem hc)
theorem Az.one {c : Nat} (h : c ∈ azs) : Az [c] := fun d hd => by
  rw [List.mem_singleton.mp hd]
  exact h
/-- is_text -/
def isText (v : V) : Bool := match v with
  | .str z => decide (z.length ≤ 100) && z.cps.toList.all (fun c => azs.contains c)
  | _ => false
theorem isText_S {l : List Nat} : isText (.str (S l)) = (decide (l.length ≤ 100) && l.all (fun c => azs.contains c)) := by
  show (decide ((S l).length ≤ 100) && (S l).cps.toList.all (fun c => azs.contains c)) = _
  rw [S_len]
theorem isText_wd {l : List Nat} (h : Wd l) : isText (.str (S l)) = true := by
  rw [isText_S, Bool.and_eq_true, decide_eq_true_eq, List.all_eq_true]
  exact ⟨h.1, fun c hc => List.contains_iff_mem.mpr (h.2 c hc)⟩
theorem text_wd {H : Hp} {v : V} {n : String} (h : Thing H v n) (e : isText v = true) : ∃ l, v = .str (S l) ∧ Wd l := by
  cases h with
  | str l hl =>
    rw [isText_S, Bool.and_eq_true, decide_eq_true_eq, List.all_eq_true] at e
    exact ⟨l, rfl, e.1, fun c hc => List.contains_iff_mem.mp (e.2 c hc)⟩
  | _ => cases e
def sp_is_text : Sp := fun vs H Q _ => ∃ v n, vs = [v] ∧ Thing H v n ∧ RetV (.bl (isText v)) H Q
def sp_check (C : Addr) : Sp := fun vs H Q E => ∃ v n, vs = [v] ∧ Thing H v n ∧ (isText v = true → RetV .non H Q) ∧ (isText v = false → ∀ H2, Ex H H2 → E (.ref C) none H2)
/-- places -/
def placesF (w t : List Nat) : List Nat := (List.range (w.length + 1 - t.length)).filter fun p => decide ((w.drop p).take t.length = t)
def sp_places_of : Sp := fun vs H Q _ => ∃ w t : List Nat, vs = [.str (S w), .str (S t)] ∧ w.length ≤ 1000 ∧ t.length ≤ 1000 ∧ RetL ((placesF w t).map vN) H Q
/-- a door of a word and a text -/
def sp_places (C1 C2 : Addr) : Sp := fun vs H Q E => ∃ v1 n1 v2 n2, vs = [v1, v2] ∧ Thing H v1 n1 ∧ Thing H v2 n2 ∧
  (isText v1 = false → ∀ H2, Ex H H2 → E (.ref C1) none H2) ∧ (isText v1 = true → isText v2 = false → ∀ H2, Ex H H2 → E (.ref C2) none H2) ∧
  (∀ w t, v1 = .str (S w) → v2 = .str (S t) → Wd w → Wd t → RetL ((placesF w t).map vN) H Q)
/-! the law's own helpers -/
def cellAt (ns : List Int) (k : Nat) : Int := ns.getD k 0
def sp_cell (K : PySem.W.Frag) : Sp := fun vs H Q _ => ∃ (a : Addr) (ns : List Int) (k : Nat), vs = [.ref a, .int (k : Int)] ∧ SqL K H a (ns.map V.int) ∧ RetV (.int (cellAt ns k)) H Q
def primes : List Int := [1000003, 1000033, 1000037, 1000039, 1000081, 1000099, 1000117, 1000121, 1000133, 1000151, 1000159, 1000171, 1000183, 1000187, 1000193, 1000199]
def drawF (c : Int) (k : Nat) (m : Int) : Int := (c * 48271 + (k : Int) * 69621) % (primes.getD (k % 16) 1) % m
def sp_draw : Sp := fun vs H Q _ => ∃ (c : Int) (k : Nat) (m : Int), vs = [.int c, .int (k : Int), .int m] ∧ Lim 5000000 c ∧ k ≤ 1000000 ∧ 0 < m ∧ RetV (.int (drawF c k m)) H Q
def sp_number : Sp := fun vs H Q _ => ∃ (c : Int) (k : Nat) (m : Int), vs = [.int c, .int (k : Int), .int m] ∧ Lim 1048577 c ∧ k ≤ 1000 ∧ 0 < m ∧ (∀ r, 0 ≤ r → r < m → RetV (.int r) H Q)
def lsets : List (List Nat) := [[97, 98], [97, 98, 99], azs, [109, 122], [107]]
def lettersF (c : Int) : List Nat := lsets.getD (drawF c 6 5).toNat []
def sp_letters (K : PySem.W.Frag) : Sp := fun vs H Q _ => ∃ (a : Addr) (ns : List Int) (b : Nat), vs = [.ref a, .int (b : Int)] ∧ SqL K H a (ns.map V.int) ∧ (∀ z ∈ ns, Lim 1048577 z) ∧ b ≤ 100 ∧ RetV (vS (lettersF (cellAt ns 0 + b))) H Q
def sp_word (K : PySem.W.Frag) : Sp := fun vs H Q _ => ∃ (a : Addr) (ns : List Int) (b : Nat), vs = [.ref a, .int (b : Int)] ∧ SqL K H a (ns.map V.int) ∧ (∀ z ∈ ns, Lim 1048577 z) ∧ ns.length ≤ 63 ∧ b ≤ 100 ∧
  ∀ w : List Nat, w.length ≤ 100 → (∀ c ∈ w, c ∈ lettersF (cellAt ns 0 + b)) → RetV (vS w) H Q
def sp_whole : Sp := fun vs H Q _ => ∃ v n, vs = [v] ∧ Thing H v n ∧ RetV (.bl (n == "int")) H Q
theorem cell_lim {ns : List Int} {k : Nat} (h : ∀ z ∈ ns, Lim 1048577 z) : Lim 1048577 (cellAt ns k) := by
  unfold cellAt
  rw [List.getD_eq_getElem?_getD]
  cases e : ns[k]? with
  | none => exact (Lim.small (by decide) (by decide)).mono (by decide)
  | some z => exact h z (List.mem_of_getElem? e)
theorem draw_lo {c : Int} {k : Nat} {m : Int} (h : 0 < m) : 0 ≤ drawF c k m := Int.emod_nonneg _ (by omega)
theorem draw_hi {c : Int} {k : Nat} {m : Int} (h : 0 < m) : drawF c k m < m := Int.emod_lt_of_pos _ h
theorem lsets_az : ∀ l ∈ lsets, Az l := by
  unfold Az
  decide
theorem letters_mem (c : Int) : lettersF c ∈ lsets := by
  unfold lettersF
  have h1 := draw_lo (c := c) (k := 6) (m := 5) (by decide)
  have h2 := draw_hi (c := c) (k := 6) (m := 5) (by decide)
  have h3 : (drawF c 6 5).toNat < lsets.length := by
    show (drawF c 6 5).toNat < 5
    omega
  rw [List.getD_eq_getElem?_getD, List.getElem?_eq_getElem h3]
  exact List.getElem_mem h3
theorem letters_az (c : Int) : Az (lettersF c) := lsets_az _ (letters_mem c)
theorem letters_ne (c : Int) : 0 < (lettersF c).length ∧ (lettersF c).length ≤ 26 := by
  have : ∀ l ∈ lsets, 0 < l.length ∧ l.length ≤ 26 := by decide
  exact this _ (letters_mem c)
theorem primes_pos : ∀ k : Nat, 0 < primes.getD (k % 16) 1 := by
  intro k
  have h : ∀ i : Nat, i < 16 → 0 < primes.getD i 1 := by decide
  exact h _ (Nat.mod_lt _ (by decide))
theorem atI_getD {α : Type} {l : List α} {i : Nat} {d : α} (h : i < l.length) : atI l (i : Int) = some (l.getD i d) := by
  rw [atI_nat (j := i) (List.getElem?_eq_getElem h), List.getD_eq_getElem?_getD, List.getElem?_eq_getElem h]
  rfl
/-! ### texts of some letters, of so many at the most -/
def Gd (ls : List Nat) (n : Nat) (l : List Nat) : Prop := l.length ≤ n ∧ ∀ c ∈ l, c ∈ ls
section
variable {ls l m : List Nat} {n k : Nat}
theorem Gd.mono (h : Gd ls n l) (g : n ≤ k) : Gd ls k l := ⟨Nat.le_trans h.1 g, h.2⟩
theorem Gd.cut {lo hi : Option Int} (h : Gd ls n l) : Gd ls n (cut l lo hi) := ⟨Nat.le_trans (cut_len _ _ _) h.1, fun c hc => h.2 c (cut_mem hc)⟩
theorem Gd.app (h : Gd ls n l) (g : Gd ls k m) : Gd ls (n + k) (l ++ m) := ⟨by rw [List.length_append]; exact Nat.add_le_add h.1 g.1, fun c hc => (List.mem_append.mp hc).elim (h.2 c) (g.2 c)⟩
theorem Gd.rep (h : Gd ls n l) (k : Nat) : Gd ls (k * n) ((List.replicate k l).flatten) := by
  refine ⟨?_, fun c hc => ?_⟩
  · have : ((List.replicate k l).flatten).length = k * l.length := by simp
    rw [this]
    exact Nat.mul_le_mul_left _ h.1
  · obtain ⟨x, hx, hc⟩ := List.mem_flatten.mp hc
    rw [List.eq_of_mem_replicate hx] at hc
    exact h.2 c hc
theorem Gd.to (h : Gd ls n l) {i : Int} (h0 : 0 ≤ i) (hi : i ≤ k) : Gd ls k (WP.cut l none (some i)) := by
  obtain ⟨j, rfl⟩ := Int.eq_ofNat_of_zero_le h0
  rw [cut_to]
  refine ⟨?_, fun c hc => h.2 c (List.mem_of_mem_take hc)⟩
  rw [List.length_take]
  omega
end
theorem at_mem {l : List Nat} {i : Int} (h0 : 0 ≤ i) (h1 : i < l.length) : ∃ c, atI l i = some c ∧ c ∈ l := by
  obtain ⟨j, rfl⟩ := Int.eq_ofNat_of_zero_le h0
  have hj : j < l.length := by
    have : ((j : Nat) : Int) < l.length := h1
    omega
  refine ⟨l[j], atI_nat (List.getElem?_eq_getElem hj), List.getElem_mem hj⟩
/-- sep.join, the empty sep, of texts of one sign each -/
theorem join_ones : ∀ (ys : List (List Nat)), TL.joinL [] ys = ys.flatten
  | [] => rfl
  | [y] => by simp [TL.joinL]
  | y :: z :: r => by
    rw [TL.joinL, join_ones (z :: r)]
    simp
theorem eq_join {K : PySem.W.Frag} {σ : L2.St} {H : Hp} {te : TE} {ls : List Nat} {n : Nat} (hn : n ≤ 1000) (h : EvLQ te σ H (fun ys => ys.length = n ∧ ∀ (k : Nat) (y : V), ys[k]? = some y → ∃ c, y = vS [c] ∧ c ∈ ls)) :
    EvQ (tBM K "str" (fun x xs H Q => ∃ a p, ∃ ys : List Str, x = .str a ∧ xs = [.ref p] ∧ (SqL K H p (ys.map V.str) ∨ SqT K H p (ys.map V.str)) ∧ (ys.map (·.length)).sum + ys.length * a.length ≤ 16777216 ∧ Q (.str (Txt.join a ys)) H) (tC (.str "")) (tCons te tNil)) σ H (fun v => ∃ l, v = vS l ∧ Gd ls n l) := fun H1 e Q q => by
  refine ⟨rfl, h H1 e _ fun ys p H2 hP hp ex2 h2 => ?_⟩
  obtain ⟨hl, hy⟩ := hP
  have key : ∀ ys : List V, (∀ (k : Nat) (y : V), ys[k]? = some y → ∃ c, y = vS [c] ∧ c ∈ ls) → ∃ cs : List Nat, cs.length = ys.length ∧ (∀ c ∈ cs, c ∈ ls) ∧ ys = (cs.map fun c => S [c]).map V.str := by
    intro ys
    induction ys with
    | nil => intro _; exact ⟨[], rfl, fun c h => (by cases h), rfl⟩
    | cons y r ih =>
      intro h
      obtain ⟨cs, h1, h2, h3⟩ := ih fun k z hk => h (k + 1) z hk
      obtain ⟨c, h4, h5⟩ := h 0 y rfl
      refine ⟨c :: cs, by simp [h1], fun d hd => ?_, by rw [h4, h3]; rfl⟩
      rcases List.mem_cons.mp hd with e | e
      · rw [e]; exact h5
      · exact h2 d e
  obtain ⟨cs, h1, h2', h3⟩ := key ys hy
  refine ⟨"", p, cs.map fun c => S [c], rfl, rfl, .inl (.inl (.inl (by rw [← h3]; exact h2))), ?_, ?_⟩
  · have e1 : ((cs.map fun c => S [c]).map (·.length)).sum = cs.length := by
      clear h1 h2' h3
      induction cs with
      | nil => rfl
      | cons c r ih => simp only [List.map_cons, List.sum_cons, ih, List.length_cons, S_len]; simp; omega
    rw [e1]
    have : ((PySem.Str.ofString "") : Str).length = 0 := by decide
    have e2 : (cs.map fun c => S [c]).length = cs.length := by simp
    rw [e2]
    show cs.length + cs.length * ((PySem.Str.ofString "") : Str).length ≤ _
    rw [this]
    omega
  · have e1 : (cs.map fun c => S [c]) = (cs.map fun c => [c]).map S := by simp
    have e2 : Txt.join (PySem.Str.ofString "") (cs.map fun c => S [c]) = S cs := by
      rw [e1, show (PySem.Str.ofString "" : Str) = S [] by decide, SX.join_S, join_ones]
      congr 1
      clear h1 h2' h3 e1
      induction cs with
      | nil => rfl
      | cons c r ih => simp [ih]
    show Q (.str (Txt.join (PySem.Str.ofString "") (cs.map fun c => S [c]))) H2
    rw [e2]
    exact q _ H2 ⟨cs, rfl, by omega, h2'⟩ ex2
/-- the law's own promise -/
def sp_law (K : PySem.W.Frag) : Sp := fun vs H Q _ => ∃ (a : Addr) (ns : List Int), vs = [.ref a] ∧ SqL K H a (ns.map V.int) ∧ ns.length ≤ 63 ∧ (∀ z ∈ ns, Lim 1048577 z) ∧ ∀ H', Q (.bl true) H'
/-- all places, looked at one by one -/
theorem places_all (w t : List Nat) : (List.range (w.length + 1)).filter (fun p => decide ((w.drop p).take t.length = t)) = placesF w t := by
  unfold placesF
  by_cases h : t.length ≤ w.length + 1
  · have e : w.length + 1 = (w.length + 1 - t.length) + t.length := by omega
    conv => lhs; rw [e, List.range_add, List.filter_append]
    rw [show List.filter (fun p => decide ((w.drop p).take t.length = t)) ((List.range t.length).map (fun x => w.length + 1 - t.length + x)) = [] from ?_, List.append_nil]
    refine List.filter_eq_nil_iff.mpr fun x hx => ?_
    obtain ⟨y, hy, rfl⟩ := List.mem_map.mp hx
    have hy' := List.mem_range.mp hy
    intro q
    have q' := of_decide_eq_true q
    have := congrArg List.length q'
    rw [List.length_take, List.length_drop] at this
    omega
  · rw [show w.length + 1 - t.length = 0 by omega]
    refine List.filter_eq_nil_iff.mpr fun x hx => ?_
    intro q
    have q' := of_decide_eq_true q
    have := congrArg List.length q'
    rw [List.length_take, List.length_drop] at this
    omega
/-! ### what the top has left -/
abbrev KOf {K : PySem.W.Frag} {h : Heap} (_ : K.In h) : PySem.W.Frag := K
structure Dn (K : PySem.W.Frag) (mg : Str → Option Value) (x : Str) (st : Stmt) : Prop where
  ex : ∃ (f : Addr) (fd : FuncData), mg x = some (.ref f) ∧ Fun K x x st f fd
theorem dn_mk {K : PySem.W.Frag} {h : Heap} {mg : Str → Option Value} {x : Str} {st : Stmt} {f : Addr} {oc : Value} {od an : Option Addr} {osl : Array (Option Value)} {kV doc pm cdv ct : Value} (X : K.In h) (G : h.Ns mainGlobals mg)
    (a : PySem.W.nsIn K mainGlobals x = some (some (.ref f))) (l : K.lookup f = some ⟨oc, od, .func (PySem.W.fnOf x x (defArgs st) (defBody st) (defScope st) .none kV doc pm an cdv ct), osl⟩) (c : PySem.W.codeIn K cdv x = true) (k : PySem.W.keepIn K (.ref f) = true) : Dn K mg x st :=
  ⟨f, _, PySem.W.mg_of X G a, fun_mk l c k⟩
theorem gi_mk {K : PySem.W.Frag} {h : Heap} {mg : Str → Option Value} {x : Str} {i : Int} {t : Tok} (X : K.In h) (G : h.Ns mainGlobals mg) (a : PySem.W.nsIn K mainGlobals x = some (some (.int i t))) : ∃ u, mg x = some u ∧ RelV (.int i) u := ⟨_, PySem.W.mg_of X G a, ⟨t, rfl⟩⟩
theorem gs_mk {K : PySem.W.Frag} {h : Heap} {mg : Str → Option Value} {x z : Str} {t : Tok} (X : K.In h) (G : h.Ns mainGlobals mg) (a : PySem.W.nsIn K mainGlobals x = some (some (.str z t))) : ∃ u, mg x = some u ∧ RelV (.str z) u := ⟨_, PySem.W.mg_of X G a, ⟨t, rfl⟩⟩
theorem er_mk {K : PySem.W.Frag} {h : Heap} {mg : Str → Option Value} {x : Str} {C : Addr} (X : K.In h) (G : h.Ns mainGlobals mg) (a : PySem.W.nsIn K mainGlobals x = some (some (.ref C))) (x1 : PySem.W.excIn K C bmE "ValueError.__new__" = true) (k : PySem.W.keepIn K (.ref C) = true)
    (b : PySem.W.subIn K (.ref C) (.type "BaseException") = some true) (t : PySem.W.typeIn K (.ref C) = some (.type "type")) : Er K mg x C bmE := ⟨PySem.W.mg_of X G a, x1, k, b, t⟩
theorem cal_mk {P : Program} {w : World} {K : PySem.W.Frag} {mg : Str → Option Value} {base : Heap} {k : Nat} {x : Str} {st : Stmt} {ps : List Str} {sp : Sp} (D : Dn K mg x st) (ok : ∀ f fd, Fun K x x st f fd → FnOk P w K mg base (L2.CX P w) k f fd ps sp)
    (b : ∀ (kV doc pm : Value) (an : Option Addr) (cdv ct : Value) (us : List Value), us.length = ps.length → bindArgs (PySem.W.fnOf x x (defArgs st) (defBody st) (defScope st) .none kV doc pm an cdv ct) ⟨us, []⟩ = pure (ps.zip us)) : Cal P w K mg base k x ps sp := by
  obtain ⟨f, fd, g, F⟩ := D.ex
  exact ⟨f, fd, ok f fd F, g, F.kp, F.binds b⟩
theorem cx_no {P : Program} {w : World} {H : Hp} {s : Shared} {e : Value} {s' : Shared} (h : L2.CX P w [] H s (fun _ _ _ => False) e s') : False := by
  obtain ⟨_, _, _, _, _, _, _, _, _, _, _, _, z⟩ := h
  exact z
end WP
namespace WP
open PySem PySem.Spec PyProof.Rows L2 Evl
open SX (S S_len S_cat S_inj S_tl)
/-! ### a text in a text -/
/-- whether t stands in w -/
def inF (t w : List Nat) : Bool := !(placesF w t).isEmpty
theorem mem_places {w t : List Nat} {i : Nat} : i ∈ placesF w t ↔ i + t.length ≤ w.length ∧ (w.drop i).take t.length = t := by
  unfold placesF
  rw [List.mem_filter, List.mem_range, decide_eq_true_eq]
  constructor
  · intro h
    exact ⟨by omega, h.2⟩
  · intro h
    exact ⟨by omega, h.2⟩
theorem inF_iff {t w : List Nat} : inF t w = true ↔ t <:+: w := by
  unfold inF
  rw [Bool.not_eq_true', List.isEmpty_eq_false_iff_exists_mem]
  constructor
  · rintro ⟨i, hi⟩
    obtain ⟨h1, h2⟩ := mem_places.mp hi
    refine ⟨w.take i, (w.drop i).drop t.length, ?_⟩
    conv => lhs; rw [← h2]
    rw [List.length_take, List.length_drop, Nat.min_eq_left (by omega), List.append_assoc, List.take_append_drop, List.take_append_drop]
  · rintro ⟨a, b, e⟩
    refine ⟨a.length, mem_places.mpr ⟨?_, ?_⟩⟩
    · rw [← e]
      simp
    · rw [← e, List.append_assoc, List.drop_left, List.take_left]
theorem forIn_full {s sub : Str} {hi : Nat} : ∀ (l : List Nat) (st : Array Nat × Nat), 1 ≤ st.fst.size → (forIn l st (StrLaws.occBody s sub hi 1)).run.fst = st.fst
  | [], st, _ => rfl
  | a :: l, st, h => by
    rw [List.forIn_cons]
    unfold StrLaws.occBody
    rw [if_neg (fun q => by have := q.1.1.1; omega)]
    exact forIn_full l st h
theorem forIn_first {s sub : Str} {hi : Nat} : ∀ (l : List Nat) (free : Nat), (∀ i ∈ l, free ≤ i) →
    (forIn l ((#[] : Array Nat), free) (StrLaws.occBody s sub hi 1)).run.fst.toList = (l.filter fun i => decide (i + sub.length ≤ hi ∧ Builtin.Str.subAt s sub i = true)).take 1
  | [], _, _ => rfl
  | a :: l, free, hf => by
    rw [List.forIn_cons]
    unfold StrLaws.occBody
    have ha : free ≤ a := hf a List.mem_cons_self
    by_cases hc : a + sub.length ≤ hi ∧ Builtin.Str.subAt s sub a = true
    · rw [if_pos ⟨⟨⟨by simp, ha⟩, hc.1⟩, hc.2⟩, List.filter_cons, if_pos (decide_eq_true hc)]
      show (forIn l ((#[] : Array Nat).push a, a + sub.length) (StrLaws.occBody s sub hi 1)).run.fst.toList = _
      rw [forIn_full _ _ (by simp)]
      simp
    · rw [if_neg (fun q => hc ⟨q.1.2, q.2⟩), List.filter_cons, if_neg (by rw [decide_eq_true_eq]; exact hc)]
      exact forIn_first l free fun i hi' => hf i (List.mem_cons_of_mem _ hi')
theorem occ_places (w t : List Nat) : Builtin.Str.occurrences (S w) (S t) 0 (S w).length 1 = (placesF w t).take 1 := by
  rw [StrLaws.occ_eq, forIn_first _ _ (fun _ _ => Nat.zero_le _)]
  congr 1
  have e : ∀ i, decide (i + (S t).length ≤ (S w).length ∧ Builtin.Str.subAt (S w) (S t) i = true) = decide ((w.drop i).take t.length = t ∧ i + t.length ≤ w.length) := fun i => by
    rw [S_len, S_len, StrLaws.subAt_eq, S_len]
    apply decide_eq_decide.mpr
    rw [beq_iff_eq]
    exact ⟨fun h => ⟨h.2, h.1⟩, fun h => ⟨h.2, h.1⟩⟩
  rw [S_len, Nat.sub_zero, ← List.range_eq_range', ← places_all w t]
  refine List.filter_congr fun i hi => ?_
  have e2 := e i
  rw [S_len] at e2
  rw [e2]
  apply decide_eq_decide.mpr
  constructor
  · exact fun h => h.1
  · intro h
    refine ⟨h, ?_⟩
    have := congrArg List.length h
    rw [List.length_take, List.length_drop] at this
    have h2 := List.mem_range.mp hi
    rw [S_len] at h2
    omega
theorem occ_in (w t : List Nat) : (!(Builtin.Str.occurrences (S w) (S t) 0 (S w).length 1).isEmpty) = inF t w := by
  rw [occ_places]
  unfold inF
  cases placesF w t <;> rfl
theorem find_S (w t : List Nat) : Txt.find (S w) (S t) = match placesF w t with | i :: _ => (i : Int) | [] => -1 := by
  unfold Txt.find
  rw [occ_places]
  cases placesF w t <;> rfl
section
variable {K : PySem.W.Frag} {σ : L2.St} {H H' : Hp} {ta tb te tx : TE} {t u : TT} {x y z v : V} {r : R2}
theorem rv_in {a b : List Nat} : RV (fun x y H Q => ∃ i j, x = .str i ∧ y = .str j ∧ Q (.bl (!(Builtin.Str.occurrences j i 0 j.length 1).isEmpty)) H) (.str (S a)) (.str (S b)) H (.bl (inF a b)) := by
  rw [← occ_in]
  exact rv_str2' (f := fun i j => .bl (!(Builtin.Str.occurrences j i 0 j.length 1).isEmpty))
theorem rv_nin {a b : List Nat} : RV (fun x y H Q => ∃ i j, x = .str i ∧ y = .str j ∧ Q (.bl (!(!(Builtin.Str.occurrences j i 0 j.length 1).isEmpty))) H) (.str (S a)) (.str (S b)) H (.bl (!inF a b)) := by
  rw [← occ_in]
  exact rv_str2' (f := fun i j => .bl (!(!(Builtin.Str.occurrences j i 0 j.length 1).isEmpty)))
/-! ### a < b <= c -/
theorem ev_chain2 {r r' : R2} {b1 b2 : Bool} {z : V} (ha : Ev ta σ H x) (hb : Ev tb σ H y) (h1 : RV r x y H (.bl b1)) (hc : Ev tx σ H z) (h2 : RV r' y z H (.bl b2)) : Ev (tChain r r' ta tb tx) σ H (.bl (b1 && b2)) := fun H1 e Q q =>
  ha H1 e _ fun H2 e2 => hb H2 (e.trans e2) _ fun H3 e3 => h1 H3 ((e.trans e2).trans e3) _ fun H4 e4 => ⟨b1, rfl, by
    have x4 := ((e.trans e2).trans e3).trans e4
    have y4 := (e2.trans e3).trans e4
    cases b1 with
    | true =>
      rw [if_pos rfl]
      exact hc H4 x4 _ fun H5 e5 => h2 H5 (x4.trans e5) Q fun H6 e6 => q H6 ((y4.trans e5).trans e6)
    | false =>
      rw [if_neg Bool.false_ne_true]
      exact q H4 y4⟩
end
/-! ### own classes -/
/-- the method m of the class at C keeps the promise -/
structure CalM (P : Program) (w : World) (K : PySem.W.Frag) (mg : Str → Option Value) (base : Heap) (k : Nat) (C : Addr) (m : Str) (ps : List Str) (sp : Sp) : Prop where
  ex : ∃ (f : Addr) (fd : FuncData), FnOk P w K mg base (L2.CX P w) k f fd ps sp ∧ Meth K C m f ∧ Binds K fd ps []
structure CalI (P : Program) (w : World) (K : PySem.W.Frag) (mg : Str → Option Value) (base : Heap) (k : Nat) (x : Str) (C : Addr) (ps : List Str) (sp : Sp) : Prop where
  ex : ∃ (f : Addr) (fd : FuncData), FnOk P w K mg base (L2.CX P w) k f fd ps sp ∧ Mk K C f ∧ Binds K fd ps []
  g : mg x = some (.ref C)
theorem pe_calM {X : Cx} {k : Nat} {C : Addr} {ps : List Str} {sp : Sp} {E : XK} {m : Str} {apos pos : Pos} {o e : Expr} {es : List Expr} {ta : TE} {t : TA} {pl : Sem Bool} (he : PE X o ta) (c : Cls X.K C) (M : CalM X.prog X.w X.K X.mg X.base k C m ps sp) (hr : Room k X.A) (hx : Passes (L2.CX X.prog X.w) X E) (ha : PA X (e :: es) t)
    (hst : starEach (e :: es) X.env = (false, eval e X.env) :: starEach es X.env := by rfl) (hpl : (backTo pos (starEach es X.env)).any (·.1) = false := by rfl)
    (ht : eval (.Call (.Attribute o m apos) (e :: es) [] pos) X.env = (do
      let ov ← eval o X.env
      standAt apos.atName
      let (f, first) ← holding [ov] (getMethod ov m pl)
      callWith pos f first (backTo pos (starEach (e :: es) X.env)) (backToKw pos (keywordEach [] X.env))) := by rfl) :
    PE X (.Call (.Attribute o m apos) (e :: es) [] pos) (tMeth C m sp [] E ta t) := by
  obtain ⟨f, fd, F, hm, hb⟩ := M.ex
  exact pe_meth he c hm F hr hb .nil hx ha hst hpl ht
theorem pe_calI {X : Cx} {k : Nat} {C : Addr} {ps : List Str} {sp : Sp} {E : XK} {x : Str} {p pos : Pos} {e : Expr} {es : List Expr} {t : TA} (M : CalI X.prog X.w X.K X.mg X.base k x C ps sp) (hr : Room (k + 1) X.A) (hg : Gl X x) (hx : Passes (L2.CX X.prog X.w) X E) (ha : PA X (e :: es) t)
    (hdb : (x == ("__debug__" : Str)) = false := by decide) (he : starEach (e :: es) X.env = (false, eval e X.env) :: starEach es X.env := by rfl) (hpl : (backTo pos (starEach es X.env)).any (·.1) = false := by rfl) :
    PE X (.Call (.Name x p) (e :: es) [] pos) (tMake C sp [] E t) := by
  obtain ⟨f, fd, F, hm, hb⟩ := M.ex
  exact pe_make hm F hr hg M.g hb .nil hx ha hdb he hpl
/-- one of two readings -/
theorem pe_either {X : Cx} {e : Expr} {t u : TE} (h1 : PE X e t) (h2 : PE X e u) : PE X e (fun σ H Q => t σ H Q ∨ u σ H Q) := ⟨fun pins s σ H Q I h => h.elim (h1.run pins s σ H Q I) (h2.run pins s σ H Q I)⟩
/-- what the top says of a class C: its place, the names that it hasn't -/
structure Kl (K : PySem.W.Frag) (mg : Str → Option Value) (x : Str) (C : Addr) (nf : List Str) : Prop where
  cl : Cls K C
  g : mg x = some (.ref C)
  nF : ∀ f ∈ nf, NoAttr K C f
  ha : PySem.W.findIn K (.ref C) "__class__" = some (some (.builtin "object.__class__"))
  hn : PySem.W.specialIn K (.builtin "object.__class__") "__get__" = some (some (.builtin "getset_descriptor.__get__"))
  htk : PySem.W.takesIn K (.builtin "object.__class__") = some true
  hm : PySem.W.mroIn K C (.type "object") = some true
section
variable {K : PySem.W.Frag} {σ : L2.St} {H H' : Hp} {ta tb te tx : TE} {x y z v : V}
/-- a new instance of the class at C with the fields fs -/
def EvI (te : TE) (σ : L2.St) (H : Hp) (C : Addr) (fs : List (Str × V)) : Prop := ∀ H1, Ex H H1 → ∀ Q : VK, (∀ p dx H2, H1 p = none → Ex H1 H2 → H2 p = some (.ins C dx fs) → Q (.ref p) H2) → te σ H1 Q
theorem ev_fld {p C dx : Addr} {fs : List (Str × V)} {f : Str} (h : Ev ta σ H (.ref p)) (hp : H p = some (.ins C dx fs)) (cl : Cls K C) (n : NoAttr K C f) (l : fs.lookup f = some v) : Ev (tFld K ta f) σ H v := fun H1 e Q q =>
  h H1 e _ fun H2 e2 => ⟨p, C, dx, fs, v, rfl, (e.trans e2) _ _ hp, cl, n, l, q H2 e2⟩
theorem ev_meth {p C dx : Addr} {fs : List (Str × V)} {m : Str} {sp : Sp} {E : XK} {t : TA} {vs : List V} (h : Ev ta σ H (.ref p)) (hp : H p = some (.ins C dx fs)) (l : fs.lookup m = none) (ha : EvA t σ H vs) (hs : SpV sp (.ref p :: vs) H z) : Ev (tMeth C m sp [] E ta t) σ H z := fun H1 e Q q =>
  h H1 e _ fun H2 e2 => ⟨p, dx, fs, rfl, (e.trans e2) _ _ hp, l, ha H2 (e.trans e2) _ fun H3 e3 => by
    rw [List.append_nil]
    exact hs H3 ((e.trans e2).trans e3) Q (fun H4 e4 => q H4 ((e2.trans e3).trans e4)) E⟩
/-- an __init__'s promise: the fields of a new instance -/
def sp_init (C : Addr) (n : Nat) (fs : List V → List (Str × V)) : Sp := fun vs H Q _ => ∃ (x dx : Addr) (us : List V), vs = .ref x :: us ∧ us.length = n ∧ H x = some (.ins C dx []) ∧ ∀ H2, (∀ b o, b ≠ x → H b = some o → H2 b = some o) → H2 x = some (.ins C dx (fs us)) → Q .non H2
theorem ei_make {C : Addr} {E : XK} {t : TA} {vs : List V} {n : Nat} {fs : List V → List (Str × V)} (ha : EvA t σ H vs) (hn : vs.length = n) : EvI (tMake C (sp_init C n fs) [] E t) σ H C (fs vs) := fun H1 e Q q =>
  ha H1 e _ fun H2 e2 x dx nx ndx ne => ⟨x, dx, vs, by rw [List.append_nil], hn, upd_same, fun H3 k hx => ⟨rfl, q x dx H3 (fresh_back e2 nx) (fun b o hb => k b o (ne_of_none (e2 b o hb) nx) (by rw [upd_ne (ne_of_none (e2 b o hb) nx), upd_ne (ne_of_none (e2 b o hb) ndx)]; exact e2 b o hb)) hx⟩⟩
end
/-! ### numbers; answers -/
def isNum (v : V) : Bool := match v with
  | .int i => decide (0 ≤ i)
  | _ => false
theorem isNum_int (i : Int) : isNum (.int i) = decide (0 ≤ i) := rfl
def sp_is_number : Sp := fun vs H Q _ => ∃ v n, vs = [v] ∧ Thing H v n ∧ RetV (.bl (isNum v)) H Q
def pieceShows (i : Int) (w t : List Nat) : Bool := decide (0 ≤ i) && decide (i.toNat ∈ placesF w t)
def missShows (b e : Int) (w t : List Nat) : Bool := decide (0 ≤ b) && decide (0 ≤ e) && (decide (b < e) && decide (e ≤ t.length)) &&
  (!inF (cut t (some b) (some e)) w && (inF (cut (cut t (some b) (some e)) (some 1) none) w && inF (cut (cut t (some b) (some e)) none (some (-1))) w))
def sp_pshows (C : Addr) : Sp := fun vs H Q _ => ∃ (x dx : Addr) (i : Int) (w t : List Nat), vs = [.ref x, vS w, vS t] ∧ H x = some (.ins C dx [("place", .int i)]) ∧ w.length ≤ 1000 ∧ t.length ≤ 1000 ∧ RetV (.bl (pieceShows i w t)) H Q
def sp_mshows (C : Addr) : Sp := fun vs H Q _ => ∃ (x dx : Addr) (b e : Int) (w t : List Nat), vs = [.ref x, vS w, vS t] ∧ H x = some (.ins C dx [("begin", .int b), ("end", .int e)]) ∧ w.length ≤ 1000 ∧ t.length ≤ 1000 ∧ RetV (.bl (missShows b e w t)) H Q
theorem inV_nat (i : Int) (ns : List Nat) : inV (.int i) (ns.map vN) = (decide (0 ≤ i) && decide (i.toNat ∈ ns)) := by
  unfold inV
  rw [Bool.eq_iff_iff, List.any_eq_true, Bool.and_eq_true, decide_eq_true_eq, decide_eq_true_eq]
  constructor
  · rintro ⟨y, hy, h⟩
    obtain ⟨n, hn, rfl⟩ := List.mem_map.mp hy
    have e : (n : Int) = i := by
      have h' : ((n : Int) == i) = true := h
      exact eq_of_beq h'
    subst e
    exact ⟨by omega, by rw [Int.toNat_natCast]; exact hn⟩
  · rintro ⟨h0, h⟩
    refine ⟨vN i.toNat, List.mem_map.mpr ⟨_, h, rfl⟩, ?_⟩
    show (((i.toNat : Nat) : Int) == i) = true
    rw [Int.toNat_of_nonneg h0]
    exact beq_self_eq_true _
def fsP : List V → List (Str × V)
  | [v] => [("place", v)]
  | _ => []
def fsM : List V → List (Str × V)
  | [b, e] => [("begin", b), ("end", e)]
  | _ => []
theorem len1 {us : List V} (h : us.length = 1) : ∃ v, us = [v] := by
  match us, h with
  | [v], _ => exact ⟨v, rfl⟩
theorem len2 {us : List V} (h : us.length = 2) : ∃ v u, us = [v, u] := by
  match us, h with
  | [v, u], _ => exact ⟨v, u, rfl⟩
theorem kl_mk {K : PySem.W.Frag} {h : Heap} {mg : Str → Option Value} {x : Str} {C : Addr} {f1 f2 f3 : Str} (X : K.In h) (G : h.Ns mainGlobals mg) (a : PySem.W.nsIn K mainGlobals x = some (some (.ref C)))
    (pg : PySem.W.plainGet K C Str.empty = true) (hd : PySem.W.hasDictIn K C = true) (po : PySem.W.plainOver K C = true) (sa : PySem.W.findIn K (.ref C) "__setattr__" = some (some (.builtin "object.__setattr__")))
    (n1 : PySem.W.findIn K (.ref C) f1 = some none) (n2 : PySem.W.findIn K (.ref C) f2 = some none) (n3 : PySem.W.findIn K (.ref C) f3 = some none)
    (ha : PySem.W.findIn K (.ref C) "__class__" = some (some (.builtin "object.__class__"))) (hn : PySem.W.specialIn K (.builtin "object.__class__") "__get__" = some (some (.builtin "getset_descriptor.__get__")))
    (htk : PySem.W.takesIn K (.builtin "object.__class__") = some true) (hm : PySem.W.mroIn K C (.type "object") = some true) : Kl K mg x C [f1, f2, f3] :=
  ⟨⟨pg, hd, po, sa⟩, PySem.W.mg_of X G a, fun f hf => by
    simp only [List.mem_cons, List.not_mem_nil, or_false] at hf
    rcases hf with rfl | rfl | rfl
    · exact n1
    · exact n2
    · exact n3, ha, hn, htk, hm⟩
structure DnM (K : PySem.W.Frag) (C : Addr) (m q : Str) (st : Stmt) : Prop where
  ex : ∃ (f : Addr) (fd : FuncData), PySem.W.findIn K (.ref C) m = some (some (.ref f)) ∧ PySem.W.isFn K (.ref f) = true ∧ Fun K m q st f fd
theorem dnm_mk {K : PySem.W.Frag} {C : Addr} {m q : Str} {st : Stmt} {f : Addr} {oc : Value} {od an : Option Addr} {osl : Array (Option Value)} {kV doc pm cdv ct : Value}
    (a : PySem.W.findIn K (.ref C) m = some (some (.ref f))) (i : PySem.W.isFn K (.ref f) = true) (l : K.lookup f = some ⟨oc, od, .func (PySem.W.fnOf m q (defArgs st) (defBody st) (defScope st) .none kV doc pm an cdv ct), osl⟩) (c : PySem.W.codeIn K cdv q = true) (k : PySem.W.keepIn K (.ref f) = true) : DnM K C m q st := ⟨f, _, a, i, fun_mk l c k⟩
theorem calm_mk {P : Program} {w : World} {K : PySem.W.Frag} {mg : Str → Option Value} {base : Heap} {k : Nat} {C : Addr} {m q : Str} {st : Stmt} {ps : List Str} {sp : Sp} (D : DnM K C m q st) (ok : ∀ f fd, Fun K m q st f fd → FnOk P w K mg base (L2.CX P w) k f fd ps sp)
    (b : ∀ (kV doc pm : Value) (an : Option Addr) (cdv ct : Value) (us : List Value), us.length = ps.length → bindArgs (PySem.W.fnOf m q (defArgs st) (defBody st) (defScope st) .none kV doc pm an cdv ct) ⟨us, []⟩ = pure (ps.zip us)) : CalM P w K mg base k C m ps sp := by
  obtain ⟨f, fd, g, i, F⟩ := D.ex
  exact ⟨f, fd, ok f fd F, ⟨g, i, F.kp⟩, F.binds b⟩
theorem cali_mk {P : Program} {w : World} {K : PySem.W.Frag} {mg : Str → Option Value} {base : Heap} {k : Nat} {C : Addr} {x q : Str} {st : Stmt} {ps : List Str} {sp : Sp} {nf : List Str} (k0 : Kl K mg x C nf) (mk : PySem.W.makesIn K C = true) (kc : PySem.W.keepIn K (.ref C) = true) (D : DnM K C "__init__" q st) (ok : ∀ f fd, Fun K "__init__" q st f fd → FnOk P w K mg base (L2.CX P w) k f fd ps sp)
    (b : ∀ (kV doc pm : Value) (an : Option Addr) (cdv ct : Value) (us : List Value), us.length = ps.length → bindArgs (PySem.W.fnOf "__init__" q (defArgs st) (defBody st) (defScope st) .none kV doc pm an cdv ct) ⟨us, []⟩ = pure (ps.zip us)) : CalI P w K mg base k x C ps sp := by
  obtain ⟨f, fd, g, i, F⟩ := D.ex
  exact ⟨⟨f, fd, ok f fd F, ⟨mk, g, i, kc⟩, F.binds b⟩, k0.g⟩
end WP
namespace WP
open PySem PySem.Spec PyProof.Rows L2 Evl
open SX (S S_len S_cat S_inj S_tl)
/-! ### three comparisons in a row -/
def tChain3 (r r' r'' : R2) (ta tb tc td : TE) : TE := fun σ H Q => ta σ H fun x H1 => tb σ H1 fun y H2 => r x y H2 fun z H3 => ∃ k, z = .bl k ∧
  (if k = true then tc σ H3 fun w' H4 => r' y w' H4 fun z' H5 => ∃ k', z' = .bl k' ∧ (if k' = true then td σ H5 fun v' H6 => r'' w' v' H6 Q else Q (.bl false) H5) else Q (.bl false) H3)
section
variable {X : Cx} {a b c d : Expr} {ta tb tc td : TE} {pos : Pos}
theorem pe_chain3 {op op' op'' : CmpOp} {r r' r'' : R2} (ho : OpR X (compareOp op) r) (ho' : OpR X (compareOp op') r') (ho'' : OpR X (compareOp op'') r'') (ha : PE X a ta) (hb : PE X b tb) (hc : PE X c tc) (hd : PE X d td)
    (hm : lastMarks [op, op', op''] [b, c, d] = false := by with_unfolding_all rfl) : PE X (.Compare a [op, op', op''] [b, c, d] pos) (tChain3 r r' r'' ta tb tc td) := by
  refine ⟨fun pins s σ H Q I h => ?_⟩
  refine Compare_chain (thn (ha.run pins s σ H _ I h) fun v s1 ⟨x, H1, I1, r1, q1⟩ => chain_link (thn (hb.run pins s1 σ H1 _ I1 q1) fun u s2 ⟨y, H2, I2, r2, q2⟩ =>
    thn (ho pins s2 σ H2 x y v u _ I2 r1 r2 q2) fun d1 s3 ⟨z, H3, I3, r3, k, e, q3⟩ => ?_)) hm
  subst e
  cases r3
  refine wpAny_truthy_bool ?_
  cases k with
  | false => exact ite_ff ⟨.bl false, H3, I3, rfl, q3⟩
  | true =>
    refine ite_tt (chain_link (thn (hc.run pins s3 σ H3 _ I3 q3) fun w' s4 ⟨z', H4, I4, r4, q4⟩ => thn (ho' pins s4 σ H4 y z' u w' _ I4 r2 r4 q4) fun d2 s5 ⟨z2, H5, I5, r5, k2, e2, q5⟩ => ?_))
    subst e2
    cases r5
    refine wpAny_truthy_bool ?_
    cases k2 with
    | false => exact ite_ff ⟨.bl false, H5, I5, rfl, q5⟩
    | true => exact ite_tt (chain_last (thn (hd.run pins s5 σ H5 _ I5 q5) fun v' s6 ⟨z3, H6, I6, r6, q6⟩ => ho'' pins s6 σ H6 z' z3 w' v' Q I6 r4 r6 q6))
theorem pt_chain3 {op op' op'' : CmpOp} {r r' r'' : R2} (ho : OpR X (compareOp op) r) (ho' : OpR X (compareOp op') r') (ho'' : OpR X (compareOp op'') r'') (ha : PE X a ta) (hb : PE X b tb) (hc : PE X c tc) (hd : PE X d td)
    (hm : lastMarks [op, op', op''] [b, c, d] = false := by with_unfolding_all rfl) : PT X (.Compare a [op, op', op''] [b, c, d] pos) (tTest (tChain3 r r' r'' ta tb tc td)) := by
  refine ⟨fun pins s σ H Q I h => ?_⟩
  refine isTrue_chain (thn (ha.run pins s σ H _ I h) fun v s1 ⟨x, H1, I1, r1, q1⟩ => test_link (thn (hb.run pins s1 σ H1 _ I1 q1) fun u s2 ⟨y, H2, I2, r2, q2⟩ =>
    thn (ho pins s2 σ H2 x y v u _ I2 r1 r2 q2) fun d1 s3 ⟨z, H3, I3, r3, k, e, q3⟩ => ?_)) hm
  subst e
  cases r3
  refine wpAny_truthy_bool ?_
  cases k with
  | false =>
    obtain ⟨k', e', q'⟩ := q3
    cases e'
    exact ite_ff ⟨H3, I3, q'⟩
  | true =>
    refine ite_tt (test_link (thn (hc.run pins s3 σ H3 _ I3 q3) fun w' s4 ⟨z', H4, I4, r4, q4⟩ => thn (ho' pins s4 σ H4 y z' u w' _ I4 r2 r4 q4) fun d2 s5 ⟨z2, H5, I5, r5, k2, e2, q5⟩ => ?_))
    subst e2
    cases r5
    refine wpAny_truthy_bool ?_
    cases k2 with
    | false =>
      obtain ⟨k', e', q'⟩ := q5
      cases e'
      exact ite_ff ⟨H5, I5, q'⟩
    | true =>
      refine ite_tt (test_last (thn (hd.run pins s5 σ H5 _ I5 q5) fun v' s6 ⟨z3, H6, I6, r6, q6⟩ => thn (ho'' pins s6 σ H6 z' z3 w' v' _ I6 r4 r6 q6) fun d3 s7 ⟨z4, H7, I7, r7, k3, e3, q7⟩ => ?_))
      subst e3
      cases r7
      exact wpAny_truthy_bool ⟨H7, I7, q7⟩
end
section
variable {K : PySem.W.Frag} {σ : L2.St} {H H' : Hp} {ta tb te tx tc td : TE} {t u : TT} {x y z v : V} {r r' r'' : R2}
theorem ev_chain3 {b1 b2 b3 : Bool} {z w' : V} (ha : Ev ta σ H x) (hb : Ev tb σ H y) (h1 : RV r x y H (.bl b1)) (hc : Ev tc σ H z) (h2 : RV r' y z H (.bl b2)) (hd : Ev td σ H w') (h3 : RV r'' z w' H (.bl b3)) : Ev (tChain3 r r' r'' ta tb tc td) σ H (.bl (b1 && (b2 && b3))) := fun H1 e Q q =>
  ha H1 e _ fun H2 e2 => hb H2 (e.trans e2) _ fun H3 e3 => h1 H3 ((e.trans e2).trans e3) _ fun H4 e4 => ⟨b1, rfl, by
    have x4 := ((e.trans e2).trans e3).trans e4
    have y4 := (e2.trans e3).trans e4
    cases b1 with
    | true =>
      rw [if_pos rfl]
      exact hc H4 x4 _ fun H5 e5 => h2 H5 (x4.trans e5) _ fun H6 e6 => ⟨b2, rfl, by
        have x6 := (x4.trans e5).trans e6
        have y6 := (y4.trans e5).trans e6
        cases b2 with
        | true =>
          rw [if_pos rfl]
          exact hd H6 x6 _ fun H7 e7 => h3 H7 (x6.trans e7) Q fun H8 e8 => q H8 ((y6.trans e7).trans e8)
        | false =>
          rw [if_neg Bool.false_ne_true]
          exact q H6 y6⟩
    | false =>
      rw [if_neg Bool.false_ne_true]
      exact q H4 y4⟩
end
/-! ### s[::-1]: a text of the same signs -/
def tRevS (te : TE) : TE := fun σ H Q => te σ H fun x H1 => ∃ l : List Nat, x = .str (S l) ∧ l.length ≤ 1000000 ∧ ∀ m : List Nat, (∀ c ∈ m, c ∈ l) → m.length ≤ l.length → Q (.str (S m)) H1
theorem rev_len (n : Nat) : (Builtin.Str.strSliceIndices none none (-1) n).length ≤ n := by
  unfold Builtin.Str.strSliceIndices sliceRange
  simp
  omega
theorem pe_revS {X : Cx} {e : Expr} {te : TE} {k : Nat} {p1 p2 p3 pos : Pos} (he : PE X e te) : PE X (.Subscript e (.Slice none none (some (.UnaryOp .USub (.Constant (.int 1) k p1) p2)) p3) pos) (tRevS te) := by
  refine ⟨fun pins s σ H Q I h => ?_⟩
  refine Subscript_ (thn (he.run pins s σ H _ I h) fun v s1 ⟨x, H1, I1, r1, q1⟩ => ?_)
  obtain ⟨l, ex, hl, q⟩ := q1
  subst ex
  obtain ⟨t, rfl⟩ := r1
  have hst : PO X (some (.UnaryOp .USub (.Constant (.int 1) k p1) p2)) (tPart (tUn (rU fun i => .int (-i)) (tC (.int 1)))) := po_some (pe_un un_neg pe_int)
  refine wpAny_Slice (thn (po_none.run pins s1 σ H1 (fun o H2 => o = none ∧ H2 = H1) I1 ⟨rfl, rfl⟩) fun vl s2 ⟨l', H2, I2, pl, el, e2⟩ => ?_)
  subst el e2
  refine thn (po_none.run pins s2 σ H2 (fun o H3 => o = none ∧ H3 = H2) I2 ⟨rfl, rfl⟩) fun vu s3 ⟨u, H3, I3, pu, eu, e3⟩ => ?_
  subst eu e3
  refine thn (hst.run pins s3 σ H3 (fun o H4 => o = some (-1) ∧ H4 = H3) I3 ⟨1, rfl, -1, rfl, rfl, rfl⟩) fun vs s4 ⟨o, H4, I4, ps, eo, e4⟩ => ?_
  subst eo e4
  have I5 : Inv X pins σ H4 { s4 with heap := s4.heap.push { cls := .type "slice", data := .fields #[vl, vu, vs] } } := I4.kept (t' := s4.toks) fun b ob q => Heap.get?_push_of_some _ q
  obtain ⟨l1, rfl, el1⟩ := IsPart.raw pl
  obtain ⟨u1, rfl, eu1⟩ := IsPart.raw pu
  obtain ⟨w1, rfl, ew1⟩ := IsPart.raw ps
  show wpAny (model X.prog X.w) X.A (subscriptTail e (.Slice none none (some (.UnaryOp .USub (.Constant (.int 1) k p1) p2)) p3) (.str (S l) t) (.ref s4.heap.objs.size)) (EP X pins σ Q) X.xe { s4 with heap := s4.heap.push { cls := .type "slice", data := .fields #[partValue l1, partValue u1, partValue w1] } }
  refine tail_any (ops := [.str (S l) t, .ref s4.heap.objs.size]) (typeIs_str _ _ _) PySem.F.slot_str_getitem.lookup ?_ (by with_unfolding_all rfl)
  refine wpAny_getItem_str_slice (l := l1) (u := u1) (st := w1) ⟨_, Heap.get?_push_size _ rfl, rfl, rfl⟩ (by rw [ew1]; rfl) ?_
  unfold sliceMade slicePicked
  rw [ew1, el1, eu1]
  rw [if_neg (by simp)]
  have hm : ((Builtin.Str.strSliceIndices none none ((some (-1 : Int)).getD 1) (S l).length).filterMap ((S l).cps[·]?)).length ≤ l.length := by
    refine Nat.le_trans (List.length_filterMap_le _ _) ?_
    rw [S_len]
    exact rev_len _
  refine ⟨?_, .str (S _), H4, I5.tok _, ⟨_, rfl⟩, q _ (fun c hc => ?_) hm⟩
  · show ((List.filterMap _ _).toArray).size ≤ sizeLine
    rw [List.size_toArray]
    exact Nat.le_trans hm (Nat.le_trans hl (by decide))
  · obtain ⟨i, _, hi⟩ := List.mem_filterMap.mp hc
    have : l[i]? = some c := by simpa using hi
    exact List.mem_of_getElem? this
section
variable {K : PySem.W.Frag} {σ : L2.St} {H H' : Hp} {ta tb te tx tc td : TE} {t u : TT} {x y z v : V} {r r' r'' : R2}
theorem eq_revS {l : List Nat} (h : Ev te σ H (vS l)) (hl : l.length ≤ 1000000) : EvQ (tRevS te) σ H (fun v => ∃ m, v = vS m ∧ (∀ c ∈ m, c ∈ l) ∧ m.length ≤ l.length) := fun H1 e Q q =>
  h H1 e _ fun H2 e2 => ⟨l, rfl, hl, fun m h1 h2 => q _ H2 ⟨m, rfl, h1, h2⟩ e2⟩
/-! ### values with facts of the heap that stay -/
def Stay (P : V → Hp → Prop) : Prop := ∀ v H H', Ex H H' → P v H → P v H'
def StayL (P : V → Hp → Prop) : Prop := ∀ v H D a a', H D = some (.lst a) → P v H → P v (upd H D (.lst a'))
def EvG (te : TE) (σ : L2.St) (H : Hp) (P : V → Hp → Prop) : Prop := ∀ H1, Ex H H1 → ∀ Q : VK, (∀ v H2, Ex H1 H2 → P v H2 → Q v H2) → te σ H1 Q
def EvAG (ta : TA) (σ : L2.St) (H : Hp) (P : List V → Hp → Prop) : Prop := ∀ H1, Ex H H1 → ∀ Q : List V → Hp → Prop, (∀ vs H2, Ex H1 H2 → P vs H2 → Q vs H2) → ta σ H1 Q
theorem Ev.toG {P : V → Hp → Prop} (h : Ev te σ H v) (p : ∀ H1, Ex H H1 → P v H1) : EvG te σ H P := fun H1 e Q q => h H1 e Q fun H2 e2 => q v H2 e2 (p H2 (e.trans e2))
theorem eag_nil : EvAG tNil σ H (fun vs _ => vs = []) := fun H1 _ _ q => q [] H1 (Ex.refl H1) rfl
theorem eag_cons {tr : TA} {P : V → Hp → Prop} {R : List V → Hp → Prop} (st : Stay P) (h : EvG te σ H P) (hr : EvAG tr σ H R) : EvAG (tCons te tr) σ H (fun vs H1 => ∃ v r, vs = v :: r ∧ P v H1 ∧ R r H1) := fun H1 e Q q =>
  h H1 e _ fun v H2 e2 p => hr H2 (e.trans e2) _ fun vs H3 e3 pr => q _ H3 (e2.trans e3) ⟨v, vs, rfl, st v H2 H3 e3 p, pr⟩
/-- a pair of ints, an instance -/
def PairI (v : V) (H : Hp) : Prop := ∃ p i j, v = .ref p ∧ H p = some (.tup [.int i, .int j])
theorem stay_pair : Stay PairI := fun v H H' e h => by
  obtain ⟨p, i, j, rfl, h⟩ := h
  exact ⟨p, i, j, rfl, e _ _ h⟩
theorem stayL_pair : StayL PairI := fun v H D a a' hd h => by
  obtain ⟨p, i, j, rfl, h⟩ := h
  exact ⟨p, i, j, rfl, by rw [upd_ne (fun e => by rw [e, hd] at h; cases h)]; exact h⟩
theorem eg_pair {i j : Int} (ha : Ev ta σ H (.int i)) (hb : Ev tb σ H (.int j)) : EvG (tTup (tCons ta (tCons tb tNil))) σ H PairI := fun H1 e Q q =>
  eu_tup (ea_cons ha (ea_cons hb ea_nil)) (by simp) H1 e Q fun p H2 _ e2 h2 => q _ H2 e2 ⟨p, i, j, rfl, h2⟩
def InsI (C : Addr) (fs : List (Str × V)) (v : V) (H : Hp) : Prop := ∃ p dx, v = .ref p ∧ H p = some (.ins C dx fs)
theorem stay_ins {C : Addr} {fs : List (Str × V)} : Stay (InsI C fs) := fun v H H' e h => by
  obtain ⟨p, dx, rfl, h⟩ := h
  exact ⟨p, dx, rfl, e _ _ h⟩
theorem stayL_ins {C : Addr} {fs : List (Str × V)} : StayL (InsI C fs) := fun v H D a a' hd h => by
  obtain ⟨p, dx, rfl, h⟩ := h
  exact ⟨p, dx, rfl, by rw [upd_ne (fun e => by rw [e, hd] at h; cases h)]; exact h⟩
theorem EvI.toG {C : Addr} {fs : List (Str × V)} (h : EvI te σ H C fs) : EvG te σ H (InsI C fs) := fun H1 e Q q => h H1 e Q fun p dx H2 _ e2 h2 => q _ H2 e2 ⟨p, dx, rfl, h2⟩
/-- a new list of such; one grown by another -/
def EvLG (te : TE) (σ : L2.St) (H : Hp) (n : Nat) (P : V → Hp → Prop) : Prop := ∀ H1, Ex H H1 → ∀ Q : VK, (∀ xs p H2, xs.length ≤ n → (∀ x ∈ xs, P x H2) → H1 p = none → Ex H1 H2 → H2 p = some (.lst xs) → Q (.ref p) H2) → te σ H1 Q
theorem elg_cat {P : V → Hp → Prop} {a : Addr} {xs : List V} {n : Nat} (st : Stay P) (ha : Ev ta σ H (.ref a)) (hs : H a = some (.lst xs)) (hp : ∀ x ∈ xs, P x H) (hb : EvLG tb σ H n P) (hz : xs.length + n ≤ 1000000) : EvLG (tOp rCat ta tb) σ H (xs.length + n) P := fun H1 e Q q =>
  ha H1 e _ fun H2 e2 => hb H2 (e.trans e2) _ fun ys b H3 hl hy hn e3 h3 => ⟨a, b, xs, ys, rfl, rfl, ((e.trans e2).trans e3) _ _ hs, h3, Nat.le_trans (by omega) (Nat.le_trans hz (by decide)), fun p hp' =>
    q _ p _ (by rw [List.length_append]; omega) (fun x hx => (List.mem_append.mp hx).elim (fun m => st x _ _ (((e.trans e2).trans e3).trans (Ex.new hp')) (hp x m)) (fun m => st x _ _ (Ex.new hp') (hy x m))) (fresh_back (e2.trans e3) hp') ((e2.trans e3).trans (Ex.new hp')) upd_same⟩
theorem elg_lst {P : V → Hp → Prop} {ta : TA} {n : Nat} (hn : n ≤ 1000) (h : EvAG ta σ H (fun vs H1 => vs.length = n ∧ ∀ x ∈ vs, P x H1)) (st : Stay P) : EvLG (tLst ta) σ H n P := fun H1 e Q q =>
  h H1 e _ fun vs H2 e2 hv => ⟨by rw [hv.1]; exact Nat.le_trans hn (by decide), fun p hp => q vs p _ (by omega) (fun x hx => st x _ _ (Ex.new hp) (hv.2 x hx)) (fresh_back e2 hp) (e2.trans (Ex.new hp)) upd_same⟩
theorem EvAG.imp {ta : TA} {P R : List V → Hp → Prop} (h : EvAG ta σ H P) (i : ∀ vs H1, P vs H1 → R vs H1) : EvAG ta σ H R := fun H1 e Q q => h H1 e Q fun vs H2 e2 p => q vs H2 e2 (i vs H2 p)
/-- a comprehension over range(a, b), no test, each value such -/
theorem elg_lcR2 {P : V → Hp → Prop} {ta : TA} {j : Nat} {vs : List Nat} {lo hi : Int} (st : Stay P) (sl : StayL P) (h : EvA ta σ H [.int lo, .int hi]) (hb : -100000 ≤ lo ∧ lo ≤ 100000 ∧ -100000 ≤ hi ∧ hi ≤ 100000 ∧ hi - lo ≤ 40000) (hw : ∀ x, wipe ((wipe σ vs).set j (some x)) vs = wipe σ vs)
    (he : ∀ (i : Nat) H1, Ex H H1 → lo + (i : Int) < hi → EvG te ((wipe σ vs).set j (some (.int (lo + (i : Int))))) H1 P) : EvLG (tLc (iRng2 ta) (gName j) tYes te vs) σ H (hi - lo).toNat P := fun H0 e Q q =>
  h H0 e _ fun H1 e1 => ⟨lo, hi, rfl, ⟨by omega, by omega, by omega, by omega⟩, fun D hD => by
    refine lc_it (w := walk_range (lo := lo) (n := (hi - lo).toNat)) (fun k H' => ∃ acc, H1 D = none ∧ Ex H1 H' ∧ H' D = some (.lst acc) ∧ acc.length = k ∧ ∀ x ∈ acc, P x H') ⟨[], hD, Ex.new hD, upd_same, rfl, fun x hx => by cases hx⟩ (fun k H' _ p => trivial) (fun k x H' H'' hk p y => ?_) (fun H' p => ?_)
    · obtain ⟨acc, p1, p2, p3, p4, p5⟩ := p
      obtain ⟨rfl, rfl⟩ := y
      refine ⟨hw _, ?_⟩
      unfold tYes
      simp only [↓reduceIte]
      refine he k H'' ((e.trans e1).trans p2) (by omega) H'' (Ex.refl _) _ fun v H3 e3 pv => ⟨acc, e3 _ _ p3, sz_lt (by omega), acc ++ [v], p1, Ex.mut (p2.trans e3) p1, upd_same, by rw [List.length_append, p4]; rfl, fun z hz => ?_⟩
      refine sl z H3 D acc _ (e3 _ _ p3) ?_
      rcases List.mem_append.mp hz with m | m
      · exact st z _ _ e3 (p5 z m)
      · rw [List.mem_singleton.mp m]
        exact pv
    · obtain ⟨acc, p1, p2, p3, p4, p5⟩ := p
      exact q acc D H' (by omega) p5 (fresh_back e1 p1) (e1.trans p2) p3⟩
end
end WP
namespace WP
open PySem PySem.Spec PyProof.Rows L2 Evl
open SX (S S_len S_cat S_inj S_tl)
section
variable {K : PySem.W.Frag} {σ : L2.St} {H H' : Hp} {ta tb te tx tc td tl : TE} {t u : TT} {x y z v : V} {r r' r'' : R2} {D : Ends} {tu tw tz : TS} {g : TG} {P : V → Hp → Prop}
theorem EvL.toLG {xs : List V} (h : EvL te σ H xs) (p : ∀ x ∈ xs, ∀ H1, Ex H H1 → P x H1) : EvLG te σ H xs.length P := fun H1 e Q q => h H1 e Q fun a H2 hn e2 h2 => q xs a H2 (Nat.le_refl _) (fun x hx => p x hx H2 (e.trans e2)) hn e2 h2
theorem q_asgI {i : Nat} {C : Addr} {fs : List (Str × V)} (h : EvI te σ H C fs) (k : ∀ p dx H1, H p = none → Ex H H1 → H1 p = some (.ins C dx fs) → tz D (σ.set i (some (.ref p))) H1) : tSeq (tAsg te (gName i)) tz D σ H := h H (Ex.refl H) _ fun p dx H1 hp e h1 => k p dx H1 hp e h1
theorem q_asgLG {i n : Nat} (h : EvLG te σ H n P) (k : ∀ xs p H1, xs.length ≤ n → (∀ x ∈ xs, P x H1) → H p = none → Ex H H1 → H1 p = some (.lst xs) → tz D (σ.set i (some (.ref p))) H1) : tSeq (tAsg te (gName i)) tz D σ H := h H (Ex.refl H) _ fun xs p H1 hl hx hp e h1 => k xs p H1 hl hx hp e h1
theorem s_asgLG {i n : Nat} (h : EvLG te σ H n P) (k : ∀ xs p H1, xs.length ≤ n → (∀ x ∈ xs, P x H1) → H p = none → Ex H H1 → H1 p = some (.lst xs) → D.nx (σ.set i (some (.ref p))) H1) : tAsg te (gName i) D σ H := h H (Ex.refl H) _ fun xs p H1 hl hx hp e h1 => k xs p H1 hl hx hp e h1
/-- a for over a new list of such things; the body only lays new objects -/
theorem s_forLG {n : Nat} (h : EvLG tl σ H n P) (st : Stay P) (I : L2.St → Prop) (i0 : I σ)
    (hs : ∀ G x σ' H', Ex H G → Ex G H' → P x H' → I σ' → g x σ' H' fun σ2 H2 => tu { D with nx := fun σ3 H3 => I σ3 ∧ Ex G H3, ct := fun σ3 H3 => I σ3 ∧ Ex G H3, bk := D.nx } σ2 H2)
    (hd : ∀ σ' H', I σ' → Ex H H' → D.nx σ' H') : tFor (iList K tl) g tu D σ H := h H (Ex.refl H) _ fun xs p H1 _ hx _ e h1 =>
  ⟨p, rfl, ⟨xs, sq_of h1⟩, for_list (fun _ σ' H' => I σ' ∧ Ex H1 H') ⟨i0, Ex.refl _⟩ (fun _ σ' H' _ q => sq_of (q.2 _ _ h1)) (fun i x σ' H' hi q => hs H1 x σ' H' e q.2 (st x _ _ q.2 (hx x (List.mem_of_getElem? hi))) q.1) (fun σ' H' q => hd σ' H' q.1 (e.trans q.2))⟩
theorem q_forLG {n : Nat} (h : EvLG tl σ H n P) (st : Stay P) (I : L2.St → Prop) (i0 : I σ)
    (hs : ∀ G x σ' H', Ex H G → Ex G H' → P x H' → I σ' → g x σ' H' fun σ2 H2 => tu { D with nx := fun σ3 H3 => I σ3 ∧ Ex G H3, ct := fun σ3 H3 => I σ3 ∧ Ex G H3, bk := tz D } σ2 H2)
    (hd : ∀ σ' H', I σ' → Ex H H' → tz D σ' H') : tSeq (tFor (iList K tl) g tu) tz D σ H := s_forLG (D := { D with nx := tz D }) h st I i0 hs hd
/-- .. over a list that stands -/
theorem q_forLV {a : Addr} {xs : List V} (h : Ev tl σ H (.ref a)) (hl : H a = some (.lst xs)) (hx : ∀ x ∈ xs, P x H) (st : Stay P) (I : L2.St → Prop) (i0 : I σ)
    (hs : ∀ G x σ' H', Ex H G → Ex G H' → P x H' → I σ' → g x σ' H' fun σ2 H2 => tu { D with nx := fun σ3 H3 => I σ3 ∧ Ex G H3, ct := fun σ3 H3 => I σ3 ∧ Ex G H3, bk := tz D } σ2 H2)
    (hd : ∀ σ' H', I σ' → Ex H H' → tz D σ' H') : tSeq (tFor (iList K tl) g tu) tz D σ H := h H (Ex.refl H) _ fun H1 e =>
  ⟨a, rfl, ⟨xs, sq_of (e _ _ hl)⟩, for_list (D := { D with nx := tz D }) (fun _ σ' H' => I σ' ∧ Ex H1 H') ⟨i0, Ex.refl _⟩ (fun _ σ' H' _ q => sq_of (q.2 _ _ (e _ _ hl))) (fun i x σ' H' hi q => hs H1 x σ' H' e q.2 (st x _ _ (e.trans q.2) (hx x (List.mem_of_getElem? hi))) q.1) (fun σ' H' q => hd σ' H' q.1 (e.trans q.2))⟩
theorem q_par2 {te1 te2 : TE} {i j : Nat} {P1 P2 : V → Prop} (h1 : EvQ te1 σ H P1) (h2 : EvQ te2 σ H P2) (k : ∀ v1 v2 H1, P1 v1 → P2 v2 → Ex H H1 → tz D ((σ.set i (some v1)).set j (some v2)) H1) :
    tSeq (tPar i j (tCons te1 (tCons te2 tNil))) tz D σ H := h1 H (Ex.refl H) _ fun v1 H1 p1 e1 => h2 H1 e1 _ fun v2 H2 p2 e2 => ⟨v1, v2, rfl, k v1 v2 _ p1 p2 (e1.trans e2)⟩
theorem EvQ.toG {p : V → Prop} (h : EvQ te σ H p) : EvG te σ H (fun v _ => p v) := fun H1 e Q q => h H1 e Q fun v H2 pv e2 => q v H2 e2 pv
theorem q_asgLA {ta : TA} {R : List V → Hp → Prop} {i : Nat} (h : EvAG ta σ H R) (hz : ∀ vs H1, R vs H1 → vs.length ≤ 1000) (k : ∀ vs p H1, R vs H1 → Ex H H1 → H1 p = none → tz D (σ.set i (some (.ref p))) (upd H1 p (.lst vs))) : tSeq (tAsg (tLst ta) (gName i)) tz D σ H :=
  h H (Ex.refl H) _ fun vs H1 e1 r => ⟨Nat.le_trans (hz vs H1 r) (by decide), fun p hp => k vs p H1 r e1 hp⟩
theorem ev_or1 {t u : TE} (h : Ev t σ H v) : Ev (fun σ H Q => t σ H Q ∨ u σ H Q) σ H v := fun H1 e Q q => .inl (h H1 e Q q)
theorem ev_or2 {t u : TE} (h : Ev u σ H v) : Ev (fun σ H Q => t σ H Q ∨ u σ H Q) σ H v := fun H1 e Q q => .inr (h H1 e Q q)
theorem ev_methI {C : Addr} {fs : List (Str × V)} {m : Str} {sp : Sp} {E : XK} {t : TA} {vs : List V} (h : EvI ta σ H C fs) (l : fs.lookup m = none) (ha : EvA t σ H vs) (hs : ∀ p dx H1, H1 p = some (.ins C dx fs) → SpV sp (.ref p :: vs) H1 z) : Ev (tMeth C m sp [] E ta t) σ H z := fun H1 e Q q =>
  h H1 e _ fun p dx H2 _ e2 hp => ⟨p, dx, fs, rfl, hp, l, ha H2 (e.trans e2) _ fun H3 e3 => by
    rw [List.append_nil]
    exact hs p dx H3 (e3 _ _ hp) H3 (Ex.refl _) Q (fun H4 e4 => q H4 ((e2.trans e3).trans e4)) E⟩
theorem stay_const {p : V → Prop} : Stay (fun v _ => p v) := fun _ _ _ _ h => h
/-- list(range(a, b)) -/
theorem el_listRg {i j : Int} (ha : Ev ta σ H (.int i)) (hb : Ev tb σ H (.int j)) (ok : RgOk i j) : EvL (tLstRg (tRg2 ta tb)) σ H (rgV i j) := fun H1 e Q q =>
  ha H1 e _ fun H2 e2 => hb H2 (e.trans e2) _ fun H3 e3 => ⟨i, j, rfl, rfl, ok, fun p hp => q p _ (fresh_back (e2.trans e3) hp) ((e2.trans e3).trans (Ex.new hp)) upd_same⟩
theorem rgV_int {i j : Int} : ∀ x ∈ rgV i j, ∃ k : Int, x = .int k := by
  intro x hx
  unfold rgV at hx
  obtain ⟨n, _, rfl⟩ := List.mem_map.mp hx
  exact ⟨_, rfl⟩
theorem rgV_len {i j : Int} : (rgV i j).length = (j - i).toNat := by
  unfold rgV
  simp
/-- == of tuples of ints -/
theorem shaped_tup {xs : List Int} : SeqAt.shaped (.tuple (xs.map PyData.int)) = true := shaped_map xs (fun x _ => lay_int x)
theorem rv_eqTI {a b : Addr} {xs ys : List Int} (ha : SqT K H a (xs.map V.int)) (hb : SqT K H b (ys.map V.int)) : RV (rEqD K) (.ref a) (.ref b) H (.bl (decide (xs = ys))) := fun H1 e Q q =>
  ⟨.tuple (xs.map PyData.int), .tuple (ys.map PyData.int), .tup (ex_t e ha) (dp_map (fun x => .int x) xs), .tup (ex_t e hb) (dp_map (fun x => .int x) ys), shaped_tup, shaped_tup, by
    rw [PyData.eqv, eqvAll_map eqv_int]
    exact q H1 (Ex.refl H1)⟩
end
section
variable {K : PySem.W.Frag} {H : Hp}
theorem rv_neTI {a b : Addr} {xs ys : List Int} (ha : SqT K H a (xs.map V.int)) (hb : SqT K H b (ys.map V.int)) : RV (rNeD K) (.ref a) (.ref b) H (.bl (!decide (xs = ys))) := fun H1 e Q q =>
  ⟨.tuple (xs.map PyData.int), .tuple (ys.map PyData.int), .tup (ex_t e ha) (dp_map (fun x => .int x) xs), .tup (ex_t e hb) (dp_map (fun x => .int x) ys), shaped_tup, shaped_tup, by
    rw [PyData.eqv, eqvAll_map eqv_int]
    exact q H1 (Ex.refl H1)⟩
end
/-! ### the law's words about answers -/
def sp_says : Sp := fun vs H Q _ => ∃ b d : Bool, vs = [.bl b, .bl d] ∧ RetV (.bl (b == d)) H Q
def sp_stands : Sp := fun vs H Q _ => ∃ w t : List Nat, vs = [vS w, vS t] ∧ RetV (.bl (inF t w)) H Q
def sp_pright : Sp := fun vs H Q _ => ∃ (w t : List Nat) (i : Int), vs = [vS w, vS t, .int i] ∧ w.length ≤ 1000 ∧ t.length ≤ 1000 ∧ RetV (.bl true) H Q
def sp_mright : Sp := fun vs H Q _ => ∃ (w t : List Nat) (b e : Int), vs = [vS w, vS t, .int b, .int e] ∧ w.length ≤ 1000 ∧ t.length ≤ 1000 ∧ RetV (.bl true) H Q
theorem piece_due (i : Int) (w t : List Nat) : pieceShows i w t = ((decide (0 ≤ i) && decide (i ≤ (w.length : Int) - (t.length : Int))) && decide (cut w (some i) (some (i + (t.length : Int))) = t)) := by
  unfold pieceShows
  by_cases h : 0 ≤ i
  · obtain ⟨n, rfl⟩ := Int.eq_ofNat_of_zero_le h
    rw [decide_eq_true h, Bool.true_and, Bool.true_and, Bool.eq_iff_iff, Bool.and_eq_true, decide_eq_true_eq, decide_eq_true_eq, decide_eq_true_eq, Int.toNat_natCast, mem_places, show ((n : Int) + (t.length : Int)) = ((n + t.length : Nat) : Int) by omega, cut_mid, Nat.add_sub_cancel_left]
    exact ⟨fun q => ⟨by omega, q.2⟩, fun q => ⟨by omega, q.2⟩⟩
  · rw [decide_eq_false h]
    rfl
theorem miss_due (b e : Int) (w t : List Nat) : missShows b e w t = ((decide (0 ≤ b) && (decide (b < e) && decide (e ≤ (t.length : Int)))) && (!inF (cut t (some (if b > 0 then b else 0)) (some (if e > 0 then e else 0))) w && (inF (cut (cut t (some (if b > 0 then b else 0)) (some (if e > 0 then e else 0))) (some 1) none) w && inF (cut (cut t (some (if b > 0 then b else 0)) (some (if e > 0 then e else 0))) none (some (-1))) w))) := by
  unfold missShows
  by_cases h : 0 ≤ b ∧ b < e
  · have e1 : (if b > 0 then b else 0) = b := by split <;> omega
    have e2 : (if e > 0 then e else 0) = e := by split <;> omega
    rw [e1, e2, decide_eq_true h.1, decide_eq_true h.2, decide_eq_true (show 0 ≤ e by omega)]
    rfl
  · have : (decide (0 ≤ b) && (decide (b < e) && decide (e ≤ (t.length : Int)))) = false := by
      rw [Bool.and_eq_false_iff, Bool.and_eq_false_iff, decide_eq_false_iff_not, decide_eq_false_iff_not]
      omega
    rw [this]
    have : (decide (0 ≤ b) && decide (0 ≤ e) && (decide (b < e) && decide (e ≤ (t.length : Int)))) = false := by
      rw [Bool.and_eq_false_iff, Bool.and_eq_false_iff, Bool.and_eq_false_iff, decide_eq_false_iff_not, decide_eq_false_iff_not, decide_eq_false_iff_not]
      omega
    rw [this]
    rfl
end WP
namespace WP
open PySem PySem.Spec PyProof.Rows L2 Evl
open SX (S S_len S_cat S_inj S_tl)
section
variable {K : PySem.W.Frag} {σ : L2.St} {H H' : Hp} {ta tb te tx tc td tl : TE} {t u : TT} {x y z v : V} {r r' r'' : R2} {D : Ends} {tu tw tz : TS} {g : TG} {P : V → Hp → Prop}
def RetI (C : Addr) (fs : List (Str × V)) (H : Hp) (Q : VK) : Prop := ∀ p dx H2, H p = none → Ex H H2 → H2 p = some (.ins C dx fs) → Q (.ref p) H2
theorem s_retI {C : Addr} {fs : List (Str × V)} (h : EvI te σ H C fs) (k : ∀ p dx H1, H p = none → Ex H H1 → H1 p = some (.ins C dx fs) → D.rt (.ref p) H1) : tRet te D σ H := h H (Ex.refl H) _ k
theorem RetI.go {C : Addr} {fs : List (Str × V)} {Q : VK} (k : RetI C fs H Q) (e : Ex H H') {p dx : Addr} {H2 : Hp} (hp : H' p = none) (e2 : Ex H' H2) (h : H2 p = some (.ins C dx fs)) : Q (.ref p) H2 := k p dx H2 (fresh_back e hp) (e.trans e2) h
theorem el_if {b : Bool} {xs : List V} (h : EvT t σ H b) (h1 : b = true → EvL ta σ H xs) (h2 : b = false → EvL tb σ H xs) : EvL (tIf t ta tb) σ H xs := fun H1 e Q q => h H1 e _ fun H2 e2 => by
  cases b with
  | true =>
    show ta σ H2 Q
    exact h1 rfl H2 (e.trans e2) Q fun p H3 hp e3 h3 => q p H3 (fresh_back e2 hp) (e2.trans e3) h3
  | false =>
    show tb σ H2 Q
    exact h2 rfl H2 (e.trans e2) Q fun p H3 hp e3 h3 => q p H3 (fresh_back e2 hp) (e2.trans e3) h3
theorem ev_callG {ta : TA} {R : List V → Hp → Prop} {sp : Sp} {E : XK} (h : EvAG ta σ H R) (hs : ∀ vs H1, R vs H1 → Ex H H1 → SpV sp vs H1 z) : Ev (tCall sp [] E ta) σ H z := fun H1 e Q q =>
  h H1 e _ fun vs H2 e2 r => by
    show sp (vs ++ []) H2 Q E
    rw [List.append_nil]
    exact hs vs H2 r (e.trans e2) H2 (Ex.refl _) Q (fun H3 e3 => q H3 (e2.trans e3)) E
theorem EvG.imp {P R : V → Hp → Prop} (h : EvG te σ H P) (i : ∀ v H1, P v H1 → R v H1) : EvG te σ H R := fun H1 e Q q => h H1 e Q fun v H2 e2 p => q v H2 e2 (i v H2 p)
/-- a pair of texts -/
def PairS (v : V) (H : Hp) : Prop := ∃ p w t, v = .ref p ∧ H p = some (.tup [vS w, vS t]) ∧ w.length ≤ 1000 ∧ t.length ≤ 1000
theorem stay_pairS : Stay PairS := fun v H H' e h => by
  obtain ⟨p, w, t, rfl, h, h1, h2⟩ := h
  exact ⟨p, w, t, rfl, e _ _ h, h1, h2⟩
theorem eg_pairS (ha : EvQ ta σ H (fun v => ∃ w, v = vS w ∧ w.length ≤ 1000)) (hb : EvQ tb σ H (fun v => ∃ w, v = vS w ∧ w.length ≤ 1000)) : EvG (tTup (tCons ta (tCons tb tNil))) σ H PairS := fun H1 e Q q =>
  ha H1 e _ fun v1 H2 p1 e2 => hb H2 (e.trans e2) _ fun v2 H3 p2 e3 => ⟨by show 2 ≤ sizeLine; decide, fun p hp => by
    obtain ⟨w, rfl, h1⟩ := p1
    obtain ⟨t, rfl, h2⟩ := p2
    exact q _ _ ((e2.trans e3).trans (Ex.new hp)) ⟨p, w, t, rfl, upd_same, h1, h2⟩⟩
def LstP (P : V → Hp → Prop) (n : Nat) (v : V) (H : Hp) : Prop := ∃ p xs, v = .ref p ∧ H p = some (.lst xs) ∧ xs.length ≤ n ∧ ∀ x ∈ xs, P x H
theorem stay_lstP {n : Nat} (st : Stay P) : Stay (LstP P n) := fun v H H' e h => by
  obtain ⟨p, xs, rfl, h, hl, hx⟩ := h
  exact ⟨p, xs, rfl, e _ _ h, hl, fun x m => st x _ _ e (hx x m)⟩
theorem EvLG.toG {n : Nat} (h : EvLG te σ H n P) : EvG te σ H (LstP P n) := fun H1 e Q q => h H1 e Q fun xs p H2 hl hx _ e2 h2 => q _ H2 e2 ⟨p, xs, rfl, h2, hl, hx⟩
end
theorem ev_inT {K : PySem.W.Frag} {σ : L2.St} {H : Hp} {ta tb : TE} {xs : List Int} (ha : EvU ta σ H (xs.map V.int)) (hb : EvU tb σ H (xs.map V.int)) : Ev (tOp (rInD K) ta (tLst (tCons tb tNil))) σ H (.bl true) := fun H1 e Q q =>
  ha H1 e _ fun p H2 _ e2 hp => hb H2 (e.trans e2) _ fun p2 H3 _ e3 hp2 => ⟨by show 1 ≤ sizeLine; decide, fun l hl => by
    have nw := Ex.new (o := .lst [V.ref p2]) hl
    refine ⟨.tuple (xs.map PyData.int), [.tuple (xs.map PyData.int)], .tup (st_of (nw _ _ (e3 _ _ hp))) (dp_map (fun x => .int x) xs), .lst (sq_of upd_same) (.cons (.tup (st_of (nw _ _ hp2)) (dp_map (fun x => .int x) xs)) .nil), shaped_tup, ?_, ?_⟩
    · have h1 : ∀ xs : List Int, PyData.canLayAll0 (xs.map PyData.int) = true ∧ PyData.depthAll (xs.map PyData.int) ≤ 1 := by
        intro xs
        induction xs with
        | nil => exact ⟨rfl, by simp [PyData.depthAll]⟩
        | cons x xs ih =>
          rw [List.map_cons, PyData.canLayAll0, PyData.depthAll, (lay_int x).1, ih.1]
          exact ⟨rfl, by have := (lay_int x).2; omega⟩
      unfold SeqAt.shaped
      rw [Bool.and_eq_true, decide_eq_true_eq]
      refine ⟨by rw [PyData.canLay0, PyData.canLayAll0, PyData.canLay0, (h1 xs).1]; rfl, ?_⟩
      rw [PyData.depth, PyData.depthAll, PyData.depthAll, PyData.depth]
      have := (h1 xs).2
      omega
    · have e : ([PyData.tuple (xs.map PyData.int)].any fun z => PyData.eqv z (.tuple (xs.map PyData.int))) = true := by
        rw [List.any_cons, PyData.eqv, eqvAll_map eqv_int, decide_eq_true rfl]
        rfl
      rw [e]
      exact q _ ((e2.trans e3).trans nw)⟩
theorem units65 {k : Nat} {A : Around} (h : Room k A) : A.units + 65 < cLine := by
  have := h.un
  omega
/-! ### told -/
def sp_told (C1 C2 CP CM : Addr) : Sp := fun vs H Q E => ∃ v1 n1 v2 n2, vs = [v1, v2] ∧ Thing H v1 n1 ∧ Thing H v2 n2 ∧
  (isText v1 = false → ∀ H2, Ex H H2 → E (.ref C1) none H2) ∧ (isText v1 = true → isText v2 = false → ∀ H2, Ex H H2 → E (.ref C2) none H2) ∧
  (∀ w t, v1 = vS w → v2 = vS t → Wd w → Wd t → (∀ i r, placesF w t = i :: r → RetI CP [("place", .int (i : Nat))] H Q) ∧
    (placesF w t = [] → ∀ b e : Nat, b < e → e ≤ t.length → (∀ j, j < e → inF (t.take j) w = true) → inF (t.take e) w = false → (∀ j, j ≤ b → inF ((t.take e).drop j) w = false) → inF ((t.take e).drop (b + 1)) w = true → RetI CM [("begin", .int (b : Nat)), ("end", .int (e : Nat))] H Q))
theorem inF_nil (w : List Nat) : inF [] w = true := inF_iff.mpr (List.nil_infix)
theorem cut_tb (t : List Nat) (b e : Nat) : cut t (some (b : Int)) (some (e : Int)) = (t.take e).drop b := by
  rw [cut_mid, List.drop_take]
/-- what told tells of a text that is none is so -/
theorem told_shows {w t : List Nat} {b e : Nat} (h1 : b < e) (h2 : e ≤ t.length) (h3 : ∀ j, j < e → inF (t.take j) w = true) (h5 : ∀ j, j ≤ b → inF ((t.take e).drop j) w = false) (h6 : inF ((t.take e).drop (b + 1)) w = true) : missShows b e w t = true := by
  unfold missShows
  rw [cut_tb, h5 b (Nat.le_refl _), decide_eq_true (show (0 : Int) ≤ b by omega), decide_eq_true (show (0 : Int) ≤ e by omega), decide_eq_true (show (b : Int) < e by omega), decide_eq_true (show (e : Int) ≤ t.length by omega)]
  have e1 : cut ((t.take e).drop b) (some 1) none = (t.take e).drop (b + 1) := by
    rw [show (some (1 : Int)) = some ((1 : Nat) : Int) from rfl, cut_from, List.drop_drop]
  have e2 : inF (cut ((t.take e).drop b) none (some (-1))) w = true := by
    rw [cut_last, inF_iff]
    have h := inF_iff.mp (h3 (e - 1) (by omega))
    have e3 : ((t.take e).drop b).dropLast = (t.take (e - 1)).drop b := by
      rw [List.dropLast_eq_take, List.length_drop, List.length_take, Nat.min_eq_left h2, List.drop_take, List.drop_take, List.take_take]
      congr 1
      omega
    rw [e3]
    exact (List.drop_suffix _ _).isInfix.trans h
  rw [e1, h6, e2]
  rfl
theorem told_piece {w t : List Nat} {i : Nat} {r : List Nat} (h : placesF w t = i :: r) : pieceShows i w t = true := by
  unfold pieceShows
  rw [decide_eq_true (show (0 : Int) ≤ i by omega), Int.toNat_natCast, h, decide_eq_true List.mem_cons_self]
  rfl
/-- due, of one of the two -/
def sp_due (CP CM : Addr) : Sp := fun vs H Q _ => ∃ (w t : List Nat) (x : Addr), vs = [vS w, vS t, .ref x] ∧ w.length ≤ 1000 ∧ t.length ≤ 1000 ∧
  ((∃ dx i, H x = some (.ins CP dx [("place", .int i)]) ∧ RetV (.bl (pieceShows i w t)) H Q) ∨ (∃ dx b e, H x = some (.ins CM dx [("begin", .int b), ("end", .int e)]) ∧ RetV (.bl (missShows b e w t)) H Q))
theorem miss_due2 (b e : Int) (w t : List Nat) : missShows b e w t = ((decide (0 ≤ b) && (decide (b < e) && decide (e ≤ (t.length : Int)))) && (!inF (cut t (some b) (some e)) w && (inF (cut (cut t (some b) (some e)) (some 1) none) w && inF (cut (cut t (some b) (some e)) none (some (-1))) w))) := by
  unfold missShows
  congr 1
  by_cases h : 0 ≤ b
  · by_cases h2 : b < e
    · rw [decide_eq_true h, decide_eq_true (show 0 ≤ e by omega), decide_eq_true h2]
      rfl
    · rw [decide_eq_false h2]
      cases decide (0 ≤ b) <;> cases decide (0 ≤ e) <;> rfl
  · rw [decide_eq_false h]
    rfl
def sp_right : Sp := fun vs H Q _ => ∃ (w t : List Nat) (v : V), vs = [vS w, vS t, v] ∧ Wd w ∧ Wd t ∧ LstP PairS 3 v H ∧ RetV (.bl true) H Q
end WP
/-! ### sorted of texts, any number of them -/
namespace SrtO
open PySem PyProof.Rows Srt
section
variable {prog : Program} {w : World} {A : Around} {E : Value → Shared → Prop} {s : Shared}
/-- a text's signs -/
def tv : Value → List Nat
  | .str x _ => x.cps.toList
  | _ => []
def ltTv (v u : Value) : Bool := decide (tv v < tv u)
theorem lt_irr (a : List Nat) : ¬ a < a := List.lt_irrefl a
theorem swo_txt : Swo ltTv := by
  refine ⟨fun x y h => ?_, fun x y z h1 h2 => ?_⟩
  · have a := of_decide_eq_true (p := tv x < tv y) h
    exact decide_eq_false (p := tv y < tv x) fun b => List.lt_irrefl _ (List.lt_trans a b)
  · have a := of_decide_eq_false (p := tv y < tv x) h1
    have b := of_decide_eq_false (p := tv z < tv y) h2
    refine decide_eq_false (p := tv z < tv x) fun c => ?_
    have a' : tv x ≤ tv y := List.not_lt.mp a
    have b' : tv y ≤ tv z := List.not_lt.mp b
    exact (List.not_lt.mpr (List.le_trans a' b')) c
theorem txt_mem : ∀ {vs : List Value} {ss : List PySem.Str}, StrsAre vs ss → ∀ v ∈ vs, ∃ x t, v = Value.str x t
  | _, _, .nil, v, h => absurd h (by simp)
  | _, _, .cons n t r, v, h => by
    rcases List.mem_cons.mp h with e | h
    · exact ⟨n, t, e⟩
    · exact txt_mem r v h
theorem txt_tv : ∀ {vs : List Value} {ss : List PySem.Str}, StrsAre vs ss → vs.map tv = ss.map fun x => x.cps.toList
  | _, _, .nil => rfl
  | _, _, .cons n t r => congrArg (n.cps.toList :: ·) (txt_tv r)
theorem txt_back : ∀ {vs : List Value}, (∀ v ∈ vs, ∃ x t, v = Value.str x t) → StrsAre vs (vs.map fun v => ⟨(tv v).toArray⟩)
  | [], _ => .nil
  | v :: vs, h => by
    obtain ⟨x, t, e⟩ := h v List.mem_cons_self
    subst e
    have ex : (⟨(tv (.str x t)).toArray⟩ : PySem.Str) = x := SX.S_tl x
    rw [List.map_cons, ex]
    exact .cons x t (txt_back fun u hu => h u (List.mem_cons_of_mem _ hu))
theorem txt_cmp {vs : List Value} {ss : List PySem.Str} (hI : StrsAre vs ss) : Cmp prog w A s oneType' (fun p => p.1 ∈ vs) (lt2 ltTv) := by
  intro p q hm hm'
  obtain ⟨a, t, e⟩ := txt_mem hI _ hm
  obtain ⟨b, u, e'⟩ := txt_mem hI _ hm'
  show wpAny (model prog w) A (keyLt' oneType' p.1 q.1) (fun r s' => s' = s ∧ r = ltTv p.1 q.1) (fun _ _ => False) s
  rw [e, e', keyLt'_oneType]
  exact oneLt_str ⟨rfl, rfl⟩
theorem txt_sortable {a : Addr} {vs : List Value} {ss : List PySem.Str} (hI : StrsAre vs ss) (h2 : 2 ≤ vs.length) : SortableO prog w A s a vs ltTv := by
  intro h' _
  refine ⟨oneType', fun Q E hq => ?_, txt_cmp hI⟩
  match vs, ss, hI, h2 with
  | v1 :: v2 :: rest, _, hI, _ =>
    rw [keyKind_strs hI]
    exact wpAny_pure hq
  | [], _, _, h => exact absurd h (by decide)
  | [v], _, _, h => exact absurd h (by simp)
end
end SrtO
namespace WP
open PySem PySem.Spec PyProof.Rows L2 Evl
open SX (S S_len S_cat S_inj S_tl)
/-! ### the one sorted list -/
def ins (x : List Nat) : List (List Nat) → List (List Nat)
  | [] => [x]
  | y :: r => if y < x then y :: ins x r else x :: y :: r
def srt : List (List Nat) → List (List Nat)
  | [] => []
  | x :: r => ins x (srt r)
theorem ins_perm (x : List Nat) : ∀ l, (ins x l).Perm (x :: l)
  | [] => .refl _
  | y :: r => by
    unfold ins
    split
    · exact ((ins_perm x r).cons y).trans (List.Perm.swap x y r)
    · exact .refl _
theorem srt_perm : ∀ l, (srt l).Perm l
  | [] => .refl _
  | x :: r => (ins_perm x (srt r)).trans ((srt_perm r).cons x)
/-- rising, equal ones let by -/
def Up (l : List (List Nat)) : Prop := l.Pairwise (fun a b => ¬ b < a)
theorem ins_up (x : List Nat) : ∀ l, Up l → Up (ins x l)
  | [], _ => List.pairwise_singleton _ _
  | y :: r, h => by
    unfold ins
    have hy := List.pairwise_cons.mp h
    split
    · rename_i c
      refine List.pairwise_cons.mpr ⟨fun z hz => ?_, ins_up x r hy.2⟩
      rcases List.mem_cons.mp ((ins_perm x r).mem_iff.mp hz) with e | e
      · rw [e]
        exact fun q => List.lt_irrefl _ (List.lt_trans c q)
      · exact hy.1 z e
    · rename_i c
      refine List.pairwise_cons.mpr ⟨fun z hz => ?_, h⟩
      rcases List.mem_cons.mp hz with e | e
      · rw [e]; exact c
      · intro q
        have a' : x ≤ y := List.not_lt.mp c
        have b' : y ≤ z := List.not_lt.mp (hy.1 z e)
        exact (List.not_lt.mpr (List.le_trans a' b')) q
theorem srt_up : ∀ l, Up (srt l)
  | [] => List.Pairwise.nil
  | x :: r => ins_up x _ (srt_up r)
theorem up_uniq : ∀ {l m : List (List Nat)}, Up l → Up m → l.Perm m → l = m
  | [], m, _, _, p => (List.Perm.eq_nil p.symm).symm
  | x :: l, [], _, _, p => absurd p.length_eq (by simp)
  | x :: l, y :: m, hl, hm, p => by
    have h1 : x = y := by
      have a := List.pairwise_cons.mp hl
      have b := List.pairwise_cons.mp hm
      have c1 : ¬ x < y := by
        rcases List.mem_cons.mp (p.mem_iff.mp (List.mem_cons_self (a := x) (l := l))) with e | e
        · rw [e]; exact List.lt_irrefl _
        · exact b.1 x e
      have c2 : ¬ y < x := by
        rcases List.mem_cons.mp (p.mem_iff.mpr (List.mem_cons_self (a := y) (l := m))) with e | e
        · rw [e]; exact List.lt_irrefl _
        · exact a.1 y e
      exact List.le_antisymm (List.not_lt.mp c2) (List.not_lt.mp c1)
    subst h1
    rw [up_uniq (List.pairwise_cons.mp hl).2 (List.pairwise_cons.mp hm).2 p.cons_inv]
theorem srt_of {l m : List (List Nat)} (p : l.Perm m) (h : Up l) : l = srt m := up_uniq h (srt_up m) (p.trans (srt_perm m).symm)
theorem srt_mem {l : List (List Nat)} {x : List Nat} : x ∈ srt l ↔ x ∈ l := (srt_perm l).mem_iff
theorem srt_len (l : List (List Nat)) : (srt l).length = l.length := (srt_perm l).length_eq
/-! ### as rules -/
theorem strs_S {its : List Value} {xs : List (List Nat)} (r : Vals (xs.map vS) its) : StrsAre its (xs.map S) := by
  have e : xs.map vS = (xs.map S).map V.str := by rw [List.map_map]; rfl
  rw [e] at r
  exact r.strs
theorem txt_out {vs out : List Value} {xs : List (List Nat)} (hI : StrsAre vs (xs.map S)) (hs : SrtO.Srtd SrtO.ltTv out) (hb : SrtO.Stb SrtO.ltTv out vs) : Vals ((srt xs).map vS) out := by
  have hm : ∀ v ∈ out, ∃ x t, v = Value.str x t := fun v hv => SrtO.txt_mem hI v (hb.perm.mem_iff.mp hv)
  have h1 := SrtO.txt_back hm
  have e1 : out.map SrtO.tv = srt xs := by
    refine srt_of ?_ ?_
    · have q := hb.perm.map SrtO.tv
      rw [SrtO.txt_tv hI, List.map_map] at q
      have e : (xs.map ((fun x : Str => x.cps.toList) ∘ S)) = xs := by
        have : ((fun x : Str => x.cps.toList) ∘ S) = (id : List Nat → List Nat) := rfl
        rw [this, List.map_id]
      rw [e] at q
      exact q
    · exact List.pairwise_map.mpr (hs.imp fun {x y} h => of_decide_eq_false (p := SrtO.tv y < SrtO.tv x) h)
  have h2 := vals_of_strs h1
  have e2 : (out.map fun v => (⟨(SrtO.tv v).toArray⟩ : Str)).map V.str = (srt xs).map vS := by
    rw [← e1, List.map_map, List.map_map]
    rfl
  rw [e2] at h2
  exact h2
/-- sorted(xs), texts -/
def rSortedTx (K : PySem.W.Frag) : List V → Hp → VK → Prop := fun vs H Q => ∃ (a : Addr) (xs : List (List Nat)), vs = [V.ref a] ∧ SqL K H a (xs.map vS) ∧ ∀ p, H p = none → Q (.ref p) (upd H p (.lst ((srt xs).map vS)))
theorem cr_sortedTx {X : Cx} : CallR X (.builtin "sorted") (rSortedTx X.K) := by
  intro pins s σ H vs us Q I r h
  obtain ⟨a, xs, rfl, hs, q⟩ := h
  obtain ⟨its, rv, hl, hz⟩ := I.list hs
  rw [Vals.ref1 r]
  have hi := strs_S rv
  refine SrtO.sorted_ord SrtO.swo_txt hl.isList (by rw [← rv.length]; exact hz) (fun h2 h₁ a' _ _ => SrtO.txt_sortable hi h2) fun out h1 h2 => ?_
  have k1 := txt_out hi h1 h2
  obtain ⟨ep, he'⟩ := PyProof.Rows.sortedAll_at s.heap its out.toArray
  have hlen : ((srt xs).map vS).length ≤ sizeLine := by
    rw [List.length_map, srt_len]
    rw [List.length_map] at hz
    exact hz
  exact ⟨.ref _, upd H (s.heap.objs.size + 1) (.lst ((srt xs).map vS)), I.laid (t' := s.toks) (fun _ _ => PyProof.Rows.sortedAll_old) (Nat.le_succ _) ⟨hlen, out, ep, k1, he'⟩, rfl, q _ (I.hok.fresh (Nat.le_succ _))⟩
/-- sorted(d), its keys texts -/
def rSortedDx : List V → Hp → VK → Prop := fun vs H Q => ∃ (a : Addr) (kvs : List (Key × V)) (ks : List (List Nat)), vs = [V.ref a] ∧ Rd H a (.dK kvs) ∧ kvs.map (·.1) = ks.map (fun l => Sum.inr (S l)) ∧ ks.length ≤ 1000000 ∧ ∀ p, H p = none → Q (.ref p) (upd H p (.lst ((srt ks).map vS)))
theorem cr_sortedDx {X : Cx} (hcalm : X.calm = true) : CallR X (.builtin "sorted") rSortedDx := by
  intro pins s σ H xs us Q I r q
  obtain ⟨a, kvs, ks, ex, hd, hks, hn, q⟩ := q
  subst ex
  obtain ⟨u, eu, rx⟩ := vals1 r
  subst eu
  cases rx
  obtain ⟨z, lo, vs, rel, dd⟩ := dk_rd I.hok hd
  obtain ⟨ep, hat⟩ := dd.dictAt
  have hkeys : vs.map (·.1) = (ks.map S).map Sum.inr := by
    rw [List.map_map]
    exact rel.keys.symm.trans hks
  have hl : vs.length = ks.length := by
    have e := congrArg List.length hkeys
    rw [List.length_map, List.length_map, List.length_map] at e
    exact e
  have h16 : vs.length ≤ sizeLine := by rw [hl, sizeLine_eq]; omega
  refine Calls.call_function_entry PyProof.Rows.kind_sorted PyProof.Rows.plain_sorted PyProof.Rows.entry_sorted (PyProof.Rows.args_sorted1 _) ?_
  unfold Builtin.«sorted»
  refine wpAny_bind (m := checkCount "sorted" 1 1 _) (wpAny_pure ?_)
  refine wpAny_bind (PySem.W.kdu_collect (A := X.A.in1) (PySem.W.kdl_dict (knd := mixKind X.prog X.w) (kvs := vs) (ep := ep) lo) (I.ok.hd hcalm) hat h16 fun h' tk acc hk hacc => ?_)
  have hal : acc.toList.length = (ks.map S).length := by rw [Array.length_toList, hacc.1, hl, List.length_map]
  have hS : StrsAre acc.toList (ks.map S) := strs_at hal fun j v e => by
    obtain ⟨k, x, e1, e2⟩ := hacc.2 j v (by rw [← Array.getElem?_toList]; exact e)
    have e3 : (vs.map (·.1))[j]? = some k := by rw [List.getElem?_map, e1]; all_goals rfl
    rw [hkeys, List.getElem?_map] at e3
    cases e4 : (ks.map S)[j]? with
    | none => rw [e4] at e3; cases e3
    | some y =>
      rw [e4] at e3
      have e5 : Sum.inr y = k := Option.some.inj e3
      subst e5
      obtain ⟨t, ev⟩ := Value.isStrOf_shape (x := y) (v := v) e2
      exact ⟨y, t, rfl, ev⟩
  have I1 : Inv X pins σ H { s with heap := h', toks := tk } := I.kept hk
  have hz2 : acc.toList.length ≤ sizeLine := by rw [hal, List.length_map, sizeLine_eq]; omega
  refine wpAny_bind (wpAny_newList ?_ hz2)
  have hoL : (h'.push (seqObj "list" acc.toList.toArray 0)).get? h'.objs.size = some (seqObj "list" acc.toList.toArray 0) := Heap.get?_push_size _ rfl
  show wpAny _ _ _ _ _ { s with heap := h'.push (seqObj "list" acc.toList.toArray 0), toks := tk }
  refine wpAny_bind (wpAny_holding (wpAny_call_entry PyProof.Rows.slot_list_sort ⟨_, hoL, rfl⟩ PyProof.Rows.entry_list_sort
    (SrtO.list_sort_ord (s := { s with heap := h'.push (seqObj "list" acc.toList.toArray 0), toks := tk }) SrtO.swo_txt hoL hz2 (fun h2 => SrtO.txt_sortable hS h2) fun out h1 h2 => ⟨_, rfl, ?_⟩)
    (PyProof.Rows.args_list_sort _)))
  have k1 := txt_out hS h1 h2
  obtain ⟨e', he'⟩ := PyProof.Rows.sortedHeap_at (vs := acc.toList) (out := out.toArray) hoL
  have hlen : ((srt ks).map vS).length ≤ sizeLine := by
    rw [List.length_map, srt_len]
    exact Nat.le_trans hn (by decide)
  refine wpAny_pure ⟨_, rfl, .ref h'.objs.size, upd H h'.objs.size (.lst ((srt ks).map vS)), I1.laid (t' := tk) (fun b u e => ?_) (Nat.le_refl _)
    (show ObjOk X.prog X.w _ _ _ (.lst ((srt ks).map vS)) from ⟨hlen, out, e', k1, he'⟩), rfl, q _ (I1.hok.fresh (Nat.le_refl _))⟩
  have hb : b < h'.objs.size := Heap.lt_size e
  rw [PyProof.Rows.sortedHeap_old (Nat.ne_of_lt hb) (by rw [size_push']; exact Nat.lt_succ_of_lt hb)]
  exact Heap.get?_push_of_some _ e
section
variable {K : PySem.W.Frag} {σ : L2.St} {H H' : Hp} {ta tb te tx : TE}
theorem el_sorted {xs : List (List Nat)} (h : EvL ta σ H (xs.map vS)) : EvL (tCB (rSortedTx K) (tCons ta tNil)) σ H ((srt xs).map vS) := fun H1 e Q q =>
  h H1 e _ fun a H2 _ e2 ha => ⟨a, xs, rfl, sq_of ha, fun p hp => q p _ (fresh_back e2 hp) (e2.trans (Ex.new hp)) upd_same⟩
end
end WP
namespace WP
/-! ### ends of a word in order, and all its pieces -/
/-- how many first letters are alike -/
def lcp : List Nat → List Nat → Nat
  | x :: a, y :: b => if x = y then lcp a b + 1 else 0
  | _, _ => 0
theorem lcp_le1 : ∀ a b, lcp a b ≤ a.length
  | [], _ => by simp [lcp]
  | x :: a, [] => by simp [lcp]
  | x :: a, y :: b => by
    rw [lcp]
    split
    · have := lcp_le1 a b
      rw [List.length_cons]
      omega
    · omega
theorem lcp_le2 : ∀ a b, lcp a b ≤ b.length
  | [], _ => by simp [lcp]
  | x :: a, [] => by simp [lcp]
  | x :: a, y :: b => by
    rw [lcp]
    split
    · have := lcp_le2 a b
      rw [List.length_cons]
      omega
    · omega
theorem lcp_take : ∀ a b : List Nat, a.take (lcp a b) = b.take (lcp a b)
  | [], _ => by simp [lcp]
  | x :: a, [] => by simp [lcp]
  | x :: a, y :: b => by
    rw [lcp]
    split
    · rename_i h
      rw [List.take_succ_cons, List.take_succ_cons, lcp_take a b, h]
    · rfl
theorem lcp_pre : ∀ {x a b : List Nat}, x <+: a → x <+: b → x.length ≤ lcp a b
  | [], _, _, _, _ => Nat.zero_le _
  | h :: x, [], _, ha, _ => by simp at ha
  | h :: x, _ :: _, [], _, hb => by simp at hb
  | h :: x, y :: a, z :: b, ha, hb => by
    rw [List.cons_prefix_cons] at ha hb
    rw [lcp, if_pos (by rw [← ha.1, ← hb.1]), List.length_cons]
    have := lcp_pre ha.2 hb.2
    omega
/-- past what is alike the lesser one stays the lesser one -/
theorem lt_take : ∀ {a b : List Nat} {m : Nat}, a < b → lcp a b < m → a < b.take m
  | [], [], m, h, _ => absurd h (List.lt_irrefl _)
  | [], y :: b, m + 1, _, _ => by
    rw [List.take_succ_cons]
    exact List.nil_lt_cons _ _
  | [], y :: b, 0, _, h => absurd h (Nat.not_lt_zero _)
  | x :: a, [], m, h, _ => absurd h (List.not_lt_nil _)
  | x :: a, y :: b, 0, _, h => absurd h (Nat.not_lt_zero _)
  | x :: a, y :: b, m + 1, h, hm => by
    rw [List.take_succ_cons]
    rw [List.cons_lt_cons_iff] at h ⊢
    rcases h with h | ⟨h1, h2⟩
    · exact .inl h
    · right
      refine ⟨h1, lt_take h2 ?_⟩
      rw [lcp, if_pos h1] at hm
      omega
theorem take_lt : ∀ {b : List Nat} {m n : Nat}, m < n → m < b.length → b.take m < b.take n
  | [], m, n, _, h => absurd h (Nat.not_lt_zero _)
  | y :: b, 0, n + 1, _, _ => by
    rw [List.take_zero, List.take_succ_cons]
    exact List.nil_lt_cons _ _
  | y :: b, m + 1, n + 1, h, h2 => by
    rw [List.take_succ_cons, List.take_succ_cons, List.cons_lt_cons_iff]
    exact .inr ⟨rfl, take_lt (b := b) (by omega) (by rw [List.length_cons] at h2; omega)⟩
  | y :: b, m, 0, h, _ => absurd h (Nat.not_lt_zero _)
theorem take_le (b : List Nat) (m : Nat) : ¬ b < b.take m := by
  by_cases h : m < b.length
  · intro q
    have h1 := take_lt (b := b) h h
    rw [List.take_length] at h1
    exact List.lt_irrefl _ (List.lt_trans q h1)
  · rw [List.take_of_length_le (by omega)]
    exact List.lt_irrefl _
/-- what begins two texts begins each one between them -/
theorem pre_mid : ∀ {x a b c : List Nat}, a < b → b < c → x <+: a → x <+: c → x <+: b
  | [], _, _, _, _, _, _, _ => List.nil_prefix
  | h :: x, [], _, _, _, _, ha, _ => by simp at ha
  | h :: x, _ :: _, [], _, hab, _, _, _ => absurd hab (List.not_lt_nil _)
  | h :: x, _ :: _, _ :: _, [], _, _, _, hc => by simp at hc
  | h :: x, p :: a, q :: b, r :: c, hab, hbc, ha, hc => by
    rw [List.cons_prefix_cons] at ha hc ⊢
    rw [List.cons_lt_cons_iff] at hab hbc
    rcases hab with h1 | ⟨h1, h2⟩
    · rcases hbc with h3 | ⟨h3, _⟩ <;> omega
    · rcases hbc with h3 | ⟨h3, h4⟩
      · omega
      · exact ⟨by omega, pre_mid h2 h4 ha.2 hc.2⟩
/-- the ends with what each has alike with the one ahead -/
def pairsG : List Nat → List (List Nat) → List (List Nat × Nat)
  | _, [] => []
  | last, e :: r => (e, lcp last e) :: pairsG e r
/-- the pieces that an end is the first one to begin with -/
def blk (p : List Nat × Nat) : List (List Nat) := (List.range (p.1.length - p.2)).map fun k => p.1.take (p.2 + 1 + k)
def allG (ps : List (List Nat × Nat)) : List (List Nat) := ps.flatMap blk
theorem blk_len (p : List Nat × Nat) : (blk p).length = p.1.length - p.2 := by
  unfold blk
  simp
theorem mem_blk {p : List Nat × Nat} {x : List Nat} : x ∈ blk p ↔ ∃ m, p.2 < m ∧ m ≤ p.1.length ∧ x = p.1.take m := by
  unfold blk
  rw [List.mem_map]
  constructor
  · rintro ⟨k, hk, rfl⟩
    rw [List.mem_range] at hk
    exact ⟨p.2 + 1 + k, by omega, by omega, rfl⟩
  · rintro ⟨m, h1, h2, rfl⟩
    exact ⟨m - p.2 - 1, by rw [List.mem_range]; omega, by congr 1; omega⟩
theorem blk_up (p : List Nat × Nat) : (blk p).Pairwise (· < ·) := by
  unfold blk
  rw [List.pairwise_map]
  have h : ∀ n, n ≤ p.1.length - p.2 → (List.range n).Pairwise (fun a b => p.1.take (p.2 + 1 + a) < p.1.take (p.2 + 1 + b)) := by
    intro n
    induction n with
    | zero => intro _; exact List.Pairwise.nil
    | succ n ih =>
      intro hn
      rw [List.range_succ, List.pairwise_append]
      refine ⟨ih (by omega), List.pairwise_singleton _ _, fun a ha b hb => ?_⟩
      rw [List.mem_range] at ha
      rw [List.mem_singleton] at hb
      subst hb
      exact take_lt (by omega) (by omega)
  exact h _ (Nat.le_refl _)
/-- rising without equals -/
def UpS (l : List (List Nat)) : Prop := l.Pairwise (· < ·)
theorem all_mem : ∀ (l : List (List Nat)) (last x : List Nat), UpS l → (∀ e ∈ l, last < e) → (x ∈ allG (pairsG last l) ↔ ¬ x <+: last ∧ ∃ e ∈ l, x <+: e)
  | [], last, x, _, _ => by simp [allG, pairsG]
  | e :: r, last, x, hu, hl => by
    have hu' := List.pairwise_cons.mp hu
    have ih := all_mem r e x hu'.2 hu'.1
    have h1 : last < e := hl e List.mem_cons_self
    show x ∈ (pairsG last (e :: r)).flatMap blk ↔ _
    rw [pairsG, List.flatMap_cons, List.mem_append]
    show (x ∈ blk (e, lcp last e) ∨ x ∈ allG (pairsG e r)) ↔ _
    rw [ih, mem_blk]
    constructor
    · rintro (⟨m, hm1, hm2, rfl⟩ | ⟨hn, e', he', hp⟩)
      · refine ⟨fun q => ?_, e, List.mem_cons_self, List.take_prefix _ _⟩
        have := lcp_pre q (List.take_prefix m e)
        rw [List.length_take] at this
        have hm2' : m ≤ e.length := hm2
        have hm1' : lcp last e < m := hm1
        omega
      · exact ⟨fun q => hn (pre_mid h1 (hu'.1 e' he') q hp), e', List.mem_cons_of_mem _ he', hp⟩
    · rintro ⟨hn, e', he', hp⟩
      by_cases hx : x <+: e
      · left
        refine ⟨x.length, ?_, hx.length_le, (List.prefix_iff_eq_take.mp hx)⟩
        show lcp last e < x.length
        refine Nat.lt_of_not_le fun q => hn ?_
        rw [List.prefix_iff_eq_take.mp hx]
        have e1 : e.take x.length = last.take x.length := by
          have e2 := congrArg (List.take x.length) (lcp_take last e)
          rw [List.take_take, List.take_take, Nat.min_eq_left q] at e2
          exact e2.symm
        rw [e1]
        exact List.take_prefix _ _
      · right
        rcases List.mem_cons.mp he' with h | h
        · rw [h] at hp
          exact absurd hp hx
        · exact ⟨hx, e', h, hp⟩
theorem all_gt : ∀ (l : List (List Nat)) (last x : List Nat), UpS l → (∀ e ∈ l, last < e) → x ∈ allG (pairsG last l) → last < x
  | [], last, x, _, _, h => by simp [allG, pairsG] at h
  | e :: r, last, x, hu, hl, h => by
    have hu' := List.pairwise_cons.mp hu
    have h1 : last < e := hl e List.mem_cons_self
    have h' : x ∈ blk (e, lcp last e) ∨ x ∈ allG (pairsG e r) := by
      have : x ∈ (pairsG last (e :: r)).flatMap blk := h
      rw [pairsG, List.flatMap_cons, List.mem_append] at this
      exact this
    rcases h' with h' | h'
    · obtain ⟨m, hm1, _, rfl⟩ := mem_blk.mp h'
      exact lt_take h1 hm1
    · exact List.lt_trans h1 (all_gt r e x hu'.2 hu'.1 h')
theorem all_up : ∀ (l : List (List Nat)) (last : List Nat), UpS l → (∀ e ∈ l, last < e) → UpS (allG (pairsG last l))
  | [], last, _, _ => List.Pairwise.nil
  | e :: r, last, hu, hl => by
    have hu' := List.pairwise_cons.mp hu
    show ((pairsG last (e :: r)).flatMap blk).Pairwise (· < ·)
    rw [pairsG, List.flatMap_cons, List.pairwise_append]
    refine ⟨blk_up _, all_up r e hu'.2 hu'.1, fun a ha b hb => ?_⟩
    obtain ⟨m, _, _, rfl⟩ := mem_blk.mp ha
    have h2 : e < b := all_gt r e b hu'.2 hu'.1 hb
    have h3 : ¬ e < e.take m := take_le e m
    show e.take m < b
    by_cases q : e.take m < b
    · exact q
    · have a1 : b ≤ e.take m := List.not_lt.mp q
      have a2 : e.take m ≤ e := List.not_lt.mp h3
      exact absurd h2 (List.not_lt.mpr (List.le_trans a1 a2))
theorem all_len : ∀ ps : List (List Nat × Nat), (allG ps).length = (ps.map fun p => p.1.length - p.2).sum
  | [] => rfl
  | p :: ps => by
    show ((p :: ps).flatMap blk).length = _
    rw [List.flatMap_cons, List.length_append, blk_len, List.map_cons, List.sum_cons]
    have := all_len ps
    unfold allG at this
    rw [this]
/-- how many of a length -/
theorem blk_count (p : List Nat × Nat) (n : Nat) (hn : 0 < n) : ((blk p).filter fun x => x.length == n).length = if p.2 < n ∧ n ≤ p.1.length then 1 else 0 := by
  unfold blk
  rw [List.filter_map, List.length_map]
  have e : ∀ k, k < p.1.length - p.2 → ((fun x : List Nat => x.length == n) ∘ fun k => p.1.take (p.2 + 1 + k)) k = (k + (p.2 + 1) == n) := by
    intro k hk
    show ((p.1.take (p.2 + 1 + k)).length == n) = _
    rw [List.length_take, Nat.min_eq_left (by omega), Nat.add_comm]
  rw [List.filter_congr (q := fun k => k + (p.2 + 1) == n) (fun k hk => e k (List.mem_range.mp hk))]
  have h : ∀ m, ((List.range m).filter fun k => k + (p.2 + 1) == n).length = if p.2 < n ∧ n ≤ m + p.2 then 1 else 0 := by
    intro m
    induction m with
    | zero => rw [if_neg (by omega)]; rfl
    | succ m ih =>
      rw [List.range_succ, List.filter_append, List.length_append, ih]
      by_cases c : m + (p.2 + 1) = n
      · rw [if_neg (by omega), if_pos (by omega)]
        simp [c]
      · have e1 : (m + (p.2 + 1) == n) = false := by simp; omega
        have e2 : ([m].filter fun k => k + (p.2 + 1) == n) = [] := by
          rw [List.filter_cons, e1]
          rfl
        rw [e2]
        by_cases d : p.2 < n ∧ n ≤ m + p.2
        · rw [if_pos d, if_pos (by omega)]; rfl
        · rw [if_neg d, if_neg (by omega)]; rfl
  rw [h]
  by_cases c : p.2 < n ∧ n ≤ p.1.length
  · rw [if_pos c, if_pos (by omega)]
  · rw [if_neg c, if_neg (by omega)]
theorem all_count (n : Nat) (hn : 0 < n) : ∀ ps : List (List Nat × Nat), ((allG ps).filter fun x => x.length == n).length = (ps.filter fun p => decide (p.2 < n ∧ n ≤ p.1.length)).length
  | [] => rfl
  | p :: ps => by
    show (((p :: ps).flatMap blk).filter _).length = _
    rw [List.flatMap_cons, List.filter_append, List.length_append, blk_count p n hn]
    have ih := all_count n hn ps
    unfold allG at ih
    rw [ih, List.filter_cons]
    by_cases c : p.2 < n ∧ n ≤ p.1.length
    · rw [if_pos c, if_pos (decide_eq_true c), List.length_cons, Nat.add_comm]
    · rw [if_neg c, if_neg (by rw [decide_eq_true_eq]; exact c), Nat.zero_add]
theorem ups_uniq : ∀ {l m : List (List Nat)}, UpS l → UpS m → (∀ x, x ∈ l ↔ x ∈ m) → l = m
  | [], [], _, _, _ => rfl
  | [], y :: m, _, _, h => by have := (h y).mpr List.mem_cons_self; cases this
  | x :: l, [], _, _, h => by have := (h x).mp List.mem_cons_self; cases this
  | x :: l, y :: m, hl, hm, h => by
    have a := List.pairwise_cons.mp hl
    have b := List.pairwise_cons.mp hm
    have e : x = y := by
      rcases List.mem_cons.mp ((h x).mp List.mem_cons_self) with e | e
      · exact e
      · rcases List.mem_cons.mp ((h y).mpr List.mem_cons_self) with f | f
        · exact f.symm
        · exact absurd (List.lt_trans (a.1 y f) (b.1 x e)) (List.lt_irrefl _)
    subst e
    rw [ups_uniq a.2 b.2 fun z => ?_]
    constructor
    · intro hz
      rcases List.mem_cons.mp ((h z).mp (List.mem_cons_of_mem _ hz)) with e | e
      · exact absurd (e ▸ a.1 z hz) (List.lt_irrefl _)
      · exact e
    · intro hz
      rcases List.mem_cons.mp ((h z).mpr (List.mem_cons_of_mem _ hz)) with e | e
      · exact absurd (e ▸ b.1 z hz) (List.lt_irrefl _)
      · exact e
/-- where the likeness ends -/
theorem lcp_get : ∀ {a b : List Nat} {i : Nat}, i < lcp a b → ∃ c, a[i]? = some c ∧ b[i]? = some c
  | [], _, i, h => by simp [lcp] at h
  | x :: a, [], i, h => by simp [lcp] at h
  | x :: a, y :: b, i, h => by
    rw [lcp] at h
    split at h
    · rename_i e
      cases i with
      | zero => exact ⟨x, rfl, by rw [e]; rfl⟩
      | succ i =>
        obtain ⟨c, h1, h2⟩ := lcp_get (a := a) (b := b) (i := i) (by omega)
        exact ⟨c, h1, h2⟩
    · omega
theorem lcp_stop : ∀ {a b : List Nat}, a < b → lcp a b < a.length → ∃ c d, a[lcp a b]? = some c ∧ b[lcp a b]? = some d ∧ c ≠ d
  | [], _, _, h => by simp at h
  | x :: a, [], h, _ => absurd h (List.not_lt_nil _)
  | x :: a, y :: b, h, hl => by
    rw [List.cons_lt_cons_iff] at h
    by_cases e : x = y
    · have e1 : lcp (x :: a) (y :: b) = lcp a b + 1 := by rw [lcp, if_pos e]
      rw [e1] at hl ⊢
      rcases h with h | ⟨_, h⟩
      · omega
      · obtain ⟨c, d, h1, h2, h3⟩ := lcp_stop h (by rw [List.length_cons] at hl; omega)
        exact ⟨c, d, h1, h2, h3⟩
    · have e1 : lcp (x :: a) (y :: b) = 0 := by rw [lcp, if_neg e]
      rw [e1]
      exact ⟨x, y, rfl, rfl, e⟩
theorem pairs_len : ∀ (last : List Nat) (l : List (List Nat)), (pairsG last l).length = l.length
  | _, [] => rfl
  | last, e :: r => by rw [pairsG, List.length_cons, pairs_len e r, List.length_cons]
/-- the one ahead of the i-th -/
def prev (last : List Nat) (l : List (List Nat)) : Nat → List Nat
  | 0 => last
  | i + 1 => l.getD i []
theorem pairs_get : ∀ (last : List Nat) (l : List (List Nat)) (i : Nat) (e : List Nat), l[i]? = some e → (pairsG last l)[i]? = some (e, lcp (prev last l i) e)
  | _, [], i, e, h => by simp at h
  | last, e0 :: r, 0, e, h => by
    cases h
    rfl
  | last, e0 :: r, i + 1, e, h => by
    have h' : r[i]? = some e := h
    have ih := pairs_get e0 r i e h'
    rw [pairsG]
    show (pairsG e0 r)[i]? = _
    rw [ih]
    congr 2
    cases i with
    | zero => rfl
    | succ i => rfl
end WP
namespace WP
open PySem PySem.Spec PyProof.Rows L2 Evl
open SX (S S_len S_cat S_inj S_tl)
def endsL (w : List Nat) : List (List Nat) := (List.range w.length).map fun i => w.drop i
def sends (w : List Nat) : List (List Nat) := srt (endsL w)
def endsP (w : List Nat) : List (List Nat × Nat) := pairsG [] (sends w)
def piecesF (w : List Nat) : List (List Nat) := [] :: allG (endsP w)
theorem endsL_mem {w e : List Nat} : e ∈ endsL w ↔ ∃ i, i < w.length ∧ e = w.drop i := by
  unfold endsL
  rw [List.mem_map]
  constructor
  · rintro ⟨i, hi, rfl⟩
    exact ⟨i, List.mem_range.mp hi, rfl⟩
  · rintro ⟨i, hi, rfl⟩
    exact ⟨i, List.mem_range.mpr hi, rfl⟩
theorem endsL_nd (w : List Nat) : (endsL w).Nodup := by
  unfold endsL
  have h : ∀ n, n ≤ w.length → ((List.range n).map fun i => w.drop i).Nodup := by
    intro n
    induction n with
    | zero => intro _; exact List.nodup_nil
    | succ n ih =>
      intro hn
      rw [List.range_succ, List.map_append, List.nodup_append]
      refine ⟨ih (by omega), by simp, fun a ha b hb => ?_⟩
      obtain ⟨i, hi, rfl⟩ := List.mem_map.mp ha
      rw [List.mem_range] at hi
      obtain ⟨j, hj, rfl⟩ := List.mem_map.mp hb
      rw [List.mem_singleton] at hj
      subst hj
      intro q
      have := congrArg List.length q
      rw [List.length_drop, List.length_drop] at this
      omega
  exact h _ (Nat.le_refl _)
theorem up_ups : ∀ {l : List (List Nat)}, Up l → l.Nodup → UpS l
  | [], _, _ => List.Pairwise.nil
  | x :: l, h, n => by
    have a := List.pairwise_cons.mp h
    have b := List.nodup_cons.mp n
    refine List.pairwise_cons.mpr ⟨fun y hy => ?_, up_ups a.2 b.2⟩
    by_cases q : x < y
    · exact q
    · have e : x = y := List.le_antisymm (List.not_lt.mp (a.1 y hy)) (List.not_lt.mp q)
      rw [e] at b
      exact absurd hy b.1
theorem srt_ups {l : List (List Nat)} (n : l.Nodup) : UpS (srt l) := up_ups (srt_up l) ((srt_perm l).nodup_iff.mpr n)
theorem sends_up (w : List Nat) : UpS (sends w) := srt_ups (endsL_nd w)
theorem sends_mem {w e : List Nat} : e ∈ sends w ↔ ∃ i, i < w.length ∧ e = w.drop i := srt_mem.trans endsL_mem
theorem sends_ne {w e : List Nat} (h : e ∈ sends w) : [] < e := by
  obtain ⟨i, hi, rfl⟩ := sends_mem.mp h
  cases q : w.drop i with
  | nil =>
    have := congrArg List.length q
    rw [List.length_drop, List.length_nil] at this
    omega
  | cons x r => exact List.nil_lt_cons _ _
theorem sends_len (w : List Nat) : (sends w).length = w.length := by
  unfold sends endsL
  rw [srt_len]
  simp
theorem pieces_mem {w x : List Nat} : x ∈ piecesF w ↔ x <:+: w := by
  unfold piecesF endsP
  rw [List.mem_cons, all_mem (sends w) [] x (sends_up w) (fun e he => sends_ne he)]
  constructor
  · rintro (rfl | ⟨_, e, he, hp⟩)
    · exact List.nil_infix
    · obtain ⟨i, _, rfl⟩ := sends_mem.mp he
      exact hp.isInfix.trans (List.drop_suffix i w).isInfix
  · intro h
    by_cases hx : x = []
    · exact .inl hx
    · right
      refine ⟨fun q => hx (List.prefix_nil.mp q), ?_⟩
      obtain ⟨a, b, e⟩ := h
      refine ⟨w.drop a.length, sends_mem.mpr ⟨a.length, ?_, rfl⟩, ?_⟩
      · rw [← e, List.length_append, List.length_append]
        have := List.length_pos_iff.mpr hx
        omega
      · rw [← e, List.append_assoc, List.drop_left]
        exact List.prefix_append _ _
theorem pieces_up (w : List Nat) : UpS (piecesF w) := by
  unfold piecesF endsP
  refine List.pairwise_cons.mpr ⟨fun x hx => ?_, all_up _ _ (sends_up w) fun e he => sends_ne he⟩
  exact all_gt _ _ x (sends_up w) (fun e he => sends_ne he) hx
theorem pieces_of {w : List Nat} {ks : List (List Nat)} (n : ks.Nodup) (h : ∀ x, x ∈ ks ↔ x <:+: w) : srt ks = piecesF w :=
  ups_uniq (srt_ups n) (pieces_up w) fun x => srt_mem.trans ((h x).trans pieces_mem.symm)
/-! ### a list of pairs of a text and a number -/
def TP (es : List (List Nat × Nat)) (xs : List V) (H : Hp) : Prop := xs.length = es.length ∧ ∀ (i : Nat) (e : List Nat × Nat), es[i]? = some e → ∃ p : Addr, xs[i]? = some (V.ref p) ∧ H p = some (.tup [vS e.1, vN e.2])
theorem TP.ex {es : List (List Nat × Nat)} {xs : List V} {H H' : Hp} (h : TP es xs H) (e : Ex H H') : TP es xs H' := ⟨h.1, fun i x hx => by
  obtain ⟨p, h1, h2⟩ := h.2 i x hx
  exact ⟨p, h1, e _ _ h2⟩⟩
theorem TP.at {es : List (List Nat × Nat)} {xs : List V} {H : Hp} (h : TP es xs H) {i : Nat} {x : V} (hx : xs[i]? = some x) : ∃ e p, es[i]? = some e ∧ x = .ref p ∧ H p = some (.tup [vS e.1, vN e.2]) := by
  have hi : i < es.length := by
    have := (List.getElem?_eq_some_iff.mp hx).1
    rw [h.1] at this
    exact this
  obtain ⟨p, h1, h2⟩ := h.2 i _ (List.getElem?_eq_getElem hi)
  rw [hx] at h1
  exact ⟨_, p, List.getElem?_eq_getElem hi, Option.some.inj h1, h2⟩
theorem TP.upd {es : List (List Nat × Nat)} {xs : List V} {H : Hp} {D : Addr} {a a' : List V} (h : TP es xs H) (hd : H D = some (.lst a)) : TP es xs (upd H D (.lst a')) := ⟨h.1, fun i x hx => by
  obtain ⟨p, h1, h2⟩ := h.2 i x hx
  exact ⟨p, h1, by rw [upd_ne (fun e => by rw [e, hd] at h2; cases h2)]; exact h2⟩⟩
theorem TP.snoc {es : List (List Nat × Nat)} {xs : List V} {H : Hp} {e : List Nat × Nat} {p : Addr} (h : TP es xs H) (hp : H p = some (.tup [vS e.1, vN e.2])) : TP (es ++ [e]) (xs ++ [.ref p]) H := by
  refine ⟨by rw [List.length_append, List.length_append, h.1]; rfl, fun i x hx => ?_⟩
  by_cases c : i < es.length
  · rw [List.getElem?_append_left c] at hx
    obtain ⟨q, h1, h2⟩ := h.2 i x hx
    exact ⟨q, by rw [List.getElem?_append_left (by rw [h.1]; exact c)]; exact h1, h2⟩
  · rw [List.getElem?_append_right (by omega)] at hx
    have hi : i - es.length = 0 := by
      cases q : i - es.length with
      | zero => rfl
      | succ n => rw [q] at hx; cases hx
    rw [hi] at hx
    cases hx
    refine ⟨p, ?_, hp⟩
    rw [List.getElem?_append_right (by rw [h.1]; omega), h.1, hi]
    rfl
def sp_ends : Sp := fun vs H Q _ => ∃ w : List Nat, vs = [vS w] ∧ w.length ≤ 100 ∧ ∀ xs p H2, H p = none → Ex H H2 → H2 p = some (.lst xs) → TP (endsP w) xs H2 → Q (.ref p) H2
end WP
namespace WP
open PySem PySem.Spec PyProof.Rows L2 Evl
open SX (S S_len S_cat S_inj S_tl)
/-! ### a dict whose keys are texts -/
section
variable {K : PySem.W.Frag} {σ : L2.St} {H H' : Hp} {ta tb te tx td ty tv tl : TE} {t u : TT} {v : V} {tu tz : TS} {D : Ends}
theorem s_putK {p : Addr} {kvs : List (Key × V)} {k : Key} (hd : H p = some (.dK kvs)) (h1 : Ev td σ H (.ref p)) (h2 : Ev ty σ H (kV k)) (h3 : Ev tv σ H v) (hz : kvs.length < 100000) (kk : ∀ H1, Ex H H1 → D.nx σ (upd H1 p (.dK (putK kvs k v)))) : sDPut td ty tv D σ H :=
  h3 H (Ex.refl H) _ fun H1 e1 => h1 H1 e1 _ fun H2 e2 => h2 H2 (e1.trans e2) _ fun H3 e3 => ⟨p, _, rfl, DPut.k (((e1.trans e2).trans e3) _ _ hd) (sz_lt hz), kk H3 ((e1.trans e2).trans e3)⟩
theorem q_asgDK {i : Nat} (k : ∀ p H1, H p = none → Ex H H1 → H1 p = some (.dK []) → tz D (σ.set i (some (.ref p))) H1) : tSeq (tAsg tDNewK (gName i)) tz D σ H := fun p hp => k p _ hp (Ex.new hp) upd_same
theorem el_sortedD {p : Addr} {kvs : List (Key × V)} {ks : List (List Nat)} (h : Ev ta σ H (.ref p)) (hd : H p = some (.dK kvs)) (hk : kvs.map (·.1) = ks.map (fun l => Sum.inr (S l))) (hn : ks.length ≤ 1000000) : EvL (tCB rSortedDx (tCons ta tNil)) σ H ((srt ks).map vS) := fun H1 e Q q =>
  h H1 e _ fun H2 e2 => ⟨p, kvs, ks, rfl, .inl ((e.trans e2) _ _ hd), hk, hn, fun l hl => q l _ (fresh_back e2 hl) (e2.trans (Ex.new hl)) upd_same⟩
end
def addK (ks : List (List Nat)) (t : List Nat) : List (List Nat) := if t ∈ ks then ks else ks ++ [t]
theorem addK_mem {ks : List (List Nat)} {t x : List Nat} : x ∈ addK ks t ↔ x ∈ ks ∨ x = t := by
  unfold addK
  split
  · rename_i h
    constructor
    · exact .inl
    · rintro (h1 | rfl)
      · exact h1
      · exact h
  · rw [List.mem_append, List.mem_singleton]
theorem addK_nd {ks : List (List Nat)} {t : List Nat} (h : ks.Nodup) : (addK ks t).Nodup := by
  unfold addK
  split
  · exact h
  · rename_i c
    rw [List.nodup_append]
    refine ⟨h, by simp, fun a ha b hb q => ?_⟩
    rw [List.mem_singleton] at hb
    rw [q, hb] at ha
    exact c ha
theorem addK_len (ks : List (List Nat)) (t : List Nat) : (addK ks t).length ≤ ks.length + 1 := by
  unfold addK
  split
  · omega
  · simp
theorem keys_any {kvs : List (Key × V)} {ks : List (List Nat)} (h : kvs.map (·.1) = ks.map (fun l => Sum.inr (S l))) (t : List Nat) : (kvs.any fun kv => decide (kv.1 = Sum.inr (S t))) = decide (t ∈ ks) := by
  have e : (kvs.any fun kv => decide (kv.1 = Sum.inr (S t))) = (kvs.map (·.1)).any fun k => decide (k = Sum.inr (S t)) := by
    rw [List.any_map]
    rfl
  rw [e, h, List.any_map]
  rw [Bool.eq_iff_iff, List.any_eq_true, decide_eq_true_eq]
  constructor
  · rintro ⟨x, hx, q⟩
    have : (Sum.inr (S x) : Key) = Sum.inr (S t) := of_decide_eq_true q
    rw [← S_inj (Sum.inr.inj this)]
    exact hx
  · intro hx
    exact ⟨t, hx, decide_eq_true rfl⟩
theorem keys_put {kvs : List (Key × V)} {ks : List (List Nat)} {t : List Nat} {v : V} (h : kvs.map (·.1) = ks.map (fun l => Sum.inr (S l))) : (putK kvs (Sum.inr (S t)) v).map (·.1) = (addK ks t).map (fun l => Sum.inr (S l)) := by
  unfold putK addK
  rw [keys_any h t]
  by_cases c : t ∈ ks
  · rw [if_pos (decide_eq_true c), if_pos c, ← h, List.map_map]
    refine List.map_congr_left fun kv _ => ?_
    show (if kv.1 = Sum.inr (S t) then (kv.1, v) else kv).1 = kv.1
    split <;> rfl
  · rw [if_neg (by rw [decide_eq_true_eq]; exact c), if_neg c, List.map_append, List.map_append, h]
    rfl
theorem infix_cut {x w : List Nat} : x <:+: w ↔ ∃ b e, b ≤ e ∧ e ≤ w.length ∧ x = (w.drop b).take (e - b) := by
  constructor
  · rintro ⟨a, c, rfl⟩
    refine ⟨a.length, a.length + x.length, by omega, by simp, ?_⟩
    rw [List.append_assoc, List.drop_left, Nat.add_sub_cancel_left, List.take_left]
  · rintro ⟨b, e, _, _, rfl⟩
    exact (List.take_prefix _ _).isInfix.trans (List.drop_suffix _ _).isInfix
/-! ### walks over pairs of a text and a number -/
def EvP (te : TE) (σ : L2.St) (H : Hp) (es : List (List Nat × Nat)) : Prop := ∀ H1, Ex H H1 → ∀ Q : VK, (∀ xs p H2, H1 p = none → Ex H1 H2 → H2 p = some (.lst xs) → TP es xs H2 → Q (.ref p) H2) → te σ H1 Q
theorem given_of {α : Type} (es : List α) (f : α → Bool) (v : α → V) : given es.length (fun k => match es[k]? with | some e => f e | none => false) (fun k => match es[k]? with | some e => v e | none => .non) = (es.filter f).map v := by
  have h : ∀ m, m ≤ es.length → given m (fun k => match es[k]? with | some e => f e | none => false) (fun k => match es[k]? with | some e => v e | none => .non) = ((es.take m).filter f).map v := by
    intro m
    induction m with
    | zero => intro _; rfl
    | succ m ih =>
      intro hm
      obtain ⟨e, he⟩ : ∃ e, es[m]? = some e := ⟨_, List.getElem?_eq_getElem (by omega)⟩
      rw [List.take_add_one, he, List.filter_append, List.map_append, ← ih (by omega)]
      cases q : f e with
      | true =>
        rw [given_yes (by rw [he]; exact q), he]
        simp [q]
      | false =>
        rw [given_no (by rw [he]; exact q)]
        simp [q]
  rw [h _ (Nat.le_refl _), List.take_length]
section
variable {K : PySem.W.Frag} {σ : L2.St} {H H' : Hp} {ta tb te tx td ty tv tl : TE} {t u : TT} {v : V} {tu tz : TS} {D : Ends}
theorem ep_ends {w : List Nat} {E : XK} (h : Ev tx σ H (vS w)) (hw : w.length ≤ 100) : EvP (tCall sp_ends [] E (tCons tx tNil)) σ H (endsP w) := fun H1 e Q q =>
  h H1 e _ fun H2 e2 => ⟨w, rfl, hw, fun xs p H3 hp e3 h3 hT => q xs p H3 (fresh_back e2 hp) (e2.trans e3) h3 hT⟩
theorem el_lcT {es : List (List Nat × Nat)} {i j : Nat} {vs : List Nat} (f : List Nat × Nat → Bool) (v : List Nat × Nat → V) (h : EvP tl σ H es) (hz : es.length ≤ 40000) (hw : ∀ x y, wipe (((wipe σ vs).set i (some x)).set j (some y)) vs = wipe σ vs)
    (ht : ∀ e H1, e ∈ es → Ex H H1 → EvT t (((wipe σ vs).set i (some (vS e.1))).set j (some (vN e.2))) H1 (f e)) (he : ∀ e H1, e ∈ es → Ex H H1 → f e = true → Ev te (((wipe σ vs).set i (some (vS e.1))).set j (some (vN e.2))) H1 (v e)) :
    EvL (tLc (iList K tl) (gTup K 2 (gCons (gName i) (gCons (gName j) gNil))) t te vs) σ H ((es.filter f).map v) := fun H0 e0 Q q => by
  rw [← given_of] at q
  refine h H0 e0 _ fun xs a H1 ha e1 hx hT => ⟨a, rfl, ⟨xs, sq_of hx⟩, fun Dl hD => ?_⟩
  rw [← hT.1] at q
  refine lc_list (xs := xs) (Cw H1 _ _ Dl) ⟨hD, Ex.new hD, upd_same⟩ (fun i H' _ p => sq_of (p.2.1 _ _ hx)) (fun k x H' hk p => ?_) (fun H' p => q Dl H' (fresh_back e1 p.1) (e1.trans p.2.1) p.2.2)
  obtain ⟨e, pa, he', rfl, hpa⟩ := hT.at hk
  refine ⟨pa, _, rfl, st_of (p.2.1 _ _ hpa), rfl, _, _, rfl, _, _, rfl, rfl, hw _ _, cw_turn p (by have := (List.getElem?_eq_some_iff.mp hk).1; rw [hT.1] at this; omega) ?_ ?_⟩
  · rw [he']
    exact ht e H1 (List.mem_of_getElem? he') (e0.trans e1)
  · rw [he']
    exact he e H1 (List.mem_of_getElem? he') (e0.trans e1)
theorem q_forP {es : List (List Nat × Nat)} {i j : Nat} (h : EvP tl σ H es) (I : Nat → L2.St → Prop) (i0 : I 0 σ)
    (hs : ∀ G k e σ' H', es[k]? = some e → Ex H G → Ex G H' → I k σ' → tu { D with nx := fun σ3 H3 => I (k + 1) σ3 ∧ Ex G H3, ct := fun σ3 H3 => I (k + 1) σ3 ∧ Ex G H3, bk := tz D } ((σ'.set i (some (vS e.1))).set j (some (vN e.2))) H')
    (hd : ∀ σ' H', I es.length σ' → Ex H H' → tz D σ' H') : tSeq (tFor (iList K tl) (gTup K 2 (gCons (gName i) (gCons (gName j) gNil))) tu) tz D σ H := h H (Ex.refl H) _ fun xs a H1 ha e1 hx hT =>
  ⟨a, rfl, ⟨xs, sq_of hx⟩, for_list (D := { D with nx := tz D }) (fun k σ' H' => I k σ' ∧ Ex H1 H') ⟨i0, Ex.refl _⟩ (fun _ σ' H' _ q => sq_of (q.2 _ _ hx)) (fun k x σ' H' hi q => by
    obtain ⟨e, pa, he', rfl, hpa⟩ := hT.at hi
    exact ⟨pa, _, rfl, st_of (q.2 _ _ hpa), rfl, _, _, rfl, _, _, rfl, rfl, hs H1 k e σ' H' he' e1 q.2 q.1⟩) (fun σ' H' q => hd σ' H' (by rw [← hT.1]; exact q.1) (e1.trans q.2))⟩
end
def sp_pieces : Sp := fun vs H Q _ => ∃ w : List Nat, vs = [vS w] ∧ w.length ≤ 100 ∧ RetL ((piecesF w).map vS) H Q
end WP
namespace WP
open PySem PySem.Spec PyProof.Rows L2 Evl
open SX (S S_len S_cat S_inj S_tl)
theorem ends_at {w : List Nat} {k : Nat} {e : List Nat × Nat} (h : (endsP w)[k]? = some e) : (sends w)[k]? = some e.1 ∧ e.2 = lcp (prev [] (sends w) k) e.1 := by
  have hk : k < (sends w).length := by
    have := (List.getElem?_eq_some_iff.mp h).1
    unfold endsP at this
    rw [pairs_len] at this
    exact this
  have h1 := List.getElem?_eq_getElem hk
  have h2 := pairs_get [] (sends w) k _ h1
  have h3 : (endsP w)[k]? = some ((sends w)[k], lcp (prev [] (sends w) k) (sends w)[k]) := h2
  rw [h] at h3
  have h4 := Option.some.inj h3
  rw [h4]
  exact ⟨h1, rfl⟩
theorem ends_ok {w : List Nat} {e : List Nat × Nat} (h : e ∈ endsP w) : e.2 ≤ e.1.length ∧ e.1.length ≤ w.length ∧ e.1 <:+ w := by
  obtain ⟨k, hk⟩ := List.getElem?_of_mem h
  obtain ⟨h1, h2⟩ := ends_at hk
  obtain ⟨i, hi, q⟩ := sends_mem.mp (List.mem_of_getElem? h1)
  refine ⟨by rw [h2]; exact lcp_le2 _ _, ?_, ?_⟩
  · rw [q, List.length_drop]; omega
  · rw [q]; exact List.drop_suffix _ _
theorem ends_len (w : List Nat) : (endsP w).length = w.length := by
  unfold endsP
  rw [pairs_len, sends_len]
theorem all_app (a b : List (List Nat × Nat)) : allG (a ++ b) = allG a ++ allG b := by
  unfold allG
  rw [List.flatMap_append]
theorem all_cons (e : List Nat × Nat) (r : List (List Nat × Nat)) : allG (e :: r) = blk e ++ allG r := by
  unfold allG
  rw [List.flatMap_cons]
theorem drop_at {α : Type} {l : List α} {k : Nat} {e : α} (h : l[k]? = some e) : l.drop k = e :: l.drop (k + 1) := by
  obtain ⟨hk, he⟩ := List.getElem?_eq_some_iff.mp h
  rw [← he]
  exact List.drop_eq_getElem_cons hk
theorem blk_get {e : List Nat × Nat} {i : Nat} (h : i < e.1.length - e.2) : (blk e)[i]? = some (e.1.take (e.2 + 1 + i)) := by
  unfold blk
  rw [List.getElem?_map, List.getElem?_range h]
  rfl
/-- piece_by's turn -/
theorem all_here {w : List Nat} {k i : Nat} {e : List Nat × Nat} (h : (endsP w)[k]? = some e) (hi : i < e.1.length - e.2) : (allG ((endsP w).drop k))[i]? = some (e.1.take (e.2 + 1 + i)) := by
  rw [drop_at h, all_cons, List.getElem?_append_left (by rw [blk_len]; exact hi), blk_get hi]
theorem all_later {w : List Nat} {k i : Nat} {e : List Nat × Nat} (h : (endsP w)[k]? = some e) (hi : e.1.length - e.2 ≤ i) : (allG ((endsP w).drop k))[i]? = (allG ((endsP w).drop (k + 1)))[i - (e.1.length - e.2)]? := by
  rw [drop_at h, all_cons, List.getElem?_append_right (by rw [blk_len]; exact hi), blk_len]
theorem take_at {α : Type} {l : List α} {k : Nat} {e : α} (h : l[k]? = some e) : l.take (k + 1) = l.take k ++ [e] := by
  rw [List.take_add_one, h]
  rfl
theorem all_take_len {w : List Nat} {k : Nat} {e : List Nat × Nat} (h : (endsP w)[k]? = some e) : (allG ((endsP w).take (k + 1))).length = (allG ((endsP w).take k)).length + (e.1.length - e.2) := by
  rw [take_at h, all_app, List.length_append, all_cons, List.length_append, blk_len]
  rfl
theorem new_same {w t : List Nat} {k : Nat} {e : List Nat × Nat} (h : (endsP w)[k]? = some e) (ht : t ≠ []) (hn : ∀ x ∈ (endsP w).take k, ¬ t <+: x.1) (hp : t <+: e.1) : e.2 < t.length := by
  refine Nat.lt_of_not_le fun q => ?_
  obtain ⟨h1, h2⟩ := ends_at h
  rw [h2] at q
  have hq : t <+: prev [] (sends w) k := by
    have e1 := lcp_take (prev [] (sends w) k) e.1
    have e2 := congrArg (List.take t.length) e1
    rw [List.take_take, List.take_take, Nat.min_eq_left q, ← List.prefix_iff_eq_take.mp hp] at e2
    rw [← e2]
    exact List.take_prefix _ _
  cases k with
  | zero => exact ht (List.prefix_nil.mp hq)
  | succ k =>
    have hk : k < (endsP w).length := by have := (List.getElem?_eq_some_iff.mp h).1; omega
    have h3 := List.getElem?_eq_getElem hk
    obtain ⟨h4, _⟩ := ends_at h3
    refine hn (endsP w)[k] ?_ ?_
    · rw [take_at h3]
      exact List.mem_append_right _ List.mem_cons_self
    · have : prev [] (sends w) (k + 1) = ((endsP w)[k]).1 := by
        show (sends w).getD k [] = _
        rw [List.getD_eq_getElem?_getD, h4]
        rfl
      rw [← this]
      exact hq
/-- number_of's turn -/
theorem piece_here {w t : List Nat} {k : Nat} {e : List Nat × Nat} (h : (endsP w)[k]? = some e) (ht : t ≠ []) (hn : ∀ x ∈ (endsP w).take k, ¬ t <+: x.1) (hp : t <+: e.1) :
    (piecesF w)[(allG ((endsP w).take k)).length + t.length - e.2]? = some t := by
  have hs := new_same h ht hn hp
  have hl := hp.length_le
  have e0 : (allG ((endsP w).take k)).length + t.length - e.2 = ((allG ((endsP w).take k)).length + (t.length - e.2 - 1)) + 1 := by omega
  rw [e0]
  show (allG (endsP w))[(allG ((endsP w).take k)).length + (t.length - e.2 - 1)]? = some t
  have e1 : allG (endsP w) = allG ((endsP w).take k) ++ allG ((endsP w).drop k) := by rw [← all_app, List.take_append_drop]
  rw [e1, List.getElem?_append_right (by omega), Nat.add_sub_cancel_left, all_here h (by omega)]
  rw [show e.2 + 1 + (t.length - e.2 - 1) = t.length by omega, ← List.prefix_iff_eq_take.mp hp]
theorem no_piece {w t : List Nat} (ht : t ≠ []) (hn : ∀ x ∈ endsP w, ¬ t <+: x.1) : ¬ t <:+: w := by
  rintro ⟨a, b, e⟩
  have h1 : w.drop a.length ∈ sends w := sends_mem.mpr ⟨a.length, by rw [← e]; have := List.length_pos_iff.mpr ht; simp; omega, rfl⟩
  obtain ⟨k, hk⟩ := List.getElem?_of_mem h1
  have h2 := pairs_get [] (sends w) k _ hk
  refine hn _ (List.mem_of_getElem? (show (endsP w)[k]? = _ from h2)) ?_
  show t <+: w.drop a.length
  rw [← e, List.append_assoc, List.drop_left]
  exact List.prefix_append _ _
theorem pieces_len (w : List Nat) : (piecesF w).length = 1 + ((endsP w).map fun p => p.1.length - p.2).sum := by
  unfold piecesF
  rw [List.length_cons, all_len, Nat.add_comm]
theorem sum_int : ∀ l : List Nat, (l.map (fun n : Nat => (n : Int))).sum = ((l.sum : Nat) : Int)
  | [] => rfl
  | x :: l => by
    rw [List.map_cons, List.sum_cons, List.sum_cons, sum_int l]
    omega
/-- the pieces of a length -/
def ofLen (w : List Nat) (n : Nat) : Nat := ((piecesF w).filter fun x => x.length == n).length
theorem ofLen_zero (w : List Nat) : ofLen w 0 = 1 := by
  unfold ofLen piecesF
  rw [List.filter_cons]
  have : ((allG (endsP w)).filter fun x => x.length == 0) = [] := by
    rw [List.filter_eq_nil_iff]
    intro x hx
    have := all_gt _ [] x (sends_up w) (fun e he => sends_ne he) hx
    intro q
    have h0 : x = [] := List.length_eq_zero_iff.mp (by simpa using q)
    rw [h0] at this
    exact List.lt_irrefl _ this
  rw [this]
  rfl
theorem ofLen_pos (w : List Nat) {n : Nat} (hn : 0 < n) : ofLen w n = ((endsP w).filter fun p => decide (p.2 < n ∧ n ≤ p.1.length)).length := by
  unfold ofLen piecesF
  rw [List.filter_cons, if_neg (by simp; omega), all_count n hn]
def sp_many (C1 : Addr) : Sp := fun vs H Q E => ∃ v n, vs = [v] ∧ Thing H v n ∧ (isText v = false → ∀ H2, Ex H H2 → E (.ref C1) none H2) ∧ (∀ w, v = vS w → Wd w → RetV (.int ((piecesF w).length : Nat)) H Q)
def sp_oflen (C1 C2 : Addr) : Sp := fun vs H Q E => ∃ v1 n1 v2 n2, vs = [v1, v2] ∧ Thing H v1 n1 ∧ Thing H v2 n2 ∧
  (isText v1 = false → ∀ H2, Ex H H2 → E (.ref C1) none H2) ∧ (isText v1 = true → isNum v2 = false → ∀ H2, Ex H H2 → E (.ref C2) none H2) ∧
  (∀ w (n : Nat), v1 = vS w → v2 = .int (n : Nat) → Wd w → RetV (.int (ofLen w n : Nat)) H Q)
def sp_pieceby (C1 C2 : Addr) : Sp := fun vs H Q E => ∃ v1 n1 v2 n2, vs = [v1, v2] ∧ Thing H v1 n1 ∧ Thing H v2 n2 ∧
  (isText v1 = false → ∀ H2, Ex H H2 → E (.ref C1) none H2) ∧ (isText v1 = true → isNum v2 = false → ∀ H2, Ex H H2 → E (.ref C2) none H2) ∧
  (∀ w (n : Nat), v1 = vS w → v2 = .int (n : Nat) → Wd w → (∀ x, (piecesF w)[n]? = some x → RetV (vS x) H Q) ∧ ((piecesF w)[n]? = none → ∀ H2, Ex H H2 → E (.ref C2) none H2))
def sp_numof (C1 C2 C3 : Addr) : Sp := fun vs H Q E => ∃ v1 n1 v2 n2, vs = [v1, v2] ∧ Thing H v1 n1 ∧ Thing H v2 n2 ∧
  (isText v1 = false → ∀ H2, Ex H H2 → E (.ref C1) none H2) ∧ (isText v1 = true → isText v2 = false → ∀ H2, Ex H H2 → E (.ref C2) none H2) ∧
  (∀ w t, v1 = vS w → v2 = vS t → Wd w → Wd t → (∀ k : Nat, (piecesF w)[k]? = some t → RetV (.int (k : Nat)) H Q) ∧ (¬ t <:+: w → ∀ H2, Ex H H2 → E (.ref C3) none H2))
theorem num_int {H : Hp} {v : V} {n : String} (h : Thing H v n) (e : isNum v = true) : ∃ k : Nat, v = .int (k : Nat) := by
  cases h with
  | int i => exact ⟨i.toNat, by rw [Int.toNat_of_nonneg (of_decide_eq_true e)]⟩
  | _ => cases e
end WP
namespace WP
open PySem PySem.Spec PyProof.Rows L2 Evl
open SX (S S_len S_cat S_inj S_tl)
section
variable {K : PySem.W.Frag} {σ : L2.St} {H H' : Hp} {ta tb te tx tc td tl : TE} {t u : TT} {x y z v : V} {r r' r'' : R2} {D : Ends} {tu tw tz : TS} {g : TG} {P : V → Hp → Prop}
theorem s_forLV {a : Addr} {xs : List V} (h : Ev tl σ H (.ref a)) (hl : H a = some (.lst xs)) (hx : ∀ x ∈ xs, P x H) (st : Stay P) (I : L2.St → Prop) (i0 : I σ)
    (hs : ∀ G x σ' H', Ex H G → Ex G H' → P x H' → I σ' → g x σ' H' fun σ2 H2 => tu { D with nx := fun σ3 H3 => I σ3 ∧ Ex G H3, ct := fun σ3 H3 => I σ3 ∧ Ex G H3, bk := D.nx } σ2 H2)
    (hd : ∀ σ' H', I σ' → Ex H H' → D.nx σ' H') : tFor (iList K tl) g tu D σ H := h H (Ex.refl H) _ fun H1 e =>
  ⟨a, rfl, ⟨xs, sq_of (e _ _ hl)⟩, for_list (fun _ σ' H' => I σ' ∧ Ex H1 H') ⟨i0, Ex.refl _⟩ (fun _ σ' H' _ q => sq_of (q.2 _ _ (e _ _ hl))) (fun i x σ' H' hi q => hs H1 x σ' H' e q.2 (st x _ _ (e.trans q.2) (hx x (List.mem_of_getElem? hi))) q.1) (fun σ' H' q => hd σ' H' q.1 (e.trans q.2))⟩
/-- over a new tuple of such things -/
theorem q_forTG {ta : TA} (h : EvAG ta σ H (fun vs H1 => vs.length ≤ 1000 ∧ ∀ x ∈ vs, P x H1)) (st : Stay P) (I : L2.St → Prop) (i0 : I σ)
    (hs : ∀ G x σ' H', Ex H G → Ex G H' → P x H' → I σ' → g x σ' H' fun σ2 H2 => tu { D with nx := fun σ3 H3 => I σ3 ∧ Ex G H3, ct := fun σ3 H3 => I σ3 ∧ Ex G H3, bk := tz D } σ2 H2)
    (hd : ∀ σ' H', I σ' → Ex H H' → tz D σ' H') : tSeq (tFor (iTup K (tTup ta)) g tu) tz D σ H := h H (Ex.refl H) _ fun vs H0 e0 hv => ⟨Nat.le_trans hv.1 (by decide), fun p hp => by
  have e : Ex H (upd H0 p (.tup vs)) := e0.trans (Ex.new hp)
  refine ⟨p, rfl, ⟨vs, st_of upd_same⟩, for_tup (D := { D with nx := tz D }) (fun _ σ' H' => I σ' ∧ Ex (upd H0 p (.tup vs)) H') ⟨i0, Ex.refl _⟩ (fun _ σ' H' _ q => st_of (q.2 _ _ upd_same)) (fun i x σ' H' hi q => hs _ x σ' H' e q.2 (st x _ _ ((Ex.new hp).trans q.2) (hv.2 x (List.mem_of_getElem? hi))) q.1) (fun σ' H' q => hd σ' H' q.1 (e.trans q.2))⟩⟩
theorem el_listRg1 {j : Int} (ha : Ev ta σ H (.int j)) (ok : RgOk 0 j) : EvL (tLstRg (tRg1 ta)) σ H (rgV 0 j) := fun H1 e Q q =>
  ha H1 e _ fun H2 e2 => ⟨j, rfl, ok, fun p hp => q p _ (fresh_back e2 hp) (e2.trans (Ex.new hp)) upd_same⟩
/-- a comprehension over a new tuple -/
theorem el_lcU {xs : List V} {j : Nat} {vs : List Nat} (f : Nat → Bool) (v : Nat → V) (h : EvU tl σ H xs) (hz : xs.length ≤ 40000) (hw : ∀ x, wipe ((wipe σ vs).set j (some x)) vs = wipe σ vs)
    (ht : ∀ (i : Nat) (x : V) H1, Ex H H1 → xs[i]? = some x → EvT t ((wipe σ vs).set j (some x)) H1 (f i)) (he : ∀ (i : Nat) (x : V) H1, Ex H H1 → xs[i]? = some x → f i = true → Ev te ((wipe σ vs).set j (some x)) H1 (v i)) :
    EvL (tLc (iTup K tl) (gName j) t te vs) σ H (given xs.length f v) := fun H0 e Q q => h H0 e _ fun a H1 ha e1 hx => ⟨a, rfl, ⟨xs, st_of hx⟩, fun Dl hD =>
  lc_tup (xs := xs) (Cw H1 f v Dl) ⟨hD, Ex.new hD, upd_same⟩ (fun i H' _ p => st_of (p.2.1 a _ hx)) (fun i x H' hi p => ⟨hw x, cw_turn p (by have := (List.getElem?_eq_some_iff.mp hi).1; omega) (ht i x H1 (e.trans e1) hi) (fun hf => he i x H1 (e.trans e1) hi hf)⟩)
    (fun H' p => q Dl H' (fresh_back e1 p.1) (e1.trans p.2.1) p.2.2)⟩
theorem draw_lt {c : Int} {k : Nat} {m : Int} (h : 0 < m) : 0 ≤ drawF c k m ∧ drawF c k m < m := ⟨Int.emod_nonneg _ (by omega), Int.emod_lt_of_pos _ h⟩
/-- a pair of a text and a number, told by a property -/
def PairTN (p : List Nat → Nat → Prop) (v : V) (H : Hp) : Prop := ∃ a t n, v = .ref a ∧ H a = some (.tup [vS t, vN n]) ∧ p t n
theorem stay_tn {p : List Nat → Nat → Prop} : Stay (PairTN p) := fun v H H' e h => by
  obtain ⟨a, t, n, rfl, h, q⟩ := h
  exact ⟨a, t, n, rfl, e _ _ h, q⟩
theorem eg_tn {p : List Nat → Nat → Prop} {l : List Nat} {n : Nat} (ha : Ev ta σ H (vS l)) (hb : Ev tb σ H (vN n)) (q : p l n) : EvG (tTup (tCons ta (tCons tb tNil))) σ H (PairTN p) := fun H1 e Q k =>
  eu_tup (ea_cons ha (ea_cons hb ea_nil)) (by simp) H1 e Q fun a H2 _ e2 h2 => k _ H2 e2 ⟨a, l, n, rfl, h2, q⟩
end
theorem wd_infix {w t : List Nat} (h : Wd w) (i : t <:+: w) : Wd t := ⟨Nat.le_trans i.length_le h.1, fun c hc => h.2 c (i.subset hc)⟩
section
variable {H : Hp}
theorem spv_many {C1 : Addr} {w : List Nat} (h : Wd w) : SpV (sp_many C1) [vS w] H (.int ((piecesF w).length : Nat)) := fun H1 e1 Q q E =>
  ⟨_, _, rfl, .str w (by have := h.1; omega), fun z => (by rw [isText_wd h] at z; cases z), fun w' ew _ => by
    cases S_inj (V.str.inj ew)
    exact q⟩
theorem spv_oflen {C1 C2 : Addr} {w : List Nat} {n : Nat} (h : Wd w) : SpV (sp_oflen C1 C2) [vS w, .int (n : Nat)] H (.int (ofLen w n : Nat)) := fun H1 e1 Q q E =>
  ⟨_, _, _, _, rfl, .str w (by have := h.1; omega), .int _, fun z => (by rw [isText_wd h] at z; cases z), fun _ z => (by rw [isNum_int, decide_eq_true (by omega)] at z; cases z), fun w' n' ew en _ => by
    cases S_inj (V.str.inj ew)
    have : n = n' := by have := V.int.inj en; omega
    subst this
    exact q⟩
theorem spv_pieceby {C1 C2 : Addr} {w x : List Nat} {n : Nat} (h : Wd w) (hx : (piecesF w)[n]? = some x) : SpV (sp_pieceby C1 C2) [vS w, .int (n : Nat)] H (vS x) := fun H1 e1 Q q E =>
  ⟨_, _, _, _, rfl, .str w (by have := h.1; omega), .int _, fun z => (by rw [isText_wd h] at z; cases z), fun _ z => (by rw [isNum_int, decide_eq_true (by omega)] at z; cases z), fun w' n' ew en _ => by
    cases S_inj (V.str.inj ew)
    have : n = n' := by have := V.int.inj en; omega
    subst this
    refine ⟨fun y hy => ?_, fun hy => by rw [hx] at hy; cases hy⟩
    rw [hx] at hy
    cases hy
    exact q⟩
theorem pieces_inj {w x : List Nat} {i j : Nat} (hi : (piecesF w)[i]? = some x) (hj : (piecesF w)[j]? = some x) : i = j := by
  obtain ⟨a, ea⟩ := List.getElem?_eq_some_iff.mp hi
  obtain ⟨b, eb⟩ := List.getElem?_eq_some_iff.mp hj
  have h := List.pairwise_iff_getElem.mp (pieces_up w)
  rcases Nat.lt_trichotomy i j with q | q | q
  · have := h i j a b q
    rw [ea, eb] at this
    exact absurd this (List.lt_irrefl _)
  · exact q
  · have := h j i b a q
    rw [ea, eb] at this
    exact absurd this (List.lt_irrefl _)
theorem spv_numof {C1 C2 C3 : Addr} {w t : List Nat} {n : Nat} (h : Wd w) (hx : (piecesF w)[n]? = some t) : SpV (sp_numof C1 C2 C3) [vS w, vS t] H (.int (n : Nat)) := fun H1 e1 Q q E => by
  have hi : t <:+: w := pieces_mem.mp (List.mem_of_getElem? hx)
  have ht := wd_infix h hi
  refine ⟨_, _, _, _, rfl, .str w (by have := h.1; omega), .str t (by have := ht.1; omega), fun z => (by rw [isText_wd h] at z; cases z), fun _ z => (by rw [isText_wd ht] at z; cases z), fun w' t' ew et _ _ => ?_⟩
  cases S_inj (V.str.inj ew)
  cases S_inj (V.str.inj et)
  refine ⟨fun k hk => ?_, fun hn => absurd hi hn⟩
  rw [pieces_inj hk hx]
  exact q
theorem spl_pieces {w : List Nat} (h : w.length ≤ 100) : SpL sp_pieces [vS w] H ((piecesF w).map vS) := fun H1 e1 Q q E => ⟨w, rfl, h, q⟩
theorem spv_whole {i : Int} : SpV sp_whole [.int i] H (.bl true) := fun H1 e1 Q q E => ⟨_, _, rfl, .int i, q⟩
end
theorem cut_ints (ns : List Int) (lo hi : Option Int) : ∃ ms : List Int, cutV (ns.map V.int) lo hi = ms.map V.int ∧ ms.length ≤ ns.length ∧ ∀ z ∈ ms, z ∈ ns := by
  refine ⟨(ns.drop (HT.sIx ns.length 0 lo)).take (HT.sIx ns.length ns.length hi - HT.sIx ns.length 0 lo), ?_, ?_, fun z hz => List.mem_of_mem_drop (List.mem_of_mem_take hz)⟩
  · unfold cutV
    rw [List.length_map, ← List.map_drop, ← List.map_take]
  · rw [List.length_take, List.length_drop]
    omega
end WP
namespace WP
open PySem PySem.Spec PyProof.Rows L2 Evl
open SX (S S_len S_cat S_inj S_tl)
/-- xs[j], by values -/
def rGetL (K : PySem.W.Frag) : V → V → Hp → VK → Prop := fun x y H Q => ∃ (p : Addr) (xs : List V) (j : Nat) (v : V), x = .ref p ∧ y = .int (j : Int) ∧ SqL K H p xs ∧ xs[j]? = some v ∧ Q v H
theorem get_list {X : Cx} : PGet X (rGetL X.K) := by
  intro pins s σ H x y v u Q I rx ry h
  obtain ⟨p, xs, j, z, rfl, rfl, hq, he, q⟩ := h
  cases rx
  obtain ⟨t, rfl⟩ := ry
  obtain ⟨its, r, pl, hz⟩ := I.list hq
  obtain ⟨w, ew, rw'⟩ := r.get he
  have hl := r.length
  have hn := line63
  have hj : j < xs.length := (List.getElem?_eq_some_iff.mp he).1
  exact wpAny_getItem_list pl.isList (by omega) (by omega) (by rw [Int.toNat_natCast]; simpa using ew) ⟨z, H, I, rw', q⟩
section
variable {K : PySem.W.Frag} {σ : L2.St} {H H' : Hp} {ta tb te tx tc td tl : TE} {t u : TT} {x y z v : V} {r r' r'' : R2} {D : Ends} {tu tw tz : TS} {g : TG} {P : V → Hp → Prop}
theorem s_augL {l : Addr} {xs : List V} {j : Nat} {a b : Int} {f : Int → Int → Int} (hl : H l = some (.lst xs)) (ho : Ev ta σ H (.ref l)) (hi : Ev tb σ H (.int (j : Int))) (hj : xs[j]? = some (.int a)) (he : Ev te σ H (.int b)) (k : ∀ H1, Ex H H1 → D.nx σ (upd H1 l (.lst (xs.set j (.int (f a b)))))) :
    tAugS ta tb te (rGetL K) (ipI f) rSetL D σ H := ho H (Ex.refl H) _ fun H1 e1 => hi H1 e1 _ fun H2 e2 => ⟨l, xs, j, .int a, rfl, rfl, sq_of ((e1.trans e2) _ _ hl), hj, he H2 (e1.trans e2) _ fun H3 e3 =>
  ⟨a, b, rfl, rfl, l, xs, (j : Int), j, rfl, rfl, ((e1.trans e2).trans e3) l _ hl, ixN_nat (List.getElem?_eq_some_iff.mp hj).1, k H3 ((e1.trans e2).trans e3)⟩⟩
theorem el_rep {xs : List V} {n : Nat} (ha : EvL ta σ H xs) (hb : Ev tb σ H (.int (n : Int))) (hz : xs.length * n ≤ 100000) (hn : n ≤ 100000) : EvL (tOp rRep ta tb) σ H (List.replicate n xs).flatten := fun H1 e Q q =>
  ha H1 e _ fun p H2 _ e2 h2 => hb H2 (e.trans e2) _ fun H3 e3 => ⟨p, (n : Int), xs, rfl, rfl, e3 _ _ h2, by omega, by omega, sz_of (by rw [Int.toNat_natCast]; exact hz), fun l hl => by
    rw [Int.toNat_natCast]
    exact q l _ (fresh_back (e2.trans e3) hl) ((e2.trans e3).trans (Ex.new hl)) upd_same⟩
end
/-- how many of each length -/
def cnt (l : List (List Nat)) (m : Nat) : Nat := (l.filter fun x => x.length == m).length
def cntV (n : Nat) (l : List (List Nat)) : List V := (List.range n).map fun m => V.int (cnt l m : Nat)
theorem cntV_nil (n : Nat) : cntV n [] = (List.replicate n [V.int 0]).flatten := by
  unfold cntV
  induction n with
  | zero => rfl
  | succ n ih => rw [List.range_succ, List.map_append, ih, List.replicate_succ', List.flatten_append]; rfl
theorem cntV_get {n m : Nat} {l : List (List Nat)} (h : m < n) : (cntV n l)[m]? = some (.int (cnt l m : Nat)) := by
  unfold cntV
  rw [List.getElem?_map, List.getElem?_range h]
  rfl
theorem cnt_snoc (l : List (List Nat)) (x : List Nat) (m : Nat) : cnt (l ++ [x]) m = cnt l m + if x.length = m then 1 else 0 := by
  unfold cnt
  rw [List.filter_append, List.length_append]
  congr 1
  by_cases h : x.length = m
  · rw [if_pos h, List.filter_cons, if_pos (by simp [h])]
    rfl
  · rw [if_neg h, List.filter_cons, if_neg (by simp [h])]
    rfl
theorem cntV_snoc {n : Nat} {l : List (List Nat)} {x : List Nat} (h : x.length < n) : cntV n (l ++ [x]) = (cntV n l).set x.length (.int ((cnt l x.length : Nat) + 1)) := by
  refine List.ext_getElem? fun m => ?_
  by_cases hm : m < n
  · rw [cntV_get hm, cnt_snoc, List.getElem?_set]
    by_cases q : x.length = m
    · rw [if_pos q, if_pos q, if_pos (by unfold cntV; simp; omega)]
      subst q
      rfl
    · rw [if_neg q, if_neg q, cntV_get hm]
      rfl
  · rw [List.getElem?_eq_none (by unfold cntV; simp; omega), List.getElem?_eq_none (by unfold cntV; simp; omega)]
theorem pieces_few {W : List Nat} (h : W.length ≤ 100) : (piecesF W).length ≤ 10101 := by
  rw [pieces_len]
  have hs : ∀ (es : List (List Nat × Nat)), (∀ e ∈ es, e.1.length ≤ 100) → (es.map fun p => p.1.length - p.2).sum ≤ es.length * 100 := by
    intro es
    induction es with
    | nil => intro _; simp
    | cons e r ih =>
      intro h
      have := h e List.mem_cons_self
      have := ih fun x hx => h x (List.mem_cons_of_mem _ hx)
      rw [List.map_cons, List.sum_cons, List.length_cons]
      omega
  have := hs (endsP W) fun e he => by have := ends_ok he; omega
  rw [ends_len] at this
  omega
end WP
/-! ### a lambda of one parameter, called by a built-in -/
namespace WP
open PySem PySem.Spec PyProof.Rows L2 Evl
open SX (S S_len S_cat S_inj S_tl)
theorem cx_none {P : Program} {w : World} {outer : List Env} {H : Hp} {s : Shared} {e : Value} {s' : Shared} (h : L2.CX P w outer H s (fun _ _ _ => False) e s') : False := by
  obtain ⟨_, _, _, _, _, _, _, _, _, _, _, _, z⟩ := h
  exact z
theorem lam_call {X : Cx} {pins : List (Addr × Obj)} {σ : L2.St} {H : Hp} {s : Shared} {A : Around} {E : Value → Shared → Prop} {f c' : Addr} {nm qual x : Str} {params : Arguments} {body : Expr} {scope : Scope} {pm ctv u : Value} {v : V} {k : Nat} {Q : VK} {tb : TE}
    (I : Inv X pins σ H s) (fr : A.frames = X.A.frames) (hr : Room (k + 1) A) (hf : s.heap.get? f = some (PySem.W.kla_obj nm qual params body scope [] pm c' ctv)) (hcd : s.heap.CodeRec (.ref c') qual) (Sc : FnScope [x] [x] scope)
    (hb : bindArgs (PySem.W.kla_fn nm qual params body scope [] pm (.ref c') ctv) ⟨[u], []⟩ = pure [(x, u)]) (r : RelV v u)
    (hbody : PE (cxOf (L2.CX X.prog X.w) X.prog X.w X.K X.mg X.base [x] qual scope f (.ref c') A X.stack s H (fun _ _ _ => False)) body tb) (hq : tb (L2.start [x] [v]) H Q) :
    wpAny (model X.prog X.w) A (call (.ref f) [u]) (fun r s' => CE X.stack X.prog X.w H s Q r s') E s := by
  have e1 := I.env0
  have e0 : Env0 X.prog X.w X.K X.mg X.base A X.stack s H := ⟨fr.trans e1.frames, e1.mod, e1.bs, e1.bsz, e1.funs, e1.frf, e1.hok, e1.bare⟩
  have lim : s.heap.NoLimit := e0.mod.nolimit.keeps fun b o e => (e0.bs b o e).1
  have rc : codeAny (model X.prog X.w) A (.call (.ref f) ⟨[u], []⟩) (CR (L2.CX X.prog X.w) X.stack X.prog X.w H s Q (fun _ _ _ => False)) s := by
    refine PySem.W.kla_callFunE hr.depth hf rfl Sc.co Sc.gen rfl hcd ?_
    rw [hb]
    refine wpAny_pure (wpAny_newFunctionEnv_cells Sc.kind (fun y hy => ?_) fun env he s1 x1 => ?_)
    · rw [List.mem_singleton.mp hy]
      rcases Sc.par x (by simp) with q | q
      · exact .inl q
      · exact .inr ⟨q, PySem.W.cellsFrom_some _ _ _ (.inl q)⟩
    · subst he
      refine ⟨lim.keeps x1.toInCall.keep, ?_⟩
      have J : Inv (cxOf (L2.CX X.prog X.w) X.prog X.w X.K X.mg X.base [x] qual scope f (.ref c') A X.stack s H (fun _ _ _ => False)) [] (L2.start [x] [v]) H s1 := inv_start (ps := [x]) (us := [u]) Sc hr.hd e0 rfl (.cons r .nil) x1
      refine PySem.W.kla_codeExpr (wpAny_mono (hbody.run [] s1 _ H Q J hq) (fun w' s' hq => ?_) fun e s' hq => hq)
      obtain ⟨v', H', J', rv, q⟩ := hq
      exact ⟨v', H', J'.os, J'.bare, J'.base, J'.hok, rv, q⟩
  refine wpAny_call (codeAny_mono rc fun r s' hq => ?_)
  cases r with
  | error e => exact (cx_none hq).elim
  | ok fl =>
    cases fl with
    | ret u => exact hq
    | next => exact False.elim hq
    | brk => exact False.elim hq
    | cont => exact False.elim hq
end WP
namespace SrtO
open PySem PyProof.Rows Srt
/-! ### texts by their length, then by their signs -/
def ltLT (a b : List Nat) : Bool := decide (a.length < b.length) || (decide (a.length = b.length) && decide (a < b))
theorem ltLT_iff {a b : List Nat} : ltLT a b = true ↔ a.length < b.length ∨ (a.length = b.length ∧ a < b) := by
  unfold ltLT
  rw [Bool.or_eq_true, Bool.and_eq_true, decide_eq_true_eq, decide_eq_true_eq, decide_eq_true_eq]
theorem ltLT_no {a b : List Nat} : ltLT a b = false ↔ ¬ (a.length < b.length ∨ (a.length = b.length ∧ a < b)) := by
  rw [← ltLT_iff]
  simp
theorem swo_LT : Swo ltLT := by
  refine ⟨fun x y h => ?_, fun x y z h1 h2 => ?_⟩
  · rw [ltLT_iff] at h
    rw [ltLT_no]
    rintro (q | ⟨q1, q2⟩)
    · rcases h with h | ⟨h, _⟩ <;> omega
    · rcases h with h | ⟨_, h⟩
      · omega
      · exact List.lt_irrefl _ (List.lt_trans h q2)
  · rw [ltLT_no] at *
    rintro (q | ⟨q1, q2⟩)
    · have a1 : ¬ y.length < x.length := fun z => h1 (.inl z)
      have a2 : ¬ z.length < y.length := fun z => h2 (.inl z)
      omega
    · have a1 : ¬ y.length < x.length := fun z => h1 (.inl z)
      have a2 : ¬ z.length < y.length := fun z => h2 (.inl z)
      have b1 : ¬ y < x := fun w => h1 (.inr ⟨by omega, w⟩)
      have b2 : ¬ z < y := fun w => h2 (.inr ⟨by omega, w⟩)
      exact (List.not_lt.mpr (List.le_trans (List.not_lt.mp b1) (List.not_lt.mp b2))) q2
def ltK (p q : Keyed) : Bool := ltLT (tv p.2) (tv q.2)
theorem swoK : Swo ltK := ⟨fun x y => swo_LT.asym _ _, fun x y z => swo_LT.tr _ _ _⟩
/-- the pair's key is the tuple of the item's length and the item -/
def Good (h : Heap) (p : Keyed) : Prop := ∃ (l : PySem.Str) (t t1 t2 : Tok) (ad : Addr) (o : Obj) (n : Nat), p.2 = .str l t ∧ p.1 = .ref ad ∧ h.get? ad = some o ∧ o.cls = .type "tuple" ∧ o.data = .seq #[.int (l.length : Int) t1, .str l t2] n
section
variable {prog : Program} {w : World} {A : Around} {E : Value → Shared → Prop} {s : Shared}
theorem good_key {p : Keyed} (h : Good s.heap p) : tupKey s.heap (fun i => i == 1) p.1 = some [Sum.inl ((tv p.2).length : Int), Sum.inr (tv p.2)] := by
  obtain ⟨l, t, t1, t2, ad, o, n, e2, e1, ho, hc, hd⟩ := h
  rw [e1, e2]
  show tupKey s.heap _ (.ref ad) = some [Sum.inl ((l.cps.toList.length : Nat) : Int), Sum.inr l.cps.toList]
  unfold tupKey
  dsimp only
  rw [ho]
  dsimp only
  rw [hd]
  dsimp only
  have e : l.length = l.cps.toList.length := by
    show l.cps.size = _
    rw [Array.length_toList]
  rw [e]
  rfl
theorem lex_LT (n m : Nat) (a b : List Nat) : lexLt itemOrd [Sum.inl (n : Int), Sum.inr a] [Sum.inl (m : Int), Sum.inr b] = (decide (n < m) || (decide (n = m) && decide (a < b))) := by
  rw [lex_cons, lex_cons]
  show (decide ((n : Int) < (m : Int)) || (!decide ((m : Int) < (n : Int)) && (decide (a < b) || (!decide (b < a) && false)))) = _
  rw [Bool.and_false, Bool.or_false]
  by_cases h1 : n < m
  · rw [decide_eq_true h1, decide_eq_true (show (n : Int) < m by omega)]
    rfl
  · rw [decide_eq_false h1, decide_eq_false (show ¬ (n : Int) < m by omega)]
    by_cases h2 : n = m
    · rw [decide_eq_true h2, decide_eq_false (show ¬ (m : Int) < n by omega)]
      rfl
    · rw [decide_eq_false h2, decide_eq_true (show (m : Int) < n by omega)]
      rfl
theorem good_cmp : Cmp prog w A s (tuples' true) (Good s.heap) ltK := by
  intro p q hp hq
  refine tup_ltAt (shape := fun i => i == 1) true A _ _ _ _ _ (good_key hp) (good_key hq) ⟨rfl, ?_⟩
  show lexLt itemOrd _ _ = ltK p q
  rw [lex_LT]
  rfl
theorem tups_of {h : Heap} {shape : Nat → Bool} : ∀ {ks : List Value}, (∀ k ∈ ks, ∃ f, TupOf h shape k f) → ∃ fs, TupsOf h shape ks fs ∧ fs.length = ks.length
  | [], _ => ⟨[], .nil, rfl⟩
  | k :: ks, hk => by
    obtain ⟨f, hf⟩ := hk k List.mem_cons_self
    obtain ⟨fs, h1, h2⟩ := tups_of fun x hx => hk x (List.mem_cons_of_mem _ hx)
    exact ⟨f :: fs, .cons hf h1, by rw [List.length_cons, List.length_cons, h2]⟩
theorem zip_fst {α β : Type} : ∀ {l : List α} {m : List β}, l.length = m.length → (l.zip m).map (·.1) = l
  | [], [], _ => rfl
  | x :: l, y :: m, h => by rw [List.zip_cons_cons, List.map_cons, zip_fst (by simpa using h)]
theorem zip_snd {α β : Type} : ∀ {l : List α} {m : List β}, l.length = m.length → (l.zip m).map (·.2) = m
  | [], [], _ => rfl
  | x :: l, y :: m, h => by rw [List.zip_cons_cons, List.map_cons, zip_snd (by simpa using h)]
theorem lam_end {a kS : Addr} {vs keys : List Value} {e e1 : Nat} {P : PySem.Fin → Shared → Prop} (nk : s.heap.get? kS = some (seqObj "list" keys.toArray e)) (na : s.heap.get? a = some (seqObj "list" #[] e1)) (hka : kS ≠ a) (hl : keys.length = vs.length) (hz : vs.length ≤ sizeLine) (hg : ∀ p ∈ keys.zip vs, Good s.heap p)
    (h : ∀ out : List Value, Srtd (fun x y => ltLT (tv x) (tv y)) out → out.Perm vs → P (.done (.ret .none)) { s with heap := (s.heap.update kS (Obj.mapSeq fun _ => #[])).update a (Obj.mapSeq fun _ => out.toArray) }) :
    wpAny (model prog w) A (ksk_end a false vs.toArray e1 (.ref kS) keys.toArray) P E s := by
  have ez : (keys.toArray.zip vs.toArray).toList = keys.zip vs := by rw [ksk_zip]
  have na1 : (s.heap.update kS (Obj.mapSeq fun _ => (#[] : Array Value))).get? a = some (seqObj "list" #[] e1) := ((Heap.SameBut.update s.heap kS (Obj.mapSeq fun _ => (#[] : Array Value))).2 a hka.symm).trans na
  have fin : ∀ st' : SortSt, Srtd ltK (arrOf st').toList → (arrOf st').toList.Perm (keys.zip vs) → failedOf st' = none → wpAny (model prog w) A (ksk_tail a false e1 (.ref kS) st') P E s := by
    intro st' h1 h2 hf
    have hlen : ((arrOf st').map (·.2)).size = vs.length := by
      have := h2.length_eq
      rw [Array.length_toList, List.length_zip, hl, Nat.min_self] at this
      rw [Array.size_map, this]
    have hr := h ((arrOf st').map (·.2)).toList (by
      rw [Array.toList_map]
      exact List.pairwise_map.mpr h1) (by
      rw [Array.toList_map]
      have := h2.map (fun p : Keyed => p.2)
      rw [zip_snd hl] at this
      exact this)
    rw [Array.toArray_toList] at hr
    unfold ksk_tail
    dsimp only
    refine wpAny_bind (listUpdate_at nk rfl ?_ (by rw [List.size_toArray, hl]; exact hz) (Nat.zero_le _))
    refine wpAny_bind (wpAny_letGo ?_)
    refine wpAny_bind (seqEpoch_at na1 rfl ?_)
    refine wpAny_bind (listUpdate_at na1 rfl ?_ (Nat.zero_le _) (Nat.le_trans (Nat.le_of_eq hlen) (by omega)))
    rw [hf]
    simp only [bne_self_eq_false, Bool.false_eq_true, if_false]
    exact wpAny_pure hr
  unfold ksk_end
  dsimp only
  simp only [Bool.false_eq_true, if_false]
  by_cases h2 : vs.toArray.size < 2
  · rw [if_pos h2, if_pos h2]
    refine wpAny_bind (wpAny_pure ?_)
    rw [StateT.run_pure]
    refine wpAny_bind (wpAny_pure ?_)
    dsimp only
    refine fin (SortSt.mk' general' (keys.toArray.zip vs.toArray) #[] 7 none) ?_ (by show (keys.toArray.zip vs.toArray).toList.Perm _; rw [ez]) rfl
    show Srtd ltK (keys.toArray.zip vs.toArray).toList
    rw [ez]
    have hlz : (keys.zip vs).length < 2 := by
      rw [List.length_zip, hl, Nat.min_self]
      rw [List.size_toArray] at h2
      exact h2
    match keys.zip vs, hlz with
    | [], _ => exact List.Pairwise.nil
    | [v], _ => exact List.pairwise_singleton _ _
    | _ :: _ :: _, z => exact absurd z (by simp)
  · rw [if_neg h2, if_neg h2]
    rw [List.size_toArray] at h2
    obtain ⟨fs, t1, t2⟩ := tups_of (h := s.heap) (shape := fun i => i == 1) (ks := keys) fun k hk => by
      rw [← zip_fst hl] at hk
      obtain ⟨p, hp, rfl⟩ := List.mem_map.mp hk
      obtain ⟨l, t, t1, t2, ad, o, n, e2, e1, ho, hc, hd⟩ := hg p hp
      exact ⟨.int (l.length : Int) t1, ad, o, _, n, e1, ho, hc, hd, rfl, fun _ => ⟨_, _, rfl⟩, fun z => absurd z (by decide)⟩
    refine wpAny_bind (tup_kind (by omega) t1 ?_)
    refine wpAny_bind (wpAny_mono (wpS_sortO (st0 := SortSt.mk' (tuples' true) (keys.toArray.zip vs.toArray) #[] 7 none)
      (Q := fun _ st' => Srtd ltK (arrOf st').toList ∧ Stb ltK (arrOf st').toList (keys.zip vs) ∧ failedOf st' = none) swoK good_cmp rfl (fun p hp => hg p (by
        have hp' : p ∈ (keys.toArray.zip vs.toArray).toList := hp
        rw [ez] at hp'
        exact hp')) rfl rfl fun st' a1 a2 a3 => ⟨a1, by
        have a2' : Stb ltK (arrOf st').toList (keys.toArray.zip vs.toArray).toList := a2
        rw [ez] at a2'
        exact a2', a3⟩) ?_ fun _ _ e => e)
    rintro ⟨⟨⟩, st'⟩ s' ⟨rfl, hp1, hp2, hf⟩
    dsimp only
    exact fin st' hp1 hp2.perm hf
end
end SrtO
namespace WP
open PySem PySem.Spec PyProof.Rows L2 Evl SrtO
open SX (S S_len S_cat S_inj S_tl)
/-! ### the one list sorted by length, then signs -/
def insL (x : List Nat) : List (List Nat) → List (List Nat)
  | [] => [x]
  | y :: r => if ltLT y x = true then y :: insL x r else x :: y :: r
def srtL : List (List Nat) → List (List Nat)
  | [] => []
  | x :: r => insL x (srtL r)
theorem insL_perm (x : List Nat) : ∀ l, (insL x l).Perm (x :: l)
  | [] => .refl _
  | y :: r => by
    unfold insL
    split
    · exact ((insL_perm x r).cons y).trans (List.Perm.swap x y r)
    · exact .refl _
theorem srtL_perm : ∀ l, (srtL l).Perm l
  | [] => .refl _
  | x :: r => (insL_perm x (srtL r)).trans ((srtL_perm r).cons x)
theorem insL_up (x : List Nat) : ∀ l, Srtd ltLT l → Srtd ltLT (insL x l)
  | [], _ => List.pairwise_singleton _ _
  | y :: r, h => by
    unfold insL
    have hy := List.pairwise_cons.mp h
    split
    · rename_i c
      refine List.pairwise_cons.mpr ⟨fun z hz => ?_, insL_up x r hy.2⟩
      rcases List.mem_cons.mp ((insL_perm x r).mem_iff.mp hz) with e | e
      · rw [e]
        exact swo_LT.asym _ _ c
      · exact hy.1 z e
    · rename_i c
      have c' : ltLT y x = false := by simpa using c
      refine List.pairwise_cons.mpr ⟨fun z hz => ?_, h⟩
      rcases List.mem_cons.mp hz with e | e
      · rw [e]; exact c'
      · exact swo_LT.tr _ _ _ c' (hy.1 z e)
theorem srtL_up : ∀ l, Srtd ltLT (srtL l)
  | [] => List.Pairwise.nil
  | x :: r => insL_up x _ (srtL_up r)
theorem ltLT_tot {a b : List Nat} (h1 : ltLT a b = false) (h2 : ltLT b a = false) : a = b := by
  rw [ltLT_no] at h1 h2
  have l1 : ¬ a.length < b.length := fun z => h1 (.inl z)
  have l2 : ¬ b.length < a.length := fun z => h2 (.inl z)
  exact List.le_antisymm (List.not_lt.mp fun z => h2 (.inr ⟨by omega, z⟩)) (List.not_lt.mp fun z => h1 (.inr ⟨by omega, z⟩))
theorem upL_uniq : ∀ {l m : List (List Nat)}, Srtd ltLT l → Srtd ltLT m → l.Perm m → l = m
  | [], m, _, _, p => (List.Perm.eq_nil p.symm).symm
  | x :: l, [], _, _, p => absurd p.length_eq (by simp)
  | x :: l, y :: m, hl, hm, p => by
    have a := List.pairwise_cons.mp hl
    have b := List.pairwise_cons.mp hm
    have h1 : x = y := by
      refine ltLT_tot ?_ ?_
      · rcases List.mem_cons.mp (p.mem_iff.mp (List.mem_cons_self (a := x) (l := l))) with e | e
        · rw [e]; exact swo_LT.refl y
        · exact b.1 x e
      · rcases List.mem_cons.mp (p.mem_iff.mpr (List.mem_cons_self (a := y) (l := m))) with e | e
        · rw [e]; exact swo_LT.refl x
        · exact a.1 y e
    subst h1
    rw [upL_uniq a.2 b.2 p.cons_inv]
theorem srtL_of {l m : List (List Nat)} (p : l.Perm m) (h : Srtd ltLT l) : l = srtL m := upL_uniq h (srtL_up m) (p.trans (srtL_perm m).symm)
theorem srtL_mem {l : List (List Nat)} {x : List Nat} : x ∈ srtL l ↔ x ∈ l := (srtL_perm l).mem_iff
theorem srtL_len (l : List (List Nat)) : (srtL l).length = l.length := (srtL_perm l).length_eq
theorem lam_out {vs out : List Value} {xs : List (List Nat)} (hI : StrsAre vs (xs.map S)) (hs : Srtd (fun x y => ltLT (tv x) (tv y)) out) (hb : out.Perm vs) : Vals ((srtL xs).map vS) out := by
  have hm : ∀ v ∈ out, ∃ x t, v = Value.str x t := fun v hv => SrtO.txt_mem hI v (hb.mem_iff.mp hv)
  have h1 := SrtO.txt_back hm
  have e1 : out.map SrtO.tv = srtL xs := by
    refine srtL_of ?_ (List.pairwise_map.mpr hs)
    have q := hb.map SrtO.tv
    rw [SrtO.txt_tv hI, List.map_map] at q
    have e : (xs.map ((fun x : Str => x.cps.toList) ∘ S)) = xs := by
      have : ((fun x : Str => x.cps.toList) ∘ S) = (id : List Nat → List Nat) := rfl
      rw [this, List.map_id]
    rw [e] at q
    exact q
  have h2 := vals_of_strs h1
  have e2 : (out.map fun v => (⟨(SrtO.tv v).toArray⟩ : Str)).map V.str = (srtL xs).map vS := by
    rw [← e1, List.map_map, List.map_map]
    rfl
  rw [e2] at h2
  exact h2
/-! ### the sort -/
/-- the list that is emptied while it is sorted -/
def Emp (a : Addr) (e : Nat) : HO := .ext fun h => h.get? a = some (seqObj "list" #[] e)
theorem emp_ok {P : Program} {w : World} {H : Hp} {h : Heap} {a : Addr} {e : Nat} (q : h.get? a = some (seqObj "list" #[] e)) : ObjOk P w H h a (Emp a e) := ⟨q, ⟨_, q⟩, fun h1 h2 p k => k _ p⟩
section
variable {X : Cx} {pins : List (Addr × Obj)} {σ : L2.St} {f c' : Addr} {nm qual x : Str} {params : Arguments} {body : Expr} {scope : Scope} {pm ctv : Value}
/-- what is known of the lambda at a state -/
structure LamAt (X : Cx) (f c' : Addr) (nm qual : Str) (params : Arguments) (body : Expr) (scope : Scope) (pm ctv : Value) (H : Hp) (s : Shared) : Prop where
  obj : s.heap.get? f = some (PySem.W.kla_obj nm qual params body scope [] pm c' ctv)
  no : H f = none
  fr : f ∉ frs X.stack
  code : H c' = some (LamX.CodeO c' qual)
def tKey : TE := tTup (tCons (tCB rLenStr (tCons (tVar 0) tNil)) (tCons (tVar 0) tNil))
theorem lam_key {A : Around} {E : Value → Shared → Prop} {H : Hp} {s : Shared} {l : List Nat} {u : Value} {k : Nat} (I : Inv X pins σ H s) (L : LamAt X f c' nm qual params body scope pm ctv H s) (fr : A.frames = X.A.frames) (hr : Room (k + 1) A) (Sc : FnScope [x] [x] scope)
    (hb : ∀ u, bindArgs (PySem.W.kla_fn nm qual params body scope [] pm (.ref c') ctv) ⟨[u], []⟩ = pure [(x, u)]) (r : RelV (vS l) u) (hl : l.length ≤ 1000000)
    (hbody : ∀ A s H, PE (cxOf (L2.CX X.prog X.w) X.prog X.w X.K X.mg X.base [x] qual scope f (.ref c') A X.stack s H (fun _ _ _ => False)) body tKey) :
    wpAny (model X.prog X.w) A (call (.ref f) [u]) (fun r s' => ∃ p, r = .ref p ∧ H p = none ∧ Inv X pins σ (upd H p (.tup [.int (l.length : Int), vS l])) s' ∧ LamAt X f c' nm qual params body scope pm ctv (upd H p (.tup [.int (l.length : Int), vS l])) s') E s := by
  obtain ⟨⟨oc, vs, t, hoc, hdc, hvc⟩, _, _⟩ := I.hok c' _ L.code
  refine wpAny_mono (lam_call (Q := fun v H' => ∃ p, v = .ref p ∧ H p = none ∧ H' = upd H p (.tup [.int (l.length : Int), vS l])) (tb := tKey) I fr hr L.obj ⟨c', oc, vs, t, rfl, hoc, hdc, hvc⟩ Sc (hb u) r (hbody A s H) ?_) (fun r s' hq => ?_) fun _ _ e => e
  · refine ⟨vS l, rfl, S l, rfl, by rw [S_len]; exact Nat.le_trans hl (by decide), vS l, rfl, by show 2 ≤ sizeLine; decide, fun p hp => ⟨p, rfl, hp, by rw [S_len]⟩⟩
  · obtain ⟨v, H', os, bare, un, hok, rv, p, rfl, hp, rfl⟩ := hq
    obtain rfl : r = Value.ref p := rv
    have J := I.after (Q := fun v H' => H' = upd H p (.tup [.int (l.length : Int), vS l]) ∧ v = .ref p) ⟨.ref p, _, os, bare, un, hok, rfl, rfl, rfl⟩
    obtain ⟨v2, H2, J2, _, e2, _⟩ := J
    rw [e2] at J2
    exact ⟨p, rfl, hp, J2, ⟨un.keep f _ L.obj L.no L.fr (by simp), un.free f _ L.obj L.no (by simp), L.fr, by rw [upd_ne (ne_of_none L.code hp)]; exact L.code⟩⟩
/-- the keys made so far -/
def KeysAt (xs : List (List Nat)) (ks : List Addr) (H : Hp) : Prop := ∀ (j : Nat) (l : List Nat) (p : Addr), xs[j]? = some l → ks[j]? = some p → H p = some (.tup [.int (l.length : Int), vS l])
theorem lam_rest {A : Around} {E : Value → Shared → Prop} {H : Hp} {s : Shared} {xs : List (List Nat)} {vs : List Value} {k : Nat} {a kS : Addr} {e1 : Nat} {P : PySem.Fin → Shared → Prop} (I : Inv X pins σ H s) (L : LamAt X f c' nm qual params body scope pm ctv H s) (fr : A.frames = X.A.frames) (hr : Room (k + 1) A) (Sc : FnScope [x] [x] scope)
    (hb : ∀ u, bindArgs (PySem.W.kla_fn nm qual params body scope [] pm (.ref c') ctv) ⟨[u], []⟩ = pure [(x, u)])
    (hbody : ∀ A s H, PE (cxOf (L2.CX X.prog X.w) X.prog X.w X.K X.mg X.base [x] qual scope f (.ref c') A X.stack s H (fun _ _ _ => False)) body tKey)
    (rv : Vals (xs.map vS) vs) (hx : ∀ l ∈ xs, l.length ≤ 1000000) (hz : xs.length ≤ 16000000) (ha : H a = some (Emp a e1)) (hk : H kS = some (.lst []))
    (h : ∀ H2 s2, Inv X pins σ H2 s2 → (∀ b o, H b = some o → b ≠ kS → b ≠ a → H2 b = some o) → H2 a = some (.lst ((srtL xs).map vS)) → P (.done (.ret .none)) s2) :
    wpAny (model X.prog X.w) A (ksk_rest a (.ref f) false vs.toArray e1 (.ref kS)) P E s := by
  have hlen : vs.length = xs.length := by rw [← rv.length, List.length_map]
  have hka : kS ≠ a := fun z => by
    rw [z, ha] at hk
    cases hk
  unfold ksk_rest
  refine wpAny_bind (wpAny_rule ?_)
  first
    | rw [List.forIn_toArray]
    | (rw [← Array.forIn_toList]; simp only [List.toList_toArray])
    | rw [← Array.forIn_toList]
  refine wpAny_bind (ksk_fold (fun i s' => ∃ H' ks, Inv X pins σ H' s' ∧ LamAt X f c' nm qual params body scope pm ctv H' s' ∧ (∀ b o, H b = some o → b ≠ kS → H' b = some o) ∧ H' kS = some (.lst (ks.map V.ref)) ∧ ks.length = i ∧ KeysAt xs ks H') vs 0 s
    ⟨H, [], I, L, fun b o q _ => q, hk, rfl, fun j l p _ q => by cases q⟩ ?step ?done)
  case step =>
    rintro j v s' hv ⟨H', ks, J, L', ext, hks, hkl, hK⟩
    rw [Nat.zero_add] at hkl ⊢
    have hj : j < xs.length := by rw [← hlen]; exact (List.getElem?_eq_some_iff.mp hv).1
    obtain ⟨l, hl⟩ : ∃ l, xs[j]? = some l := ⟨_, List.getElem?_eq_getElem hj⟩
    have hr' : RelV (vS l) v := by
      obtain ⟨w, ew, rw'⟩ := rv.get (i := j) (x := vS l) (by rw [List.getElem?_map, hl]; rfl)
      rw [hv] at ew
      cases ew
      exact rw'
    refine wpAny_bind (wpAny_attempt (wpAny_mono (lam_key J L' fr hr Sc hb hr' (hx l (List.mem_of_getElem? hl)) hbody) (fun r s2 he => ?_) fun _ _ e => e))
    · obtain ⟨p, rfl, hp, J2, L2'⟩ := he
      dsimp only
      have hks2 : upd H' p (.tup [.int (l.length : Int), vS l]) kS = some (.lst (ks.map V.ref)) := by rw [upd_ne (ne_of_none hks hp)]; exact hks
      obtain ⟨z, its, n, rks, eln, hob⟩ := J2.lstM hks2
      rw [List.length_map] at eln
      obtain ⟨n2, hob2⟩ : ∃ n2, (s2.heap.update kS (Obj.mapSeq (·.push (.ref p)))).get? kS = some (seqObj "list" (its.toArray.push (.ref p)) n2) := ⟨_, get?_update_seq hob (·.push (.ref p))⟩
      refine wpAny_bind (listUpdate_at hob rfl ?_ (by rw [List.size_toArray, ← eln, hkl]; exact Nat.le_trans (Nat.le_of_lt hj) (Nat.le_trans hz (by decide))) (by rw [Array.size_push, List.size_toArray, ← eln, hkl]; exact Nat.succ_le_succ (Nat.le_trans (Nat.le_of_lt hj) (Nat.le_trans hz (by decide)))))
      refine wpAny_pure ⟨rfl, upd (upd H' p (.tup [.int (l.length : Int), vS l])) kS (.lst ((ks ++ [p]).map V.ref)), ks ++ [p], ?_, ?_, fun b o q nb => ?_, upd_same, by rw [List.length_append, hkl]; rfl, fun i l' p' h1 h2 => ?_⟩
      · refine J2.write (x := kS) (e := kS) (t' := s2.toks) (by rw [hks2]; trivial) (.inl rfl) (fun b u nb q => by rw [Heap.get?_update_ne _ _ _ _ nb]; exact q) ⟨_, hob2⟩ ⟨by rw [List.length_map, List.length_append, hkl]; exact Nat.le_trans hj (Nat.le_trans hz (by decide)), its ++ [.ref p], n2, ?_, by rw [hob2]; simp⟩
        rw [List.map_append]
        exact rks.append (.cons rfl .nil)
      · refine ⟨?_, ?_, L'.fr, ?_⟩
        · show (s2.heap.update kS _).get? f = _
          rw [Heap.get?_update_ne _ _ _ _ (fun z => by have q := L2'.no; rw [z, hks2] at q; cases q)]
          exact L2'.obj
        · rw [upd_ne (fun z => by have q := L2'.no; rw [z, hks2] at q; cases q)]
          exact L2'.no
        · rw [upd_ne (fun z => by have q := L2'.code; rw [z, hks2] at q; cases q)]
          exact L2'.code
      · rw [upd_ne nb, upd_ne (ne_of_none (ext b o q nb) hp)]
        exact ext b o q nb
      · have hne : ∀ q, H' q = some (.tup [.int (l'.length : Int), vS l']) → upd (upd H' p (.tup [.int (l.length : Int), vS l])) kS (.lst ((ks ++ [p]).map V.ref)) q = some (.tup [.int (l'.length : Int), vS l']) := fun q hq => by
          rw [upd_ne (fun z => by rw [z, hks] at hq; cases hq), upd_ne (ne_of_none hq hp)]
          exact hq
        by_cases c : i < ks.length
        · rw [List.getElem?_append_left c] at h2
          exact hne _ (hK i l' p' h1 h2)
        · rw [List.getElem?_append_right (by omega)] at h2
          have hi0 : i - ks.length = 0 := by
            cases q : i - ks.length with
            | zero => rfl
            | succ m => rw [q] at h2; cases h2
          rw [hi0] at h2
          cases h2
          have : i = j := by omega
          subst this
          rw [hl] at h1
          cases h1
          rw [upd_ne (fun z => by rw [z, hks] at hp; cases hp), upd_same]
  case done =>
    rintro s' ⟨H', ks, J, L', ext, hks, hkl, hK⟩
    rw [Nat.zero_add, hlen] at hkl
    obtain ⟨z, its, n, rks, eln, hob⟩ := J.lstM hks
    rw [List.length_map] at eln
    have ha' : H' a = some (Emp a e1) := ext a _ ha (Ne.symm hka)
    obtain ⟨hae, _, _⟩ := J.hok a _ ha'
    refine wpAny_bind (listItems_at hob rfl ?_)
    refine lam_end (s := s') (keys := its) hob hae hka (by rw [← eln, hkl, hlen]) (by rw [hlen]; exact Nat.le_trans hz (by decide)) (fun p hp => ?_) fun out h1 h2 => ?_
    · obtain ⟨i, hi⟩ := List.getElem?_of_mem hp
      rw [List.getElem?_zip_eq_some] at hi
      obtain ⟨q1, q2⟩ := hi
      have hix : i < xs.length := by rw [← hlen]; exact (List.getElem?_eq_some_iff.mp q2).1
      have hl := List.getElem?_eq_getElem hix
      have hp := List.getElem?_eq_getElem (l := ks) (i := i) (by omega)
      have hT := hK i _ _ hl hp
      obtain ⟨w, ew, rw1⟩ := rks.get (i := i) (x := V.ref ks[i]) (by rw [List.getElem?_map, hp]; rfl)
      rw [q1] at ew
      have ew' := Option.some.inj ew
      obtain ⟨w2, ew2, rw2⟩ := rv.get (i := i) (x := vS xs[i]) (by rw [List.getElem?_map, hl]; rfl)
      rw [q2] at ew2
      have ew2' := Option.some.inj ew2
      obtain ⟨_, its2, r2, ob, ho, hc, n2, hd⟩ := J.hok _ _ hT
      obtain ⟨u1, u2, rfl, ri, rj⟩ := vals2 r2
      obtain ⟨t1, rfl⟩ := ri
      obtain ⟨t2, rfl⟩ := rj
      obtain ⟨t3, e3⟩ := rw2
      rw [← ew2'] at e3
      rw [← ew'] at rw1
      exact ⟨S xs[i], t3, t1, t2, ks[i], ob, n2, e3, rw1, ho, hc, by rw [hd, S_len]⟩
    · have hI := strs_S rv
      have hv := lam_out hI h1 h2
      have J1 : Inv X pins σ (upd H' kS (.lst [])) { s' with heap := s'.heap.update kS (Obj.mapSeq fun _ => #[]), toks := s'.toks } := by
        obtain ⟨n2, hob2⟩ : ∃ n2, (s'.heap.update kS (Obj.mapSeq fun _ => (#[] : Array Value))).get? kS = some (seqObj "list" #[] n2) := ⟨_, get?_update_seq hob fun _ => #[]⟩
        exact J.write (x := kS) (e := kS) (t' := s'.toks) (by rw [hks]; trivial) (.inl rfl) (fun b u nb q => by rw [Heap.get?_update_ne _ _ _ _ nb]; exact q) ⟨_, hob2⟩ ⟨Nat.zero_le _, [], n2, .nil, hob2⟩
      have ha1 : upd H' kS (.lst []) a = some (Emp a e1) := by rw [upd_ne (Ne.symm hka)]; exact ha'
      obtain ⟨hae1, _, _⟩ := J1.hok a _ ha1
      obtain ⟨n3, hob3⟩ : ∃ n3, ((s'.heap.update kS (Obj.mapSeq fun _ => (#[] : Array Value))).update a (Obj.mapSeq fun _ => out.toArray)).get? a = some (seqObj "list" out.toArray n3) := ⟨_, get?_update_seq hae1 fun _ => out.toArray⟩
      refine h (upd (upd H' kS (.lst [])) a (.lst ((srtL xs).map vS))) _ (J1.write (x := a) (e := a) (t' := s'.toks) (by rw [ha1]; trivial) (.inl rfl) (fun b u nb q => by rw [Heap.get?_update_ne _ _ _ _ nb]; exact q) ⟨_, hob3⟩ ⟨by rw [List.length_map, srtL_len]; exact Nat.le_trans hz (by decide), out, n3, hv, hob3⟩) (fun b o q nb na => by rw [upd_ne na, upd_ne nb]; exact ext b o q nb) upd_same
theorem lam_sorted {A : Around} {E : Value → Shared → Prop} {H : Hp} {s : Shared} {xs : List (List Nat)} {k : Nat} {l : Addr} {Q : VK} (I : Inv X pins σ H s) (L : LamAt X f c' nm qual params body scope pm ctv H s) (fr : A.frames = X.A.frames) (hr : Room (k + 3) A) (Sc : FnScope [x] [x] scope)
    (hb : ∀ u, bindArgs (PySem.W.kla_fn nm qual params body scope [] pm (.ref c') ctv) ⟨[u], []⟩ = pure [(x, u)])
    (hbody : ∀ A s H, PE (cxOf (L2.CX X.prog X.w) X.prog X.w X.K X.mg X.base [x] qual scope f (.ref c') A X.stack s H (fun _ _ _ => False)) body tKey)
    (hs : SqL X.K H l (xs.map vS)) (hx : ∀ l ∈ xs, l.length ≤ 1000000) (hz : xs.length ≤ 16000000) (q : RetL ((srtL xs).map vS) H Q) :
    wpAny (model X.prog X.w) A (call (.builtin "sorted") [.ref l] [(Str.ofString "key", .ref f)]) (EP X pins σ Q) E s := by
  obtain ⟨vs, rv, pl, hzl⟩ := I.list hs
  have hl := pl.isList
  have hlen : vs.length = xs.length := by rw [← rv.length, List.length_map]
  have hZ : vs.length ≤ sizeLine := by rw [hlen]; exact Nat.le_trans hz (by decide)
  refine call_function_entry_kw kind_sorted plain_sorted entry_sorted (ksk_s1 _ _) ?_
  unfold Builtin.«sorted»
  refine wpAny_bind (m := checkCount "sorted" 1 1 _) (wpAny_pure ?_)
  refine wpAny_bind (collect_list hl ?_ hZ)
  refine wpAny_bind (wpAny_newList ?_ hZ)
  have hsz : ((s.heap.push (seqObj "list" #[] 0)).update s.heap.objs.size (Obj.mapSeq (· ++ vs.toArray))).objs.size = s.heap.objs.size + 1 := by
    rw [Heap.size_update, size_push']
  have hoL : (((s.heap.push (seqObj "list" #[] 0)).update s.heap.objs.size (Obj.mapSeq (· ++ vs.toArray))).push (seqObj "list" vs.toArray 0)).get? (s.heap.objs.size + 1) = some (seqObj "list" vs.toArray 0) := by
    rw [← hsz]; exact Heap.get?_push_size _ rfl
  have keep : ∀ b o, s.heap.get? b = some o → (((s.heap.push (seqObj "list" #[] 0)).update s.heap.objs.size (Obj.mapSeq (· ++ vs.toArray))).push (seqObj "list" vs.toArray 0)).get? b = some o := fun b o q => by
    have hlt : b < s.heap.objs.size := Heap.lt_size q
    rw [Heap.get?_push_ne _ _ _ (by rw [hsz]; exact Nat.ne_of_lt (Nat.lt_succ_of_lt hlt)), Heap.get?_update_ne _ _ _ _ (Nat.ne_of_lt hlt), Heap.get?_push_ne _ _ _ (Nat.ne_of_lt hlt)]
    exact q
  show wpAny _ _ _ _ _ { s with heap := ((s.heap.push (seqObj "list" #[] 0)).update s.heap.objs.size (Obj.mapSeq (· ++ vs.toArray))).push (seqObj "list" vs.toArray 0) }
  rw [hsz]
  generalize hh : ((s.heap.push (seqObj "list" #[] 0)).update s.heap.objs.size (Obj.mapSeq (· ++ vs.toArray))).push (seqObj "list" vs.toArray 0) = h1 at hoL keep ⊢
  have hsz1 : h1.objs.size = s.heap.objs.size + 2 := by rw [← hh, size_push', hsz]
  clear hh hsz
  refine wpAny_bind (wpAny_holding (wpAny_call_entry_kw slot_list_sort ⟨_, hoL, rfl⟩ entry_list_sort ?_ (ksk_l1 _ _)))
  rw [ksk_t1]
  unfold ksk_tree
  have hlt : s.heap.objs.size < s.heap.objs.size + 1 := Nat.lt_succ_self _
  obtain ⟨e1, ho1⟩ : ∃ e1, (h1.update (s.heap.objs.size + 1) (Obj.mapSeq fun _ => (#[] : Array Value))).get? (s.heap.objs.size + 1) = some (seqObj "list" #[] e1) := ⟨_, get?_update_seq hoL fun _ => #[]⟩
  refine wpAny_bind (listItems_at hoL rfl ?_)
  refine wpAny_bind (listUpdate_at hoL rfl ?_ (by rw [List.size_toArray]; exact hZ) (Nat.zero_le _))
  refine wpAny_bind (seqEpoch_at ho1 rfl ?_)
  refine wpAny_bind (wpAny_newTuple ?_ (by show vs.length ≤ _; exact hZ))
  refine wpAny_bind (wpAny_newList ?_ (Nat.zero_le _))
  refine wpAny_holding ?_
  have hs2 : ((h1.update (s.heap.objs.size + 1) (Obj.mapSeq fun _ => (#[] : Array Value))).push (seqObj "tuple" vs.toArray 0)).objs.size = s.heap.objs.size + 3 := by rw [size_push', Heap.size_update, hsz1]
  have keep2 : ∀ b o, s.heap.get? b = some o → ((h1.update (s.heap.objs.size + 1) (Obj.mapSeq fun _ => (#[] : Array Value))).push (seqObj "tuple" vs.toArray 0)).get? b = some o := fun b o q => by
    have hlt : b < s.heap.objs.size := Heap.lt_size q
    refine Heap.get?_push_of_some _ ?_
    rw [Heap.get?_update_ne _ _ _ _ (Nat.ne_of_lt (Nat.lt_succ_of_lt hlt))]
    exact keep b o q
  have hoE : ((h1.update (s.heap.objs.size + 1) (Obj.mapSeq fun _ => (#[] : Array Value))).push (seqObj "tuple" vs.toArray 0)).get? (s.heap.objs.size + 1) = some (seqObj "list" #[] e1) := Heap.get?_push_of_some _ ho1
  have nA : H (s.heap.objs.size + 1) = none := I.hok.fresh (Nat.le_succ _)
  have nK : H (s.heap.objs.size + 3) = none := I.hok.fresh (by omega)
  have I1 : Inv X pins σ (upd H (s.heap.objs.size + 1) (Emp (s.heap.objs.size + 1) e1)) { s with heap := (h1.update (s.heap.objs.size + 1) (Obj.mapSeq fun _ => (#[] : Array Value))).push (seqObj "tuple" vs.toArray 0), toks := s.toks } :=
    I.laid keep2 (Nat.le_succ _) (emp_ok hoE)
  have I2 := I1.laid (a := s.heap.objs.size + 3) (o := .lst []) (t' := s.toks) (h' := ((h1.update (s.heap.objs.size + 1) (Obj.mapSeq fun _ => (#[] : Array Value))).push (seqObj "tuple" vs.toArray 0)).push (seqObj "list" #[] 0)) (fun b u q => Heap.get?_push_of_some _ q) (by show _ ≤ _; rw [hs2]; exact Nat.le_refl _) ⟨Nat.zero_le _, [], 0, .nil, by rw [← hs2]; exact Heap.get?_push_size _ rfl⟩
  show wpAny _ _ (ksk_rest _ _ _ _ _ (.ref ((h1.update (s.heap.objs.size + 1) (Obj.mapSeq fun _ => (#[] : Array Value))).push (seqObj "tuple" vs.toArray 0)).objs.size)) _ _ { s with heap := ((h1.update (s.heap.objs.size + 1) (Obj.mapSeq fun _ => (#[] : Array Value))).push (seqObj "tuple" vs.toArray 0)).push (seqObj "list" #[] 0) }
  rw [hs2]
  refine lam_rest I2 ⟨Heap.get?_push_of_some _ (keep2 _ _ L.obj), ?_, L.fr, ?_⟩ fr hr.in1.in1 Sc hb hbody rv hx hz (by rw [upd_ne (Nat.ne_of_lt (Nat.lt_of_lt_of_le (Nat.lt_succ_self _) (Nat.le_succ _))), upd_same]) upd_same fun H2 s2 J ext hres => ⟨.none, rfl, wpAny_pure ⟨_, rfl, .ref (s.heap.objs.size + 1), H2, J, rfl, ?_⟩⟩
  · have hf := Heap.lt_size L.obj
    rw [upd_ne (Nat.ne_of_lt (Nat.lt_of_lt_of_le hf (Nat.le_add_right _ 3))), upd_ne (Nat.ne_of_lt (Nat.lt_of_lt_of_le hf (Nat.le_add_right _ 1)))]
    exact L.no
  · rw [upd_ne (ne_of_none L.code nK), upd_ne (ne_of_none L.code nA)]
    exact L.code
  · refine q (s.heap.objs.size + 1) H2 nA (fun b o hb => ext b o ?_ (ne_of_none hb nK) (ne_of_none hb nA)) hres
    rw [upd_ne (ne_of_none hb nK), upd_ne (ne_of_none hb nA)]
    exact hb
end
end WP
namespace WP
open PySem PySem.Spec PyProof.Rows L2 Evl SrtO
open SX (S S_len S_cat S_inj S_tl)
open LamX (Tabs TabB TabS ExtN CodeO)
/-- sorted(e, key=lambda x: (len(x), x)) -/
def tSortLam (K : PySem.W.Frag) (T : List (Addr × Str)) (te : TE) : TE := fun σ H Q => te σ H fun v H1 => ∃ (a : Addr) (xs : List (List Nat)), v = .ref a ∧ SqL K H1 a (xs.map vS) ∧ (∀ l ∈ xs, l.length ≤ 1000000) ∧ xs.length ≤ 16000000 ∧ Tabs T H1 ∧ ∀ H2, ExtN H1 H2 → Tabs T H2 → RetL ((srtL xs).map vS) H2 Q
theorem sq_extN {K : PySem.W.Frag} {H H' : Hp} {a : Addr} {xs : List V} (e : ExtN H H') (h : SqL K H a xs) : SqL K H' a xs := by
  rcases h with (h | ⟨o, h⟩) | h
  · exact .inl (.inl (e _ _ h (by intro ps z; cases z)))
  · exact .inl (.inr ⟨o, e _ _ h (by intro ps z; cases z)⟩)
  · exact .inr h
section
variable {X : Cx}
theorem pe_sortLam {T : List (Addr × Str)} {c P : Addr} {x : Str} {params : Arguments} {body : Expr} {scope : Scope} {p lpos kpos pos : Pos} {e : Expr} {te : TE} {k : Nat} (hr : Room (k + 3) X.A) (hg : Gl X "sorted") (hm : X.mg "sorted" = none)
    (TB : TabB X.base X.mg c P) (hcode : X.env.code = .ref c) (hmT : (P, X.env.qual ++ "<lambda>") ∈ T) (hu : ∀ p ∈ T, p.1 = P → p.2 = X.env.qual ++ "<lambda>") (Sc : FnScope [x] [x] scope)
    (hb : ∀ (q : Str) (pm cv ctv u : Value), bindArgs (PySem.W.kla_fn "<lambda>" q params body scope [] pm cv ctv) ⟨[u], []⟩ = pure [(x, u)])
    (hbody : ∀ (f c' : Addr) (A : Around) (s : Shared) (H : Hp), PE (cxOf (L2.CX X.prog X.w) X.prog X.w X.K X.mg X.base [x] (X.env.qual ++ "<lambda>") scope f (.ref c') A X.stack s H (fun _ _ _ => False)) body tKey)
    (ha : PE X e te) (hdef : defaultsOf params X.env = ([], []) := by rfl) (hclo : cloFrom X.env.cells scope.names [] = [] := by rfl)
    (he : backTo pos (starEach [e] X.env) = (false, eval e X.env) :: backTo pos (starEach [] X.env) := by rfl) (hpl : (backTo pos (starEach [e] X.env)).any (·.1) = false := by rfl) (na : starEach [e] X.env = (false, eval e X.env) :: starEach [] X.env := by rfl) :
    PE X (.Call (.Name "sorted" p) [e] [⟨some "key", .Lambda params body scope lpos, kpos⟩] pos) (tSortLam X.K T te) := by
  refine ⟨fun pins s σ H Q I h => ?_⟩
  refine wpAny_Call_Name_kw (ld_blt I hg hm PyProof.Rows.boot_sorted ?_)
  refine PyProof.Rows.callWith_kw ?_ he hpl
  rw [he]
  refine Calls.spliced_cons (thn (ha.run pins s σ H _ I h) fun u s1 ⟨v, H1, I1, r1, a, xs, ev, hs, hx, hz, hT, q⟩ => ?_)
  subst ev
  obtain rfl : u = Value.ref a := r1
  refine Calls.spliced_nil ?_
  show wpAny _ _ (evalAll ((do let v ← eval (.Lambda params body scope lpos) X.env; standAt pos; pure v) :: [])) _ _ s1
  refine wpAny_evalAll_cons (wpAny_bind (LamX.lam_make2 I1 TB hcode hmT hu hT hdef (fun y hy e => absurd e (Sc.nofree y hy)) fun f c' pm ctv H2 s2 I2 eN T2 hf hfn hfr hco => wpAny_bind (wpAny_standAt (wpAny_pure ?_))))
  refine wpAny_evalAll_nil ?_
  rw [hclo] at hf
  exact lam_sorted I2 ⟨hf, hfn, hfr, hco⟩ rfl hr Sc (fun u => hb _ _ _ _ u) (fun A s H => hbody f c' A s H) (sq_extN eN hs) hx hz (q H2 eN T2)
end
end WP
/-! ### sets of texts -/
namespace WP
open PySem PySem.Spec PyProof.Rows L2 Evl
open PySem.Froz (SD sObj TxOk addTx tailTx)
open SX (S S_len S_cat S_inj S_tl)
/-- the payload holds the texts l and can be walked -/
structure TxR (P : Program) (w : World) (D : SD) (l : List Str) : Prop where
  ok : TxOk P w D l
  ris : Ris D.2.2.place.toList
  led : w.params.followText "set-order" = true ∨ D.2.2.led = true
section
variable {P : Program} {w : World} {A : Around} {E : Value → Shared → Prop} {s : Shared}
theorem tail_ris {ep : Nat} {es1 : Array (Int × Value)} {t2 : SetTable} {wd : Bool} (h : Ris t2.place.toList) : Ris (tailTx ep es1 t2 wd).2.2.place.toList := by
  unfold tailTx
  by_cases c : (!wd && t2.tooFull) = true
  · rw [if_pos c]
    exact relayAll_ris t2 es1 _
  · rw [if_neg c]
    exact h
theorem tail_led {ep : Nat} {es1 : Array (Int × Value)} {t2 : SetTable} {wd : Bool} (h : t2.led = true) : (tailTx ep es1 t2 wd).2.2.led = true := by
  unfold tailTx
  by_cases c : (!wd && t2.tooFull) = true
  · rw [if_pos c]
    exact (relayAll_led t2 es1 _).trans h
  · rw [if_neg c]
    exact h
theorem add_R {D : SD} {l : List Str} {k : Str} (u : Tok) (F : TxR P w D l) : TxR P w (addTx (hashStr w k) (.str k u) D) (k :: l) := by
  obtain ⟨es, ep, t⟩ := D
  refine ⟨PySem.Froz.add_ok u F.ok, tail_ris ?_, F.led.imp id fun z => tail_led ?_⟩
  · have hr := layNew_ris t es (hashStr w k) (.str k u) F.ris
    show Ris (if (layNew t es (hashStr w k) (.str k u)).2.1.plain = true then { (layNew t es (hashStr w k) (.str k u)).2.1 with plain := false } else (layNew t es (hashStr w k) (.str k u)).2.1).place.toList
    by_cases c : (layNew t es (hashStr w k) (.str k u)).2.1.plain = true
    · rw [if_pos c]
      exact hr
    · rw [if_neg c]
      exact hr
  · have hl : (layNew t es (hashStr w k) (.str k u)).2.1.led = true := (layNew_led t es (hashStr w k) (.str k u)).trans z
    show (if (layNew t es (hashStr w k) (.str k u)).2.1.plain = true then { (layNew t es (hashStr w k) (.str k u)).2.1 with plain := false } else (layNew t es (hashStr w k) (.str k u)).2.1).led = true
    by_cases c : (layNew t es (hashStr w k) (.str k u)).2.1.plain = true
    · rw [if_pos c]
      exact hl
    · rw [if_neg c]
      exact hl
theorem add_same {a : Addr} {T : String} {D : SD} {l : List Str} {k : Str} {u : Tok} {Q : Bool → Shared → Prop} (ho : s.heap.get? a = some (sObj T D)) (F : TxOk P w D l) (hk : k ∈ l) (hb : l.length < scanBound)
    (h : Q false s) : wpAny (model P w) A (setAddHashed a (.str k u) (hashStr w k)) Q E s := by
  obtain ⟨es, ep, t⟩ := D
  have hd : (sObj T (es, ep, t)).data = .set es ep t := rfl
  have hf : t.fits es.size = true := F.fit
  have hel : ElemsOf (strKind P w) es.toList := F.el
  have hsz : es.size = l.length := F.sz
  have hb0 : es.size < scanBound := by omega
  have hkey : (strKind P w).is k (.str k u) = true := PySem.Froz.is_str k u
  unfold setAddHashed setAddHashedIn
  refine wpAny_holding (wpAny_bind (wpAny_setState_of ho hd hf ?_))
  dsimp only
  rw [byScan_of rfl hb0 hel]
  simp only [↓reduceIte]
  unfold setAddByScan
  refine wpAny_bind ?_
  refine wpAny_bind (wpAny_rule ?_)
  refine wpAny_bind (wpAny_setScan_of (knd := strKind P w) (k := k) hkey ho hd hf hel ?_)
  cases hr : List.findIdx? (fun e => (strKind P w).is k e.2) es.toList with
  | none =>
    obtain ⟨e, he, q⟩ := (F.mem k).mp hk
    have c := List.findIdx?_eq_none_iff.mp hr e he
    rw [q] at c
    cases c
  | some j =>
    dsimp only
    exact wpAny_pure (wpAny_pure h)
end
/-- the unlike ones -/
def ded (xs : List (List Nat)) : List (List Nat) := xs.foldl (fun acc x => if x ∈ acc then acc else x :: acc) []
theorem ded_snoc (xs : List (List Nat)) (x : List Nat) : ded (xs ++ [x]) = if x ∈ ded xs then ded xs else x :: ded xs := by
  unfold ded
  rw [List.foldl_append]
  rfl
theorem ded_take {xs : List (List Nat)} {i : Nat} {x : List Nat} (h : xs[i]? = some x) : ded (xs.take (i + 1)) = if x ∈ ded (xs.take i) then ded (xs.take i) else x :: ded (xs.take i) := by
  rw [List.take_add_one, h]
  exact ded_snoc _ _
theorem ded_go : ∀ (xs acc : List (List Nat)), acc.Nodup → (xs.foldl (fun acc x => if x ∈ acc then acc else x :: acc) acc).Nodup ∧ (∀ y, y ∈ xs.foldl (fun acc x => if x ∈ acc then acc else x :: acc) acc ↔ y ∈ xs ∨ y ∈ acc) ∧ (xs.foldl (fun acc x => if x ∈ acc then acc else x :: acc) acc).length ≤ xs.length + acc.length
  | [], acc, h => ⟨h, fun y => by simp, by simp⟩
  | x :: xs, acc, h => by
    rw [List.foldl_cons]
    by_cases c : x ∈ acc
    · rw [if_pos c]
      obtain ⟨a1, a2, a3⟩ := ded_go xs acc h
      refine ⟨a1, fun y => ?_, by rw [List.length_cons]; omega⟩
      rw [a2 y, List.mem_cons]
      constructor
      · rintro (q | q)
        · exact .inl (.inr q)
        · exact .inr q
      · rintro ((q | q) | q)
        · exact .inr (by rw [q]; exact c)
        · exact .inl q
        · exact .inr q
    · rw [if_neg c]
      obtain ⟨a1, a2, a3⟩ := ded_go xs (x :: acc) (List.nodup_cons.mpr ⟨c, h⟩)
      refine ⟨a1, fun y => ?_, by rw [List.length_cons] at a3 ⊢; omega⟩
      rw [a2 y, List.mem_cons, List.mem_cons]
      constructor
      · rintro (q | q | q)
        · exact .inl (.inr q)
        · exact .inl (.inl q)
        · exact .inr q
      · rintro ((q | q) | q)
        · exact .inr (.inl q)
        · exact .inl q
        · exact .inr (.inr q)
theorem ded_nd (xs : List (List Nat)) : (ded xs).Nodup := (ded_go xs [] List.nodup_nil).1
theorem ded_mem {xs : List (List Nat)} {y : List Nat} : y ∈ ded xs ↔ y ∈ xs := ((ded_go xs [] List.nodup_nil).2.1 y).trans (by simp)
theorem ded_len (xs : List (List Nat)) : (ded xs).length ≤ xs.length := (ded_go xs [] List.nodup_nil).2.2
theorem mem_mapS {l : List (List Nat)} {x : List Nat} : S x ∈ l.map S ↔ x ∈ l := by
  rw [List.mem_map]
  constructor
  · rintro ⟨y, hy, e⟩
    rw [← S_inj e]
    exact hy
  · intro h
    exact ⟨x, h, rfl⟩
/-- the set of texts at a -/
def SetT (P : Program) (w : World) (h : Heap) (a : Addr) (l : List (List Nat)) : Prop := ∃ D : SD, h.get? a = some (sObj "set" D) ∧ TxR P w D (l.map S)
theorem SetT.at {P : Program} {w : World} {h h' : Heap} {a : Addr} {l : List (List Nat)} (x : SetT P w h a l) (k : ∀ o, h.get? a = some o → h'.get? a = some o) : SetT P w h' a l := by
  obtain ⟨D, h1, h2⟩ := x
  exact ⟨D, k _ h1, h2⟩
section
variable {P : Program} {w : World} {A : Around} {E : Value → Shared → Prop} {s : Shared}
theorem set_update_txs {I : Addr} {fp wr : List Addr} {G : Array GenState → Array GenState → Prop} {n : Nat} {Pv : Nat → Value → Prop} {St : Nat → Shared → Prop} {R : Result → Shared → Prop}
    (W : WalksS P w A.in1 I fp wr G n Pv St) (Z : Addr) (hSf : Z ∉ fp) (ns : List (List Nat)) (hn : n = ns.length) (hb : ns.length + 1 < scanBound) (hval : ∀ i v, Pv i v → ∃ k t, ns[i]? = some k ∧ v = .str (S k) t) :
    ∀ (k i : Nat) (s : Shared), n - i = k → i ≤ n → St i s → SetT P w s.heap Z (ded (ns.take i)) →
      (∀ s', Moved (Z :: wr) G s s' → SetT P w s'.heap Z (ded ns) → R (.ok (.ret .none)) s') →
      codeAny (model P w) A (.builtin "set.update.loop" ⟨[.ref Z, .ref I], []⟩) R s := by
  have hSw : Z ∉ wr := fun h => hSf (W.sub _ h)
  have hsub : ∀ b ∈ wr, b ∈ Z :: wr := fun b hb => List.mem_cons_of_mem _ hb
  intro k
  induction k with
  | zero =>
    intro i s hk' hi hst hS hR
    have hin : i = n := by omega
    subst hin
    refine codeAny_builtin F.entry_set_update_loop ?_
    rw [Around.under_plainId F.plain_set_update_loop _]
    show wpAny _ A.in1 (pyNext (.ref I) >>= _) _ _ s
    refine wpAny_bind (W.done s _ _ hst fun s' hm => ?_)
    show wpAny _ A.in1 (ret Value.none) _ _ s'
    have e : ns.take i = ns := List.take_of_length_le (by omega)
    rw [e] at hS
    exact wpAny_pure (hR s' (hm.mono hsub) (hS.at fun o e => hm.heap Z o hSw e))
  | succ k ih =>
    intro i s hk' hi hst hS hR
    have hlt : i < n := by omega
    refine codeAny_builtin F.entry_set_update_loop ?_
    rw [Around.under_plainId F.plain_set_update_loop _]
    show wpAny _ A.in1 (pyNext (.ref I) >>= _) _ _ s
    refine wpAny_bind (W.item i s _ _ hlt hst fun v s' hP hst' hm => ?_)
    obtain ⟨z, t, hz, rfl⟩ := hval i v hP
    obtain ⟨D, ho, F1⟩ : SetT P w s'.heap Z (ded (ns.take i)) := hS.at fun o e => hm.heap Z o hSw e
    have hdl : (ded (ns.take i)).length ≤ ns.length := Nat.le_trans (ded_len _) (by rw [List.length_take]; omega)
    show wpAny _ A.in1 (holding [Value.str (S z) t] (setAdd Z (.str (S z) t)) >>= _) _ _ s'
    refine wpAny_bind (wpAny_holding ?_)
    unfold setAdd
    refine wpAny_holding ?_
    refine wpAny_bind ((strKind P w).pyHash (k := S z) (PySem.Froz.is_str _ _) ?_)
    have go : ∀ h', Heap.SameBut Z s'.heap h' → SetT P w h' Z (ded (ns.take (i + 1))) → codeAny (model P w) A (.builtin "set.update.loop" ⟨[.ref Z, .ref I], []⟩) R { s' with heap := h', toks := s'.toks + 1 } := fun h' hsb hS3 => by
      refine ih (i + 1) _ (by omega) hlt (W.frame _ s' _ _ hst' (Nat.le_succ _) fun b hb o e => ?_) hS3 fun s'' hm'' hS'' => ?_
      · rw [hsb.2 b (fun h : b = Z => hSf (by rw [← h]; exact hb))]; exact e
      · refine hR s'' (Moved.trans W.gtrans ((hm.mono hsub).then_heap (Nat.le_succ _) fun b o hb e => ?_) hm'') hS''
        rw [hsb.2 b (fun h : b = Z => hb (by rw [h]; exact List.mem_cons_self))]; exact e
    by_cases c : z ∈ ded (ns.take i)
    · refine add_same (s := { s' with toks := s'.toks + 1 }) (l := (ded (ns.take i)).map S) ho F1.ok (mem_mapS.mpr c) (by rw [List.length_map]; omega) ?_
      refine wpAny_pure ⟨plainId_quiet F.plain_set_update_loop _, go s'.heap (Heap.SameBut.refl Z s'.heap) ?_⟩
      rw [ded_take hz, if_pos c]
      exact ⟨D, ho, F1⟩
    · refine PySem.Froz.add_x (s := { s' with toks := s'.toks + 1 }) (l := (ded (ns.take i)).map S) ho F1.ok (fun q => c (mem_mapS.mp q)) (by rw [List.length_map]; omega) ?_
      refine wpAny_pure ⟨plainId_quiet F.plain_set_update_loop _, go _ (Heap.SameBut.update s'.heap Z _) ?_⟩
      rw [ded_take hz, if_neg c]
      exact ⟨_, PySem.Froz.get_upd _ ho rfl, add_R t F1⟩
end
end WP
namespace WP
open PySem PySem.Spec PyProof.Rows L2 Evl
open PySem.Froz (SD sObj TxOk addTx tailTx)
open SX (S S_len S_cat S_inj S_tl)
section
variable {P : Program} {w : World} {A : Around} {E : Value → Shared → Prop} {s : Shared}
theorem setT_new {h : Heap} {a : Addr} (ho : h.get? a = some { cls := .type "set", dict := none, data := .set #[] 0 (.fresh 0 0 (!w.params.followText "set-order")) }) : SetT P w h a [] :=
  ⟨(#[], 0, .fresh 0 0 (!w.params.followText "set-order")), ho, PySem.Froz.TxOk.nil (by rfl), List.Pairwise.nil, by
    show _ ∨ (!w.params.followText "set-order") = true
    cases w.params.followText "set-order"
    · exact .inr rfl
    · exact .inl rfl⟩
theorem call_set_txs {l : Addr} {items : Array Value} (ns : List (List Nat)) {Q : Value → Shared → Prop} (hh : A.handled = none) (hl : s.heap.IsList l items) (hit : StrsAre items.toList (ns.map S)) (hb : ns.length + 1 < scanBound)
    (h : ∀ (h' : Heap) (tk : Nat), SetT P w h' s.heap.objs.size (ded ns) → (∀ b o, s.heap.get? b = some o → h'.get? b = some o) → Q (.ref s.heap.objs.size) { s with heap := h', toks := tk }) :
    wpAny (model P w) A (call (.type "set") [.ref l]) Q E s := by
  have hisz : items.size = ns.length := by
    have q := hit.length
    rw [Array.length_toList, List.length_map] at q
    exact q
  obtain ⟨c, tl, hmro⟩ := F.called_set.mro
  have hmade := F.called_set.made
  have hsub := F.called_set.sub
  refine wpAny_call (codeAny_of_tree ?_)
  show wpAny _ _ (callAny (.type "set") _) _ _ _
  refine wpAny_pure ⟨Code.quiet_builtin _ (by decide +kernel), codeAny_builtin F.entry_type_call ?_⟩
  rw [Around.under_plain (weight_type_call_type "set" [.ref l] []) rfl]
  have h1 := F.called_set.notType
  have h2 := F.called_set.canCreate
  have hct := F.typeCall_set_1 (.ref l)
  repeat (any_goals (first | assumption | wp_step))

  refine codeAny_mono (code_set_led1 (.ref l) (E := E) (Q₁ := fun obj s₁ => obj = .ref s.heap.objs.size ∧ s₁ = { s with heap := s.heap.push { cls := .type "set", dict := none, data := .set #[] 0 (.fresh 0 0 (!w.params.followText "set-order")) } }) ⟨rfl, rfl⟩) fun r s₁ hr => ?_
  cases r with
  | error e => exact hr
  | ok fl =>
    cases fl with
    | ret obj =>
      obtain ⟨rfl, rfl⟩ := hr
      have hS : (s.heap.push { cls := .type "set", dict := none, data := .set #[] 0 (.fresh 0 0 (!w.params.followText "set-order")) }).get? s.heap.objs.size = some { cls := .type "set", dict := none, data := .set #[] 0 (.fresh 0 0 (!w.params.followText "set-order")) } := Heap.get?_push_size _ rfl
      have hT : Shared.TypeIs { s with heap := s.heap.push { cls := .type "set", dict := none, data := .set #[] 0 (.fresh 0 0 (!w.params.followText "set-order")) } } (.ref s.heap.objs.size) "set" := ⟨_, hS, rfl⟩
      have hli := F.called_set.init.lookup
      have hbi := F.called_set.init.bind (.ref s.heap.objs.size)
      repeat (any_goals (first | assumption | wp_step))

      refine codeAny_mono (codeAny_call_builtin (R := wants (fun r s₂ => r = .none ∧ ∃ h' tk, s₂ = { s with heap := h', toks := tk } ∧ SetT P w h' s.heap.objs.size (ded ns) ∧
          (∀ b o, s.heap.get? b = some o → h'.get? b = some o)) E) F.called_set.init.plain F.entry_set_init (check_set_init_1 hT ?_)) fun r₂ s₂ hr₂ => ?_
      · obtain ⟨ol, hol, hcl, nl, hdl⟩ := hl
        obtain ⟨ocls, odict, odata, oslots⟩ := ol
        simp only at hcl hdl
        subst hcl; subst hdl
        have hol' : (s.heap.push { cls := .type "set", dict := none, data := .set #[] 0 (.fresh 0 0 (!w.params.followText "set-order")) }).get? l = some { cls := .type "list", dict := odict, data := .seq items nl, slots := oslots } := Heap.get?_push_of_some _ hol
        have hsls := F.sub_list_set
        have hslf := F.sub_list_frozenset
        have hne : (Value.type "list" == Value.type "dict") = false := by decide
        have hl1 : (s.heap.push { cls := .type "set", dict := none, data := .set #[] 0 (.fresh 0 0 (!w.params.followText "set-order")) }).IsList l items := ⟨_, hol', rfl, nl, rfl⟩
        unfold Builtin.«set.__init__» noKeywords Builtin.Frozenset.updateFrom
        generalize hPI : pyIter = PI
        wp_walk
        subst hPI

        refine wpAny_pyIter_list hl1 ?_
        refine wpAny_bind (wpAny_runValue ?_)
        have hlS : l < s.heap.objs.size := Heap.lt_size hol
        have hh3 : A.in1.in1.in1.handled = none := by simp [hh]
        have hneI : l ≠ (s.heap.push { cls := .type "set", dict := none, data := .set #[] 0 (.fresh 0 0 (!w.params.followText "set-order")) }).objs.size := by
          rw [Heap.size_push]; exact Nat.ne_of_lt (Nat.lt_succ_of_lt hlS)
        have hSf : s.heap.objs.size ∉ [(s.heap.push { cls := .type "set", dict := none, data := .set #[] 0 (.fresh 0 0 (!w.params.followText "set-order")) }).objs.size, l] := by
          rw [Heap.size_push]; simp only [List.mem_cons, List.mem_singleton, List.not_mem_nil, or_false, not_or]
          exact ⟨Nat.ne_of_lt (Nat.lt_succ_self _), Nat.ne_of_gt hlS⟩
        have hval : ∀ (i : Nat) (v : Value), items[i]? = some v → ∃ k t, ns[i]? = some k ∧ v = .str (S k) t := fun i v hv => by
          have hi : i < ns.length := by rw [← hisz]; exact (Array.getElem?_eq_some_iff.mp hv).1
          have hv' : items.toList[i]? = some v := by rw [Array.getElem?_toList]; exact hv
          have vv : Vals ((ns.map S).map V.str) items.toList := vals_of_strs hit
          obtain ⟨u, hu, t, e⟩ := vv.get (i := i) (x := V.str (S ns[i])) (by rw [List.getElem?_map, List.getElem?_map, List.getElem?_eq_getElem hi]; rfl)
          rw [hv'] at hu
          cases hu
          exact ⟨ns[i], t, List.getElem?_eq_getElem hi, e⟩
        refine set_update_txs ((Walks.list hh3 _ l hneI items).toS) s.heap.objs.size
          hSf ns hisz hb hval (items.size - 0) 0 _ (by omega) (Nat.zero_le _)
          ⟨⟨_, Heap.get?_push_size _ rfl, rfl, rfl⟩, (hl1.push _)⟩ ?hS0 ?hR
        case hS0 =>
          have hget : ((s.heap.push { cls := .type "set", dict := none, data := .set #[] 0 (.fresh 0 0 (!w.params.followText "set-order")) }).push { cls := .type "list_iterator", data := .fields #[.ref l, .int 0 0] }).get? s.heap.objs.size
              = some { cls := .type "set", dict := none, data := .set #[] 0 (.fresh 0 0 (!w.params.followText "set-order")) } := Heap.get?_push_of_some _ hS
          exact setT_new hget
        case hR =>
          intro s' hm hS'
          obtain ⟨h', g2, d', tk', os'⟩ := s'
          have eg : g2 = s.gens := hm.gens
          have ed : d' = s.drawn := hm.drawn
          have eo : os' = s.os := hm.os
          subst eg; subst ed; subst eo
          show wpAny _ _ _ _ _ _
          refine wpAny_pure ?_
          show wpAny _ _ (ret Value.none) _ _ _
          refine wpAny_pure ⟨rfl, h', tk', rfl, hS', fun b o e => ?_⟩
          have hb0 : b < s.heap.objs.size := Heap.lt_size e
          have hb1 : b ≠ s.heap.objs.size := Nat.ne_of_lt hb0
          have hb2 : b ≠ (s.heap.push { cls := .type "set", dict := none, data := .set #[] 0 (.fresh 0 0 (!w.params.followText "set-order")) }).objs.size := by
            rw [Heap.size_push]; exact Nat.ne_of_lt (Nat.lt_succ_of_lt hb0)
          exact hm.heap b o (by simp only [List.mem_cons, List.mem_singleton, List.not_mem_nil, or_false, not_or]; exact ⟨hb1, hb2⟩) (Heap.get?_push_of_some _ (Heap.get?_push_of_some _ e))

      · cases r₂ with
        | error e => exact hr₂
        | ok fl₂ =>
          cases fl₂ with
          | ret r =>
            obtain ⟨rfl, h', tk, rfl, hS', hk'⟩ := hr₂
            repeat (any_goals (first | assumption | wp_step))
            exact h _ _ hS' hk'
          | _ => exact hr₂.elim
    | _ => exact hr.elim
end
end WP
namespace WP
open PySem PySem.Spec PyProof.Rows L2 Evl
open PySem.Froz (SD sObj TxOk addTx tailTx)
open SX (S S_len S_cat S_inj S_tl)
theorem perm_of : ∀ {l m : List (List Nat)}, l.Nodup → (∀ x, x ∈ l → x ∈ m) → m.length = l.length → m.Perm l
  | [], m, _, _, h => by
    rw [List.length_nil] at h
    rw [List.length_eq_zero_iff.mp h]
  | x :: l, m, nd, hs, h => by
    have hx : x ∈ m := hs x List.mem_cons_self
    have p := List.perm_cons_erase hx
    have n := List.nodup_cons.mp nd
    refine p.trans (List.Perm.cons x (perm_of n.2 (fun y hy => ?_) ?_))
    · exact (List.mem_erase_of_ne (fun z => n.1 (by rw [← z]; exact hy))).mpr (hs y (List.mem_cons_of_mem _ hy))
    · have := p.length_eq
      rw [List.length_cons] at this h
      omega
section
variable {P : Program} {w : World} {A : Around} {E : Value → Shared → Prop} {s : Shared}
/-- the members of a set, their texts -/
theorem set_strs {D : SD} {l : List (List Nat)} (F : TxOk P w D (l.map S)) (nd : l.Nodup) {vs : List Value} (pm : vs.Perm (D.1.toList.map (·.2))) : ∃ m : List (List Nat), StrsAre vs (m.map S) ∧ m.Perm l := by
  have hm : ∀ v ∈ vs, ∃ x t, v = Value.str x t := fun v hv => by
    obtain ⟨e, he, rfl⟩ := List.mem_map.mp (pm.mem_iff.mp hv)
    obtain ⟨⟨k, hk, _⟩, _⟩ := F.el e he
    obtain ⟨t, et⟩ := Value.isStrOf_shape (x := k) (v := e.2) hk
    exact ⟨k, t, et⟩
  refine ⟨vs.map SrtO.tv, ?_, ?_⟩
  · have h1 := SrtO.txt_back hm
    rw [List.map_map]
    exact h1
  · have hlen : (vs.map SrtO.tv).length = l.length := by
      rw [List.length_map, pm.length_eq, List.length_map, Array.length_toList, F.sz, List.length_map]
    have hsub : ∀ x, x ∈ l → x ∈ vs.map SrtO.tv := fun x hx => by
      obtain ⟨e, he, q⟩ := (F.mem (S x)).mp (mem_mapS.mpr hx)
      obtain ⟨t, et⟩ := Value.isStrOf_shape (x := S x) (v := e.2) q
      refine List.mem_map.mpr ⟨e.2, pm.mem_iff.mpr (List.mem_map.mpr ⟨e, he, rfl⟩), ?_⟩
      rw [et]
      rfl
    exact perm_of nd hsub hlen
end
/-- a set of texts, tracked -/
def TxSet (P : Program) (w : World) (a : Addr) (l : List (List Nat)) : HO := .ext fun h => SetT P w h a l
theorem txSet_ok {P : Program} {w : World} {H : Hp} {h : Heap} {a : Addr} {l : List (List Nat)} (q : SetT P w h a l) : ObjOk P w H h a (TxSet P w a l) := ⟨q, let ⟨D, h1, _⟩ := q; ⟨_, h1⟩, fun h1 h2 p k => SetT.at p k⟩
/-- set(xs), texts -/
def rSetTx (P : Program) (w : World) (K : PySem.W.Frag) : List V → Hp → VK → Prop := fun vs H Q => ∃ (a : Addr) (xs : List (List Nat)), vs = [V.ref a] ∧ SqL K H a (xs.map vS) ∧ xs.length ≤ 2000 ∧ ∀ p, H p = none → Q (.ref p) (upd H p (TxSet P w p (ded xs)))
theorem call_setTx {X : Cx} (hcalm : X.calm = true) : CallR X (.type "set") (rSetTx X.prog X.w X.K) := by
  intro pins s σ H vs us Q I r h
  obtain ⟨a, xs, rfl, hs, hz, q⟩ := h
  obtain ⟨its, rv, hl, _⟩ := I.list hs
  rw [Vals.ref1 r]
  have hi := strs_S rv
  refine call_set_txs xs (I.ok.hd hcalm) hl.isList (by simpa using hi) (Nat.lt_of_le_of_lt (Nat.succ_le_succ hz) (by decide)) fun h' tk hS k => ?_
  exact ⟨.ref s.heap.objs.size, upd H s.heap.objs.size (TxSet X.prog X.w s.heap.objs.size (ded xs)), I.laid (t' := tk) k (Nat.le_refl _) (txSet_ok hS), rfl, q _ (I.hok.fresh (Nat.le_refl _))⟩
/-- sorted(set of texts) -/
def rSortedSet (P : Program) (w : World) : List V → Hp → VK → Prop := fun vs H Q => ∃ (a : Addr) (l : List (List Nat)), vs = [V.ref a] ∧ H a = some (TxSet P w a l) ∧ l.Nodup ∧ l.length ≤ 2000 ∧ ∀ p, H p = none → Q (.ref p) (upd H p (.lst ((srt l).map vS)))
theorem cr_sortedSet {X : Cx} (hcalm : X.calm = true) : CallR X (.builtin "sorted") (rSortedSet X.prog X.w) := by
  intro pins s σ H vs us Q I r h
  obtain ⟨a, l, rfl, hH, nd, hz, q⟩ := h
  rw [Vals.ref1 r]
  obtain ⟨⟨D, ho, F1⟩, _, _⟩ := I.hok a _ hH
  have hsz : D.1.size = l.length := by rw [F1.ok.sz, List.length_map]
  refine Calls.call_function_entry kind_sorted plain_sorted entry_sorted (args_sorted1 _) ?_
  unfold Builtin.«sorted»
  refine wpAny_bind (m := checkCount "sorted" 1 1 _) (wpAny_pure ?_)
  refine wpAny_bind (collect_set (A := X.A.in1) (es := D.1) (ep := D.2.1) (t := D.2.2) (I.ok.hd hcalm) ⟨_, ho, rfl, rfl⟩ F1.ok.fit (by rw [hsz]; exact Nat.lt_of_le_of_lt hz (by decide)) F1.ris F1.led fun s1 vs k1 hz1 g1 o1 pm => ?_)
  obtain ⟨m, hS, pml⟩ := set_strs F1.ok nd pm
  have hvl : vs.length = l.length := by rw [pm.length_eq, List.length_map, Array.length_toList, hsz]
  have hz2 : vs.length ≤ sizeLine := by rw [hvl]; exact Nat.le_trans hz (by decide)
  have I1 : Inv X pins σ H s1 := I.call' (ch := []) o1 (Un.kept k1) (I.hok.kept k1) (by rw [g1]; exact I.bare) (fun b z => absurd z (by simp))
  refine wpAny_bind (wpAny_newList ?_ hz2)
  have hoL : (s1.heap.push (seqObj "list" vs.toArray 0)).get? s1.heap.objs.size = some (seqObj "list" vs.toArray 0) := Heap.get?_push_size _ rfl
  refine wpAny_bind (wpAny_holding (wpAny_call_entry PyProof.Rows.slot_list_sort ⟨_, hoL, rfl⟩ PyProof.Rows.entry_list_sort
    (SrtO.list_sort_ord (s := { s1 with heap := s1.heap.push (seqObj "list" vs.toArray 0) }) SrtO.swo_txt hoL hz2 (fun h2 => SrtO.txt_sortable hS h2) fun out h1 h2 => ⟨_, rfl, ?_⟩)
    (PyProof.Rows.args_list_sort _)))
  have k2 := txt_out hS h1 h2
  have em : srt m = srt l := up_uniq (srt_up m) (srt_up l) ((srt_perm m).trans (pml.trans (srt_perm l).symm))
  rw [em] at k2
  obtain ⟨e', he'⟩ := PyProof.Rows.sortedHeap_at (vs := vs) (out := out.toArray) hoL
  have hlen : ((srt l).map vS).length ≤ sizeLine := by
    rw [List.length_map, srt_len]
    exact Nat.le_trans hz (by decide)
  refine wpAny_pure ⟨_, rfl, .ref s1.heap.objs.size, upd H s1.heap.objs.size (.lst ((srt l).map vS)), I1.laid (t' := s1.toks) (fun b u e => ?_) (Nat.le_refl _)
    (show ObjOk X.prog X.w _ _ _ (.lst ((srt l).map vS)) from ⟨hlen, out, e', k2, he'⟩), rfl, q _ (I1.hok.fresh (Nat.le_refl _))⟩
  have hb : b < s1.heap.objs.size := Heap.lt_size e
  rw [PyProof.Rows.sortedHeap_old (Nat.ne_of_lt hb) (by rw [size_push']; exact Nat.lt_succ_of_lt hb)]
  exact Heap.get?_push_of_some _ e
/-- sorted(set(xs)) -/
def sset (xs : List (List Nat)) : List (List Nat) := srt (ded xs)
theorem sset_mem {xs : List (List Nat)} {y : List Nat} : y ∈ sset xs ↔ y ∈ xs := srt_mem.trans ded_mem
theorem sset_nd (xs : List (List Nat)) : (sset xs).Nodup := (srt_perm _).nodup_iff.mpr (ded_nd xs)
theorem sset_len (xs : List (List Nat)) : (sset xs).length ≤ xs.length := by
  unfold sset
  rw [srt_len]
  exact ded_len xs
section
variable {P : Program} {w : World} {K : PySem.W.Frag} {σ : L2.St} {H : Hp} {ta : TE}
theorem el_sset {xs : List (List Nat)} (h : EvL ta σ H (xs.map vS)) (hz : xs.length ≤ 2000) : EvL (tCB (rSortedSet P w) (tCons (tCB (rSetTx P w K) (tCons ta tNil)) tNil)) σ H ((sset xs).map vS) := fun H1 e Q q =>
  h H1 e _ fun a H2 _ e2 ha => ⟨a, xs, rfl, sq_of ha, hz, fun p hp => ⟨p, ded xs, rfl, upd_same, ded_nd xs, Nat.le_trans (ded_len xs) hz, fun l hl => q l _ (fresh_back (e2.trans (Ex.new hp)) hl) ((e2.trans (Ex.new hp)).trans (Ex.new hl)) upd_same⟩⟩
end
end WP
/-! ### zip of two texts -/
namespace WP
open PySem PySem.Spec PyProof.Rows L2 Evl
open SX (S S_len S_cat S_inj S_tl)
abbrev asc : String := "str_ascii_iterator"
section
variable {prog : Program} {w : World} {A : Around} {E : Value → Shared → Prop} {s : Shared}
theorem nextOf_asc_item {it : Addr} {x : Str} {t : Tok} {i c : Nat} {Q : Value → Shared → Prop} (hit : s.heap.IsStrIter it asc x t i) (hx : x.cps[i]? = some c)
    (hQ : ∀ h' u tk, h'.IsStrIter it asc x t (i + 1) → Heap.SameBut it s.heap h' → Q (.str ⟨#[c]⟩ u) { s with heap := h', toks := tk }) :
    wpAny (model prog w) A (Builtin.SmallTypes.nextOf (.ref it)) Q E s := by
  obtain ⟨o, ho, hc, hd⟩ := id hit
  unfold Builtin.SmallTypes.nextOf
  refine wpAny_bind (wpAny_callSpecial?_slot (name := Str.ofString "__next__") hit.typeIs F.slot_str_ascii_iterator_next
    (wpAny_call_entry F.slot_str_ascii_iterator_next hit.typeIs F.entry_str_ascii_iterator_next ?_ (F.args_str_ascii_iterator_next_1 _)))
  show wpAny _ _ (field (.ref it) 0 >>= _) _ _ s
  refine wpAny_bind (wpAny_field ho hd (x := .str x t) rfl ?_)
  show wpAny _ _ (field (.ref it) 1 >>= _) _ _ s
  refine wpAny_bind (wpAny_field ho hd (x := .int i 0) rfl ?_)
  simp only [Int.toNat_natCast, hx]
  refine wpAny_bind (wpAny_setField ho hd (by simp) (wpAny_bind (wpAny_mkStr (wpAny_pure ⟨_, rfl, wpAny_pure (hQ _ _ _ ?_ (Heap.SameBut.update ..))⟩) (by show 1 ≤ sizeLine; decide))))
  exact ⟨_, Heap.get?_update_self _ ho (Obj.isFreed_of_fields (Obj.data_mapFields hd _)), (Obj.cls_mapFields ..).trans hc, by
    rw [Obj.data_mapFields hd]; simp [rawInt]⟩
theorem nextOf_asc_end {it : Addr} {x : Str} {t : Tok} {i : Nat} {Q : Value → Shared → Prop} (hh : A.handled = none) (hit : s.heap.IsStrIter it asc x t i) (hx : x.cps[i]? = none)
    (hE : ∀ h' e, Heap.ExtBut it s.heap h' → (∃ o, h'.get? e = some o ∧ o.cls = .type "StopIteration") → E (.ref e) { s with heap := h' }) :
    wpAny (model prog w) A (Builtin.SmallTypes.nextOf (.ref it)) Q E s := by
  obtain ⟨o, ho, hc, hd⟩ := id hit
  unfold Builtin.SmallTypes.nextOf
  refine wpAny_bind (wpAny_callSpecial?_slot (name := Str.ofString "__next__") hit.typeIs F.slot_str_ascii_iterator_next
    (wpAny_call_entry F.slot_str_ascii_iterator_next hit.typeIs F.entry_str_ascii_iterator_next ?_ (F.args_str_ascii_iterator_next_1 _)))
  show wpAny _ _ (field (.ref it) 0 >>= _) _ _ s
  refine wpAny_bind (wpAny_field ho hd (x := .str x t) rfl ?_)
  show wpAny _ _ (field (.ref it) 1 >>= _) _ _ s
  refine wpAny_bind (wpAny_field ho hd (x := .int i 0) rfl ?_)
  simp only [Int.toNat_natCast, hx]
  refine wpAny_bind (wpAny_rule (wpAny_bind (wpAny_setField ho hd (by simp) (wpAny_bind (wpAny_letGo ?_)))))
  show wpAny _ _ (newExc (.type "StopIteration") [] >>= _) _ _ _
  refine wpAny_bind ?_
  simp only [newExc, newTuple]
  refine wpAny_bind (wpAny_newObj_type ?_ (by size_fits))
  refine wpAny_bind (m := firstArgMember _ _) (wpAny_of_eq (a := Value.none) (by first | rfl | (simp only [firstArgMember]; rfl)) ?_)
  refine wpAny_newObj_type ?_ (by size_fits)
  simp only [raiseNew]
  refine wpAny_bind (wpAny_handled ?_)
  first | rw [show A.in1.handled = none from hh] | rw [hh]
  refine wpAny_bind (wpAny_pure (wpAny_throw ?_))
  exact hE _ _ (((Heap.SameBut.update ..).extBut.push _).push _) ⟨_, Heap.get?_push_size _ rfl, rfl⟩
theorem IsStrIter.at' {h h' : Heap} {a : Addr} {ty : String} {x : Str} {t : Tok} {i : Nat} (y : h.IsStrIter a ty x t i) (k : ∀ o, h.get? a = some o → h'.get? a = some o) : h'.IsStrIter a ty x t i :=
  let ⟨o, ho, r⟩ := y; ⟨o, k o ho, r⟩
theorem zipS_next_item {z TI TO i1 i2 l1 l2 : Addr} {k1 k2 c1' c2' : Nat} {X Y : Str} {tx ty : Tok} {a b : Value} {Q : Value → Shared → Prop} (D : ZipApart z TI TO i1 i2 l1 l2)
    (hz : IsZip s.heap z TI TO .none) (hTI : IsPair s.heap TI (.ref i1) (.ref i2)) (hTO : IsPair s.heap TO a b)
    (h1 : s.heap.IsStrIter i1 asc X tx k1) (h2 : s.heap.IsStrIter i2 asc Y ty k2) (hx : X.cps[k1]? = some c1') (hy : Y.cps[k2]? = some c2')
    (hQ : ∀ h' u1 u2 tk, IsZip h' z TI TO (rawInt s.heap.objs.size) → IsPair h' TO (.str ⟨#[c1']⟩ u1) (.str ⟨#[c2']⟩ u2) → h'.IsStrIter i1 asc X tx (k1 + 1) → h'.IsStrIter i2 asc Y ty (k2 + 1) → IsPair h' s.heap.objs.size (.str ⟨#[c1']⟩ u1) (.str ⟨#[c2']⟩ u2) → h'.objs.size = s.heap.objs.size + 1 →
      (∀ c o, c ≠ z → c ≠ TO → c ≠ i1 → c ≠ i2 → s.heap.get? c = some o → h'.get? c = some o) → Q (.ref s.heap.objs.size) { s with heap := h', toks := tk }) :
    wpAny (model prog w) A (Builtin.«zip.__next__» ⟨[.ref z], []⟩) (fun fin s' => ∃ v, fin = .done (.ret v) ∧ Q v s') E s := by
  show wpAny _ _ (field (.ref z) 2 >>= _) _ _ _
  refine wpAny_bind (wpAny_field hz rfl (x := .bool false) rfl ?_)
  show wpAny _ _ (field (.ref z) 3 >>= _) _ _ _
  refine wpAny_bind (wpAny_field hz rfl (x := .ref TI) rfl ?_)
  refine wpAny_bind (wpAny_seqItems hTI rfl ?_)
  show wpAny _ _ (Builtin.SmallTypes.ownedTupleIsFree (.ref z) >>= _) _ _ _
  refine wpAny_bind ?_
  unfold Builtin.SmallTypes.ownedTupleIsFree
  refine wpAny_bind (wpAny_field hz rfl (x := .none) rfl (wpAny_pure ?_))
  simp only [if_true]
  refine wpAny_bind (wpAny_rule ?_)
  refine wpAny_bind (wpAny_field hz rfl (x := .ref TO) rfl ?_)
  refine wpAny_bind (wpAny_setField_rec hz (by simp) fun h₁ hz₁ hs₁ => ?_)
  replace hz₁ : IsZip h₁ z TI TO .ellipsis := hz₁
  refine wpAny_bind ?_
  simp only [List.zipIdx_cons, List.zipIdx_nil, List.forIn_cons, List.forIn_nil]
  refine wpAny_bind (wpAny_bind (wpAny_onRaise ?_))
  show wpAny _ _ (Builtin.SmallTypes.nextOf (.ref i1) >>= _) _ _ _
  refine wpAny_bind (nextOf_asc_item (h1.extBut hs₁.extBut D.i1z) hx fun h₂ u1 tk2 h1₂ hs₂ => wpAny_pure ?_)
  have hTO₂ : IsPair h₂ TO a b := hs₂.extBut _ _ D.TOi1 (hs₁.extBut _ _ D.TOz hTO)
  refine wpAny_bind (wpAny_seqItems hTO₂ rfl ?_)
  refine wpAny_bind (wpAny_updateSeq_pair hTO₂ fun h₃ hTO₃ hs₃ => ?_)
  replace hTO₃ : IsPair h₃ TO (.str ⟨#[c1']⟩ u1) b := hTO₃
  refine wpAny_bind (wpAny_letGo (wpAny_pure ?_))
  refine wpAny_bind (wpAny_bind (wpAny_onRaise ?_))
  show wpAny _ _ (Builtin.SmallTypes.nextOf (.ref i2) >>= _) _ _ _
  refine wpAny_bind (nextOf_asc_item (((h2.extBut hs₁.extBut D.i2z).extBut hs₂.extBut D.i12.symm).extBut hs₃.extBut D.TOi2.symm) hy fun h₄ u2 tk4 h2₄ hs₄ => wpAny_pure ?_)
  have hTO₄ : IsPair h₄ TO (.str ⟨#[c1']⟩ u1) b := hs₄.extBut _ _ D.TOi2 hTO₃
  refine wpAny_bind (wpAny_seqItems hTO₄ rfl ?_)
  refine wpAny_bind (wpAny_updateSeq_pair hTO₄ fun h₅ hTO₅ hs₅ => ?_)
  replace hTO₅ : IsPair h₅ TO (.str ⟨#[c1']⟩ u1) (.str ⟨#[c2']⟩ u2) := hTO₅
  refine wpAny_bind (wpAny_letGo (wpAny_pure (wpAny_pure ?_)))
  refine wpAny_bind (wpAny_seqItems hTO₅ rfl ?_)
  refine wpAny_bind (wpAny_newTuple ?_)
  have hsz : h₅.objs.size = s.heap.objs.size := by rw [hs₅.1, hs₄.1, hs₃.1, hs₂.1, hs₁.1]
  have hz₅ : IsZip h₅ z TI TO .ellipsis := hs₅.extBut _ _ D.TOz.symm (hs₄.extBut _ _ D.i2z.symm (hs₃.extBut _ _ D.TOz.symm (hs₂.extBut _ _ D.i1z.symm hz₁)))
  have hk₅ : ∀ c o, c ≠ z → c ≠ TO → c ≠ i1 → c ≠ i2 → s.heap.get? c = some o → h₅.get? c = some o := fun c o c1 c2 c3 c4 e =>
    hs₅.extBut _ _ c2 (hs₄.extBut _ _ c4 (hs₃.extBut _ _ c2 (hs₂.extBut _ _ c3 (hs₁.extBut _ _ c1 e))))
  have h1₅ : h₅.IsStrIter i1 asc X tx (k1 + 1) := ((h1₂.extBut hs₃.extBut D.TOi1.symm).extBut hs₄.extBut D.i12).extBut hs₅.extBut D.TOi1.symm
  have h2₅ : h₅.IsStrIter i2 asc Y ty (k2 + 1) := h2₄.extBut hs₅.extBut D.TOi2.symm
  have hzlt : z < h₅.objs.size := Heap.lt_size hz₅
  show wpAny _ _ (Builtin.SmallTypes.ownedTupleHandOut (.ref z) (.ref h₅.objs.size) >>= _) _ _ _
  refine wpAny_bind ?_
  unfold Builtin.SmallTypes.ownedTupleHandOut
  have hz₆ : IsZip (h₅.push { cls := .type "tuple", data := .seq #[.str ⟨#[c1']⟩ u1, .str ⟨#[c2']⟩ u2] }) z TI TO .ellipsis := Heap.get?_push_of_some _ hz₅
  refine wpAny_bind (wpAny_setField_rec hz₆ (by simp) fun h₇ hz₇ hs₇ => ?_)
  replace hz₇ : IsZip h₇ z TI TO (rawInt h₅.objs.size) := hz₇
  refine wpAny_setField_rec hz₇ (by simp) fun h₈ hz₈ hs₈ => ?_
  replace hz₈ : IsZip h₈ z TI TO (rawInt h₅.objs.size) := hz₈
  have up : ∀ c o, c ≠ z → h₅.get? c = some o → h₈.get? c = some o := fun c o c1 e => hs₈.extBut _ _ c1 (hs₇.extBut _ _ c1 (Heap.get?_push_of_some _ e))
  have hT₈ : IsPair h₈ h₅.objs.size (.str ⟨#[c1']⟩ u1) (.str ⟨#[c2']⟩ u2) := hs₈.extBut _ _ (Nat.ne_of_gt hzlt) (hs₇.extBut _ _ (Nat.ne_of_gt hzlt) (Heap.get?_push_size _ rfl))
  have hz8 : h₈.objs.size = h₅.objs.size + 1 := by rw [hs₈.1, hs₇.1, Heap.size_push]
  rw [hsz] at hz₈ hT₈ hz8
  refine wpAny_pure ⟨_, rfl, ?_⟩
  show Q (.ref h₅.objs.size) _
  rw [hsz]
  exact hQ h₈ u1 u2 _ hz₈ (up _ _ D.TOz hTO₅) (IsStrIter.at' h1₅ fun o e => up _ o D.i1z e) (IsStrIter.at' h2₅ fun o e => up _ o D.i2z e) hT₈ hz8 fun c o c1 c2 c3 c4 e => up c o c1 (hk₅ c o c1 c2 c3 c4 e)
theorem zipS_next_end {z TI TO i1 i2 l1 l2 : Addr} {k1 k2 : Nat} {X Y : Str} {tx ty : Tok} {a b : Value} {Q : Fin → Shared → Prop} (hh : A.handled = none) (D : ZipApart z TI TO i1 i2 l1 l2)
    (hz : IsZip s.heap z TI TO .none) (hTI : IsPair s.heap TI (.ref i1) (.ref i2)) (hTO : IsPair s.heap TO a b)
    (h1 : s.heap.IsStrIter i1 asc X tx k1) (h2 : s.heap.IsStrIter i2 asc Y ty k2) (hend : X.cps[k1]? = none ∨ Y.cps[k2]? = none)
    (hE : ∀ h' tk e, (∀ c o, c ≠ z → c ≠ TO → c ≠ i1 → c ≠ i2 → s.heap.get? c = some o → h'.get? c = some o) → (∃ o, h'.get? e = some o ∧ o.cls = .type "StopIteration") → E (.ref e) { s with heap := h', toks := tk }) :
    wpAny (model prog w) A (Builtin.«zip.__next__» ⟨[.ref z], []⟩) Q E s := by
  show wpAny _ _ (field (.ref z) 2 >>= _) _ _ _
  refine wpAny_bind (wpAny_field hz rfl (x := .bool false) rfl ?_)
  show wpAny _ _ (field (.ref z) 3 >>= _) _ _ _
  refine wpAny_bind (wpAny_field hz rfl (x := .ref TI) rfl ?_)
  refine wpAny_bind (wpAny_seqItems hTI rfl ?_)
  show wpAny _ _ (Builtin.SmallTypes.ownedTupleIsFree (.ref z) >>= _) _ _ _
  refine wpAny_bind ?_
  unfold Builtin.SmallTypes.ownedTupleIsFree
  refine wpAny_bind (wpAny_field hz rfl (x := .none) rfl (wpAny_pure ?_))
  simp only [if_true]
  refine wpAny_bind (wpAny_rule ?_)
  refine wpAny_bind (wpAny_field hz rfl (x := .ref TO) rfl ?_)
  refine wpAny_bind (wpAny_setField_rec hz (by simp) fun h₁ hz₁ hs₁ => ?_)
  replace hz₁ : IsZip h₁ z TI TO .ellipsis := hz₁
  refine wpAny_bind ?_
  simp only [List.zipIdx_cons, List.zipIdx_nil, List.forIn_cons, List.forIn_nil]
  refine wpAny_bind (wpAny_bind (wpAny_onRaise ?_))
  show wpAny _ _ (Builtin.SmallTypes.nextOf (.ref i1) >>= _) _ _ _
  cases hx : X.cps[k1]? with
  | none =>
    refine wpAny_bind (nextOf_asc_end hh (h1.extBut hs₁.extBut D.i1z) hx fun h₂ e hs₂ he => ?_)
    obtain ⟨oe, hoe, hce⟩ := he
    have hz₂ : IsZip h₂ z TI TO .ellipsis := hs₂ _ _ D.i1z.symm hz₁
    have hez : e ≠ z := fun x => by subst x; rw [hz₂] at hoe; cases hoe; simp at hce
    refine wpAny_setField_rec hz₂ (by simp) fun h₃ _ hs₃ => hE h₃ _ e (fun c o c1 _ c3 _ x => hs₃.extBut _ _ c1 (hs₂ _ _ c3 (hs₁.extBut _ _ c1 x))) ⟨oe, hs₃.extBut _ _ hez hoe, hce⟩
  | some x =>
    have hy : Y.cps[k2]? = none := by rcases hend with h | h; rw [hx] at h; cases h; exact h
    refine wpAny_bind (nextOf_asc_item (h1.extBut hs₁.extBut D.i1z) hx fun h₂ u1 tk2 h1₂ hs₂ => wpAny_pure ?_)
    have hTO₂ : IsPair h₂ TO a b := hs₂.extBut _ _ D.TOi1 (hs₁.extBut _ _ D.TOz hTO)
    refine wpAny_bind (wpAny_seqItems hTO₂ rfl ?_)
    refine wpAny_bind (wpAny_updateSeq_pair hTO₂ fun h₃ hTO₃ hs₃ => ?_)
    refine wpAny_bind (wpAny_letGo (wpAny_pure ?_))
    refine wpAny_bind (wpAny_bind (wpAny_onRaise ?_))
    show wpAny _ _ (Builtin.SmallTypes.nextOf (.ref i2) >>= _) _ _ _
    refine wpAny_bind (nextOf_asc_end hh (((h2.extBut hs₁.extBut D.i2z).extBut hs₂.extBut D.i12.symm).extBut hs₃.extBut D.TOi2.symm) hy fun h₄ e hs₄ he => ?_)
    obtain ⟨oe, hoe, hce⟩ := he
    have hz₄ : IsZip h₄ z TI TO .ellipsis := hs₄ _ _ D.i2z.symm (hs₃.extBut _ _ D.TOz.symm (hs₂.extBut _ _ D.i1z.symm hz₁))
    have hez : e ≠ z := fun x => by subst x; rw [hz₄] at hoe; cases hoe; simp at hce
    refine wpAny_setField_rec hz₄ (by simp) fun h₅ _ hs₅ => hE h₅ _ e (fun c o c1 c2 c3 c4 x => hs₅.extBut _ _ c1 (hs₄ _ _ c4 (hs₃.extBut _ _ c2 (hs₂.extBut _ _ c3 (hs₁.extBut _ _ c1 x))))) ⟨oe, hs₅.extBut _ _ hez hoe, hce⟩
end
end WP
namespace WP
open PySem PySem.Spec PyProof.Rows L2 Evl
open SX (S S_len S_cat S_inj S_tl)
section
variable {prog : Program} {w : World} {A : Around} {E : Value → Shared → Prop} {s : Shared}
theorem pyNext_zipS_item {z TI TO i1 i2 l1 l2 : Addr} {k1 k2 c1' c2' : Nat} {X Y : Str} {tx ty : Tok} {a b : Value} {Q : Option Value → Shared → Prop} (D : ZipApart z TI TO i1 i2 l1 l2)
    (hz : IsZip s.heap z TI TO .none) (hTI : IsPair s.heap TI (.ref i1) (.ref i2)) (hTO : IsPair s.heap TO a b)
    (h1 : s.heap.IsStrIter i1 asc X tx k1) (h2 : s.heap.IsStrIter i2 asc Y ty k2) (hx : X.cps[k1]? = some c1') (hy : Y.cps[k2]? = some c2')
    (hQ : ∀ h' u1 u2 tk, IsZip h' z TI TO (rawInt s.heap.objs.size) → IsPair h' TO (.str ⟨#[c1']⟩ u1) (.str ⟨#[c2']⟩ u2) → h'.IsStrIter i1 asc X tx (k1 + 1) → h'.IsStrIter i2 asc Y ty (k2 + 1) → IsPair h' s.heap.objs.size (.str ⟨#[c1']⟩ u1) (.str ⟨#[c2']⟩ u2) → h'.objs.size = s.heap.objs.size + 1 →
      (∀ c o, c ≠ z → c ≠ TO → c ≠ i1 → c ≠ i2 → s.heap.get? c = some o → h'.get? c = some o) → Q (some (.ref s.heap.objs.size)) { s with heap := h', toks := tk }) :
    wpAny (model prog w) A (pyNext (.ref z)) Q E s := by
  have hT : s.TypeIs (.ref z) "zip" := ⟨_, hz, rfl⟩
  unfold pyNext
  exact wpAny_bind (wpAny_attempt (wpAny_callSpecial?_slot (name := Str.ofString "__next__") hT F.slot_zip_next
    (wpAny_call_entry F.slot_zip_next hT F.entry_zip_next
      (zipS_next_item D hz hTI hTO h1 h2 hx hy fun h' u1 u2 tk a1 a2 a3 a4 a5 a6 a7 => wpAny_pure (hQ h' u1 u2 tk a1 a2 a3 a4 a5 a6 a7)) (F.args_zip_next_1 _))))
theorem pyNext_zipS_end {z TI TO i1 i2 l1 l2 : Addr} {k1 k2 : Nat} {X Y : Str} {tx ty : Tok} {a b : Value} {Q : Option Value → Shared → Prop} (hh : A.handled = none) (D : ZipApart z TI TO i1 i2 l1 l2)
    (hz : IsZip s.heap z TI TO .none) (hTI : IsPair s.heap TI (.ref i1) (.ref i2)) (hTO : IsPair s.heap TO a b)
    (h1 : s.heap.IsStrIter i1 asc X tx k1) (h2 : s.heap.IsStrIter i2 asc Y ty k2) (hend : X.cps[k1]? = none ∨ Y.cps[k2]? = none)
    (hQ : ∀ h' tk, (∀ c o, c ≠ z → c ≠ TO → c ≠ i1 → c ≠ i2 → s.heap.get? c = some o → h'.get? c = some o) → Q none { s with heap := h', toks := tk }) : wpAny (model prog w) A (pyNext (.ref z)) Q E s := by
  have hT : s.TypeIs (.ref z) "zip" := ⟨_, hz, rfl⟩
  unfold pyNext
  refine wpAny_bind (wpAny_attempt (wpAny_callSpecial?_slot (name := Str.ofString "__next__") hT F.slot_zip_next
    (wpAny_call_entry F.slot_zip_next hT F.entry_zip_next (zipS_next_end hh D hz hTI hTO h1 h2 hend fun h' tk e hk he => ?_) (F.args_zip_next_1 _))))
  obtain ⟨o, ho, hc⟩ := he
  refine wpAny_bind (wpAny_isInstance (T := "StopIteration") (b := true) ⟨o, ho, hc⟩ isSubtype_stop ?_)
  exact wpAny_pure (hQ _ _ hk)
end
abbrev zS1 (h : Heap) (x : Str) (t : Tok) : Heap := h.push { cls := .type asc, data := .fields #[.str x t, .int 0 0] }
abbrev zS2 (h : Heap) (x y : Str) (t u : Tok) : Heap := (zS1 h x t).push { cls := .type asc, data := .fields #[.str y u, .int 0 0] }
abbrev zS3 (h : Heap) (x y : Str) (t u : Tok) : Heap := (zS2 h x y t u).push { cls := .type "tuple", data := .seq #[.ref h.objs.size, .ref (zS1 h x t).objs.size] }
abbrev zS4 (h : Heap) (x y : Str) (t u : Tok) : Heap := (zS3 h x y t u).push { cls := .type "tuple", data := .seq #[.none, .none] }
abbrev zS5 (h : Heap) (x y : Str) (t u : Tok) : Heap := (zS4 h x y t u).push { cls := .type "zip", data := .fields #[.none, .bool false, .bool false, .ref (zS2 h x y t u).objs.size, .ref (zS3 h x y t u).objs.size] }
theorem meets_zipS_new (x y : Str) (t u : Tok) (hx : x.cps.all (· < 128) = true) (hy : y.cps.all (· < 128) = true) :
    Meets (Builtin.«zip.__new__» ⟨[.type "zip", .str x t, .str y u], []⟩) (fun _ R s => R (.ok (.ret (.ref (zS4 s.heap x y t u).objs.size))) { s with heap := zS5 s.heap x y t u }) :=
  .of_wp fun prog w A R s h => by
    obtain ⟨hp, g, d, tk, os⟩ := s
    have hsub := sub_zip
    wp_walk using wpAny_pyIter_ascii hx, wpAny_pyIter_ascii hy
    exact ⟨_, rfl, h⟩
section
variable {prog : Program} {w : World} {A : Around} {E : Value → Shared → Prop} {s : Shared}
theorem call_zipS {x y : Str} {t u : Tok} {Q : Value → Shared → Prop} (hx : x.cps.all (· < 128) = true) (hy : y.cps.all (· < 128) = true)
    (h : ∀ h', IsZip h' (s.heap.objs.size + 4) (s.heap.objs.size + 2) (s.heap.objs.size + 3) .none → IsPair h' (s.heap.objs.size + 2) (.ref s.heap.objs.size) (.ref (s.heap.objs.size + 1)) →
      IsPair h' (s.heap.objs.size + 3) .none .none → h'.IsStrIter s.heap.objs.size asc x t 0 → h'.IsStrIter (s.heap.objs.size + 1) asc y u 0 → h'.objs.size = s.heap.objs.size + 5 →
      (∀ c o, s.heap.get? c = some o → h'.get? c = some o) → Q (.ref (s.heap.objs.size + 4)) { s with heap := h' }) :
    wpAny (model prog w) A (call (.type "zip") [.str x t, .str y u]) Q E s := by
  refine callType_new F.called_zip (by decide) (F.typeCall_zip_2 _ _) (F.newCall_zip_2 _ _) (fun obj => F.args_object_init_3 obj _ _) F.entry_zip_new
    (meets_zipS_new x y t u hx hy) ?_
  have z1 : (zS1 s.heap x t).objs.size = s.heap.objs.size + 1 := Heap.size_push ..
  have z2 : (zS2 s.heap x y t u).objs.size = s.heap.objs.size + 2 := by rw [Heap.size_push, z1]
  have z3 : (zS3 s.heap x y t u).objs.size = s.heap.objs.size + 3 := by rw [Heap.size_push, z2]
  have z4 : (zS4 s.heap x y t u).objs.size = s.heap.objs.size + 4 := by rw [Heap.size_push, z3]
  have z5 : (zS5 s.heap x y t u).objs.size = s.heap.objs.size + 5 := by rw [Heap.size_push, z4]
  have g5 : (zS5 s.heap x y t u).get? (zS4 s.heap x y t u).objs.size = some _ := Heap.get?_push_size _ rfl
  have g4 : (zS5 s.heap x y t u).get? (zS3 s.heap x y t u).objs.size = some _ := Heap.get?_push_of_some _ (Heap.get?_push_size _ rfl)
  have g3 : (zS5 s.heap x y t u).get? (zS2 s.heap x y t u).objs.size = some _ := Heap.get?_push_of_some _ (Heap.get?_push_of_some _ (Heap.get?_push_size _ rfl))
  have g2 : (zS5 s.heap x y t u).get? (zS1 s.heap x t).objs.size = some _ := Heap.get?_push_of_some _ (Heap.get?_push_of_some _ (Heap.get?_push_of_some _ (Heap.get?_push_size _ rfl)))
  have g1 : (zS5 s.heap x y t u).get? s.heap.objs.size = some _ := Heap.get?_push_of_some _ (Heap.get?_push_of_some _ (Heap.get?_push_of_some _ (Heap.get?_push_of_some _ (Heap.get?_push_size _ rfl))))
  show _ ∧ _
  rw [z2, z3, z4] at g5
  rw [z1, z2] at g3
  rw [z3] at g4
  rw [z1] at g2
  rw [z4]
  exact ⟨⟨_, g5, rfl⟩, h _ g5 g3 g4 ⟨_, g1, rfl, rfl⟩ ⟨_, g2, rfl, rfl⟩ z5 fun c o x =>
    Heap.get?_push_of_some _ (Heap.get?_push_of_some _ (Heap.get?_push_of_some _ (Heap.get?_push_of_some _ (Heap.get?_push_of_some _ x))))⟩
end
/-- the signs of two texts, in new pairs -/
def ItzS (x y : Str) : It :=
  ⟨fun i _ => i < x.cps.size ∧ i < y.cps.size,
    fun i H v H' => ∃ T c d, v = .ref T ∧ H T = none ∧ H' = upd H T (.tup [.str ⟨#[c]⟩, .str ⟨#[d]⟩]) ∧ x.cps[i]? = some c ∧ y.cps[i]? = some d,
    fun i _ => x.cps.size ≤ i ∨ y.cps.size ≤ i⟩
theorem turn_zipS {P : Program} {w : World} {K : PySem.W.Frag} {elts : List Expr} {kk : Nat} {tpos : Pos} {a b z TI TO i1 i2 : Addr} {x y : Str} {tx ty : Tok} (D : ZipApart z TI TO i1 i2 a b) :
    Turn P w K (.Tuple elts kk tpos) (ItzS x y) [z, TI, TO, i1, i2] z (fun i h => IsZip h z TI TO .none ∧ IsPair h TI (.ref i1) (.ref i2) ∧ (∃ x y, IsPair h TO x y) ∧ h.IsStrIter i1 asc x tx i ∧ h.IsStrIter i2 asc y ty i) where
  mem := by simp
  obj := fun i h st c hc => by
    obtain ⟨hz, hTI, ⟨x, y, hTO⟩, ⟨o1, e1, _, d1⟩, ⟨o2, e2, _, d2⟩⟩ := st
    have e' : c = z ∨ c = TI ∨ c = TO ∨ c = i1 ∨ c = i2 := by simpa using hc
    rcases e' with q | q | q | q | q
    · rw [q]; exact ⟨_, hz, fun v q => nomatch q⟩
    · rw [q]; exact ⟨_, hTI, fun v q => nomatch q⟩
    · rw [q]; exact ⟨_, hTO, fun v q => nomatch q⟩
    · rw [q]; exact ⟨o1, e1, fun v q => by rw [d1] at q; cases q⟩
    · rw [q]; exact ⟨o2, e2, fun v q => by rw [d2] at q; cases q⟩
  keep := fun i h h' st k => by
    obtain ⟨hz, hTI, ⟨x, y, hTO⟩, h1, h2⟩ := st
    exact ⟨k z (by simp) _ hz, k TI (by simp) _ hTI, ⟨x, y, k TO (by simp) _ hTO⟩, IsStrIter.at' h1 fun o q => k i1 (by simp) o q, IsStrIter.at' h2 fun o q => k i2 (by simp) o q⟩
  item := by
    intro X hP hw hK hc i pins s σ H E I hf st hg
    subst hP hw hK
    obtain ⟨hz, hTI, ⟨x0, y0, hTO⟩, h1, h2⟩ := st
    obtain ⟨hgx, hgy⟩ := hg
    have hx : x.cps[i]? = some x.cps[i] := Array.getElem?_eq_getElem hgx
    have hy : y.cps[i]? = some y.cps[i] := Array.getElem?_eq_getElem hgy
    have hzl : z < s.heap.objs.size := Heap.lt_size hz
    refine pyNext_zipS_item D hz hTI hTO h1 h2 hx hy fun h' u1 u2 tk z' TO' h1' h2' hT hsz hk => ?_
    refine ⟨_, rfl, wpAny_letOwnedTupleGo_zip (s := { s with heap := h', toks := tk }) z' fun h'' z'' sb => ?_⟩
    have hT2 : h''.get? s.heap.objs.size = some { cls := .type "tuple", data := .seq #[.str ⟨#[x.cps[i]]⟩ u1, .str ⟨#[y.cps[i]]⟩ u2] } := (sb.2 _ (Nat.ne_of_gt hzl)).trans hT
    have new : ObjOk X.prog X.w (upd H s.heap.objs.size (.tup [.str ⟨#[x.cps[i]]⟩, .str ⟨#[y.cps[i]]⟩])) h'' s.heap.objs.size (.tup [.str ⟨#[x.cps[i]]⟩, .str ⟨#[y.cps[i]]⟩]) :=
      ⟨by show 2 ≤ sizeLine; decide, [.str ⟨#[x.cps[i]]⟩ u1, .str ⟨#[y.cps[i]]⟩ u2], .cons ⟨u1, rfl⟩ (.cons ⟨u2, rfl⟩ .nil), ⟨_, hT2, rfl, _, rfl⟩⟩
    have I1 : Inv X pins σ (upd H s.heap.objs.size (.tup [.str ⟨#[x.cps[i]]⟩, .str ⟨#[y.cps[i]]⟩])) { s with heap := h'', toks := tk } :=
      I.turnedNew (t' := tk) (ch := [z, TI, TO, i1, i2]) (fun c o hb q => (sb.2 c (fun q' => hb (by simp [q']))).trans (hk c o (fun q' => hb (by simp [q'])) (fun q' => hb (by simp [q'])) (fun q' => hb (by simp [q'])) (fun q' => hb (by simp [q'])) q)) hf (Nat.le_refl _) new
    refine ⟨.ref s.heap.objs.size, _, I1, rfl, ⟨_, _, _, rfl, I.hok.fresh (Nat.le_refl _), rfl, hx, hy⟩, ⟨z'', ?_, ⟨.str ⟨#[x.cps[i]]⟩ u1, .str ⟨#[y.cps[i]]⟩ u2, ?_⟩, ?_, ?_⟩, fun c hcm => ?_⟩
    · exact (sb.2 _ D.TIz).trans (hk _ _ D.TIz D.TITO D.TIi1 D.TIi2 hTI)
    · exact (sb.2 _ D.TOz).trans TO'
    · exact IsStrIter.at' h1' fun o q => (sb.2 _ D.i1z).trans q
    · exact IsStrIter.at' h2' fun o q => (sb.2 _ D.i2z).trans q
    · have hlt : c < s.heap.objs.size := by
        have e' : c = z ∨ c = TI ∨ c = TO ∨ c = i1 ∨ c = i2 := by simpa using hcm
        rcases e' with q | q | q | q | q
        · rw [q]; exact hzl
        · rw [q]; exact Heap.lt_size hTI
        · rw [q]; exact Heap.lt_size hTO
        · rw [q]; obtain ⟨_, e1, _⟩ := h1; exact Heap.lt_size e1
        · rw [q]; obtain ⟨_, e2, _⟩ := h2; exact Heap.lt_size e2
      rw [upd_ne (Nat.ne_of_lt hlt)]
      exact (hf c hcm).1
  done := by
    intro X hP hw hK hc i pins s σ H E I hf st hg
    subst hP hw hK
    obtain ⟨hz, hTI, ⟨x0, y0, hTO⟩, h1, h2⟩ := st
    have he : x.cps[i]? = none ∨ y.cps[i]? = none := hg.imp (fun q => Array.getElem?_eq_none q) fun q => Array.getElem?_eq_none q
    exact pyNext_zipS_end (I.ok.hd hc) D hz hTI hTO h1 h2 he fun h' tk hk => ⟨rfl, I.turnedL (t' := tk) (ch := [z, TI, TO, i1, i2]) (fun c o hb q =>
      hk c o (fun q' => hb (by simp [q'])) (fun q' => hb (by simp [q'])) (fun q' => hb (by simp [q'])) (fun q' => hb (by simp [q'])) q) hf⟩
  self := fun A i s Q E st h => wpAny_pyIter_zip st.1 h
def iZipS (ta : TA) : TI := fun σ H R => ta σ H fun vs H1 => ∃ x y : Str, vs = [.str x, .str y] ∧ x.cps.all (· < 128) = true ∧ y.cps.all (· < 128) = true ∧ R (ItzS x y) H1
theorem pi_zipS {X : Cx} {e e2 : Expr} {ta : TA} {p pos tpos : Pos} {elts : List Expr} {kk : Nat} (hg : Gl X "zip") (hm : X.mg "zip" = none) (ha : PA X [e, e2] ta)
    (hs : starEach [e, e2] X.env = (false, eval e X.env) :: starEach [e2] X.env := by rfl) (hpl : (backTo pos (starEach [e2] X.env)).any (·.1) = false := by rfl) :
    PI X (.Tuple elts kk tpos) (.Call (.Name "zip" p) [e, e2] [] pos) (iZipS ta) := by
  refine ⟨fun pins s σ H R I h => ?_⟩
  refine Call_ (ld_blt I hg hm PyProof.Rows.boot_zip (PyProof.Rows.callWith_type1 (thn (ha.run pos pins s σ H _ I h) fun us s1 ⟨vs, H1, I1, r1, q1⟩ => ?_) hs hpl))
  obtain ⟨x, y, rfl, hx, hy, q⟩ := q1
  obtain ⟨u1, u2, rfl, ⟨t, rfl⟩, ⟨u, rfl⟩⟩ := vals2 r1
  have fresh5 : ∀ c, c ∈ [s1.heap.objs.size + 4, s1.heap.objs.size + 2, s1.heap.objs.size + 3, s1.heap.objs.size, s1.heap.objs.size + 1] → FpOk X pins H1 c := fun c hcm => by
    have e' : c = s1.heap.objs.size + 4 ∨ c = s1.heap.objs.size + 2 ∨ c = s1.heap.objs.size + 3 ∨ c = s1.heap.objs.size ∨ c = s1.heap.objs.size + 1 := by simpa using hcm
    have hle : s1.heap.objs.size ≤ c := by
      rcases e' with z | z | z | z | z
      · rw [z]; exact Nat.le_add_right _ _
      · rw [z]; exact Nat.le_add_right _ _
      · rw [z]; exact Nat.le_add_right _ _
      · rw [z]; exact Nat.le_refl _
      · rw [z]; exact Nat.le_add_right _ _
    exact I1.fpOk hle (I1.hok.fresh hle)
  refine call_zipS hx hy fun h' hz hTI hTO h1 h2 hsz hk => wpAny_pyIter_zip hz ?_
  have I2 : Inv X pins σ H1 { s1 with heap := h' } := I1.kept (t' := s1.toks) hk
  have h0 : 0 < s1.heap.objs.size := Nat.lt_of_le_of_lt (Nat.zero_le _) I1.big
  exact ⟨s1.heap.objs.size + 4, [s1.heap.objs.size + 4, s1.heap.objs.size + 2, s1.heap.objs.size + 3, s1.heap.objs.size, s1.heap.objs.size + 1], _, _, H1, rfl, I2, turn_zipS (PySem.W.ktu_apart s1.heap.objs.size 0 0 h0 h0), ⟨hz, hTI, ⟨_, _, hTO⟩, h1, h2⟩, fresh5, q⟩
end WP
namespace WP
open PySem PySem.Spec PyProof.Rows L2 Evl
open SX (S S_len S_cat S_inj S_tl)
theorem walk_zipS {x y : Str} {n : Nat} (hn : n = min x.cps.size y.cps.size) : Walk (ItzS x y) n (fun _ => True) (fun i H v H' => ∃ T c d, v = .ref T ∧ H T = none ∧ H' = upd H T (.tup [.str ⟨#[c]⟩, .str ⟨#[d]⟩]) ∧ x.cps[i]? = some c ∧ y.cps[i]? = some d) := by
  subst hn
  exact ⟨fun i _ hi _ => ⟨by omega, by omega⟩, fun _ _ => by
    rcases Nat.le_total x.cps.size y.cps.size with h | h
    · exact .inl (by rw [Nat.min_eq_left h]; exact Nat.le_refl _)
    · exact .inr (by rw [Nat.min_eq_right h]; exact Nat.le_refl _), fun _ _ _ _ _ _ y => y⟩
section
variable {K : PySem.W.Frag} {σ : L2.St} {H H' : Hp} {ta tb te tx td : TE} {t u : TT}
theorem el_lcZ {ta : TA} {l m : List Nat} {i j : Nat} {vs : List Nat} (v : Nat × Nat → V) (h : EvA ta σ H [vS l, vS m]) (hl : ∀ c ∈ l, c < 128) (hm : ∀ c ∈ m, c < 128) (hz : l.length ≤ 40000) (hw : ∀ x y, wipe (((wipe σ vs).set i (some x)).set j (some y)) vs = wipe σ vs)
    (he : ∀ (p : Nat × Nat) H1, Ex H H1 → p ∈ l.zip m → Ev te (((wipe σ vs).set i (some (vS [p.1]))).set j (some (vS [p.2]))) H1 (v p)) :
    EvL (tLc (iZipS ta) (gTup K 2 (gCons (gName i) (gCons (gName j) gNil))) tYes te vs) σ H ((l.zip m).map v) := fun H0 e Q q => by
  have a1 : (S l).cps.all (· < 128) = true := by
    rw [Array.all_eq_true']
    intro c hc
    exact decide_eq_true (hl c (by simpa using hc))
  have a2 : (S m).cps.all (· < 128) = true := by
    rw [Array.all_eq_true']
    intro c hc
    exact decide_eq_true (hm c (by simpa using hc))
  refine h H0 e _ fun H1 e1 => ⟨S l, S m, rfl, a1, a2, fun D hD => ?_⟩
  have hn : (l.zip m).length = min (S l).cps.size (S m).cps.size := by
    rw [List.length_zip]
    rfl
  refine lc_it (w := walk_zipS (x := S l) (y := S m) hn) (fun k H' => H1 D = none ∧ Ex H1 H' ∧ H' D = some (.lst (((l.zip m).take k).map v))) ⟨hD, Ex.new hD, upd_same⟩ (fun k H' _ p => trivial) (fun k x H' H'' hk p y => ?_) (fun H' p => ?_)
  · obtain ⟨p1, p2, p3⟩ := p
    obtain ⟨T, c, d, rfl, nT, rfl, hc, hd⟩ := y
    have hc' : l[k]? = some c := by simpa using hc
    have hd' : m[k]? = some d := by simpa using hd
    have hz' : (l.zip m)[k]? = some (c, d) := List.getElem?_zip_eq_some.mpr ⟨hc', hd'⟩
    refine ⟨T, _, rfl, .inl (.inl upd_same), rfl, _, _, rfl, _, _, rfl, rfl, hw _ _, ?_⟩
    unfold tYes
    simp only [↓reduceIte]
    have x1 : Ex H1 (upd H' T (.tup [.str ⟨#[c]⟩, .str ⟨#[d]⟩])) := p2.trans (Ex.new nT)
    refine he (c, d) H1 (e.trans e1) (List.mem_of_getElem? hz') _ x1 _ fun H3 e3 => ⟨((l.zip m).take k).map v, e3 _ _ ?_, sz_lt ?_, p1, Ex.mut (x1.trans e3) p1, ?_⟩
    · rw [upd_ne (ne_of_none p3 nT)]
      exact p3
    · rw [List.length_map, List.length_take]
      have : (l.zip m).length ≤ l.length := by rw [List.length_zip]; omega
      omega
    · rw [List.take_add_one, hz', List.map_append]
      exact upd_same
  · obtain ⟨p1, p2, p3⟩ := p
    rw [List.take_of_length_le (by rw [hn]; exact Nat.le_refl _)] at p3
    exact q D H' (fresh_back e1 p1) (e1.trans p2) p3
/-- a comprehension over a text -/
theorem el_lcS {l : List Nat} {j : Nat} {vs : List Nat} (f : Nat → Bool) (v : Nat → V) (h : Ev te σ H (vS l)) (hz : l.length ≤ 40000) (hw : ∀ x, wipe ((wipe σ vs).set j (some x)) vs = wipe σ vs)
    (ht : ∀ (c : Nat) H1, c ∈ l → Ex H H1 → EvT t ((wipe σ vs).set j (some (vS [c]))) H1 (f c)) (he : ∀ (c : Nat) H1, c ∈ l → Ex H H1 → f c = true → Ev tx ((wipe σ vs).set j (some (vS [c]))) H1 (v c)) :
    EvL (tLc (iStr te) (gName j) t tx vs) σ H ((l.filter f).map v) := fun H0 e Q q => by
  rw [← given_of] at q
  refine h H0 e _ fun H1 e1 => ⟨S l, rfl, fun D hD => ?_⟩
  refine lc_it (w := walk_str (z := S l)) (Cw H1 _ _ D) ⟨hD, Ex.new hD, upd_same⟩ (fun k H' _ p => trivial) (fun k x H' H'' hk p y => ?_) (fun H' p => q D H' (fresh_back e1 p.1) (e1.trans p.2.1) p.2.2)
  obtain ⟨rfl, c, hc, rfl⟩ := y
  have hc' : l[k]? = some c := by simpa using hc
  refine ⟨hw _, cw_turn p (by have := (List.getElem?_eq_some_iff.mp hc').1; omega) ?_ ?_⟩
  · rw [hc']
    exact ht c H1 (List.mem_of_getElem? hc') (e.trans e1)
  · rw [hc']
    exact he c H1 (List.mem_of_getElem? hc') (e.trans e1)
end
/-! ### letters -/
def risF (l : List Nat) : Bool := (l.zip l.tail).all fun p => decide (p.1 < p.2)
def areL (v : V) : Bool := isText v && match v with
  | .str z => decide (z.cps.toList ≠ []) && risF z.cps.toList
  | _ => false
def sp_are : Sp := fun vs H Q _ => ∃ v n, vs = [v] ∧ Thing H v n ∧ RetV (.bl (areL v)) H Q
theorem areL_S {l : List Nat} : areL (vS l) = (isText (vS l) && (decide (l ≠ []) && risF l)) := rfl
theorem areL_wd {H : Hp} {v : V} {n : String} (h : Thing H v n) (e : areL v = true) : ∃ l, v = vS l ∧ Wd l ∧ l ≠ [] ∧ risF l = true := by
  unfold areL at e
  rw [Bool.and_eq_true] at e
  obtain ⟨l, rfl, hw⟩ := text_wd h e.1
  have e2 : (decide (l ≠ []) && risF l) = true := e.2
  rw [Bool.and_eq_true, decide_eq_true_eq] at e2
  exact ⟨l, rfl, hw, e2.1, e2.2⟩
/-- all the word's letters are among them -/
def okL (l w : List Nat) : Bool := w.all fun c => l.contains c
def sp_checkL (C : Addr) : Sp := fun vs H Q E => ∃ v n w, vs = [v, vS w] ∧ Thing H v n ∧ Wd w ∧ (∀ l, v = vS l → areL v = true → okL l w = true → RetV .non H Q) ∧ ((areL v = false ∨ ∃ l, v = vS l ∧ okL l w = false) → ∀ H2, Ex H H2 → E (.ref C) none H2)
theorem one_infix {c : Nat} {l : List Nat} : [c] <:+: l ↔ c ∈ l := by
  constructor
  · intro h
    exact h.subset List.mem_cons_self
  · intro h
    obtain ⟨a, b, rfl⟩ := List.append_of_mem h
    exact ⟨a, b, by simp⟩
theorem inF_one {c : Nat} {l : List Nat} : inF [c] l = l.contains c := by
  rw [Bool.eq_iff_iff, inF_iff, one_infix, List.contains_iff_mem]
end WP
namespace WP
open PySem PySem.Spec PyProof.Rows L2 Evl
open SX (S S_len S_cat S_inj S_tl)
/-! ### a dict of texts whose values are dicts of pairs of texts -/
abbrev Pr : Type := List Nat × List Nat
abbrev En : Type := List Nat × Addr × List Pr
def keysE (es : List En) : List (Key × V) := es.map fun e => (Sum.inr (S e.1), V.ref e.2.1)
def prK (p : Pr) : List Key := [Sum.inr (S p.1), Sum.inr (S p.2)]
def pkE (ps : List Pr) : List (List Key × V) := ps.map fun p => (prK p, V.bl true)
theorem prK_inj {p q : Pr} (h : prK p = prK q) : p = q := by
  unfold prK at h
  have h1 := (List.cons.inj h).1
  have h2 := (List.cons.inj (List.cons.inj h).2).1
  exact Prod.ext (S_inj (Sum.inr.inj h1)) (S_inj (Sum.inr.inj h2))
def addP (ps : List Pr) (p : Pr) : List Pr := if p ∈ ps then ps else ps ++ [p]
theorem addP_mem {ps : List Pr} {p q : Pr} : q ∈ addP ps p ↔ q ∈ ps ∨ q = p := by
  unfold addP
  split
  · rename_i h
    constructor
    · exact .inl
    · rintro (h1 | rfl)
      · exact h1
      · exact h
  · rw [List.mem_append, List.mem_singleton]
theorem addP_nd {ps : List Pr} {p : Pr} (h : ps.Nodup) : (addP ps p).Nodup := by
  unfold addP
  split
  · exact h
  · rename_i c
    rw [List.nodup_append]
    refine ⟨h, by simp, fun a ha b hb q => ?_⟩
    rw [List.mem_singleton] at hb
    rw [q, hb] at ha
    exact c ha
theorem addP_len (ps : List Pr) (p : Pr) : (addP ps p).length ≤ ps.length + 1 := by
  unfold addP
  split
  · omega
  · simp
theorem pk_any {ps : List Pr} {p : Pr} : ((pkE ps).any fun kv => decide (kv.1 = prK p)) = decide (p ∈ ps) := by
  unfold pkE
  rw [List.any_map, Bool.eq_iff_iff, List.any_eq_true, decide_eq_true_eq]
  constructor
  · rintro ⟨q, hq, e⟩
    have e' : prK q = prK p := of_decide_eq_true e
    rw [← prK_inj e']
    exact hq
  · intro h
    exact ⟨p, h, decide_eq_true rfl⟩
theorem pk_put (ps : List Pr) (p : Pr) : putK (pkE ps) (prK p) (V.bl true) = pkE (addP ps p) := by
  unfold putK addP
  rw [pk_any]
  by_cases h : p ∈ ps
  · rw [if_pos (decide_eq_true h), if_pos h]
    unfold pkE
    rw [List.map_map]
    refine List.map_congr_left fun q _ => ?_
    show (if prK q = prK p then (prK q, V.bl true) else (prK q, V.bl true)) = (prK q, V.bl true)
    split <;> rfl
  · rw [if_neg (by rw [decide_eq_true_eq]; exact h), if_neg h]
    unfold pkE
    rw [List.map_append]
    rfl
theorem pk_val {ps : List Pr} {p : Pr} : (valV (pkE ps) (prK p)).isSome = decide (p ∈ ps) := by
  rw [← valV_any, pk_any]
theorem keysE_keys (es : List En) : (keysE es).map (·.1) = (es.map (·.1)).map fun l => Sum.inr (S l) := by
  unfold keysE
  rw [List.map_map, List.map_map]
  rfl
theorem valE_none {es : List En} {x : List Nat} (h : x ∉ es.map (·.1)) : valV (keysE es) (Sum.inr (S x)) = none := by
  have e := keys_any (keysE_keys es) x
  rw [valV_any, decide_eq_false h] at e
  cases q : valV (keysE es) (Sum.inr (S x)) with
  | none => rfl
  | some v => rw [q] at e; cases e
theorem valE_some : ∀ {es : List En} {x : List Nat} {v : V}, valV (keysE es) (Sum.inr (S x)) = some v → ∃ e ∈ es, e.1 = x ∧ v = .ref e.2.1
  | [], x, v, h => by cases h
  | e :: es, x, v, h => by
    by_cases c : e.1 = x
    · refine ⟨e, List.mem_cons_self, c, ?_⟩
      have : valV (keysE (e :: es)) (Sum.inr (S x)) = some (V.ref e.2.1) := valV_pos (p := (Sum.inr (S e.1), V.ref e.2.1)) (by rw [c])
      rw [this] at h
      exact (Option.some.inj h).symm
    · have : valV (keysE (e :: es)) (Sum.inr (S x)) = valV (keysE es) (Sum.inr (S x)) := valV_neg (p := (Sum.inr (S e.1), V.ref e.2.1)) (fun q => c (S_inj (Sum.inr.inj q)))
      rw [this] at h
      obtain ⟨e', he', h1, h2⟩ := valE_some h
      exact ⟨e', List.mem_cons_of_mem _ he', h1, h2⟩
/-- the entries tell what occ says -/
structure AR (occ : List Nat → Pr → Prop) (es : List En) : Prop where
  kn : (es.map (·.1)).Nodup
  an : (es.map (·.2.1)).Nodup
  key : ∀ x, x ∈ es.map (·.1) ↔ ∃ p, occ x p
  prs : ∀ e ∈ es, ∀ p, p ∈ e.2.2 ↔ occ e.1 p
  pn : ∀ e ∈ es, e.2.2.Nodup
theorem AR.congr {occ occ' : List Nat → Pr → Prop} {es : List En} (h : AR occ es) (c : ∀ x p, occ x p ↔ occ' x p) : AR occ' es :=
  ⟨h.kn, h.an, fun x => (h.key x).trans ⟨fun ⟨p, q⟩ => ⟨p, (c x p).mp q⟩, fun ⟨p, q⟩ => ⟨p, (c x p).mpr q⟩⟩, fun e he p => (h.prs e he p).trans (c e.1 p), h.pn⟩
theorem AR.nil : AR (fun _ _ => False) [] := ⟨List.nodup_nil, List.nodup_nil, fun x => ⟨fun h => (by cases h), fun ⟨_, h⟩ => h.elim⟩, fun e he => (by cases he), fun e he => (by cases he)⟩
/-- one more, the text known -/
def modA (es : List En) (x : List Nat) (p : Pr) : List En := es.map fun e => if e.1 = x then (e.1, e.2.1, addP e.2.2 p) else e
theorem modA_key (es : List En) (x : List Nat) (p : Pr) : (modA es x p).map (·.1) = es.map (·.1) := by
  unfold modA
  rw [List.map_map]
  refine List.map_congr_left fun e _ => ?_
  show (if e.1 = x then (e.1, e.2.1, addP e.2.2 p) else e).1 = e.1
  split <;> rfl
theorem modA_adr (es : List En) (x : List Nat) (p : Pr) : (modA es x p).map (·.2.1) = es.map (·.2.1) := by
  unfold modA
  rw [List.map_map]
  refine List.map_congr_left fun e _ => ?_
  show (if e.1 = x then (e.1, e.2.1, addP e.2.2 p) else e).2.1 = e.2.1
  split <;> rfl
theorem modA_kv (es : List En) (x : List Nat) (p : Pr) : keysE (modA es x p) = keysE es := by
  unfold keysE modA
  rw [List.map_map]
  refine List.map_congr_left fun e _ => ?_
  show (Sum.inr (S (if e.1 = x then (e.1, e.2.1, addP e.2.2 p) else e).1), V.ref (if e.1 = x then (e.1, e.2.1, addP e.2.2 p) else e).2.1) = _
  split <;> rfl
theorem AR.mod {occ : List Nat → Pr → Prop} {es : List En} {x : List Nat} {p : Pr} (h : AR occ es) (hx : x ∈ es.map (·.1)) : AR (fun y q => occ y q ∨ (y = x ∧ q = p)) (modA es x p) := by
  refine ⟨by rw [modA_key]; exact h.kn, by rw [modA_adr]; exact h.an, fun y => ?_, fun e he q => ?_, fun e he => ?_⟩
  · rw [modA_key, h.key y]
    constructor
    · rintro ⟨q, hq⟩
      exact ⟨q, .inl hq⟩
    · rintro ⟨q, hq | ⟨rfl, rfl⟩⟩
      · exact ⟨q, hq⟩
      · exact (h.key y).mp hx
  · obtain ⟨e', he', rfl⟩ := List.mem_map.mp he
    by_cases c : e'.1 = x
    · rw [if_pos c]
      show q ∈ addP e'.2.2 p ↔ occ e'.1 q ∨ (e'.1 = x ∧ q = p)
      rw [addP_mem, h.prs e' he' q]
      constructor
      · rintro (a | a)
        · exact .inl a
        · exact .inr ⟨c, a⟩
      · rintro (a | a)
        · exact .inl a
        · exact .inr a.2
    · rw [if_neg c, h.prs e' he' q]
      exact ⟨.inl, fun a => a.elim id fun b => absurd b.1 c⟩
  · obtain ⟨e', he', rfl⟩ := List.mem_map.mp he
    by_cases c : e'.1 = x
    · rw [if_pos c]
      exact addP_nd (h.pn e' he')
    · rw [if_neg c]
      exact h.pn e' he'
theorem AR.new {occ : List Nat → Pr → Prop} {es : List En} {x : List Nat} {p : Pr} {d : Addr} (h : AR occ es) (hx : x ∉ es.map (·.1)) (hd : d ∉ es.map (·.2.1)) : AR (fun y q => occ y q ∨ (y = x ∧ q = p)) (es ++ [(x, d, [p])]) := by
  have nd : ∀ {α : Type} {l : List α} {a : α}, l.Nodup → a ∉ l → (l ++ [a]).Nodup := fun {α l a} h1 h2 => by
    rw [List.nodup_append]
    refine ⟨h1, by simp, fun b hb c hc q => ?_⟩
    rw [List.mem_singleton] at hc
    rw [q, hc] at hb
    exact h2 hb
  refine ⟨by rw [List.map_append]; exact nd h.kn hx, by rw [List.map_append]; exact nd h.an hd, fun y => ?_, fun e he q => ?_, fun e he => ?_⟩
  · rw [List.map_append, List.mem_append, h.key y]
    constructor
    · rintro (⟨q, hq⟩ | hq)
      · exact ⟨q, .inl hq⟩
      · rw [List.map_cons, List.map_nil, List.mem_singleton] at hq
        exact ⟨p, .inr ⟨hq, rfl⟩⟩
    · rintro ⟨q, hq | ⟨rfl, rfl⟩⟩
      · exact .inl ⟨q, hq⟩
      · exact .inr (by simp)
  · rcases List.mem_append.mp he with he | he
    · rw [h.prs e he q]
      refine ⟨.inl, fun a => a.elim id fun b => ?_⟩
      exact absurd (List.mem_map.mpr ⟨e, he, b.1⟩) hx
    · rw [List.mem_singleton] at he
      subst he
      show q ∈ [p] ↔ occ x q ∨ (x = x ∧ q = p)
      rw [List.mem_singleton]
      refine ⟨fun a => .inr ⟨rfl, a⟩, fun a => a.elim (fun b => ?_) fun b => b.2⟩
      exact absurd ((h.key x).mpr ⟨q, b⟩) hx
  · rcases List.mem_append.mp he with he | he
    · exact h.pn e he
    · rw [List.mem_singleton] at he
      subst he
      simp
/-- the entries stand in the heap -/
def InOk (es : List En) (H : Hp) : Prop := ∀ e ∈ es, H e.2.1 = some (.dT (pkE e.2.2))
/-- how a word stands round its piece from b to e -/
def ahF (w : List Nat) (b : Nat) : List Nat := if b = 0 then [] else (w.drop (b - 1)).take 1
def beF (w : List Nat) (e : Nat) : List Nat := (w.drop e).take 1
def occW (w x : List Nat) (p : Pr) : Prop := ∃ b e, b ≤ e ∧ e ≤ w.length ∧ x = (w.drop b).take (e - b) ∧ p = (ahF w b, beF w e)
def sp_around : Sp := fun vs H Q _ => ∃ w : List Nat, vs = [vS w] ∧ w.length ≤ 100 ∧ ∀ es pf H2, H pf = none → (∀ e ∈ es, H e.2.1 = none ∧ e.2.1 ≠ pf ∧ e.2.2.length ≤ 20000) → es.length ≤ 20000 → Ex H H2 → H2 pf = some (.dK (keysE es)) → InOk es H2 → AR (occW w) es → Q (.ref pf) H2
theorem take1 {w : List Nat} {i c : Nat} (h : w[i]? = some c) : (w.drop i).take 1 = [c] := by
  obtain ⟨hi, e⟩ := List.getElem?_eq_some_iff.mp h
  rw [List.drop_eq_getElem_cons hi, e]
  rfl
section
variable {K : PySem.W.Frag} {σ : L2.St} {H H' : Hp} {ta tb te tx td ty tv tl : TE} {t u : TT} {v : V} {tu tz : TS} {D : Ends}
theorem q_setd {i : Nat} {pf : Addr} {kvs : List (Key × V)} {x : List Nat} (hd : H pf = some (.dK kvs)) (h1 : Ev td σ H (.ref pf)) (h2 : Ev ty σ H (vS x)) (hz : kvs.length < 100000)
    (k1 : ∀ v p H1, valV kvs (Sum.inr (S x)) = some v → Ex H H1 → H1 p = none → tz D (σ.set i (some v)) (upd H1 p (.dT [])))
    (k2 : ∀ p H1, valV kvs (Sum.inr (S x)) = none → Ex H H1 → H1 p = none → tz D (σ.set i (some (.ref p))) (upd (upd H1 p (.dT [])) pf (.dK (putK kvs (Sum.inr (S x)) (.ref p))))) :
    tSeq (tAsg (tDSetd td ty tDNewT) (gName i)) tz D σ H :=
  h1 H (Ex.refl H) _ fun H1 e1 => ⟨pf, rfl, .inl ⟨kvs, .inl (e1 _ _ hd)⟩, h2 H1 e1 _ fun H2 e2 p hp =>
    have hd2 : H2 pf = some (.dK kvs) := (e1.trans e2) _ _ hd
    ⟨kvs, Sum.inr (S x), by rw [upd_ne (ne_of_none hd2 hp)]; exact hd2, rfl, sz_lt hz, fun v hv => k1 v p H2 hv (e1.trans e2) hp, fun hn => k2 p H2 hn (e1.trans e2) hp⟩⟩
theorem s_putT {d : Addr} {ps : List Pr} {a b : List Nat} (hd : H d = some (.dT (pkE ps))) (h1 : Ev td σ H (.ref d)) (ha : Ev ta σ H (vS a)) (hb : Ev tb σ H (vS b)) (hz : ps.length < 100000)
    (k : ∀ q H1, Ex H H1 → H1 q = none → D.nx σ (upd (upd H1 q (.tup [vS a, vS b])) d (.dT (pkE (addP ps (a, b)))))) : sDPut td (tTup (tCons ta (tCons tb tNil))) (tC (.bl true)) D σ H :=
  h1 H (Ex.refl H) _ fun H1 e1 => ha H1 e1 _ fun H2 e2 => hb H2 (e1.trans e2) _ fun H3 e3 => ⟨by show 2 ≤ sizeLine; decide, fun q hq =>
    have x3 : Ex H H3 := (e1.trans e2).trans e3
    ⟨d, _, rfl, DPut.t (k := prK (a, b)) (by rw [upd_ne (ne_of_none (x3 _ _ hd) hq)]; exact x3 _ _ hd) upd_same (by unfold pkE; rw [List.length_map]; exact sz_lt hz), by
      rw [pk_put]
      exact k q H3 x3 hq⟩⟩
end
theorem putE_new {es : List En} {x : List Nat} {d : Addr} {p : Pr} (h : valV (keysE es) (Sum.inr (S x)) = none) : putK (keysE es) (Sum.inr (S x)) (.ref d) = keysE (es ++ [(x, d, [p])]) := by
  rw [putK_new _ h]
  unfold keysE
  rw [List.map_append]
  rfl
theorem keysE_len (es : List En) : (keysE es).length = es.length := by
  unfold keysE
  rw [List.length_map]
end WP
namespace WP
open PySem PySem.Spec PyProof.Rows L2 Evl
open SX (S S_len S_cat S_inj S_tl)
/-! ### new things that are read from now on -/
def tFrzs (td : TE) : TE := fun σ H Q => td σ H fun x H1 => ∃ ds : List Addr, ds.Nodup ∧ (∀ d ∈ ds, ∃ u, H1 d = some u ∧ Mut (some u)) ∧
  ∀ H2, (∀ b, b ∉ ds → H2 b = H1 b) → (∀ d ∈ ds, ∃ o u, H1 d = some u ∧ H2 d = some (.frz o u)) → Q x H2
theorem lock_all {X : Cx} {pins : List (Addr × Obj)} {σ : L2.St} {s : Shared} : ∀ (ds : List Addr) (H : Hp), Inv X pins σ H s → ds.Nodup → (∀ d ∈ ds, ∃ u, H d = some u ∧ Mut (some u)) →
    ∃ H2, Inv X pins σ H2 s ∧ (∀ b, b ∉ ds → H2 b = H b) ∧ ∀ d ∈ ds, ∃ o u, H d = some u ∧ H2 d = some (.frz o u)
  | [], H, I, _, _ => ⟨H, I, fun _ _ => rfl, fun d h => by cases h⟩
  | d :: ds, H, I, nd, hm => by
    obtain ⟨u, hu, mu⟩ := hm d List.mem_cons_self
    obtain ⟨od, I1⟩ := I.lock hu mu
    have n := List.nodup_cons.mp nd
    have ne : ∀ b ∈ ds, b ≠ d := fun b hb z => n.1 (by rw [← z]; exact hb)
    obtain ⟨H2, I2, a1, a2⟩ := lock_all ds (upd H d (.frz od u)) I1 n.2 (fun b hb => by
      rw [upd_ne (ne b hb)]
      exact hm b (List.mem_cons_of_mem _ hb))
    refine ⟨H2, I2, fun b hb => ?_, fun b hb => ?_⟩
    · rw [List.mem_cons, not_or] at hb
      rw [a1 b hb.2, upd_ne hb.1]
    · rcases List.mem_cons.mp hb with rfl | hb
      · refine ⟨od, u, hu, ?_⟩
        rw [a1 b n.1, upd_same]
      · obtain ⟨o, u', h1, h2⟩ := a2 b hb
        rw [upd_ne (ne b hb)] at h1
        exact ⟨o, u', h1, h2⟩
theorem pe_frzs {X : Cx} {e : Expr} {td : TE} (he : PE X e td) : PE X e (tFrzs td) := by
  refine ⟨fun pins s σ H Q I h => thn (he.run pins s σ H _ I h) fun u s1 ⟨x, H1, I1, rx, ds, nd, hm, q⟩ => ?_⟩
  obtain ⟨H2, I2, a1, a2⟩ := lock_all ds H1 I1 nd hm
  exact ⟨x, H2, I2, rx, q H2 a1 a2⟩
section
variable {K : PySem.W.Frag} {σ : L2.St} {H H' : Hp} {ta tb te tx td ty tv tl : TE} {t u : TT} {v : V} {tu tz : TS} {D : Ends}
/-- a comprehension over a dict whose keys are pairs -/
theorem el_lcKT {d : Addr} {o : Obj} {ps : List Pr} {j : Nat} {vs : List Nat} (f : Pr → Bool) (v : Pr → V) (h : Ev te σ H (.ref d)) (hd : H d = some (.frz o (.dT (pkE ps)))) (hz : ps.length ≤ 40000) (hw : ∀ x, wipe ((wipe σ vs).set j (some x)) vs = wipe σ vs)
    (ht : ∀ (p : Pr) q H1, p ∈ ps → Ex H H1 → H1 q = some (.tup [vS p.1, vS p.2]) → EvT t ((wipe σ vs).set j (some (.ref q))) H1 (f p)) (he : ∀ (p : Pr) q H1, p ∈ ps → Ex H H1 → H1 q = some (.tup [vS p.1, vS p.2]) → f p = true → Ev tx ((wipe σ vs).set j (some (.ref q))) H1 (v p)) :
    EvL (tLc (iKeys te) (gName j) t tx vs) σ H ((ps.filter f).map v) := fun H0 e Q q => by
  rw [← given_of] at q
  refine h H0 e _ fun H1 e1 => ⟨d, o, rfl, .inr ⟨pkE ps, (e.trans e1) _ _ hd, fun Dl hD => ?_⟩⟩
  have hl : (pkE ps).length = ps.length := by unfold pkE; rw [List.length_map]
  rw [← hl] at q
  refine lc_it (w := walk_keysT (d := d) (o := o) (kvs := pkE ps)) (Cw H1 _ _ Dl) ⟨hD, Ex.new hD, upd_same⟩ (fun k H' _ p => p.2.1 _ _ ((e.trans e1) _ _ hd)) (fun k x H' H'' hk p y => ?_) (fun H' p => q Dl H' (fresh_back e1 p.1) (e1.trans p.2.1) p.2.2)
  obtain ⟨rfl, kk, vv, qa, hkv, rfl, hqa⟩ := y
  rw [hl] at hk
  have hp : ps[k]? = some ps[k] := List.getElem?_eq_getElem hk
  have ek : kk = prK ps[k] := by
    unfold pkE at hkv
    rw [List.getElem?_map, hp] at hkv
    exact (Prod.mk.inj (Option.some.inj hkv)).1.symm
  rw [ek] at hqa
  refine ⟨hw _, ?_⟩
  have x1 : Ex H H'' := (e.trans e1).trans p.2.1
  have pc : Cw H'' (fun k => match ps[k]? with | some e => f e | none => false) (fun k => match ps[k]? with | some e => v e | none => .non) Dl k H'' → True := fun _ => trivial
  have t1 := ht ps[k] qa H'' (List.getElem_mem hk) x1 hqa
  refine t1 H'' (Ex.refl _) _ fun H3 e3 => ?_
  by_cases hf : f ps[k] = true
  · rw [if_pos hf]
    refine he ps[k] qa H'' (List.getElem_mem hk) x1 hqa hf H3 e3 _ fun H4 e4 => ⟨_, (e3.trans e4) _ _ p.2.2, sz_lt (Nat.lt_of_le_of_lt (given_len _ _ _) (by omega)), p.1, Ex.mut ((p.2.1.trans e3).trans e4) p.1, ?_⟩
    rw [given_yes (by rw [hp]; exact hf), hp]
    exact upd_same
  · rw [if_neg hf]
    refine ⟨p.1, p.2.1.trans e3, ?_⟩
    rw [given_no (by rw [hp]; simpa using hf)]
    exact e3 _ _ p.2.2
/-- l.extend(a new list) -/
theorem s_ext {l : Addr} {xs ys : List V} (hl : H l = some (.lst xs)) (ha : Ev ta σ H (.ref l)) (h : EvL te σ H ys) (hz : xs.length + ys.length ≤ 16000000) (k : ∀ H1, Ex H H1 → D.nx σ (upd H1 l (.lst (xs ++ ys)))) :
    tDrop (tBM K "list" rExtend ta (tCons te tNil)) D σ H := ha H (Ex.refl H) _ fun H1 e1 =>
  ⟨Or.inl ⟨rfl, xs, sq_of (e1 l _ hl)⟩, h H1 e1 _ fun b H2 _ e2 hb => ⟨l, b, xs, ys, rfl, rfl, e2 l _ (e1 l _ hl), hb, Nat.le_trans hz (by decide), k H2 (e1.trans e2)⟩⟩
/-- (a, b) not in d -/
theorem ev_pnin {d : Addr} {o : Obj} {ps : List Pr} {a b : List Nat} (ha : Ev ta σ H (vS a)) (hb : Ev tb σ H (vS b)) (h : Ev te σ H (.ref d)) (hd : H d = some (.frz o (.dT (pkE ps)))) : Ev (tDNotIn (tTup (tCons ta (tCons tb tNil))) te) σ H (.bl (!decide ((a, b) ∈ ps))) := fun H1 e Q q =>
  ha H1 e _ fun H2 e2 => hb H2 (e.trans e2) _ fun H3 e3 => ⟨by show 2 ≤ sizeLine; decide, fun p hp => h (upd H3 p (.tup [vS a, vS b])) (((e.trans e2).trans e3).trans (Ex.new hp)) _ fun H4 e4 =>
    ⟨d, _, rfl, .inr ⟨pkE ps, prK (a, b), p, .inr ⟨o, ((((e.trans e2).trans e3).trans (Ex.new hp)).trans e4) _ _ hd⟩, rfl, e4 _ _ upd_same, rfl⟩, by
      rw [pk_val]
      exact q H4 (((e2.trans e3).trans (Ex.new hp)).trans e4)⟩⟩
/-- the entries, read only -/
def FzOk (es : List En) (H : Hp) : Prop := ∀ e ∈ es, ∃ o, H e.2.1 = some (.frz o (.dT (pkE e.2.2)))
theorem FzOk.ex {es : List En} {H H' : Hp} (h : FzOk es H) (e : Ex H H') : FzOk es H' := fun x hx => by
  obtain ⟨o, q⟩ := h x hx
  exact ⟨o, e _ _ q⟩
/-- for x, d in around(w).items() -/
theorem q_forAr {E : XK} {W : List Nat} {i j : Nat} (h : Ev tx σ H (vS W)) (hW : W.length ≤ 100) (Pv : List En → Nat → L2.St → Hp → Prop)
    (h0 : ∀ es H1, AR (occW W) es → es.length ≤ 20000 → (∀ e ∈ es, H e.2.1 = none ∧ e.2.2.length ≤ 20000) → Ex H H1 → FzOk es H1 → Pv es 0 σ H1)
    (hs : ∀ es o pf m e σ' H', AR (occW W) es → es.length ≤ 20000 → (∀ e ∈ es, e.2.2.length ≤ 20000) → es[m]? = some e → Pv es m σ' H' → H' pf = some (.frz o (.dK (keysE es))) → H pf = none → tu { D with nx := fun σ2 H2 => Pv es (m + 1) σ2 H2 ∧ H2 pf = some (.frz o (.dK (keysE es))), ct := fun σ2 H2 => Pv es (m + 1) σ2 H2 ∧ H2 pf = some (.frz o (.dK (keysE es))), bk := tz D } ((σ'.set i (some (vS e.1))).set j (some (.ref e.2.1))) H')
    (hu : ∀ es m σ' H' T, Pv es m σ' H' → H' T = none → Pv es m σ' (upd H' T (.tup [vS (es[m]?.getD ([], 0, [])).1, .ref (es[m]?.getD ([], 0, [])).2.1])))
    (hd : ∀ es σ' H', AR (occW W) es → Pv es es.length σ' H' → tz D σ' H') :
    tSeq (tFor (iItems (tFrzs (tCall sp_around [] E (tCons tx tNil)))) (gTup K 2 (gCons (gName i) (gCons (gName j) gNil))) tu) tz D σ H :=
  h H (Ex.refl H) _ fun H1 e1 => ⟨W, rfl, hW, fun es pf H2 hpf hes hlen e2 hk hin har => by
    have nd : (pf :: es.map (·.2.1)).Nodup := List.nodup_cons.mpr ⟨fun z => by
      obtain ⟨e, he, q⟩ := List.mem_map.mp z
      exact (hes e he).2.1 q, har.an⟩
    refine ⟨pf :: es.map (·.2.1), nd, fun d hd => ?_, fun H3 a1 a2 => ?_⟩
    · rcases List.mem_cons.mp hd with rfl | hd
      · exact ⟨_, hk, trivial⟩
      · obtain ⟨e, he, rfl⟩ := List.mem_map.mp hd
        exact ⟨_, hin e he, trivial⟩
    · obtain ⟨o, u, hu1, hu2⟩ := a2 pf List.mem_cons_self
      rw [hk] at hu1
      cases hu1
      have x3 : Ex H H3 := fun b ob hb => by
        have n1 : b ∉ pf :: es.map (·.2.1) := fun z => by
          rcases List.mem_cons.mp z with z | z
          · rw [z, fresh_back e1 hpf] at hb
            cases hb
          · obtain ⟨e, he, q⟩ := List.mem_map.mp z
            rw [← q, fresh_back e1 (hes e he).1] at hb
            cases hb
        rw [a1 b n1]
        exact (e1.trans e2) _ _ hb
      have fz : FzOk es H3 := fun e he => by
        obtain ⟨o', u, h1, h2⟩ := a2 e.2.1 (List.mem_cons_of_mem _ (List.mem_map.mpr ⟨e, he, rfl⟩))
        rw [hin e he] at h1
        cases h1
        exact ⟨o', h2⟩
      refine ⟨pf, o, keysE es, rfl, hu2, for_it (D := { D with nx := tz D }) (w := walk_items (d := pf) (o := o) (kvs := keysE es)) (fun m σ' H' => Pv es m σ' H' ∧ H' pf = some (.frz o (.dK (keysE es)))) ⟨h0 es H3 har hlen (fun e he => ⟨fresh_back e1 (hes e he).1, (hes e he).2.2⟩) x3 fz, hu2⟩ (fun m σ' H' _ p => p.2) (fun m x σ' H' H'' hm p y => ?_) (fun σ' H' p => hd es σ' H' har (by rw [keysE_len] at p; exact p.1))⟩
      obtain ⟨T, x1, y1, rfl, nT, rfl, hx1, hy1⟩ := y
      rw [keysE_len] at hm
      have hme : es[m]? = some es[m] := List.getElem?_eq_getElem hm
      have hkm : (keysE es)[m]? = some (Sum.inr (S es[m].1), V.ref es[m].2.1) := by
        unfold keysE
        rw [List.getElem?_map, hme]
        rfl
      dsimp only at hx1 hy1
      rw [hkm] at hx1 hy1
      have ex1 : x1 = vS es[m].1 := (Option.some.inj hx1).symm
      have ey1 : y1 = .ref es[m].2.1 := (Option.some.inj hy1).symm
      subst ex1 ey1
      have hP := hu es m σ' H' T p.1 nT
      rw [hme] at hP
      refine ⟨T, _, rfl, .inl (.inl upd_same), rfl, _, _, rfl, _, _, rfl, rfl, hs es o pf m es[m] σ' _ har hlen (fun e he => (hes e he).2.2) hme hP ?_ (fresh_back e1 hpf)⟩
      rw [upd_ne (ne_of_none p.2 nT)]
      exact p.2⟩
end
end WP
namespace WP
open PySem PySem.Spec PyProof.Rows L2 Evl SrtO
open SX (S S_len S_cat S_inj S_tl)
/-! ### the least missing words -/
def isM (w l y : List Nat) : Prop := (∃ c ∈ l, y = [c] ∧ c ∉ w) ∨ ∃ a x c, y = a :: (x ++ [c]) ∧ (a :: x) <:+: w ∧ (x ++ [c]) <:+: w ∧ ¬ y <:+: w
def candG (ls w : List Nat) : List (List Nat) := (piecesF w).flatMap fun x => if x = [] then [] else (ls.filter fun c => inF (x.tail ++ [c]) w && !inF (x ++ [c]) w).map fun c => x ++ [c]
def cand (w l : List Nat) : List (List Nat) := (l.filter fun c => !w.contains c).map (fun c => [c]) ++ candG (azs.filter fun c => w.contains c) w
def missF (w l : List Nat) : List (List Nat) := srtL (cand w l)
theorem inF_no {t w : List Nat} : inF t w = false ↔ ¬ t <:+: w := by
  rw [← inF_iff]
  simp
theorem cand_mem {w l y : List Nat} (hw : Wd w) : y ∈ cand w l ↔ isM w l y := by
  unfold cand isM
  rw [List.mem_append]
  refine or_congr ?_ ?_
  · rw [List.mem_map]
    constructor
    · rintro ⟨c, hc, rfl⟩
      rw [List.mem_filter] at hc
      exact ⟨c, hc.1, rfl, by have := hc.2; rw [Bool.not_eq_true', ← Bool.not_eq_true, List.contains_iff_mem] at this; exact this⟩
    · rintro ⟨c, h1, rfl, h2⟩
      refine ⟨c, List.mem_filter.mpr ⟨h1, ?_⟩, rfl⟩
      rw [Bool.not_eq_true', ← Bool.not_eq_true, List.contains_iff_mem]
      exact h2
  · unfold candG
    rw [List.mem_flatMap]
    constructor
    · rintro ⟨x, hx, hy⟩
      have hp := pieces_mem.mp hx
      cases x with
      | nil => simp at hy
      | cons a x =>
        rw [if_neg (by simp)] at hy
        obtain ⟨c, hc, rfl⟩ := List.mem_map.mp hy
        rw [List.mem_filter, Bool.and_eq_true, Bool.not_eq_true', inF_iff, inF_no] at hc
        exact ⟨a, x, c, rfl, hp, hc.2.1, hc.2.2⟩
    · rintro ⟨a, x, c, rfl, h1, h2, h3⟩
      refine ⟨a :: x, pieces_mem.mpr h1, ?_⟩
      rw [if_neg (by simp)]
      have hcw : c ∈ w := h2.subset (by simp)
      refine List.mem_map.mpr ⟨c, ?_, rfl⟩
      rw [List.mem_filter, Bool.and_eq_true, Bool.not_eq_true', inF_iff, inF_no, List.mem_filter, List.contains_iff_mem]
      exact ⟨⟨hw.2 c hcw, hcw⟩, h2, h3⟩
theorem nd_map {α β : Type} {f : α → β} (hf : ∀ a b, f a = f b → a = b) {l : List α} (h : l.Nodup) : (l.map f).Nodup := List.pairwise_map.mpr (h.imp fun {a b} n e => n (hf a b e))
theorem nd_filter {α : Type} {p : α → Bool} {l : List α} (h : l.Nodup) : (l.filter p).Nodup := h.filter p
theorem azs_nd : azs.Nodup := by decide
theorem cand_nd {w l : List Nat} (hl : l.Nodup) : (cand w l).Nodup := by
  unfold cand
  rw [List.nodup_append]
  have hpn : (piecesF w).Nodup := (pieces_up w).imp fun {a b} h e => by rw [e] at h; exact List.lt_irrefl _ h
  refine ⟨nd_map (fun a b e => (List.cons.inj e).1) (nd_filter hl), ?_, fun a ha b hb e => ?_⟩
  · unfold candG
    refine List.pairwise_flatMap.mpr ⟨fun x _ => ?_, hpn.imp fun {x y} n a ha b hb e => ?_⟩
    · split
      · exact List.Pairwise.nil
      · exact nd_map (fun a b e => by have := (List.append_inj e rfl).2; exact (List.cons.inj this).1) (nd_filter (nd_filter azs_nd))
    · split at ha
      · cases ha
      · split at hb
        · cases hb
        · obtain ⟨c, _, rfl⟩ := List.mem_map.mp ha
          obtain ⟨d, _, rfl⟩ := List.mem_map.mp hb
          have : (x ++ [c]).length = (y ++ [d]).length := by rw [e]
          exact n (List.append_inj e (by simpa using this)).1
  · obtain ⟨c, _, rfl⟩ := List.mem_map.mp ha
    unfold candG at hb
    obtain ⟨x, _, hb⟩ := List.mem_flatMap.mp hb
    split at hb
    · cases hb
    · rename_i hx
      obtain ⟨d, _, rfl⟩ := List.mem_map.mp hb
      have : ([c] : List Nat).length = (x ++ [d]).length := by rw [e]
      rw [List.length_append] at this
      have h1 := List.length_pos_iff.mpr hx
      simp at this
      exact hx this
/-- whatever tells the same words, once each, gives the one list -/
theorem miss_of {w l : List Nat} {m : List (List Nat)} (hw : Wd w) (hl : l.Nodup) (nd : m.Nodup) (h : ∀ y, y ∈ m ↔ isM w l y) : srtL m = missF w l := by
  have hmem : ∀ y, y ∈ m ↔ y ∈ cand w l := fun y => (h y).trans (cand_mem hw).symm
  have hlen : m.length = (cand w l).length := by
    have a : ∀ {p q : List (List Nat)}, p.Nodup → (∀ y, y ∈ p → y ∈ q) → p.length ≤ q.length := by
      intro p
      induction p with
      | nil => intro q _ _; simp
      | cons x p ih =>
        intro q n hs
        have hx := hs x List.mem_cons_self
        have n' := List.nodup_cons.mp n
        have := ih (q := q.erase x) n'.2 fun y hy => (List.mem_erase_of_ne (fun z => n'.1 (by rw [← z]; exact hy))).mpr (hs y (List.mem_cons_of_mem _ hy))
        have p1 := (List.perm_cons_erase hx).length_eq
        rw [List.length_cons] at p1 ⊢
        omega
    exact Nat.le_antisymm (a nd fun y => (hmem y).mp) (a (cand_nd hl) fun y => (hmem y).mpr)
  exact upL_uniq (srtL_up m) (srtL_up _) ((srtL_perm m).trans ((perm_of' (cand_nd hl) (fun y => (hmem y).mpr) hlen).trans (srtL_perm _).symm))
where
  perm_of' {l m : List (List Nat)} (n : l.Nodup) (h : ∀ x, x ∈ l → x ∈ m) (e : m.length = l.length) : m.Perm l := perm_of n h e
/-! ### how a piece stands in the word -/
theorem occ_ah {w x : List Nat} {a : List Nat} : (∃ p, occW w x p ∧ p.1 = a ∧ a ≠ []) ↔ ∃ c, a = [c] ∧ (c :: x) <:+: w := by
  constructor
  · rintro ⟨p, ⟨b, e, hbe, he, rfl, rfl⟩, ha, hne⟩
    have ha' : ahF w b = a := ha
    unfold ahF at ha'
    split at ha'
    · exact absurd ha'.symm hne
    · rename_i hb
      have hlt : b - 1 < w.length := by omega
      rw [take1 (List.getElem?_eq_getElem hlt)] at ha'
      refine ⟨_, ha'.symm, infix_cut.mpr ⟨b - 1, e, by omega, he, ?_⟩⟩
      rw [List.drop_eq_getElem_cons hlt, show e - (b - 1) = (e - b) + 1 by omega, List.take_succ_cons, show b - 1 + 1 = b by omega]
  · rintro ⟨c, rfl, s, t, hst⟩
    refine ⟨([c], beF w (s.length + 1 + x.length)), ⟨s.length + 1, s.length + 1 + x.length, by omega, ?_, ?_, ?_⟩, rfl, by simp⟩
    · rw [← hst]; simp <;> omega
    · rw [← hst, Nat.add_sub_cancel_left]
      rw [List.append_assoc, show s.length + 1 = s.length + 1 from rfl, ← List.drop_drop, List.drop_left]
      simp
    · unfold ahF
      rw [if_neg (by omega), Nat.add_sub_cancel, ← hst, List.append_assoc, List.drop_left]
      rfl
theorem occ_be {w x : List Nat} {a : List Nat} : (∃ p, occW w x p ∧ p.2 = a ∧ a ≠ []) ↔ ∃ c, a = [c] ∧ (x ++ [c]) <:+: w := by
  constructor
  · rintro ⟨p, ⟨b, e, hbe, he, rfl, rfl⟩, ha, hne⟩
    have ha' : beF w e = a := ha
    unfold beF at ha'
    have hlt : e < w.length := by
      refine Nat.lt_of_not_le fun z => hne ?_
      rw [← ha', List.drop_of_length_le z]
      rfl
    rw [take1 (List.getElem?_eq_getElem hlt)] at ha'
    refine ⟨_, ha'.symm, infix_cut.mpr ⟨b, e + 1, by omega, by omega, ?_⟩⟩
    rw [show e + 1 - b = (e - b) + 1 by omega, List.take_add_one, List.getElem?_drop, show b + (e - b) = e by omega, List.getElem?_eq_getElem hlt]
    rfl
  · rintro ⟨c, rfl, s, t, hst⟩
    refine ⟨(ahF w s.length, [c]), ⟨s.length, s.length + x.length, by omega, ?_, ?_, ?_⟩, rfl, by simp⟩
    · rw [← hst]; simp <;> omega
    · rw [← hst, Nat.add_sub_cancel_left, List.append_assoc, List.drop_left, List.append_assoc, List.take_left]
    · unfold beF
      rw [← hst, List.append_assoc, List.append_assoc, ← List.drop_drop, List.drop_left, List.drop_left]
      rfl
theorem occ_both {w x : List Nat} {c d : Nat} : occW w x ([c], [d]) ↔ (c :: (x ++ [d])) <:+: w := by
  constructor
  · rintro ⟨b, e, hbe, he, rfl, hp⟩
    have h1 : ahF w b = [c] := (Prod.mk.inj hp).1.symm
    have h2 : beF w e = [d] := (Prod.mk.inj hp).2.symm
    unfold ahF at h1
    split at h1
    · cases h1
    · rename_i hb
      have hlt : b - 1 < w.length := by omega
      rw [take1 (List.getElem?_eq_getElem hlt)] at h1
      have hlt2 : e < w.length := by
        refine Nat.lt_of_not_le fun z => ?_
        unfold beF at h2
        rw [List.drop_of_length_le z] at h2
        cases h2
      unfold beF at h2
      rw [take1 (List.getElem?_eq_getElem hlt2)] at h2
      refine infix_cut.mpr ⟨b - 1, e + 1, by omega, by omega, ?_⟩
      rw [List.drop_eq_getElem_cons hlt, show e + 1 - (b - 1) = (e - b + 1) + 1 by omega, List.take_succ_cons, show b - 1 + 1 = b by omega, List.take_add_one, List.getElem?_drop, show b + (e - b) = e by omega, List.getElem?_eq_getElem hlt2]
      rw [(List.cons.inj h1).1, (List.cons.inj h2).1]
      rfl
  · rintro ⟨s, t, hst⟩
    refine ⟨s.length + 1, s.length + 1 + x.length, by omega, ?_, ?_, ?_⟩
    · rw [← hst]; simp <;> omega
    · rw [← hst, Nat.add_sub_cancel_left, List.append_assoc, ← List.drop_drop, List.drop_left]
      simp
    · unfold ahF beF
      rw [if_neg (by omega), Nat.add_sub_cancel, ← hst, List.append_assoc, List.drop_left, Nat.add_assoc, ← List.drop_drop, List.drop_left, Nat.add_comm 1, ← List.drop_drop]
      simp
end WP
namespace WP
open PySem PySem.Spec PyProof.Rows L2 Evl SrtO
open SX (S S_len S_cat S_inj S_tl)
open LamX (Tabs TabB TabS ExtN CodeO)
/-! ### what missing_by gathers -/
def befE (e : En) : List (List Nat) := sset ((e.2.2.filter fun p => decide (p.1 ≠ [])).map (·.1))
def aftE (e : En) : List (List Nat) := sset ((e.2.2.filter fun p => decide (p.2 ≠ [])).map (·.2))
def rowE (e : En) (a : List Nat) : List (List Nat) := ((aftE e).filter fun c => !decide ((a, c) ∈ e.2.2)).map fun c => a ++ e.1 ++ c
def genE (e : En) : List (List Nat) := (befE e).flatMap (rowE e)
def baseM (w l : List Nat) : List (List Nat) := (l.filter fun c => !w.contains c).map fun c => [c]
theorem bef_mem {w : List Nat} {es : List En} (har : AR (occW w) es) {e : En} (he : e ∈ es) {a : List Nat} : a ∈ befE e ↔ ∃ c, a = [c] ∧ (c :: e.1) <:+: w := by
  unfold befE
  rw [sset_mem, List.mem_map, ← occ_ah]
  constructor
  · rintro ⟨p, hp, rfl⟩
    rw [List.mem_filter, decide_eq_true_eq] at hp
    exact ⟨p, (har.prs e he p).mp hp.1, rfl, hp.2⟩
  · rintro ⟨p, hp, rfl, hne⟩
    exact ⟨p, List.mem_filter.mpr ⟨(har.prs e he p).mpr hp, decide_eq_true hne⟩, rfl⟩
theorem aft_mem {w : List Nat} {es : List En} (har : AR (occW w) es) {e : En} (he : e ∈ es) {a : List Nat} : a ∈ aftE e ↔ ∃ c, a = [c] ∧ (e.1 ++ [c]) <:+: w := by
  unfold aftE
  rw [sset_mem, List.mem_map, ← occ_be]
  constructor
  · rintro ⟨p, hp, rfl⟩
    rw [List.mem_filter, decide_eq_true_eq] at hp
    exact ⟨p, (har.prs e he p).mp hp.1, rfl, hp.2⟩
  · rintro ⟨p, hp, rfl, hne⟩
    exact ⟨p, List.mem_filter.mpr ⟨(har.prs e he p).mpr hp, decide_eq_true hne⟩, rfl⟩
theorem gen_mem {w : List Nat} {es : List En} (har : AR (occW w) es) {y : List Nat} : y ∈ es.flatMap genE ↔ ∃ a x c, y = a :: (x ++ [c]) ∧ (a :: x) <:+: w ∧ (x ++ [c]) <:+: w ∧ ¬ y <:+: w := by
  rw [List.mem_flatMap]
  constructor
  · rintro ⟨e, he, hy⟩
    unfold genE rowE at hy
    obtain ⟨a, ha, hy⟩ := List.mem_flatMap.mp hy
    obtain ⟨c, hc, rfl⟩ := List.mem_map.mp hy
    rw [List.mem_filter, Bool.not_eq_true', decide_eq_false_iff_not] at hc
    obtain ⟨a', rfl, h1⟩ := (bef_mem har he).mp ha
    obtain ⟨c', rfl, h2⟩ := (aft_mem har he).mp hc.1
    refine ⟨a', e.1, c', rfl, h1, h2, fun z => hc.2 ((har.prs e he _).mpr (occ_both.mpr z))⟩
  · rintro ⟨a, x, c, rfl, h1, h2, h3⟩
    have hx : x ∈ es.map (·.1) := (har.key x).mpr (by
      obtain ⟨p, hp, _⟩ := (occ_be (w := w) (x := x) (a := [c])).mpr ⟨c, rfl, h2⟩
      exact ⟨p, hp⟩)
    obtain ⟨e, he, rfl⟩ := List.mem_map.mp hx
    refine ⟨e, he, ?_⟩
    unfold genE rowE
    refine List.mem_flatMap.mpr ⟨[a], (bef_mem har he).mpr ⟨a, rfl, h1⟩, List.mem_map.mpr ⟨[c], List.mem_filter.mpr ⟨(aft_mem har he).mpr ⟨c, rfl, h2⟩, ?_⟩, rfl⟩⟩
    rw [Bool.not_eq_true', decide_eq_false_iff_not]
    exact fun z => h3 (occ_both.mp ((har.prs e he _).mp z))
theorem gen_nd {w : List Nat} {es : List En} (har : AR (occW w) es) : (es.flatMap genE).Nodup := by
  have hes : es.Pairwise (fun a b => a.1 ≠ b.1) := List.pairwise_map.mp har.kn
  have key : ∀ e ∈ es, ∀ y ∈ genE e, ∃ a c, y = a :: (e.1 ++ [c]) := fun e he y hy => by
    unfold genE rowE at hy
    obtain ⟨a, ha, hy⟩ := List.mem_flatMap.mp hy
    obtain ⟨c, hc, rfl⟩ := List.mem_map.mp hy
    rw [List.mem_filter] at hc
    obtain ⟨a', rfl, h1⟩ := (bef_mem har he).mp ha
    obtain ⟨c', rfl, h2⟩ := (aft_mem har he).mp hc.1
    exact ⟨a', c', rfl⟩
  refine List.pairwise_flatMap.mpr ⟨fun e he => ?_, ?_⟩
  · unfold genE
    refine List.pairwise_flatMap.mpr ⟨fun a ha => ?_, ?_⟩
    · unfold rowE
      exact nd_map (fun c d q => (List.append_inj q rfl).2) (nd_filter (sset_nd _))
    · have hb : (befE e).Pairwise (fun a b => a ≠ b) := sset_nd _
      refine (List.pairwise_iff_forall_sublist.mpr fun {a b} hsub => ?_)
      have hab := List.pairwise_iff_forall_sublist.mp hb hsub
      have ha : a ∈ befE e := hsub.subset (by simp)
      have hb' : b ∈ befE e := hsub.subset (by simp)
      obtain ⟨a', rfl, _⟩ := (bef_mem har he).mp ha
      obtain ⟨b', rfl, _⟩ := (bef_mem har he).mp hb'
      intro x hx y hy q
      unfold rowE at hx hy
      obtain ⟨c, _, rfl⟩ := List.mem_map.mp hx
      obtain ⟨d, _, rfl⟩ := List.mem_map.mp hy
      exact hab (by rw [(List.cons.inj q).1])
  · refine (List.pairwise_iff_forall_sublist.mpr fun {e f} hsub => ?_)
    have hef := List.pairwise_iff_forall_sublist.mp hes hsub
    have he : e ∈ es := hsub.subset (by simp)
    have hf : f ∈ es := hsub.subset (by simp)
    intro x hx y hy q
    obtain ⟨a, c, rfl⟩ := key e he x hx
    obtain ⟨b, d, rfl⟩ := key f hf y hy
    have q2 := (List.cons.inj q).2
    have hl : e.1.length = f.1.length := by
      have := congrArg List.length q2
      simpa using this
    exact hef (List.append_inj q2 hl).1
theorem gath_is {w l : List Nat} {es : List En} (hw : Wd w) (hl : l.Nodup) (har : AR (occW w) es) : srtL (baseM w l ++ es.flatMap genE) = missF w l := by
  refine miss_of hw hl ?_ fun y => ?_
  · rw [List.nodup_append]
    refine ⟨nd_map (fun a b e => (List.cons.inj e).1) (nd_filter hl), gen_nd har, fun a ha b hb e => ?_⟩
    obtain ⟨c, _, rfl⟩ := List.mem_map.mp ha
    obtain ⟨a', x, d, rfl, _⟩ := (gen_mem har).mp hb
    have := congrArg List.length e
    simp at this
  · rw [List.mem_append, gen_mem har]
    unfold isM baseM
    refine or_congr ?_ Iff.rfl
    rw [List.mem_map]
    constructor
    · rintro ⟨c, hc, rfl⟩
      rw [List.mem_filter] at hc
      exact ⟨c, hc.1, rfl, by have := hc.2; rw [Bool.not_eq_true', ← Bool.not_eq_true, List.contains_iff_mem] at this; exact this⟩
    · rintro ⟨c, h1, rfl, h2⟩
      refine ⟨c, List.mem_filter.mpr ⟨h1, ?_⟩, rfl⟩
      rw [Bool.not_eq_true', ← Bool.not_eq_true, List.contains_iff_mem]
      exact h2
/-! lengths -/
theorem nd_le {α : Type} [DecidableEq α] : ∀ {p q : List α}, p.Nodup → (∀ y, y ∈ p → y ∈ q) → p.length ≤ q.length
  | [], q, _, _ => by simp
  | x :: p, q, n, hs => by
    have hx := hs x List.mem_cons_self
    have n' := List.nodup_cons.mp n
    have := nd_le (q := q.erase x) n'.2 fun y hy => (List.mem_erase_of_ne (fun z => n'.1 (by rw [← z]; exact hy))).mpr (hs y (List.mem_cons_of_mem _ hy))
    have p1 := (List.perm_cons_erase hx).length_eq
    rw [List.length_cons] at p1 ⊢
    omega
theorem one_le {l : List (List Nat)} (nd : l.Nodup) (h : ∀ x ∈ l, ∃ c, x = [c] ∧ c ∈ azs) : l.length ≤ 26 := by
  have := nd_le (q := azs.map fun c => [c]) nd fun x hx => by
    obtain ⟨c, rfl, hc⟩ := h x hx
    exact List.mem_map.mpr ⟨c, hc, rfl⟩
  exact Nat.le_trans this (by decide)
theorem bef_len {w : List Nat} {es : List En} (hw : Wd w) (har : AR (occW w) es) {e : En} (he : e ∈ es) : (befE e).length ≤ 26 := one_le (sset_nd _) fun x hx => by
  obtain ⟨c, rfl, h⟩ := (bef_mem har he).mp hx
  exact ⟨c, rfl, hw.2 c (h.subset List.mem_cons_self)⟩
theorem aft_len {w : List Nat} {es : List En} (hw : Wd w) (har : AR (occW w) es) {e : En} (he : e ∈ es) : (aftE e).length ≤ 26 := one_le (sset_nd _) fun x hx => by
  obtain ⟨c, rfl, h⟩ := (aft_mem har he).mp hx
  exact ⟨c, rfl, hw.2 c (h.subset (by simp))⟩
theorem row_len {e : En} {a : List Nat} : (rowE e a).length ≤ (aftE e).length := by
  unfold rowE
  rw [List.length_map]
  exact List.length_filter_le _ _
theorem flat_len {α β : Type} {f : α → List β} {k : Nat} : ∀ {l : List α}, (∀ x ∈ l, (f x).length ≤ k) → (l.flatMap f).length ≤ l.length * k
  | [], _ => by simp
  | x :: l, h => by
    rw [List.flatMap_cons, List.length_append, List.length_cons]
    have h1 := h x List.mem_cons_self
    have h2 := flat_len (l := l) fun y hy => h y (List.mem_cons_of_mem _ hy)
    rw [Nat.succ_mul]
    omega
/-- missing_by -/
def sp_missby (T : List (Addr × Str)) : Sp := fun vs H Q _ => ∃ w l : List Nat, vs = [vS w, vS l] ∧ Wd w ∧ Wd l ∧ l.Nodup ∧ Tabs T H ∧ ∀ H2, ExtN H H2 → Tabs T H2 → RetL ((missF w l).map vS) H2 Q
end WP
namespace WP
open PySem PySem.Spec PyProof.Rows L2 Evl SrtO LamX
open SX (S S_len S_cat S_inj S_tl)
/-- a def by its body, its code value told -/
theorem okXc {P : Program} {w : World} {K : PySem.W.Frag} {mg : Str → Option Value} {base : Heap} {x qual : Str} {st : Stmt} {f : Addr} {fd : FuncData} {N ps : List Str} {k : Nat} {sp : Sp} (F : Fun K x qual st f fd) (Sc : FnScope N ps (defScope st)) (len : ∀ vs H Q E, sp vs H Q E → vs.length = ps.length)
    (hbody : ∀ (cdv : Value) (A : Around) (outer : List Env) (s : Shared) (H : Hp) (vs : List V) (Q : VK) (E : XK), fd.code = cdv → Room k (A.deeper (envOfC qual (defScope st) s.heap.objs.size f cdv)) → sp vs H Q E →
      ∃ t, PSs (cxOf (L2.CX P w) P w K mg base N qual (defScope st) f cdv A outer s H E) (defBody st) t ∧ t { nx := fun _ H' => Q .non H', rt := Q } (start N vs) H) : FnOk P w K mg base (L2.CX P w) (k + 1) f fd ps sp := by
  obtain ⟨oc, od, kV, doc, pm, an, cdv, ct, osl, rfl, lk, hcd⟩ := F.ex
  exact fn_of lk hcd Sc len fun A outer s H vs Q E hr hsp => hbody cdv A outer s H vs Q E rfl hr hsp
/-- the end where the tables of all the defs of the top are empty -/
theorem walk_ofAll {l : PySem.W.OpenLaw} {n k : Nat} {q : Program} {loose : List Str} {XP : (Str → Option Value) → Heap → Prop} {YP : World → Heap → Prop} {d : DefRec} {K : Params → PySem.W.Frag} {CX : World → CXT} {x : Str}
    (hn : l.most = some n) (hn2 : n ≤ sizeLine) (hdf : d.params.defaults = []) (hr : Room k callerA) (hY : ∀ (w : World) (h : Heap), YP w h → (K w.params).In h)
    (F : ∀ (w : World) (mg : Str → Option Value) (fa : Addr) (h : Heap), YP w h → (K w.params).In h → h.Ns mainGlobals mg → mg d.name = some (.ref fa) → (∀ dL ∈ recsOf q, ∀ a', mg dL.name = some (.ref a') → OwnTab (K w.params) a' h) → LawAtS l w (K w.params) (CX w) k n x mg fa h)
    (hCX : ∀ (w : World) (H : Hp) (s : Shared) (e : Value) (s' : Shared), CX w [] H s (fun _ _ _ => False) e s' → False) :
    PySem.W.WalkO q loose XP YP l.row.toRowW d [] (fun f vs => PySem.call f vs) := by
  refine Att.attach_callB hn hdf fun w s₀ s₁ mg mb fa o pm cd doc a vs ns G Y ho hd hcd hmg hobj hints hlen hbits hg => ?_
  have KX := hY w _ Y
  have own : ∀ dL ∈ recsOf q, ∀ a', mg dL.name = some (.ref a') → OwnTab (K w.params) a' s₁.heap := fun dL hm a0 hma c P o1 fd1 e dd vs1 sl k1 k2 k3 k4 k5 => by
    obtain ⟨a', o', fd', c', P', h1, h2, h3, h4, h5, h6⟩ := G.T.tab dL hm
    rw [hma] at h1
    cases h1
    have g1 := KX _ _ k1
    rw [g1] at h2
    cases h2
    rw [k2] at h3
    cases h3
    rw [k3] at h4
    cases h4
    obtain ⟨⟨oc, vc, e1, _, e3, e4⟩, hP⟩ := h6
    have g2 := KX _ _ k4
    rw [g2] at e1
    cases e1
    cases e3
    rw [k5] at e4
    cases e4
    exact hP
  obtain ⟨fd, cs, sp, hT, nT, C, hb, hsp, hF⟩ := F w mg fa _ Y KX G.T.g hmg own
  exact law_callTs KX G.T.g G.T.b G.T.builtins G.T.nolimit hg hT nT C G.T.bmain hobj hints (Nat.le_trans hlen hn2) hr hF hb (fun H hH hS => hsp H a ns hlen hbits hH hS) fun H e s' => hCX w H s₁ e s'
end WP
namespace WP
open PySem PySem.Spec PyProof.Rows L2 Evl SrtO LamX
open SX (S S_len S_cat S_inj S_tl)
section
variable {K : PySem.W.Frag} {σ : L2.St} {H H' : Hp} {ta tb te tx td ty tv tl : TE} {t u : TT} {v : V} {tu tz : TS} {D : Ends}
/-- a comprehension over a list of texts -/
theorem el_lcX {a : Addr} {es : List (List Nat)} {j : Nat} {vs : List Nat} (f : List Nat → Bool) (v : List Nat → V) (h : Ev tl σ H (.ref a)) (hx : SqL K H a (es.map vS)) (hz : es.length ≤ 40000) (hw : ∀ x, wipe ((wipe σ vs).set j (some x)) vs = wipe σ vs)
    (ht : ∀ (x : List Nat) H1, x ∈ es → Ex H H1 → EvT t ((wipe σ vs).set j (some (vS x))) H1 (f x)) (he : ∀ (x : List Nat) H1, x ∈ es → Ex H H1 → f x = true → Ev te ((wipe σ vs).set j (some (vS x))) H1 (v x)) :
    EvL (tLc (iList K tl) (gName j) t te vs) σ H ((es.filter f).map v) := by
  rw [← given_of]
  have hl : es.length = (es.map vS).length := by rw [List.length_map]
  rw [hl]
  have at_ : ∀ (i : Nat) (x : V), (es.map vS)[i]? = some x → ∃ y, es[i]? = some y ∧ x = vS y := fun i x hi => by
    rw [List.getElem?_map] at hi
    cases q : es[i]? with
    | none => rw [q] at hi; cases hi
    | some y => rw [q] at hi; exact ⟨y, rfl, (Option.some.inj hi).symm⟩
  refine el_lcL _ _ h hx (by rw [← hl]; exact hz) hw (fun i x H1 e1 hi => ?_) (fun i x H1 e1 hi => ?_)
  · obtain ⟨y, hy, rfl⟩ := at_ i x hi
    rw [hy]
    exact ht y H1 (List.mem_of_getElem? hy) e1
  · obtain ⟨y, hy, rfl⟩ := at_ i x hi
    rw [hy]
    exact he y H1 (List.mem_of_getElem? hy) e1
end
theorem prs_len {w : List Nat} {es : List En} (hw : Wd w) (har : AR (occW w) es) {e : En} (he : e ∈ es) : e.2.2.length ≤ 2000 := by
  have h27 : ∀ a : List Nat, (a = [] ∨ ∃ c ∈ azs, a = [c]) → a ∈ ([] :: azs.map fun c => [c]) := fun a h => by
    rcases h with rfl | ⟨c, hc, rfl⟩
    · exact List.mem_cons_self
    · exact List.mem_cons_of_mem _ (List.mem_map.mpr ⟨c, hc, rfl⟩)
  have one : ∀ (i : Nat), (w.drop i).take 1 = [] ∨ ∃ c ∈ azs, (w.drop i).take 1 = [c] := fun i => by
    cases q : w[i]? with
    | none => left; rw [List.drop_of_length_le (List.getElem?_eq_none_iff.mp q)]; rfl
    | some c => right; exact ⟨c, hw.2 c (List.mem_of_getElem? q), take1 q⟩
  have := nd_le (q := ([] :: azs.map fun c => [c]).flatMap fun a => ([] :: azs.map fun c => [c]).map fun b => (a, b)) (har.pn e he) fun p hp => by
    obtain ⟨b, e', _, _, _, rfl⟩ := (har.prs e he p).mp hp
    refine List.mem_flatMap.mpr ⟨ahF w b, h27 _ ?_, List.mem_map.mpr ⟨beF w e', h27 _ (one e'), rfl⟩⟩
    unfold ahF
    split
    · exact .inl rfl
    · exact one (b - 1)
  exact Nat.le_trans this (by decide)
theorem gen_len {w : List Nat} {es : List En} (hw : Wd w) (har : AR (occW w) es) {e : En} (he : e ∈ es) : (genE e).length ≤ 676 := by
  unfold genE
  have h1 := flat_len (f := rowE e) (k := 26) (l := befE e) fun a _ => Nat.le_trans row_len (aft_len hw har he)
  have h2 := bef_len hw har he
  have : (befE e).length * 26 ≤ 26 * 26 := Nat.mul_le_mul_right _ h2
  omega
theorem acc_len {w l : List Nat} {es : List En} (hw : Wd w) (hl : l.length ≤ 100) (har : AR (occW w) es) (hes : es.length ≤ 20000) (m : Nat) : (baseM w l ++ (es.take m).flatMap genE).length ≤ 13600000 := by
  have h1 := flat_len (f := genE) (k := 676) (l := es.take m) fun e he => gen_len hw har (List.mem_of_mem_take he)
  have h2 : (baseM w l).length ≤ l.length := by
    unfold baseM
    rw [List.length_map]
    exact List.length_filter_le _ _
  have h3 : (es.take m).length ≤ 20000 := by rw [List.length_take]; omega
  have : (es.take m).length * 676 ≤ 20000 * 676 := Nat.mul_le_mul_right _ h3
  rw [List.length_append]
  omega
theorem acc_txt {w l : List Nat} {es : List En} (hw : Wd w) (har : AR (occW w) es) : ∀ y ∈ baseM w l ++ es.flatMap genE, y.length ≤ 1000000 := fun y hy => by
  rcases List.mem_append.mp hy with hy | hy
  · obtain ⟨c, _, rfl⟩ := List.mem_map.mp hy
    simp
  · obtain ⟨a, x, c, rfl, h1, _⟩ := (gen_mem har).mp hy
    have h2 := h1.length_le
    have h3 := hw.1
    simp at h2 ⊢
    omega
end WP
namespace WP
open PySem PySem.Spec PyProof.Rows L2 Evl SrtO LamX
open SX (S S_len S_cat S_inj S_tl)
theorem ris_up : ∀ {l : List Nat}, risF l = true → l.Pairwise (· < ·)
  | [], _ => List.Pairwise.nil
  | [a], _ => List.pairwise_singleton _ _
  | a :: b :: r, h => by
    unfold risF at h
    rw [List.all_eq_true] at h
    have h1 : a < b := of_decide_eq_true (h (a, b) (by simp))
    have h2 : risF (b :: r) = true := by
      unfold risF
      rw [List.all_eq_true]
      intro p hp
      refine h p ?_
      show p ∈ (a, b) :: ((b :: r).zip r)
      exact List.mem_cons_of_mem _ hp
    have ih := ris_up h2
    refine List.pairwise_cons.mpr ⟨fun c hc => ?_, ih⟩
    rcases List.mem_cons.mp hc with rfl | hc
    · exact h1
    · exact Nat.lt_trans h1 ((List.pairwise_cons.mp ih).1 c hc)
theorem ris_nd {l : List Nat} (h : risF l = true) : l.Nodup := (ris_up h).imp fun {a b} q e => by rw [e] at q; exact Nat.lt_irrefl _ q
/-- missing -/
def sp_missing (C1 C2 : Addr) (T : List (Addr × Str)) : Sp := fun vs H Q E => ∃ v1 n1 v2 n2, vs = [v1, v2] ∧ Thing H v1 n1 ∧ Thing H v2 n2 ∧
  (isText v1 = false → ∀ H2, Ex H H2 → E (.ref C1) none H2) ∧
  (∀ w, v1 = vS w → Wd w → (areL v2 = false ∨ ∃ l, v2 = vS l ∧ okL l w = false) → ∀ H2, Ex H H2 → E (.ref C2) none H2) ∧
  (∀ w l, v1 = vS w → v2 = vS l → Wd w → areL v2 = true → okL l w = true → Tabs T H ∧ ∀ H2, ExtN H H2 → Tabs T H2 → RetL ((missF w l).map vS) H2 Q)
/-! ### heaps in which the tables may have grown -/
def NX (T : List (Addr × Str)) (H H' : Hp) : Prop := ExtN H H' ∧ (Tabs T H → Tabs T H')
theorem NX.refl {T : List (Addr × Str)} (H : Hp) : NX T H H := ⟨ExtN.refl H, id⟩
theorem NX.trans {T : List (Addr × Str)} {H H1 H2 : Hp} (a : NX T H H1) (b : NX T H1 H2) : NX T H H2 := ⟨a.1.trans b.1, fun t => b.2 (a.2 t)⟩
theorem NX.of {T : List (Addr × Str)} {H H' : Hp} (e : Ex H H') : NX T H H' := ⟨ExtN.of e, fun t => t.ext e⟩
theorem NX.mk {T : List (Addr × Str)} {H H' : Hp} (e : ExtN H H') (t : Tabs T H') : NX T H H' := ⟨e, fun _ => t⟩
theorem NX.lst {T : List (Addr × Str)} {H H' : Hp} {a : Addr} {xs : List V} (n : NX T H H') (h : H a = some (.lst xs)) : H' a = some (.lst xs) := n.1 _ _ h (by intro ps z; cases z)
theorem NX.sq {T : List (Addr × Str)} {K : PySem.W.Frag} {H H' : Hp} {a : Addr} {xs : List V} (n : NX T H H') (h : SqL K H a xs) : SqL K H' a xs := sq_extN n.1 h
end WP
namespace WP
open PySem PySem.Spec PyProof.Rows L2 Evl SrtO LamX
open SX (S S_len S_cat S_inj S_tl)
/-! ### a dict of texts whose values are lists of letters -/
abbrev Le : Type := List Nat × Addr × List Nat
def kvL (es : List Le) : List (Key × V) := es.map fun e => (Sum.inr (S e.1), V.ref e.2.1)
def one1 (c : Nat) : V := vS [c]
def InL (es : List Le) (H : Hp) : Prop := ∀ e ∈ es, H e.2.1 = some (.lst (e.2.2.map one1))
theorem kvL_keys (es : List Le) : (kvL es).map (·.1) = (es.map (·.1)).map fun l => Sum.inr (S l) := by
  unfold kvL
  rw [List.map_map, List.map_map]
  rfl
theorem kvL_len (es : List Le) : (kvL es).length = es.length := by
  unfold kvL
  rw [List.length_map]
theorem valL_some : ∀ {es : List Le} {x : List Nat} {v : V}, valV (kvL es) (Sum.inr (S x)) = some v → ∃ e ∈ es, e.1 = x ∧ v = .ref e.2.1
  | [], x, v, h => by cases h
  | e :: es, x, v, h => by
    by_cases c : e.1 = x
    · refine ⟨e, List.mem_cons_self, c, ?_⟩
      have : valV (kvL (e :: es)) (Sum.inr (S x)) = some (V.ref e.2.1) := valV_pos (p := (Sum.inr (S e.1), V.ref e.2.1)) (by rw [c])
      rw [this] at h
      exact (Option.some.inj h).symm
    · have : valV (kvL (e :: es)) (Sum.inr (S x)) = valV (kvL es) (Sum.inr (S x)) := valV_neg (p := (Sum.inr (S e.1), V.ref e.2.1)) (fun q => c (S_inj (Sum.inr.inj q)))
      rw [this] at h
      obtain ⟨e', he', h1, h2⟩ := valL_some h
      exact ⟨e', List.mem_cons_of_mem _ he', h1, h2⟩
theorem valL_none {es : List Le} {x : List Nat} : valV (kvL es) (Sum.inr (S x)) = none ↔ x ∉ es.map (·.1) := by
  have e := keys_any (kvL_keys es) x
  rw [valV_any] at e
  constructor
  · intro h z
    rw [h, decide_eq_true z] at e
    cases e
  · intro h
    rw [decide_eq_false h] at e
    cases q : valV (kvL es) (Sum.inr (S x)) with
    | none => rfl
    | some v => rw [q] at e; cases e
/-- the letters known for x -/
def letL (es : List Le) (x : List Nat) : List Nat := match es.find? fun e => decide (e.1 = x) with
  | some e => e.2.2
  | none => []
/-- put anew -/
def putL (es : List Le) (x : List Nat) (q : Addr) (ls : List Nat) : List Le := if x ∈ es.map (·.1) then es.map fun e => if e.1 = x then (e.1, q, ls) else e else es ++ [(x, q, ls)]
theorem putL_kv {es : List Le} {x : List Nat} {q : Addr} {ls : List Nat} : putK (kvL es) (Sum.inr (S x)) (.ref q) = kvL (putL es x q ls) := by
  unfold putK putL
  rw [keys_any (kvL_keys es) x]
  by_cases c : x ∈ es.map (·.1)
  · rw [if_pos (decide_eq_true c), if_pos c]
    unfold kvL
    rw [List.map_map, List.map_map]
    refine List.map_congr_left fun e _ => ?_
    show (if (Sum.inr (S e.1) : Key) = Sum.inr (S x) then (Sum.inr (S e.1), V.ref q) else (Sum.inr (S e.1), V.ref e.2.1)) = (Sum.inr (S (if e.1 = x then (e.1, q, ls) else e).1), V.ref (if e.1 = x then (e.1, q, ls) else e).2.1)
    by_cases h : e.1 = x
    · rw [if_pos (by rw [h]), if_pos h]
    · rw [if_neg (fun z => h (S_inj (Sum.inr.inj z))), if_neg h]
  · rw [if_neg (by rw [decide_eq_true_eq]; exact c), if_neg c]
    unfold kvL
    rw [List.map_append]
    rfl
/-- the entries tell what rel says -/
structure LR (rel : List Nat → Nat → Prop) (es : List Le) : Prop where
  kn : (es.map (·.1)).Nodup
  key : ∀ x, x ∈ es.map (·.1) ↔ ∃ c, rel x c
  lts : ∀ e ∈ es, ∀ c, c ∈ e.2.2 ↔ rel e.1 c
  ln : ∀ e ∈ es, e.2.2.Nodup
theorem LR.congr {rel rel' : List Nat → Nat → Prop} {es : List Le} (h : LR rel es) (c : ∀ x p, rel x p ↔ rel' x p) : LR rel' es :=
  ⟨h.kn, fun x => (h.key x).trans ⟨fun ⟨p, q⟩ => ⟨p, (c x p).mp q⟩, fun ⟨p, q⟩ => ⟨p, (c x p).mpr q⟩⟩, fun e he p => (h.lts e he p).trans (c e.1 p), h.ln⟩
theorem LR.nil : LR (fun _ _ => False) [] := ⟨List.nodup_nil, fun x => ⟨fun h => (by cases h), fun ⟨_, h⟩ => h.elim⟩, fun e he => (by cases he), fun e he => (by cases he)⟩
theorem LR.let {rel : List Nat → Nat → Prop} {es : List Le} (h : LR rel es) {e : Le} (he : e ∈ es) : letL es e.1 = e.2.2 := by
  have kn := h.kn
  unfold letL
  have : es.find? (fun x => decide (x.1 = e.1)) = some e := by
    clear h
    induction es with
    | nil => cases he
    | cons f es ih =>
      rw [List.map_cons] at kn
      have n := List.nodup_cons.mp kn
      rw [List.find?_cons]
      rcases List.mem_cons.mp he with rfl | he
      · rw [decide_eq_true rfl]
      · rw [decide_eq_false (fun z => n.1 (by rw [z]; exact List.mem_map.mpr ⟨e, he, rfl⟩))]
        exact ih he n.2
  rw [this]
theorem let_none {es : List Le} {x : List Nat} (h : x ∉ es.map (·.1)) : letL es x = [] := by
  unfold letL
  have : es.find? (fun e => decide (e.1 = x)) = none := by
    rw [List.find?_eq_none]
    intro e he z
    exact h (List.mem_map.mpr ⟨e, he, of_decide_eq_true z⟩)
  rw [this]
theorem LR.mem {rel : List Nat → Nat → Prop} {es : List Le} (h : LR rel es) {x : List Nat} {c : Nat} : c ∈ letL es x ↔ rel x c := by
  by_cases hx : x ∈ es.map (·.1)
  · obtain ⟨e, he, rfl⟩ := List.mem_map.mp hx
    rw [h.let he]
    exact h.lts e he c
  · rw [let_none hx]
    exact ⟨fun z => (by cases z), fun z => absurd ((h.key x).mpr ⟨c, z⟩) hx⟩
theorem LR.put {rel : List Nat → Nat → Prop} {es : List Le} {x : List Nat} {c : Nat} {q : Addr} (h : LR rel es) (hn : ¬ rel x c) : LR (fun y d => rel y d ∨ (y = x ∧ d = c)) (putL es x q (letL es x ++ [c])) := by
  have nd1 : (letL es x ++ [c]).Nodup := by
    rw [List.nodup_append]
    refine ⟨?_, by simp, fun a ha b hb z => ?_⟩
    · by_cases hx : x ∈ es.map (·.1)
      · obtain ⟨e, he, rfl⟩ := List.mem_map.mp hx
        rw [h.let he]
        exact h.ln e he
      · rw [let_none hx]
        exact List.nodup_nil
    · rw [List.mem_singleton] at hb
      rw [z, hb] at ha
      exact hn (h.mem.mp ha)
  unfold putL
  by_cases hx : x ∈ es.map (·.1)
  · rw [if_pos hx]
    have ek : (es.map fun e => if e.1 = x then (e.1, q, letL es x ++ [c]) else e).map (·.1) = es.map (·.1) := by
      rw [List.map_map]
      refine List.map_congr_left fun e _ => ?_
      show (if e.1 = x then (e.1, q, letL es x ++ [c]) else e).1 = e.1
      split <;> rfl
    refine ⟨by rw [ek]; exact h.kn, fun y => ?_, fun e he d => ?_, fun e he => ?_⟩
    · rw [ek, h.key y]
      constructor
      · rintro ⟨d, hd⟩
        exact ⟨d, .inl hd⟩
      · rintro ⟨d, hd | ⟨rfl, rfl⟩⟩
        · exact ⟨d, hd⟩
        · exact (h.key y).mp hx
    · obtain ⟨e', he', rfl⟩ := List.mem_map.mp he
      by_cases z : e'.1 = x
      · rw [if_pos z]
        show d ∈ letL es x ++ [c] ↔ rel e'.1 d ∨ (e'.1 = x ∧ d = c)
        rw [List.mem_append, List.mem_singleton, h.mem, z]
        simp
      · rw [if_neg z, h.lts e' he' d]
        exact ⟨.inl, fun a => a.elim id fun b => absurd b.1 z⟩
    · obtain ⟨e', he', rfl⟩ := List.mem_map.mp he
      by_cases z : e'.1 = x
      · rw [if_pos z]
        exact nd1
      · rw [if_neg z]
        exact h.ln e' he'
  · rw [if_neg hx]
    refine ⟨?_, fun y => ?_, fun e he d => ?_, fun e he => ?_⟩
    · rw [List.map_append, List.nodup_append]
      refine ⟨h.kn, by simp, fun a ha b hb z => ?_⟩
      have hb' : b = x := by simpa using hb
      rw [z, hb'] at ha
      exact hx ha
    · rw [List.map_append, List.mem_append, h.key y]
      constructor
      · rintro (⟨d, hd⟩ | hd)
        · exact ⟨d, .inl hd⟩
        · exact ⟨c, .inr ⟨by simpa using hd, rfl⟩⟩
      · rintro ⟨d, hd | ⟨rfl, rfl⟩⟩
        · exact .inl ⟨d, hd⟩
        · exact .inr (by simp)
    · rcases List.mem_append.mp he with he | he
      · rw [h.lts e he d]
        exact ⟨.inl, fun a => a.elim id fun b => absurd (List.mem_map.mpr ⟨e, he, b.1⟩) hx⟩
      · rw [List.mem_singleton] at he
        subst he
        show d ∈ letL es x ++ [c] ↔ rel x d ∨ (x = x ∧ d = c)
        rw [let_none hx, List.nil_append, List.mem_singleton]
        exact ⟨fun a => .inr ⟨rfl, a⟩, fun a => a.elim (fun b => absurd ((h.key x).mpr ⟨d, b⟩) hx) fun b => b.2⟩
    · rcases List.mem_append.mp he with he | he
      · exact h.ln e he
      · rw [List.mem_singleton] at he
        subst he
        exact nd1
end WP
namespace WP
open PySem PySem.Spec PyProof.Rows L2 Evl SrtO LamX
open SX (S S_len S_cat S_inj S_tl)
section
variable {K : PySem.W.Frag} {σ : L2.St} {H H' : Hp} {ta tb tc te tx td ty tv tl : TE} {t u : TT} {v : V} {tu tz : TS} {D : Ends}
theorem InL.ex {es : List Le} (h : InL es H) (e : Ex H H') : InL es H' := fun x hx => e _ _ (h x hx)
/-- d[x] = d.get(x, []) + [c] -/
theorem s_growL {rel : List Nat → Nat → Prop} {pd : Addr} {es : List Le} {x : List Nat} {c : Nat} (hd : H pd = some (.dK (kvL es))) (hin : InL es H) (hr : LR rel es) (h1 : Ev td σ H (.ref pd)) (h2 : Ev ty σ H (vS x)) (hc : Ev tc σ H (vS [c])) (hz : es.length < 100000) (hlen : (letL es x).length ≤ 1000)
    (k : ∀ q H1, Ex H H1 → H1 q = none → D.nx σ (upd (upd H1 q (.lst ((letL es x ++ [c]).map one1))) pd (.dK (kvL (putL es x q (letL es x ++ [c])))))) :
    sDPut td ty (tOp rCat (tDGet2 td ty (tLst tNil)) (tLst (tCons tc tNil))) D σ H := by
  refine h1 H (Ex.refl H) _ fun H1 e1 => ⟨pd, rfl, .inl ⟨kvL es, .inl (e1 _ _ hd)⟩, h2 H1 e1 _ fun H2 e2 => ⟨Nat.zero_le _, fun p0 hp0 => ?_⟩⟩
  have x2 : Ex H (upd H2 p0 (.lst [])) := (e1.trans e2).trans (Ex.new hp0)
  refine ⟨valV (kvL es) (Sum.inr (S x)), DGet.k (k := Sum.inr (S x)) (x2 _ _ hd), ?_⟩
  have fin : ∀ (a : Addr) (H3 : Hp), Ex H H3 → H3 a = some (.lst ((letL es x).map one1)) → tLst (tCons tc tNil) σ H3 fun y H4 => rCat (.ref a) y H4 fun v H5 => td σ H5 fun x1 H6 => ty σ H6 fun y1 H7 => ∃ a H8, x1 = .ref a ∧ DPut H7 a y1 v H8 ∧ D.nx σ H8 := fun a H3 e3 ha => by
    refine hc H3 e3 _ fun H4 e4 => ⟨by show 1 ≤ sizeLine; decide, fun p hp => ?_⟩
    have ha4 : upd H4 p (.lst [vS [c]]) a = some (.lst ((letL es x).map one1)) := by rw [upd_ne (ne_of_none (e4 _ _ ha) hp)]; exact e4 _ _ ha
    refine ⟨a, p, (letL es x).map one1, [vS [c]], rfl, rfl, ha4, upd_same, by rw [List.length_map]; exact Nat.le_trans (Nat.succ_le_succ hlen) (by decide), fun q hq => ?_⟩
    have e5 : (letL es x).map one1 ++ [vS [c]] = (letL es x ++ [c]).map one1 := by rw [List.map_append]; rfl
    rw [e5]
    have x5 : Ex H (upd H4 p (.lst [vS [c]])) := (e3.trans e4).trans (Ex.new hp)
    refine h1 _ (x5.trans (Ex.new hq)) _ fun H6 e6 => h2 _ ((x5.trans (Ex.new hq)).trans e6) _ fun H7 e7 => ?_
    have x7 : Ex H H7 := ((x5.trans (Ex.new hq)).trans e6).trans e7
    refine ⟨pd, _, rfl, DPut.k (k := Sum.inr (S x)) (x7 _ _ hd) (by rw [kvL_len]; exact sz_lt hz), ?_⟩
    rw [putL_kv (ls := letL es x ++ [c])]
    have hq7 : H7 q = some (.lst ((letL es x ++ [c]).map one1)) := (e6.trans e7) _ _ upd_same
    -- the new list is told apart from the heap without it
    have eH : upd (fun b => if b = q then none else H7 b) q (.lst ((letL es x ++ [c]).map one1)) = H7 := by
      funext b
      unfold upd
      by_cases hb : b = q
      · rw [if_pos hb, hb, hq7]
      · rw [if_neg hb]
        exact if_neg hb
    have hk := k q (fun b => if b = q then none else H7 b) (fun b o hb => by
      have n : b ≠ q := fun z => by
        have := x5 _ _ hb
        rw [z, hq] at this
        cases this
      show (if b = q then none else H7 b) = some o
      rw [if_neg n]
      exact x7 _ _ hb) (if_pos rfl)
    rw [eH] at hk
    exact hk
  cases hv : valV (kvL es) (Sum.inr (S x)) with
  | none =>
    have hx := valL_none.mp hv
    exact fin p0 _ x2 (by rw [let_none hx]; exact upd_same)
  | some v =>
    obtain ⟨e, he, rfl, rfl⟩ := valL_some hv
    exact fin e.2.1 _ x2 (by rw [hr.let he]; exact x2 _ _ (hin e he))
theorem q_growL {rel : List Nat → Nat → Prop} {pd : Addr} {es : List Le} {x : List Nat} {c : Nat} (hd : H pd = some (.dK (kvL es))) (hin : InL es H) (hr : LR rel es) (h1 : Ev td σ H (.ref pd)) (h2 : Ev ty σ H (vS x)) (hc : Ev tc σ H (vS [c])) (hz : es.length < 100000) (hlen : (letL es x).length ≤ 1000)
    (k : ∀ q H1, Ex H H1 → H1 q = none → tz D σ (upd (upd H1 q (.lst ((letL es x ++ [c]).map one1))) pd (.dK (kvL (putL es x q (letL es x ++ [c])))))) :
    tSeq (sDPut td ty (tOp rCat (tDGet2 td ty (tLst tNil)) (tLst (tCons tc tNil)))) tz D σ H := s_growL (D := { D with nx := tz D }) hd hin hr h1 h2 hc hz hlen k
theorem q_putK {p : Addr} {kvs : List (Key × V)} {k : Key} (hd : H p = some (.dK kvs)) (h1 : Ev td σ H (.ref p)) (h2 : Ev ty σ H (kV k)) (h3 : Ev tv σ H v) (hz : kvs.length < 100000) (kk : ∀ H1, Ex H H1 → tz D σ (upd H1 p (.dK (putK kvs k v)))) : tSeq (sDPut td ty tv) tz D σ H := s_putK (D := { D with nx := tz D }) hd h1 h2 h3 hz kk
end
end WP
namespace WP
open PySem PySem.Spec PyProof.Rows L2 Evl SrtO LamX
open SX (S S_len S_cat S_inj S_tl)
section
variable {K : PySem.W.Frag} {σ : L2.St} {H H' : Hp} {ta tb tc te tx td ty tv tl : TE} {t u : TT} {v : V} {tu tz : TS} {D : Ends}
/-- a, b, c = {}, {}, {} -/
theorem q_asg3D {i j l : Nat} (k : ∀ p1 p2 p3 H1, H p1 = none → H p2 = none → H p3 = none → p1 ≠ p2 → p1 ≠ p3 → p2 ≠ p3 → Ex H H1 → H1 p1 = some (.dK []) → H1 p2 = some (.dK []) → H1 p3 = some (.dK []) → tz D (((σ.set i (some (.ref p1))).set j (some (.ref p2))).set l (some (.ref p3))) H1) :
    tSeq (tAsg (tTup (tCons tDNewK (tCons tDNewK (tCons tDNewK tNil)))) (gTup K 3 (gCons (gName i) (gCons (gName j) (gCons (gName l) gNil))))) tz D σ H := fun p1 h1 p2 h2 p3 h3 => by
  have n12 : p1 ≠ p2 := fun z => by rw [← z, upd_same] at h2; cases h2
  have n13 : p1 ≠ p3 := fun z => by rw [← z, upd_ne n12, upd_same] at h3; cases h3
  have n23 : p2 ≠ p3 := fun z => by rw [← z, upd_same] at h3; cases h3
  have x2 : Ex H (upd H p1 (.dK [])) := Ex.new h1
  have x3 := x2.trans (Ex.new (o := .dK []) h2)
  have x4 := x3.trans (Ex.new (o := .dK []) h3)
  refine ⟨by show 3 ≤ sizeLine; decide, fun q hq => ⟨q, _, rfl, .inl (.inl upd_same), rfl, _, _, rfl, _, _, rfl, _, _, rfl, rfl, ?_⟩⟩
  refine k p1 p2 p3 _ h1 (fresh_back x2 h2) (fresh_back x3 h3) n12 n13 n23 (x4.trans (Ex.new hq)) ?_ ?_ ?_
  · exact (Ex.new hq) _ _ (by rw [upd_ne n13, upd_ne n12, upd_same])
  · exact (Ex.new hq) _ _ (by rw [upd_ne n23, upd_same])
  · exact (Ex.new hq) _ _ upd_same
/-- a list that stands somewhere, new or not -/
def EvR (te : TE) (σ : L2.St) (H : Hp) (xs : List V) : Prop := ∀ H1, Ex H H1 → ∀ Q : VK, (∀ a H2, Ex H1 H2 → H2 a = some (.lst xs) → Q (.ref a) H2) → te σ H1 Q
theorem valL_mem {rel : List Nat → Nat → Prop} {es : List Le} (h : LR rel es) {e : Le} (he : e ∈ es) : valV (kvL es) (Sum.inr (S e.1)) = some (.ref e.2.1) := by
  cases q : valV (kvL es) (Sum.inr (S e.1)) with
  | none => exact absurd (List.mem_map.mpr ⟨e, he, rfl⟩) (valL_none.mp q)
  | some v =>
    obtain ⟨e', he', h1, rfl⟩ := valL_some q
    have : e' = e := by
      have kn := List.pairwise_iff_getElem.mp h.kn
      obtain ⟨a, ha, ea⟩ := List.getElem_of_mem he'
      obtain ⟨b, hb, eb⟩ := List.getElem_of_mem he
      rcases Nat.lt_trichotomy a b with z | z | z
      · exact absurd (by rw [List.getElem_map, List.getElem_map, ea, eb, h1]) (kn a b (by rw [List.length_map]; exact ha) (by rw [List.length_map]; exact hb) z)
      · subst z
        rw [← ea, ← eb]
      · exact absurd (by rw [List.getElem_map, List.getElem_map, ea, eb, h1]) (kn b a (by rw [List.length_map]; exact hb) (by rw [List.length_map]; exact ha) z)
    rw [this]
theorem ev_dgetL {rel : List Nat → Nat → Prop} {d : Addr} {es : List Le} {e : Le} (h1 : Ev td σ H (.ref d)) (h2 : Ev ty σ H (vS e.1)) (hd : Rd H d (.dK (kvL es))) (hr : LR rel es) (he : e ∈ es) : Ev (tDGet td ty) σ H (.ref e.2.1) := fun H1 x1 Q q =>
  h1 H1 x1 _ fun H2 e2 => h2 H2 (x1.trans e2) _ fun H3 e3 => ⟨d, .ref e.2.1, rfl, .inl ⟨kvL es, Sum.inr (S e.1), ex_rd ((x1.trans e2).trans e3) hd, rfl, (valL_mem hr he).symm⟩, q H3 (e2.trans e3)⟩
theorem er_get2 {rel : List Nat → Nat → Prop} {d : Addr} {es : List Le} {x : List Nat} (h1 : Ev td σ H (.ref d)) (h2 : Ev ty σ H (vS x)) (hd : H d = some (.dK (kvL es))) (hr : LR rel es) (hin : InL es H) : EvR (tDGet2 td ty (tLst tNil)) σ H ((letL es x).map one1) := fun H1 x1 Q q =>
  h1 H1 x1 _ fun H2 e2 => ⟨d, rfl, .inl ⟨kvL es, .inl ((x1.trans e2) _ _ hd)⟩, h2 H2 (x1.trans e2) _ fun H3 e3 => ⟨Nat.zero_le _, fun p hp => by
    have x3 : Ex H (upd H3 p (.lst [])) := ((x1.trans e2).trans e3).trans (Ex.new hp)
    refine ⟨valV (kvL es) (Sum.inr (S x)), DGet.k (k := Sum.inr (S x)) (x3 _ _ hd), ?_⟩
    cases hv : valV (kvL es) (Sum.inr (S x)) with
    | none => exact q p _ ((e2.trans e3).trans (Ex.new hp)) (by rw [let_none (valL_none.mp hv)]; exact upd_same)
    | some v =>
      obtain ⟨e, he, rfl, rfl⟩ := valL_some hv
      exact q e.2.1 _ ((e2.trans e3).trans (Ex.new hp)) (by rw [hr.let he]; exact x3 _ _ (hin e he))⟩⟩
/-- a comprehension over such a list of letters -/
theorem el_lcRf {ls : List Nat} {j : Nat} {vs : List Nat} (f : Nat → Bool) (v : Nat → V) (h : EvR tl σ H (ls.map one1)) (hz : ls.length ≤ 40000) (hw : ∀ x, wipe ((wipe σ vs).set j (some x)) vs = wipe σ vs)
    (ht : ∀ (c : Nat) H1, c ∈ ls → Ex H H1 → EvT t ((wipe σ vs).set j (some (vS [c]))) H1 (f c)) (he : ∀ (c : Nat) H1, c ∈ ls → Ex H H1 → f c = true → Ev te ((wipe σ vs).set j (some (vS [c]))) H1 (v c)) :
    EvL (tLc (iList K tl) (gName j) t te vs) σ H ((ls.filter f).map v) := fun H0 e Q q => by
  rw [← given_of] at q
  refine h H0 e _ fun a H1 e1 hx => ⟨a, rfl, ⟨ls.map one1, sq_of hx⟩, fun Dl hD => ?_⟩
  have hl : (ls.map one1).length = ls.length := by rw [List.length_map]
  rw [← hl] at q
  refine lc_list (xs := ls.map one1) (Cw H1 _ _ Dl) ⟨hD, Ex.new hD, upd_same⟩ (fun i H' _ p => sq_of (p.2.1 _ _ hx)) (fun i x H' hi p => ?_) (fun H' p => q Dl H' (fresh_back e1 p.1) (e1.trans p.2.1) p.2.2)
  rw [List.getElem?_map] at hi
  obtain ⟨c, hc, rfl⟩ : ∃ c, ls[i]? = some c ∧ x = vS [c] := by
    cases q : ls[i]? with
    | none => rw [q] at hi; cases hi
    | some y => rw [q] at hi; exact ⟨y, rfl, (Option.some.inj hi).symm⟩
  refine ⟨hw _, cw_turn p (by have := (List.getElem?_eq_some_iff.mp hc).1; omega) ?_ ?_⟩
  · rw [hc]
    exact ht c H1 (List.mem_of_getElem? hc) (e.trans e1)
  · rw [hc]
    exact he c H1 (List.mem_of_getElem? hc) (e.trans e1)
/-- a text not among a dict's keys -/
theorem ev_knin {d : Addr} {kvs : List (Key × V)} {ks : List (List Nat)} {x : List Nat} (hx : Ev tx σ H (vS x)) (h : Ev te σ H (.ref d)) (hd : H d = some (.dK kvs)) (hk : kvs.map (·.1) = ks.map (fun l => Sum.inr (S l))) : Ev (tDNotIn tx te) σ H (.bl (!decide (x ∈ ks))) := fun H1 e Q q =>
  hx H1 e _ fun H2 e2 => h H2 (e.trans e2) _ fun H3 e3 => ⟨d, _, rfl, DGet.k (k := Sum.inr (S x)) (((e.trans e2).trans e3) _ _ hd), by
    rw [← valV_any, keys_any hk]
    exact q H3 (e2.trans e3)⟩
end
end WP
namespace WP
open PySem PySem.Spec PyProof.Rows L2 Evl SrtO LamX
open SX (S S_len S_cat S_inj S_tl)
/-! ### what _law_least gathers -/
def relA (ps : List (List Nat)) (x : List Nat) (c : Nat) : Prop := (c :: x) ∈ ps
def relB (ps : List (List Nat)) (x : List Nat) (c : Nat) : Prop := (x ++ [c]) ∈ ps
def rowL (w : List Nat) (esB : List Le) (x : List Nat) (a : Nat) : List (List Nat) := ((letL esB x).filter fun c => !decide (a :: (x ++ [c]) ∈ piecesF w)).map fun c => a :: (x ++ [c])
def genL (w : List Nat) (esB : List Le) (e : Le) : List (List Nat) := e.2.2.flatMap (rowL w esB e.1)
theorem genL_mem {w : List Nat} {esA esB : List Le} (hA : LR (relA (piecesF w)) esA) (hB : LR (relB (piecesF w)) esB) {y : List Nat} : y ∈ esA.flatMap (genL w esB) ↔ ∃ a x c, y = a :: (x ++ [c]) ∧ (a :: x) <:+: w ∧ (x ++ [c]) <:+: w ∧ ¬ y <:+: w := by
  rw [List.mem_flatMap]
  constructor
  · rintro ⟨e, he, hy⟩
    unfold genL rowL at hy
    obtain ⟨a, ha, hy⟩ := List.mem_flatMap.mp hy
    obtain ⟨c, hc, rfl⟩ := List.mem_map.mp hy
    rw [List.mem_filter, Bool.not_eq_true', decide_eq_false_iff_not] at hc
    exact ⟨a, e.1, c, rfl, pieces_mem.mp ((hA.lts e he a).mp ha), pieces_mem.mp (hB.mem.mp hc.1), fun z => hc.2 (pieces_mem.mpr z)⟩
  · rintro ⟨a, x, c, rfl, h1, h2, h3⟩
    have hx : x ∈ esA.map (·.1) := (hA.key x).mpr ⟨a, pieces_mem.mpr h1⟩
    obtain ⟨e, he, rfl⟩ := List.mem_map.mp hx
    refine ⟨e, he, ?_⟩
    unfold genL rowL
    refine List.mem_flatMap.mpr ⟨a, (hA.lts e he a).mpr (pieces_mem.mpr h1), List.mem_map.mpr ⟨c, List.mem_filter.mpr ⟨hB.mem.mpr (pieces_mem.mpr h2), ?_⟩, rfl⟩⟩
    rw [Bool.not_eq_true', decide_eq_false_iff_not]
    exact fun z => h3 (pieces_mem.mp z)
theorem let_nd {rel : List Nat → Nat → Prop} {es : List Le} (h : LR rel es) (x : List Nat) : (letL es x).Nodup := by
  by_cases hx : x ∈ es.map (·.1)
  · obtain ⟨e, he, rfl⟩ := List.mem_map.mp hx
    rw [h.let he]
    exact h.ln e he
  · rw [let_none hx]
    exact List.nodup_nil
theorem genL_nd {w : List Nat} {esA esB : List Le} (hA : LR (relA (piecesF w)) esA) (hB : LR (relB (piecesF w)) esB) : (esA.flatMap (genL w esB)).Nodup := by
  have hes : esA.Pairwise (fun a b => a.1 ≠ b.1) := List.pairwise_map.mp hA.kn
  refine List.pairwise_flatMap.mpr ⟨fun e he => ?_, hes.imp fun {e f} n x hx y hy q => ?_⟩
  · unfold genL
    refine List.pairwise_flatMap.mpr ⟨fun a ha => ?_, (hA.ln e he).imp fun {a b} n x hx y hy q => ?_⟩
    · unfold rowL
      exact nd_map (fun c d q => by have := (List.append_inj (List.cons.inj q).2 rfl).2; exact (List.cons.inj this).1) (nd_filter (let_nd hB _))
    · unfold rowL at hx hy
      obtain ⟨c, _, rfl⟩ := List.mem_map.mp hx
      obtain ⟨d, _, rfl⟩ := List.mem_map.mp hy
      exact n (List.cons.inj q).1
  · unfold genL rowL at hx hy
    obtain ⟨a, _, hx⟩ := List.mem_flatMap.mp hx
    obtain ⟨c, _, rfl⟩ := List.mem_map.mp hx
    obtain ⟨b, _, hy⟩ := List.mem_flatMap.mp hy
    obtain ⟨d, _, rfl⟩ := List.mem_map.mp hy
    have q2 := (List.cons.inj q).2
    have hl : e.1.length = f.1.length := by
      have := congrArg List.length q2
      simpa using this
    exact n (List.append_inj q2 hl).1
theorem gathL_is {w l : List Nat} {esA esB : List Le} (hw : Wd w) (hl : l.Nodup) (hA : LR (relA (piecesF w)) esA) (hB : LR (relB (piecesF w)) esB) : srtL (baseM w l ++ esA.flatMap (genL w esB)) = missF w l := by
  refine miss_of hw hl ?_ fun y => ?_
  · rw [List.nodup_append]
    refine ⟨nd_map (fun a b e => (List.cons.inj e).1) (nd_filter hl), genL_nd hA hB, fun a ha b hb e => ?_⟩
    obtain ⟨c, _, rfl⟩ := List.mem_map.mp ha
    obtain ⟨a', x, d, rfl, _⟩ := (genL_mem hA hB).mp hb
    have := congrArg List.length e
    simp at this
  · rw [List.mem_append, genL_mem hA hB]
    unfold isM baseM
    refine or_congr ?_ Iff.rfl
    rw [List.mem_map]
    constructor
    · rintro ⟨c, hc, rfl⟩
      rw [List.mem_filter] at hc
      exact ⟨c, hc.1, rfl, by have := hc.2; rw [Bool.not_eq_true', ← Bool.not_eq_true, List.contains_iff_mem] at this; exact this⟩
    · rintro ⟨c, h1, rfl, h2⟩
      refine ⟨c, List.mem_filter.mpr ⟨h1, ?_⟩, rfl⟩
      rw [Bool.not_eq_true', ← Bool.not_eq_true, List.contains_iff_mem]
      exact h2
end WP
namespace WP
open PySem PySem.Spec PyProof.Rows L2 Evl SrtO LamX
open SX (S S_len S_cat S_inj S_tl)
section
variable {K : PySem.W.Frag} {σ : L2.St} {H H' : Hp} {ta tb tc te tx td ty tv tl : TE} {t u : TT} {v : V} {tu tz : TS} {D : Ends}
/-- for x in d, the dict read only from now on -/
theorem q_forKeys {i : Nat} {pd : Addr} {es : List Le} (h : Ev td σ H (.ref pd)) (hd : H pd = some (.dK (kvL es))) (Pv : Obj → Nat → L2.St → Hp → Prop)
    (h0 : ∀ o H1 H2, Ex H H1 → H2 pd = some (.frz o (.dK (kvL es))) → (∀ b, b ≠ pd → H2 b = H1 b) → Pv o 0 σ H2) (hG : ∀ o m σ' H', Pv o m σ' H' → H' pd = some (.frz o (.dK (kvL es))))
    (hs : ∀ o m e σ' H', es[m]? = some e → Pv o m σ' H' → tu { D with nx := Pv o (m + 1), ct := Pv o (m + 1), bk := tz D } (σ'.set i (some (vS e.1))) H')
    (hdone : ∀ o σ' H', Pv o es.length σ' H' → tz D σ' H') : tSeq (tFor (iKeys (tFrzs td)) (gName i) tu) tz D σ H :=
  h H (Ex.refl H) _ fun H1 e1 => ⟨[pd], by simp, fun d hdm => ⟨.dK (kvL es), by rw [List.mem_singleton.mp hdm]; exact e1 _ _ hd, trivial⟩, fun H2 a1 a2 => by
    obtain ⟨o, u, hu1, hu2⟩ := a2 pd (by simp)
    rw [e1 _ _ hd] at hu1
    cases hu1
    refine ⟨pd, o, rfl, .inl ⟨kvL es, hu2, for_it (D := { D with nx := tz D }) (w := walk_keys (d := pd) (o := o) (kvs := kvL es)) (Pv o) (h0 o H1 H2 e1 hu2 fun b hb => a1 b (by simpa using hb)) (fun m σ' H' _ p => hG o m σ' H' p) (fun m x σ' H' H'' hm p y => ?_) (fun σ' H' p => hdone o σ' H' (by rw [kvL_len] at p; exact p))⟩⟩
    obtain ⟨rfl, k, v, hkv, rfl⟩ := y
    rw [kvL_len] at hm
    have hme : es[m]? = some es[m] := List.getElem?_eq_getElem hm
    have ek : k = Sum.inr (S es[m].1) := by
      unfold kvL at hkv
      rw [List.getElem?_map, hme] at hkv
      exact (Prod.mk.inj (Option.some.inj hkv)).1.symm
    subst ek
    exact hs o m es[m] σ' H'' hme p⟩
end
end WP
namespace WP
open PySem PySem.Spec PyProof.Rows L2 Evl SrtO LamX
open SX (S S_len S_cat S_inj S_tl)
/-- a list of one's own is written -/
theorem tabs_mut {T : List (Addr × Str)} {H : Hp} {p : Addr} {xs ys : List V} (t : Tabs T H) (h : H p = some (.lst xs)) : Tabs T (upd H p (.lst ys)) := fun q hq => by
  obtain ⟨ps, h1, h2, h3⟩ := t q hq
  refine ⟨ps, by rw [upd_ne (fun z => by rw [z, h] at h1; cases h1)]; exact h1, h2, fun pos cv hc => ?_⟩
  obtain ⟨c, e1, e2⟩ := h3 pos cv hc
  exact ⟨c, e1, by rw [upd_ne (fun z => by rw [z, h] at e2; cases e2)]; exact e2⟩
theorem NX.mut {T : List (Addr × Str)} {H H1 H' : Hp} {p : Addr} {xs ys : List V} (n : NX T H H1) (hp : H1 p = none) (n2 : NX T H1 H') (h : H' p = some (.lst xs)) : NX T H (upd H' p (.lst ys)) :=
  ⟨fun b o hb hn => by rw [upd_ne (ne_of_none (n.1 b o hb hn) hp)]; exact n2.1 b o (n.1 b o hb hn) hn, fun t => tabs_mut (n2.2 (n.2 t)) h⟩
theorem miss_cps {w l : List Nat} (hw : Wd w) (hl : Wd l) : ∀ y ∈ missF w l, Cps y := fun y hy c hc => by
  have h2 : ∀ d ∈ azs, d < 1000 := by decide
  have hm := (cand_mem hw).mp (srtL_mem.mp hy)
  rcases hm with ⟨d, hd, rfl, _⟩ | ⟨a, x, d, rfl, h1, h3, _⟩
  · rw [List.mem_singleton.mp hc]
    exact h2 _ (hl.2 d hd)
  · refine h2 c (hw.2 c ?_)
    rcases List.mem_cons.mp hc with rfl | hc
    · exact h1.subset List.mem_cons_self
    · exact h3.subset hc
end WP
namespace WP
open PySem PySem.Spec PyProof.Rows L2 Evl SrtO LamX
open SX (S S_len S_cat S_inj S_tl)
/-! ### readings over heaps whose tables may grow -/
/-- p was new somewhere on the way from H to H' -/
def NN (T : List (Addr × Str)) (H : Hp) (p : Addr) (H' : Hp) : Prop := ∃ Hm, NX T H Hm ∧ Hm p = none ∧ NX T Hm H'
section
variable {T : List (Addr × Str)} {K : PySem.W.Frag} {σ : L2.St} {H H' H1 H2 : Hp} {p : Addr} {xs ys vs : List V} {ta tb te tx td tl : TE} {t u : TT} {v x y z : V} {tu tw tz : TS} {D : Ends} {r : R2} {sp : Sp}
theorem NN.nx (n : NN T H p H') : NX T H H' := by
  obtain ⟨Hm, a, _, b⟩ := n
  exact a.trans b
theorem NN.post (n : NN T H p H1) (m : NX T H1 H') : NN T H p H' := by
  obtain ⟨Hm, a, h, b⟩ := n
  exact ⟨Hm, a, h, b.trans m⟩
theorem NN.pre (m : NX T H H1) (n : NN T H1 p H') : NN T H p H' := by
  obtain ⟨Hm, a, h, b⟩ := n
  exact ⟨Hm, m.trans a, h, b⟩
theorem NN.neL {q : Addr} (n : NN T H p H') (h : H q = some (.lst xs)) : q ≠ p := by
  obtain ⟨Hm, a, hp, b⟩ := n
  intro e
  have := a.lst h
  rw [e, hp] at this
  cases this
theorem NN.ne {q : Addr} {o : HO} (n : NN T H p H') (h : H q = some o) (ho : ∀ ps, o ≠ .tbl ps) : q ≠ p := by
  obtain ⟨Hm, a, hp, b⟩ := n
  intro e
  have := a.1 _ _ h ho
  rw [e, hp] at this
  cases this
theorem NN.mut (n : NN T H p H') (h : H' p = some (.lst xs)) : NX T H (upd H' p (.lst ys)) := by
  obtain ⟨Hm, a, hp, b⟩ := n
  exact NX.mut a hp b h
theorem NN.of (hp : H p = none) (e : Ex H H') : NN T H p H' := ⟨H, NX.refl H, hp, NX.of e⟩
def EvN (T : List (Addr × Str)) (te : TE) (σ : L2.St) (H : Hp) (v : V) : Prop := ∀ H1, NX T H H1 → ∀ Q : VK, (∀ H2, NX T H1 H2 → Q v H2) → te σ H1 Q
def EvLN (T : List (Addr × Str)) (te : TE) (σ : L2.St) (H : Hp) (xs : List V) : Prop := ∀ H1, NX T H H1 → ∀ Q : VK, (∀ p H2, NN T H1 p H2 → H2 p = some (.lst xs) → Q (.ref p) H2) → te σ H1 Q
def EvTN (T : List (Addr × Str)) (tt : TT) (σ : L2.St) (H : Hp) (b : Bool) : Prop := ∀ H1, NX T H H1 → ∀ Q : Bool → Hp → Prop, (∀ H2, NX T H1 H2 → Q b H2) → tt σ H1 Q
def EvAN (T : List (Addr × Str)) (ta : TA) (σ : L2.St) (H : Hp) (vs : List V) : Prop := ∀ H1, NX T H H1 → ∀ Q : List V → Hp → Prop, (∀ H2, NX T H1 H2 → Q vs H2) → ta σ H1 Q
def SpVN (T : List (Addr × Str)) (sp : Sp) (vs : List V) (H : Hp) (z : V) : Prop := ∀ H1, NX T H H1 → ∀ Q : VK, (∀ H2, NX T H1 H2 → Q z H2) → ∀ E : XK, sp vs H1 Q E
def SpLN (T : List (Addr × Str)) (sp : Sp) (vs : List V) (H : Hp) (xs : List V) : Prop := ∀ H1, NX T H H1 → ∀ Q : VK, (∀ p H2, NN T H1 p H2 → H2 p = some (.lst xs) → Q (.ref p) H2) → ∀ E : XK, sp vs H1 Q E
theorem Ev.toN (h : ∀ H1, NX T H H1 → Ev te σ H1 v) : EvN T te σ H v := fun H1 n Q q => h H1 n H1 (Ex.refl _) Q fun H2 e => q H2 (NX.of e)
theorem EvL.toN (h : ∀ H1, NX T H H1 → EvL te σ H1 xs) : EvLN T te σ H xs := fun H1 n Q q => h H1 n H1 (Ex.refl _) Q fun p H2 hp e h2 => q p H2 (NN.of hp e) h2
theorem EvT.toN {b : Bool} (h : ∀ H1, NX T H H1 → EvT t σ H1 b) : EvTN T t σ H b := fun H1 n Q q => h H1 n H1 (Ex.refl _) Q fun H2 e => q H2 (NX.of e)
theorem EvA.toN {ta : TA} (h : ∀ H1, NX T H H1 → EvA ta σ H1 vs) : EvAN T ta σ H vs := fun H1 n Q q => h H1 n H1 (Ex.refl _) Q fun H2 e => q H2 (NX.of e)
theorem ean_nil : EvAN T tNil σ H [] := fun H1 _ _ q => q H1 (NX.refl H1)
theorem ean_cons {tr : TA} (h : EvN T ta σ H x) (hr : EvAN T tr σ H vs) : EvAN T (tCons ta tr) σ H (x :: vs) := fun H1 n _ q =>
  h H1 n _ fun H2 n2 => hr H2 (n.trans n2) _ fun H3 n3 => q H3 (n2.trans n3)
theorem evn_is {w : V} (h : EvN T te σ H v) (e : v = w) : EvN T te σ H w := e ▸ h
theorem etn_is {a b : Bool} (h : EvTN T t σ H a) (e : a = b) : EvTN T t σ H b := e ▸ h
theorem etn_test {b : Bool} (h : EvN T te σ H (.bl b)) : EvTN T (tTest te) σ H b := fun H1 e _ q => h H1 e _ fun H2 e2 => ⟨b, rfl, q H2 e2⟩
theorem etn_B {b : Bool} (h : EvN T te σ H (.bl b)) : EvTN T (tB te) σ H b := fun H1 e _ q => h H1 e _ fun H2 e2 => ⟨b, rfl, q H2 e2⟩
theorem etn_not {a : Bool} (h1 : EvTN T t σ H a) : EvTN T (tNot t) σ H (!a) := fun H1 e _ q => h1 H1 e _ fun H2 e2 => q H2 e2
theorem etn_and {a b : Bool} (h1 : EvTN T t σ H a) (h2 : a = true → EvTN T u σ H b) : EvTN T (tAnd t u) σ H (a && b) := fun H1 e Q q => h1 H1 e _ fun H2 e2 => by
  cases a with
  | true => exact h2 rfl H2 (e.trans e2) Q fun H3 e3 => q H3 (e2.trans e3)
  | false => exact q H2 e2
theorem etn_or {a b : Bool} (h1 : EvTN T t σ H a) (h2 : a = false → EvTN T u σ H b) : EvTN T (tOr t u) σ H (a || b) := fun H1 e Q q => h1 H1 e _ fun H2 e2 => by
  cases a with
  | true => exact q H2 e2
  | false => exact h2 rfl H2 (e.trans e2) Q fun H3 e3 => q H3 (e2.trans e3)
theorem evn_andV {a b : Bool} (h1 : EvN T ta σ H (.bl a)) (h2 : a = true → EvN T tb σ H (.bl b)) : EvN T (tAndV ta tb) σ H (.bl (a && b)) := fun H1 e Q q => h1 H1 e _ fun H2 e2 => ⟨a, rfl, by
  cases a with
  | true => exact h2 rfl H2 (e.trans e2) Q fun H3 e3 => q H3 (e2.trans e3)
  | false => exact q H2 e2⟩
theorem evn_orV {a b : Bool} (h1 : EvN T ta σ H (.bl a)) (h2 : a = false → EvN T tb σ H (.bl b)) : EvN T (tOrV ta tb) σ H (.bl (a || b)) := fun H1 e Q q => h1 H1 e _ fun H2 e2 => ⟨a, rfl, by
  cases a with
  | true => exact q H2 e2
  | false => exact h2 rfl H2 (e.trans e2) Q fun H3 e3 => q H3 (e2.trans e3)⟩
theorem evn_notV {a : Bool} (h1 : EvN T ta σ H (.bl a)) : EvN T (tNotV ta) σ H (.bl (!a)) := fun H1 e _ q => h1 H1 e _ fun H2 e2 => ⟨a, rfl, q H2 e2⟩
theorem evn_call {dvs : List V} {E : XK} {ta : TA} (h : EvAN T ta σ H vs) (hs : SpVN T sp (vs ++ dvs) H z) : EvN T (tCall sp dvs E ta) σ H z := fun H1 e Q q =>
  h H1 e _ fun H2 e2 => hs H2 (e.trans e2) Q (fun H3 e3 => q H3 (e2.trans e3)) E
theorem eln_call {dvs : List V} {E : XK} {ta : TA} (h : EvAN T ta σ H vs) (hs : SpLN T sp (vs ++ dvs) H xs) : EvLN T (tCall sp dvs E ta) σ H xs := fun H1 e Q q =>
  h H1 e _ fun H2 e2 => hs H2 (e.trans e2) Q (fun p H3 n3 h3 => q p H3 (n3.pre e2) h3) E
theorem evn_op (ha : EvN T ta σ H x) (hb : EvN T tb σ H y) (hr : ∀ G, NX T H G → RV r x y G z) : EvN T (tOp r ta tb) σ H z := fun H1 e Q q =>
  ha H1 e _ fun H2 e2 => hb H2 (e.trans e2) _ fun H3 e3 => hr H3 ((e.trans e2).trans e3) H3 (Ex.refl _) Q fun H4 e4 => q H4 ((e2.trans e3).trans (NX.of e4))
theorem evn_opLL (ha : EvLN T ta σ H xs) (hb : EvLN T tb σ H ys) (hr : ∀ p q G, G p = some (.lst xs) → G q = some (.lst ys) → NX T H G → RV r (.ref p) (.ref q) G z) : EvN T (tOp r ta tb) σ H z := fun H1 e Q k =>
  ha H1 e _ fun p H2 n2 hp => hb H2 (e.trans n2.nx) _ fun q H3 n3 hq => hr p q H3 (n3.nx.lst hp) hq ((e.trans n2.nx).trans n3.nx) H3 (Ex.refl _) Q fun H4 e4 => k H4 ((n2.nx.trans n3.nx).trans (NX.of e4))
theorem evn_opL2 (ha : EvN T ta σ H x) (hb : EvLN T tb σ H ys) (hr : ∀ q G, G q = some (.lst ys) → NX T H G → RV r x (.ref q) G z) : EvN T (tOp r ta tb) σ H z := fun H1 e Q k =>
  ha H1 e _ fun H2 n2 => hb H2 (e.trans n2) _ fun q H3 n3 hq => hr q H3 hq ((e.trans n2).trans n3.nx) H3 (Ex.refl _) Q fun H4 e4 => k H4 ((n2.trans n3.nx).trans (NX.of e4))
theorem evn_opL1 (ha : EvLN T ta σ H xs) (hb : EvN T tb σ H y) (hr : ∀ p G, G p = some (.lst xs) → NX T H G → RV r (.ref p) y G z) : EvN T (tOp r ta tb) σ H z := fun H1 e Q k =>
  ha H1 e _ fun p H2 n2 hp => hb H2 (e.trans n2.nx) _ fun H3 n3 => hr p H3 (n3.lst hp) ((e.trans n2.nx).trans n3) H3 (Ex.refl _) Q fun H4 e4 => k H4 ((n2.nx.trans n3).trans (NX.of e4))
theorem s_asgN {i : Nat} (h : EvN T te σ H v) (k : ∀ H1, NX T H H1 → D.nx (σ.set i (some v)) H1) : tAsg te (gName i) D σ H := h H (NX.refl H) _ fun H1 n => k H1 n
theorem q_asgN {i : Nat} (h : EvN T te σ H v) (k : ∀ H1, NX T H H1 → tz D (σ.set i (some v)) H1) : tSeq (tAsg te (gName i)) tz D σ H := s_asgN (D := { D with nx := tz D }) h k
theorem s_asgLN {i : Nat} (h : EvLN T te σ H xs) (k : ∀ p H1, NN T H p H1 → H1 p = some (.lst xs) → D.nx (σ.set i (some (.ref p))) H1) : tAsg te (gName i) D σ H := h H (NX.refl H) _ fun p H1 n h1 => k p H1 n h1
theorem q_asgLN {i : Nat} (h : EvLN T te σ H xs) (k : ∀ p H1, NN T H p H1 → H1 p = some (.lst xs) → tz D (σ.set i (some (.ref p))) H1) : tSeq (tAsg te (gName i)) tz D σ H := s_asgLN (D := { D with nx := tz D }) h k
theorem s_ifN {b : Bool} (h : EvTN T t σ H b) (h1 : b = true → ∀ H1, NX T H H1 → tu D σ H1) (h2 : b = false → ∀ H1, NX T H H1 → tw D σ H1) : tIfS t tu tw D σ H := h H (NX.refl H) _ fun H1 e => by
  cases b with
  | true => exact h1 rfl H1 e
  | false => exact h2 rfl H1 e
theorem q_whenN {b : Bool} (h : EvTN T t σ H b) (h1 : b = true → ∀ H1, NX T H H1 → tu { D with nx := tz D } σ H1) (h2 : b = false → ∀ H1, NX T H H1 → tz D σ H1) : tSeq (tIfS t tu tNext) tz D σ H := s_ifN (D := { D with nx := tz D }) h h1 h2
theorem s_retN (h : EvN T te σ H v) (k : ∀ H1, NX T H H1 → D.rt v H1) : tRet te D σ H := h H (NX.refl H) _ k
theorem s_retLN (h : EvLN T te σ H xs) (k : ∀ p H1, NN T H p H1 → H1 p = some (.lst xs) → D.rt (.ref p) H1) : tRet te D σ H := h H (NX.refl H) _ k
/-! ### greater lists -/
theorem s_appZ {l : Addr} (hl : H l = some (.lst xs)) (ha : Ev ta σ H (.ref l)) (h : Ev te σ H v) (hz : xs.length < 16000000) (k : ∀ H1, Ex H H1 → D.nx σ (upd H1 l (.lst (xs ++ [v])))) :
    tDrop (tBM K "list" rAppend ta (tCons te tNil)) D σ H := ha H (Ex.refl H) _ fun H1 e1 =>
  ⟨Or.inl ⟨rfl, xs, sq_of (e1 l _ hl)⟩, h H1 e1 _ fun H2 e2 => ⟨l, xs, v, rfl, rfl, e2 l _ (e1 l _ hl), Nat.lt_of_lt_of_le hz (by decide), k H2 (e1.trans e2)⟩⟩
theorem el_lcXZ {a : Addr} {es : List (List Nat)} {j : Nat} {vs : List Nat} (f : List Nat → Bool) (v : List Nat → V) (h : Ev tl σ H (.ref a)) (hx : SqL K H a (es.map vS)) (hz : es.length ≤ 15000000) (hw : ∀ x, wipe ((wipe σ vs).set j (some x)) vs = wipe σ vs)
    (ht : ∀ (x : List Nat) H1, x ∈ es → Ex H H1 → EvT t ((wipe σ vs).set j (some (vS x))) H1 (f x)) (he : ∀ (x : List Nat) H1, x ∈ es → Ex H H1 → f x = true → Ev te ((wipe σ vs).set j (some (vS x))) H1 (v x)) :
    EvL (tLc (iList K tl) (gName j) t te vs) σ H ((es.filter f).map v) := fun H0 e Q q => by
  refine h H0 e _ fun H1 e1 => ⟨a, rfl, ⟨es.map vS, ex_l (e.trans e1) hx⟩, fun Dl hD => ?_⟩
  have hx1 := ex_l (e.trans e1) hx
  have hl : (es.map vS).length = es.length := List.length_map _
  refine lc_list (xs := es.map vS) (fun i H' => H1 Dl = none ∧ Ex H1 H' ∧ H' Dl = some (.lst (((es.take i).filter f).map v))) ⟨hD, Ex.new hD, upd_same⟩ (fun i H' _ p => ex_l p.2.1 hx1) (fun i x H' hi p => ?_) (fun H' p => ?_)
  · rw [List.getElem?_map] at hi
    obtain ⟨y, hy, rfl⟩ : ∃ y, es[i]? = some y ∧ x = vS y := by
      cases q : es[i]? with
      | none => rw [q] at hi; cases hi
      | some y => rw [q] at hi; exact ⟨y, rfl, (Option.some.inj hi).symm⟩
    have hm := List.mem_of_getElem? hy
    obtain ⟨p1, p2, p3⟩ := p
    have ta1 : es.take (i + 1) = es.take i ++ [y] := by rw [List.take_add_one, hy]; rfl
    refine ⟨hw _, ht y H' hm ((e.trans e1).trans p2) H' (Ex.refl _) _ fun H3 e3 => ?_⟩
    by_cases hf : f y = true
    · rw [if_pos hf]
      refine he y H' hm ((e.trans e1).trans p2) hf H3 e3 _ fun H4 e4 => ⟨_, (e3.trans e4) _ _ p3, Nat.lt_of_le_of_lt (m := 15000000) ?_ (by decide), p1, Ex.mut ((p2.trans e3).trans e4) p1, ?_⟩
      · rw [List.length_map]
        exact Nat.le_trans (List.length_filter_le _ _) (by rw [List.length_take]; omega)
      · rw [ta1, List.filter_append, List.map_append, List.filter_cons_of_pos hf]
        exact upd_same
    · rw [if_neg hf]
      refine ⟨p1, p2.trans e3, ?_⟩
      rw [ta1, List.filter_append, List.map_append, List.filter_cons_of_neg hf]
      simpa using e3 _ _ p3
  · obtain ⟨p1, p2, p3⟩ := p
    rw [hl, List.take_of_length_le (Nat.le_refl _)] at p3
    exact q Dl H' (fresh_back e1 p1) (e1.trans p2) p3
end
/-! ### missing, by values -/
section
variable {T : List (Addr × Str)} {H : Hp} {W L : List Nat}
theorem areL_is (h : areL (vS L) = true) : Wd L ∧ L.Nodup := by
  rw [areL_S, Bool.and_eq_true, Bool.and_eq_true] at h
  refine ⟨?_, ris_nd h.2.2⟩
  have h1 := h.1
  rw [isText_S, Bool.and_eq_true, decide_eq_true_eq, List.all_eq_true] at h1
  exact ⟨h1.1, fun c hc => List.contains_iff_mem.mp (h1.2 c hc)⟩
theorem thing_S (h : W.length ≤ 1000000) : Thing H (vS W) "str" := .str W h
theorem spln_missby (hW : Wd W) (hL : Wd L) (hn : L.Nodup) (hT : Tabs T H) : SpLN T (sp_missby T) ([vS W, vS L] ++ []) H ((missF W L).map vS) := fun H1 n Q q E =>
  ⟨W, L, rfl, hW, hL, hn, n.2 hT, fun H2 e2 t2 p H3 hp e3 h3 => q p H3 ⟨H2, NX.mk e2 t2, hp, NX.of e3⟩ h3⟩
theorem not_true_false {b : Bool} (h : b = true) (g : b = false) : False := by rw [h] at g; cases g
theorem spln_missing {C1 C2 : Addr} (hW : Wd W) (hL : areL (vS L) = true) (hO : okL L W = true) (hT : Tabs T H) : SpLN T (sp_missing C1 C2 T) ([vS W, vS L] ++ []) H ((missF W L).map vS) := fun H1 n Q q E =>
  ⟨vS W, "str", vS L, "str", rfl, thing_S (by have := hW.1; omega), thing_S (by have := (areL_is hL).1.1; omega), fun h => (not_true_false (isText_wd hW) h).elim, fun w e _ h => by
    cases e
    rcases h with h | ⟨l, e2, h⟩
    · exact (not_true_false hL h).elim
    · have := S_inj (V.str.inj e2)
      subst this
      exact (not_true_false hO h).elim, fun w l e1 e2 _ _ _ => by
    have a1 := S_inj (V.str.inj e1)
    have a2 := S_inj (V.str.inj e2)
    subst a1 a2
    exact ⟨n.2 hT, fun H2 e2 t2 p H3 hp e3 h3 => q p H3 ⟨H2, NX.mk e2 t2, hp, NX.of e3⟩ h3⟩⟩
def sp_rightM (T : List (Addr × Str)) : Sp := fun vs H Q _ => ∃ W L, vs = [vS W, vS L] ∧ Wd W ∧ areL (vS L) = true ∧ okL L W = true ∧ Tabs T H ∧ ∀ H2, NX T H H2 → Q (.bl true) H2
theorem spvn_rightM (hW : Wd W) (hL : areL (vS L) = true) (hO : okL L W = true) (hT : Tabs T H) : SpVN T (sp_rightM T) ([vS W, vS L] ++ []) H (.bl true) := fun H1 n Q q E => ⟨W, L, rfl, hW, hL, hO, n.2 hT, q⟩
def sp_lawT (K : PySem.W.Frag) (T : List (Addr × Str)) : Sp := fun vs H Q _ => ∃ (a : Addr) (ns : List Int), vs = [.ref a] ∧ SqL K H a (ns.map V.int) ∧ ns.length ≤ 63 ∧ (∀ z ∈ ns, Lim 1048577 z) ∧ Tabs T H ∧ ∀ H', Q (.bl true) H'
theorem miss_txt (hW : Wd W) (hL : Wd L) : ∀ x ∈ missF W L, x.length ≤ 102 := fun x hx => by
  have hm := (cand_mem hW).mp (srtL_mem.mp hx)
  rcases hm with ⟨d, hd, rfl, _⟩ | ⟨a, x, d, rfl, h1, h3, _⟩
  · simp
  · have := h1.length_le
    have := hW.1
    simp at *
    omega
theorem okL_of {l w : List Nat} (h : ∀ c ∈ w, c ∈ l) : okL l w = true := List.all_eq_true.mpr fun c hc => List.contains_iff_mem.mpr (h c hc)
theorem okL_mem {l w : List Nat} (h : okL l w = true) : ∀ c ∈ w, c ∈ l := fun c hc => List.contains_iff_mem.mp (List.all_eq_true.mp h c hc)
theorem okL_app {l w m : List Nat} (h : okL l w = true) : okL (l ++ m) w = true := okL_of fun c hc => List.mem_append.mpr (.inl (okL_mem h c hc))
theorem areL_lets : ∀ l ∈ lsets, areL (vS l) = true := by decide +kernel
theorem lets_z : ∀ l ∈ lsets, l.length < 4 → areL (vS (l ++ cut [122] none (some (Txt.count (S l) (S [97]))))) = true := by decide +kernel
def okWL (w l : List Nat) : Bool := isText (vS w) && (areL (vS l) && okL l w)
theorem isText_is {w : List Nat} (h : isText (vS w) = true) : Wd w := by
  rw [isText_S, Bool.and_eq_true, decide_eq_true_eq, List.all_eq_true] at h
  exact ⟨h.1, fun c hc => List.contains_iff_mem.mp (h.2 c hc)⟩
theorem okWL_is {w l : List Nat} (h : okWL w l = true) : Wd w ∧ areL (vS l) = true ∧ okL l w = true := by
  unfold okWL at h
  rw [Bool.and_eq_true, Bool.and_eq_true] at h
  exact ⟨isText_is h.1, h.2.1, h.2.2⟩
end
end WP
namespace WP
open PySem PySem.Spec PyProof.Rows L2 Evl SrtO LamX
open SX (S S_len S_cat S_inj S_tl)
theorem sum_le : ∀ {l : List Nat} {k : Nat}, (∀ x ∈ l, x ≤ k) → l.sum ≤ l.length * k
  | [], k, _ => by simp
  | x :: l, k, h => by
    have h1 := h x List.mem_cons_self
    have h2 := sum_le (l := l) fun y hy => h y (List.mem_cons_of_mem _ hy)
    rw [List.sum_cons, List.length_cons, Nat.succ_mul]
    omega
theorem pieces_le {w : List Nat} (h : w.length ≤ 100) : (piecesF w).length ≤ 10001 := by
  rw [pieces_len]
  have h1 := sum_le (l := (endsP w).map fun p => p.1.length - p.2) (k := 100) fun x hx => by
    obtain ⟨p, hp, rfl⟩ := List.mem_map.mp hx
    have := (ends_ok hp).2.1
    omega
  rw [List.length_map, ends_len] at h1
  have : w.length * 100 ≤ 100 * 100 := Nat.mul_le_mul_right _ h
  omega
theorem miss_len {w l : List Nat} (hw : Wd w) (hl : Wd l) : (missF w l).length ≤ 300000 := by
  unfold missF
  rw [srtL_len]
  unfold cand candG
  rw [List.length_append, List.length_map]
  have h1 := List.length_filter_le (fun c => !w.contains c) l
  have h2 := flat_len (l := piecesF w) (k := 26) (f := fun x => if x = [] then [] else ((azs.filter fun c => w.contains c).filter fun c => inF (x.tail ++ [c]) w && !inF (x ++ [c]) w).map fun c => x ++ [c]) fun x _ => by
    split
    · simp
    · rw [List.length_map]
      exact Nat.le_trans (List.length_filter_le _ _) (Nat.le_trans (List.length_filter_le _ _) (by decide))
  have h3 := pieces_le hw.1
  have h4 := hl.1
  have : (piecesF w).length * 26 ≤ 10001 * 26 := Nat.mul_le_mul_right _ h3
  omega
/-! ### words of one letter, and then of another -/
theorem inf_ab {a b m n : Nat} {x : List Nat} : x <:+: List.replicate m a ++ List.replicate n b ↔ ∃ i j, i ≤ m ∧ j ≤ n ∧ x = List.replicate i a ++ List.replicate j b := by
  constructor
  · intro h
    obtain ⟨s, e, hse, he, rfl⟩ := infix_cut.mp h
    rw [List.drop_append, List.take_append, List.drop_replicate, List.drop_replicate, List.take_replicate, List.take_replicate]
    refine ⟨_, _, ?_, ?_, rfl⟩
    · omega
    · omega
  · rintro ⟨i, j, hi, hj, rfl⟩
    refine ⟨List.replicate (m - i) a, List.replicate (n - j) b, ?_⟩
    rw [← List.append_assoc, List.replicate_append_replicate, List.append_assoc, List.replicate_append_replicate]
    congr 2 <;> omega
theorem rep_snoc (n a : Nat) : List.replicate n a ++ [a] = List.replicate (n + 1) a := by
  rw [List.replicate_succ']
theorem miss_ab {a b m n : Nat} (hm : 1 < m) (hn : 1 < n) (hab : a ≠ b) (y : List Nat) : y ∈ [[b, a], List.replicate (m + 1) a, List.replicate (n + 1) b] ↔ isM (List.replicate m a ++ List.replicate n b) [a, b] y := by
  have cA : ∀ i j : Nat, (List.replicate i a ++ List.replicate j b).count a = i := fun i j => by
    rw [List.count_append, List.count_replicate_self, List.count_replicate]
    simp [Ne.symm hab]
  have cB : ∀ i j : Nat, (List.replicate i a ++ List.replicate j b).count b = j := fun i j => by
    rw [List.count_append, List.count_replicate_self, List.count_replicate]
    simp [hab]
  have lAB : ∀ i j : Nat, (List.replicate i a ++ List.replicate j b).length = i + j := fun i j => by simp
  constructor
  · intro h
    right
    rcases List.mem_cons.mp h with rfl | h
    · refine ⟨b, [], a, rfl, inf_ab.mpr ⟨0, 1, by omega, by omega, rfl⟩, inf_ab.mpr ⟨1, 0, by omega, by omega, rfl⟩, fun z => ?_⟩
      obtain ⟨i, j, _, _, e⟩ := inf_ab.mp z
      have e1 := congrArg (List.count a) e
      have e2 := congrArg (List.count b) e
      rw [cA] at e1
      rw [cB] at e2
      have f1 : ([b, a] : List Nat).count a = 1 := by simp [Ne.symm hab]
      have f2 : ([b, a] : List Nat).count b = 1 := by simp [hab]
      rw [f1] at e1
      rw [f2] at e2
      rw [← e1, ← e2] at e
      exact hab (List.cons.inj e).1.symm
    · rcases List.mem_cons.mp h with rfl | h
      · refine ⟨a, List.replicate (m - 1) a, a, ?_, ?_, ?_, fun z => ?_⟩
        · rw [rep_snoc, show m - 1 + 1 = m by omega, List.replicate_succ]
        · refine inf_ab.mpr ⟨m, 0, Nat.le_refl _, by omega, ?_⟩
          rw [← List.replicate_succ, show m - 1 + 1 = m by omega]
          simp
        · refine inf_ab.mpr ⟨m, 0, Nat.le_refl _, by omega, ?_⟩
          rw [rep_snoc, show m - 1 + 1 = m by omega]
          simp
        · obtain ⟨i, j, hi, _, e⟩ := inf_ab.mp z
          have e1 := congrArg (List.count a) e
          rw [cA, List.count_replicate_self] at e1
          omega
      · rw [List.mem_singleton.mp h]
        refine ⟨b, List.replicate (n - 1) b, b, ?_, ?_, ?_, fun z => ?_⟩
        · rw [rep_snoc, show n - 1 + 1 = n by omega, List.replicate_succ]
        · refine inf_ab.mpr ⟨0, n, by omega, Nat.le_refl _, ?_⟩
          rw [← List.replicate_succ, show n - 1 + 1 = n by omega]
          simp
        · refine inf_ab.mpr ⟨0, n, by omega, Nat.le_refl _, ?_⟩
          rw [rep_snoc, show n - 1 + 1 = n by omega]
          simp
        · obtain ⟨i, j, hi, hj, e⟩ := inf_ab.mp z
          have e1 := congrArg (List.count b) e
          rw [cB, List.count_replicate_self] at e1
          omega
  · rintro (⟨c, hc, rfl, h⟩ | ⟨d, x, c, rfl, h1, h2, h3⟩)
    · exfalso
      apply h
      rw [List.mem_append, List.mem_replicate, List.mem_replicate]
      rcases List.mem_cons.mp hc with rfl | hc
      · exact .inl ⟨by omega, rfl⟩
      · rw [List.mem_singleton.mp hc]
        exact .inr ⟨by omega, rfl⟩
    · obtain ⟨i, j, hi, hj, e1⟩ := inf_ab.mp h1
      obtain ⟨k, l, hk, hl, e2⟩ := inf_ab.mp h2
      cases i with
      | zero =>
        cases j with
        | zero => cases e1
        | succ j =>
          rw [List.replicate_zero, List.nil_append, List.replicate_succ] at e1
          obtain ⟨rfl, rfl⟩ := List.cons.inj e1
          cases j with
          | zero =>
            rw [List.replicate_zero, List.nil_append] at e2 ⊢
            have hcm : c = a ∨ c = d := by
              have : c ∈ List.replicate k a ++ List.replicate l d := by rw [← e2]; simp
              rcases List.mem_append.mp this with q | q
              · exact .inl (List.mem_replicate.mp q).2
              · exact .inr (List.mem_replicate.mp q).2
            rcases hcm with rfl | rfl
            · exact List.mem_cons_self
            · exact (h3 (inf_ab.mpr ⟨0, 2, by omega, by omega, rfl⟩)).elim
          | succ j =>
            have k0 : k = 0 := by
              cases k with
              | zero => rfl
              | succ k =>
                rw [List.replicate_succ, List.replicate_succ] at e2
                exact (hab (List.cons.inj e2).1.symm).elim
            subst k0
            rw [List.replicate_zero, List.nil_append] at e2
            have hc : c = d := by
              have : c ∈ List.replicate l d := by rw [← e2]; simp
              exact (List.mem_replicate.mp this).2
            subst hc
            have ey : c :: (List.replicate (j + 1) c ++ [c]) = List.replicate (j + 3) c := by
              rw [rep_snoc, ← List.replicate_succ]
            rw [ey] at h3 ⊢
            have : n < j + 3 := Nat.lt_of_not_le fun q => h3 (inf_ab.mpr ⟨0, j + 3, by omega, q, rfl⟩)
            have : j + 3 = n + 1 := by omega
            rw [this]
            simp
      | succ i =>
        rw [List.replicate_succ, List.cons_append] at e1
        obtain ⟨rfl, rfl⟩ := List.cons.inj e1
        have hk2 : k = m := by
          refine Nat.le_antisymm hk (Nat.le_of_not_lt fun q => h3 ?_)
          rw [e2]
          exact inf_ab.mpr ⟨k + 1, l, q, hl, by rw [List.replicate_succ]; rfl⟩
        subst hk2
        have q1 := congrArg (List.count d) e2
        rw [List.count_append, cA, cA, List.count_singleton] at q1
        have hcd : c = d := by
          refine Decidable.byContradiction fun z => ?_
          have hz : (c == d) = false := by simpa using z
          rw [hz] at q1
          simp at q1
          omega
        subst hcd
        have q2 := congrArg (List.count b) e2
        rw [List.count_append, cB, cB, List.count_singleton] at q2
        have hz : (c == b) = false := by simpa using hab
        rw [hz] at q2
        simp at q2 q1
        have j0 : j = 0 := by
          cases j with
          | zero => rfl
          | succ j =>
            have q3 := congrArg List.getLast? e2
            rw [← q2] at q3
            simp at q3
            rw [show List.replicate (j + 1) b = List.replicate j b ++ [b] from (rep_snoc _ _).symm] at q3
            simp at q3
            exact (hab q3).elim
        subst j0
        have ey : c :: (List.replicate i c ++ List.replicate 0 b ++ [c]) = List.replicate (k + 1) c := by
          rw [List.replicate_zero, List.append_nil, rep_snoc, ← List.replicate_succ]
          congr 1
          omega
        rw [ey]
        simp
theorem wd_ab {a b m n : Nat} (h : m + n ≤ 100) (ha : a ∈ azs) (hb : b ∈ azs) : Wd (List.replicate m a ++ List.replicate n b) := ⟨by simp; omega, fun c hc => by
  rcases List.mem_append.mp hc with q | q
  · rw [(List.mem_replicate.mp q).2]; exact ha
  · rw [(List.mem_replicate.mp q).2]; exact hb⟩
theorem miss_5050 : missF (List.replicate 50 97 ++ List.replicate 50 98) [97, 98] = [[98, 97], List.replicate 51 97, List.replicate 51 98] := by
  rw [← miss_of (wd_ab (by decide) (by decide) (by decide)) (by decide) (by decide +kernel : ([[98, 97], List.replicate 51 97, List.replicate 51 98] : List (List Nat)).Nodup) (miss_ab (by decide) (by decide) (by decide))]
  decide +kernel
end WP
namespace WP
open PySem PySem.Spec PyProof.Rows L2 Evl SrtO LamX
open SX (S S_len S_cat S_inj S_tl)
/-- the end where the tables of the defs of the top are empty, found by the defs' names -/
theorem walk_ofTab {l : PySem.W.OpenLaw} {n k : Nat} {q : Program} {loose : List Str} {XP : (Str → Option Value) → Heap → Prop} {YP : World → Heap → Prop} {d : DefRec} {K : Params → PySem.W.Frag} {CX : World → CXT} {x : Str}
    (hn : l.most = some n) (hn2 : n ≤ sizeLine) (hdf : d.params.defaults = []) (hr : Room k callerA) (hY : ∀ (w : World) (h : Heap), YP w h → (K w.params).In h)
    (F : ∀ (w : World) (mg : Str → Option Value) (fa : Addr) (h : Heap), YP w h → (K w.params).In h → h.Ns mainGlobals mg → mg d.name = some (.ref fa) → (∀ (y : Str) (c P : Addr), ((recsOf q).any fun e => e.name == y) = true → PySem.W.tabIn (K w.params) y = some (c, P) → PySem.W.CodeHd h c P ∧ h.get? P = some (PySem.W.tabObj #[])) → LawAtS l w (K w.params) (CX w) k n x mg fa h)
    (hCX : ∀ (w : World) (H : Hp) (s : Shared) (e : Value) (s' : Shared), CX w [] H s (fun _ _ _ => False) e s' → False) :
    PySem.W.WalkO q loose XP YP l.row.toRowW d [] (fun f vs => PySem.call f vs) := by
  refine Att.attach_callB hn hdf fun w s₀ s₁ mg mb fa o pm cd doc a vs ns G Y ho hd hcd hmg hobj hints hlen hbits hg => ?_
  have KX := hY w _ Y
  obtain ⟨fd, cs, sp, hT, nT, C, hb, hsp, hF⟩ := F w mg fa _ Y KX G.T.g hmg fun y c P hy ht => by
    cases hf : (recsOf q).find? (fun e => e.name == y) with
    | none =>
      obtain ⟨e, he, h1⟩ := List.any_eq_true.mp hy
      exact absurd h1 (by simpa using List.find?_eq_none.mp hf e he)
    | some dL => exact PySem.W.tab_of G.T KX hf ht
  exact law_callTs KX G.T.g G.T.b G.T.builtins G.T.nolimit hg hT nT C G.T.bmain hobj hints (Nat.le_trans hlen hn2) hr hF hb (fun H hH hS => hsp H a ns hlen hbits hH hS) fun H e s' => hCX w H s₁ e s'
/-- a def of the top with its code object's place -/
structure DnC (K : PySem.W.Frag) (mg : Str → Option Value) (x : Str) (st : Stmt) (c : Addr) : Prop where
  ex : ∃ (f : Addr) (fd : FuncData), mg x = some (.ref f) ∧ Fun K x x st f fd ∧ fd.code = .ref c
theorem dnc_mk {K : PySem.W.Frag} {h : Heap} {mg : Str → Option Value} {x : Str} {st : Stmt} {f c : Addr} {oc : Value} {od an : Option Addr} {osl : Array (Option Value)} {kV doc pm ct : Value} (X : K.In h) (G : h.Ns mainGlobals mg)
    (a : PySem.W.nsIn K mainGlobals x = some (some (.ref f))) (l : K.lookup f = some ⟨oc, od, .func (PySem.W.fnOf x x (defArgs st) (defBody st) (defScope st) .none kV doc pm an (.ref c) ct), osl⟩) (cc : PySem.W.codeIn K (.ref c) x = true) (k : PySem.W.keepIn K (.ref f) = true) : DnC K mg x st c :=
  ⟨f, _, PySem.W.mg_of X G a, fun_mk l cc k, rfl⟩
theorem calc_mk {P : Program} {w : World} {K : PySem.W.Frag} {mg : Str → Option Value} {base : Heap} {k : Nat} {x : Str} {st : Stmt} {c : Addr} {ps : List Str} {sp : Sp} (D : DnC K mg x st c) (ok : ∀ f fd, Fun K x x st f fd → fd.code = .ref c → FnOk P w K mg base (L2.CX P w) k f fd ps sp)
    (b : ∀ (kV doc pm : Value) (an : Option Addr) (cdv ct : Value) (us : List Value), us.length = ps.length → bindArgs (PySem.W.fnOf x x (defArgs st) (defBody st) (defScope st) .none kV doc pm an cdv ct) ⟨us, []⟩ = pure (ps.zip us)) : Cal P w K mg base k x ps sp := by
  obtain ⟨f, fd, g, F, hc⟩ := D.ex
  exact ⟨f, fd, ok f fd F hc, g, F.kp, F.binds b⟩
theorem tabIn_mk {K : PySem.W.Frag} {x : Str} {f c P : Addr} {oc : Value} {od dd : Option Addr} {osl sl : Array (Option Value)} {fd : FuncData} {e : Value} {vs : Array Value} (a : PySem.W.nsIn K mainGlobals x = some (some (.ref f))) (l : K.lookup f = some ⟨oc, od, .func fd, osl⟩) (hc : fd.code = .ref c) (lc : K.lookup c = some ⟨e, dd, .fields vs, sl⟩) (hv : vs[11]? = some (.ref P)) : PySem.W.tabIn K x = some (c, P) := by
  unfold PySem.W.tabIn
  rw [a]
  dsimp only
  rw [l]
  dsimp only
  rw [hc]
  dsimp only
  rw [lc]
  dsimp only
  rw [hv]
/-- a def of the top, its code object and its table -/
theorem dnt_mk {K : PySem.W.Frag} {h : Heap} {mg : Str → Option Value} {x : Str} {st : Stmt} {f c P : Addr} {oc : Value} {od an dd : Option Addr} {osl sl : Array (Option Value)} {kV doc pm ct e : Value} {vs : Array Value} (X : K.In h) (G : h.Ns mainGlobals mg)
    (a : PySem.W.nsIn K mainGlobals x = some (some (.ref f))) (l : K.lookup f = some ⟨oc, od, .func (PySem.W.fnOf x x (defArgs st) (defBody st) (defScope st) .none kV doc pm an (.ref c) ct), osl⟩) (cc : PySem.W.codeIn K (.ref c) x = true) (k : PySem.W.keepIn K (.ref f) = true)
    (lc : K.lookup c = some ⟨e, dd, .fields vs, sl⟩) (hv : vs[11]? = some (.ref P)) : DnC K mg x st c ∧ PySem.W.tabIn K x = some (c, P) :=
  ⟨dnc_mk X G a l cc k, tabIn_mk a l rfl lc hv⟩
section
variable {P P2 : Addr} {q q2 : Str}
theorem hm_one : (P, q) ∈ [(P, q)] := List.mem_cons_self
theorem hu_one : ∀ p ∈ [(P, q)], p.1 = P → p.2 = q := fun p hp _ => by rw [List.mem_singleton.mp hp]
theorem hm_two1 : (P, q) ∈ [(P, q), (P2, q2)] := List.mem_cons_self
theorem hm_two2 : (P2, q2) ∈ [(P, q), (P2, q2)] := List.mem_cons_of_mem _ List.mem_cons_self
theorem hu_two1 (n : P ≠ P2) : ∀ p ∈ [(P, q), (P2, q2)], p.1 = P → p.2 = q := fun p hp e => by
  rcases List.mem_cons.mp hp with rfl | hp
  · rfl
  · rw [List.mem_singleton.mp hp] at e
    exact (n e.symm).elim
theorem hu_two2 (n : P ≠ P2) : ∀ p ∈ [(P, q), (P2, q2)], p.1 = P2 → p.2 = q2 := fun p hp e => by
  rcases List.mem_cons.mp hp with rfl | hp
  · exact (n e).elim
  · rw [List.mem_singleton.mp hp]
end
theorem tabs_one {H : Hp} {P : Addr} {q : Str} (h : H P = some (.tbl #[])) : Tabs [(P, q)] H := fun p hp => by
  rw [List.mem_singleton.mp hp]
  exact TabS.nil h
theorem tabs_two {H : Hp} {P P2 : Addr} {q q2 : Str} (h : H P = some (.tbl #[])) (h2 : H P2 = some (.tbl #[])) : Tabs [(P, q), (P2, q2)] H := fun p hp => by
  rcases List.mem_cons.mp hp with rfl | hp
  · exact TabS.nil h
  · rw [List.mem_singleton.mp hp]
    exact TabS.nil h2
end WP
namespace WP
open PySem PySem.Spec PyProof.Rows L2 Evl SrtO LamX
open SX (S S_len S_cat S_inj S_tl)
/-! ### the word that least missing texts tell -/
def longF (l : List Nat) (sh known texts : List (List Nat)) : List (List Nat) := sh.flatMap fun t => (l.filter fun c => !texts.contains (t ++ [c]) && known.contains ((t ++ [c]).tail)).map fun c => t ++ [c]
/-- the loop: n turns at the most -/
def loopF (l : List Nat) (xs : List (List Nat)) : Nat → List (List Nat) → List Nat → Option (List Nat)
  | 0, _, _ => none
  | n + 1, known, longest => match srt known with
    | [] => some longest
    | t :: r => if t.length > 100 || known.length > 101 then none else loopF l xs n (longF l (t :: r) known xs) t
def wordF (l : List Nat) (xs : List (List Nat)) : Option (List Nat) := match loopF l xs 103 [[]] [] with
  | none => none
  | some w => if missF w l = xs then some w else none
theorem longF_mem {l : List Nat} {sh known texts : List (List Nat)} {y : List Nat} : y ∈ longF l sh known texts ↔ ∃ t c, t ∈ sh ∧ c ∈ l ∧ y = t ++ [c] ∧ y ∉ texts ∧ y.tail ∈ known := by
  unfold longF
  rw [List.mem_flatMap]
  constructor
  · rintro ⟨t, ht, hy⟩
    obtain ⟨c, hc, rfl⟩ := List.mem_map.mp hy
    rw [List.mem_filter, Bool.and_eq_true, Bool.not_eq_true', ← Bool.not_eq_true, List.contains_iff_mem, List.contains_iff_mem] at hc
    exact ⟨t, c, ht, hc.1, rfl, hc.2.1, hc.2.2⟩
  · rintro ⟨t, c, ht, hc, rfl, h1, h2⟩
    refine ⟨t, ht, List.mem_map.mpr ⟨c, ?_, rfl⟩⟩
    rw [List.mem_filter, Bool.and_eq_true, Bool.not_eq_true', ← Bool.not_eq_true, List.contains_iff_mem, List.contains_iff_mem]
    exact ⟨hc, h1, h2⟩
theorem longF_nd {l : List Nat} {sh known texts : List (List Nat)} (hl : l.Nodup) (hs : sh.Nodup) : (longF l sh known texts).Nodup := by
  unfold longF
  refine List.pairwise_flatMap.mpr ⟨fun t _ => nd_map (fun a b e => by have := (List.append_inj e rfl).2; exact (List.cons.inj this).1) (nd_filter hl), hs.imp fun {x y} n a ha b hb e => ?_⟩
  obtain ⟨c, _, rfl⟩ := List.mem_map.mp ha
  obtain ⟨d, _, rfl⟩ := List.mem_map.mp hb
  have : (x ++ [c]).length = (y ++ [d]).length := by rw [e]
  exact n (List.append_inj e (by simpa using this)).1
theorem longF_len {l : List Nat} {sh known texts : List (List Nat)} : (longF l sh known texts).length ≤ sh.length * l.length := by
  unfold longF
  exact flat_len fun t _ => by rw [List.length_map]; exact List.length_filter_le _ _
/-- texts of k of some letters -/
structure OfK (l : List Nat) (k : Nat) (known : List (List Nat)) : Prop where
  nd : known.Nodup
  len : ∀ x ∈ known, x.length = k
  mem : ∀ x ∈ known, ∀ c ∈ x, c ∈ l
theorem OfK.zero {l : List Nat} : OfK l 0 [[]] := ⟨by simp, fun x hx => by rw [List.mem_singleton.mp hx]; rfl, fun x hx c hc => by rw [List.mem_singleton.mp hx] at hc; cases hc⟩
theorem srt_nd {l : List (List Nat)} (h : l.Nodup) : (srt l).Nodup := (srt_perm l).nodup_iff.mpr h
theorem srt_length (l : List (List Nat)) : (srt l).length = l.length := (srt_perm l).length_eq
theorem OfK.next {l : List Nat} {k : Nat} {known texts : List (List Nat)} (hl : l.Nodup) (h : OfK l k known) : OfK l (k + 1) (longF l (srt known) known texts) :=
  ⟨longF_nd hl (srt_nd h.nd), fun x hx => by
    obtain ⟨t, c, ht, hc, rfl, _⟩ := longF_mem.mp hx
    rw [List.length_append, h.len t (srt_mem.mp ht)]
    rfl, fun x hx c hc => by
    obtain ⟨t, d, ht, hd, rfl, _⟩ := longF_mem.mp hx
    rcases List.mem_append.mp hc with q | q
    · exact h.mem t (srt_mem.mp ht) c q
    · rw [List.mem_singleton.mp q]; exact hd⟩
/-- what the loop tells is a word -/
theorem loop_ok {l : List Nat} {xs : List (List Nat)} (hl : l.Nodup) (hz : Az l) : ∀ {n k : Nat} {known : List (List Nat)} {longest w : List Nat}, OfK l k known → longest.length ≤ 100 → (∀ c ∈ longest, c ∈ l) → loopF l xs n known longest = some w → Wd w ∧ okL l w = true
  | 0, k, known, longest, w, _, _, _, h => by cases h
  | n + 1, k, known, longest, w, ok, h1, h2, h => by
    unfold loopF at h
    split at h
    · cases h
      exact ⟨⟨h1, fun c hc => hz c (h2 c hc)⟩, okL_of h2⟩
    · rename_i t r hs
      split at h
      · cases h
      · rename_i hn
        rw [Bool.not_eq_true, Bool.or_eq_false_iff, decide_eq_false_iff_not] at hn
        have ht : t ∈ known := srt_mem.mp (by rw [hs]; exact List.mem_cons_self)
        rw [← hs] at h
        exact loop_ok hl hz (ok.next hl) (by omega) (ok.mem t ht) h
theorem word_ok {l : List Nat} {xs : List (List Nat)} {w : List Nat} (hl : l.Nodup) (hz : Az l) (h : wordF l xs = some w) : Wd w ∧ okL l w = true ∧ missF w l = xs := by
  unfold wordF at h
  split at h
  · cases h
  · rename_i v hv
    split at h
    · rename_i e
      cases h
      have := loop_ok hl hz OfK.zero (Nat.zero_le _) (fun c hc => by cases hc) hv
      exact ⟨this.1, this.2, e⟩
    · cases h
/-! ### the word again -/
theorem miss_mem {w l y : List Nat} (hw : Wd w) : y ∈ missF w l ↔ isM w l y := srtL_mem.trans (cand_mem hw)
theorem miss_not {w l y : List Nat} (hw : Wd w) (h : y ∈ missF w l) : ¬ y <:+: w := by
  rcases (miss_mem hw).mp h with ⟨c, _, rfl, h2⟩ | ⟨a, x, c, rfl, _, _, h2⟩
  · exact fun z => h2 (one_infix.mp z)
  · exact h2
theorem inf_len {w x : List Nat} (h : x <:+: w) : x.length ≤ w.length := h.length_le
theorem known_len {w : List Nat} {k : Nat} {known : List (List Nat)} (hw : w.length ≤ 100) (nd : known.Nodup) (h : ∀ x ∈ known, x <:+: w ∧ x.length = k) : known.length ≤ 101 := by
  have := nd_le (q := (List.range (w.length + 1)).map fun i => (w.drop i).take k) nd fun x hx => by
    obtain ⟨h1, h2⟩ := h x hx
    obtain ⟨b, e, hbe, he, rfl⟩ := infix_cut.mp h1
    refine List.mem_map.mpr ⟨b, List.mem_range.mpr (by omega), ?_⟩
    rw [← h2, List.length_take, List.length_drop, Nat.min_eq_left (by omega)]
  rw [List.length_map, List.length_range] at this
  omega
theorem step_mem {w l : List Nat} (hw : Wd w) (ho : okL l w = true) {k : Nat} {known : List (List Nat)} (hk : ∀ x, x ∈ known ↔ x <:+: w ∧ x.length = k) (y : List Nat) : y ∈ longF l (srt known) known (missF w l) ↔ y <:+: w ∧ y.length = k + 1 := by
  rw [longF_mem]
  constructor
  · rintro ⟨t, c, ht, hc, rfl, h1, h2⟩
    obtain ⟨t1, t2⟩ := (hk t).mp (srt_mem.mp ht)
    obtain ⟨u1, u2⟩ := (hk _).mp h2
    refine ⟨Decidable.byContradiction fun z => h1 ((miss_mem hw).mpr ?_), by rw [List.length_append, t2]; rfl⟩
    cases t with
    | nil => exact .inl ⟨c, hc, rfl, fun q => z (one_infix.mpr q)⟩
    | cons a x => exact .inr ⟨a, x, c, rfl, t1, u1, z⟩
  · rintro ⟨h1, h2⟩
    have hne : y ≠ [] := fun z => by rw [z] at h2; simp at h2
    have ey := List.dropLast_concat_getLast hne
    refine ⟨y.dropLast, y.getLast hne, srt_mem.mpr ((hk _).mpr ⟨(List.dropLast_prefix y).isInfix.trans h1, by rw [List.length_dropLast]; omega⟩), okL_mem ho _ (h1.subset (List.getLast_mem hne)), ey.symm, fun z => miss_not hw z h1, (hk _).mpr ⟨(List.tail_suffix y).isInfix.trans h1, by rw [List.length_tail]; omega⟩⟩
theorem loop_word {w l : List Nat} (hw : Wd w) (hl : l.Nodup) (ho : okL l w = true) : ∀ (m n k : Nat) (known : List (List Nat)) (longest : List Nat), m + k = w.length → m + 2 ≤ n → known.Nodup → (∀ x, x ∈ known ↔ x <:+: w ∧ x.length = k) → loopF l (missF w l) n known longest = some w
  | m, 0, k, known, longest, _, hn, _, _ => by omega
  | m, n + 1, k, known, longest, hm, hn, nd, hk => by
    have hx : w.take k ∈ known := (hk _).mpr ⟨(List.take_prefix _ _).isInfix, by rw [List.length_take]; omega⟩
    unfold loopF
    split
    · rename_i hs
      have := srt_mem.mpr hx
      rw [hs] at this
      cases this
    · rename_i t r hs
      have ht : t ∈ known := srt_mem.mp (by rw [hs]; exact List.mem_cons_self)
      obtain ⟨t1, t2⟩ := (hk t).mp ht
      have hz := known_len hw.1 nd fun x hx => (hk x).mp hx
      have hw1 := hw.1
      rw [if_neg (by rw [Bool.not_eq_true, Bool.or_eq_false_iff, decide_eq_false_iff_not, decide_eq_false_iff_not]; omega)]
      rw [← hs]
      cases m with
      | succ m => exact loop_word hw hl ho m n (k + 1) _ t (by omega) (by omega) (longF_nd hl (srt_nd nd)) (step_mem hw ho hk)
      | zero =>
        have et : t = w := t1.eq_of_length (by omega)
        have e0 : longF l (srt known) known (missF w l) = [] := by
          refine List.eq_nil_iff_forall_not_mem.mpr fun y hy => ?_
          obtain ⟨y1, y2⟩ := (step_mem hw ho hk y).mp hy
          have := inf_len y1
          omega
        rw [e0, et]
        cases n with
        | zero => omega
        | succ n => rfl
theorem word_again {w l : List Nat} (hw : Wd w) (hl : l.Nodup) (ho : okL l w = true) : wordF l (missF w l) = some w := by
  have h := loop_word hw hl ho w.length 103 0 [[]] [] rfl (by have := hw.1; omega) (by simp) fun x => by
    rw [List.mem_singleton]
    constructor
    · rintro rfl
      exact ⟨List.nil_infix, rfl⟩
    · rintro ⟨_, h⟩
      exact List.length_eq_zero_iff.mp h
  unfold wordF
  rw [h]
  simp
end WP
namespace WP
open PySem PySem.Spec PyProof.Rows L2 Evl SrtO LamX
open SX (S S_len S_cat S_inj S_tl)
section
variable {K : PySem.W.Frag} {σ : L2.St} {H H' : Hp} {ta tb tc te tx td ty tv tl : TE} {t u : TT} {v : V} {tu tz : TS} {D : Ends}
/-- a comprehension over a list, of any length -/
theorem el_lcGZ {α : Type} {a : Addr} {es : List α} {j : Nat} {vs : List Nat} (g : α → V) (f : α → Bool) (v : α → V) (h : Ev tl σ H (.ref a)) (hx : SqL K H a (es.map g)) (hz : es.length ≤ 15000000) (hw : ∀ x, wipe ((wipe σ vs).set j (some x)) vs = wipe σ vs)
    (ht : ∀ (x : α) H1, x ∈ es → Ex H H1 → EvT t ((wipe σ vs).set j (some (g x))) H1 (f x)) (he : ∀ (x : α) H1, x ∈ es → Ex H H1 → f x = true → Ev te ((wipe σ vs).set j (some (g x))) H1 (v x)) :
    EvL (tLc (iList K tl) (gName j) t te vs) σ H ((es.filter f).map v) := fun H0 e Q q => by
  refine h H0 e _ fun H1 e1 => ⟨a, rfl, ⟨es.map g, ex_l (e.trans e1) hx⟩, fun Dl hD => ?_⟩
  have hx1 := ex_l (e.trans e1) hx
  have hl : (es.map g).length = es.length := List.length_map _
  refine lc_list (xs := es.map g) (fun i H' => H1 Dl = none ∧ Ex H1 H' ∧ H' Dl = some (.lst (((es.take i).filter f).map v))) ⟨hD, Ex.new hD, upd_same⟩ (fun i H' _ p => ex_l p.2.1 hx1) (fun i x H' hi p => ?_) (fun H' p => ?_)
  · rw [List.getElem?_map] at hi
    obtain ⟨y, hy, rfl⟩ : ∃ y, es[i]? = some y ∧ x = g y := by
      cases q : es[i]? with
      | none => rw [q] at hi; cases hi
      | some y => rw [q] at hi; exact ⟨y, rfl, (Option.some.inj hi).symm⟩
    have hm := List.mem_of_getElem? hy
    obtain ⟨p1, p2, p3⟩ := p
    have ta1 : es.take (i + 1) = es.take i ++ [y] := by rw [List.take_add_one, hy]; rfl
    refine ⟨hw _, ht y H' hm ((e.trans e1).trans p2) H' (Ex.refl _) _ fun H3 e3 => ?_⟩
    by_cases hf : f y = true
    · rw [if_pos hf]
      refine he y H' hm ((e.trans e1).trans p2) hf H3 e3 _ fun H4 e4 => ⟨_, (e3.trans e4) _ _ p3, Nat.lt_of_le_of_lt (m := 15000000) ?_ (by decide), p1, Ex.mut ((p2.trans e3).trans e4) p1, ?_⟩
      · rw [List.length_map]
        exact Nat.le_trans (List.length_filter_le _ _) (by rw [List.length_take]; omega)
      · rw [ta1, List.filter_append, List.map_append, List.filter_cons_of_pos hf]
        exact upd_same
    · rw [if_neg hf]
      refine ⟨p1, p2.trans e3, ?_⟩
      rw [ta1, List.filter_append, List.map_append, List.filter_cons_of_neg hf]
      simpa using e3 _ _ p3
  · obtain ⟨p1, p2, p3⟩ := p
    rw [hl, List.take_of_length_le (Nat.le_refl _)] at p3
    exact q Dl H' (fresh_back e1 p1) (e1.trans p2) p3
/-- d[k] = v, greater dicts -/
theorem s_putZ {p : Addr} {kvs : List (Key × V)} {k : Key} (hd : H p = some (.dK kvs)) (h1 : Ev td σ H (.ref p)) (h2 : Ev ty σ H (kV k)) (h3 : Ev tv σ H v) (hz : kvs.length < 16000000) (kk : ∀ H1, Ex H H1 → D.nx σ (upd H1 p (.dK (putK kvs k v)))) : sDPut td ty tv D σ H :=
  h3 H (Ex.refl H) _ fun H1 e1 => h1 H1 e1 _ fun H2 e2 => h2 H2 (e1.trans e2) _ fun H3 e3 => ⟨p, _, rfl, DPut.k (((e1.trans e2).trans e3) _ _ hd) (Nat.lt_of_lt_of_le hz (by decide)), kk H3 ((e1.trans e2).trans e3)⟩
/-- for c in a text -/
theorem s_forS {l : List Nat} {j : Nat} (h : Ev te σ H (vS l)) (Pv : Nat → L2.St → Hp → Prop) (h0 : ∀ H1, Ex H H1 → Pv 0 σ H1)
    (hs : ∀ i c σ' H', l[i]? = some c → Pv i σ' H' → tu { D with nx := Pv (i + 1), ct := Pv (i + 1), bk := D.nx } (σ'.set j (some (vS [c]))) H') (hd : ∀ σ' H', Pv l.length σ' H' → D.nx σ' H') : tFor (iStr te) (gName j) tu D σ H :=
  h H (Ex.refl H) _ fun H1 e1 => ⟨S l, rfl, for_it (w := walk_str (z := S l)) Pv (h0 H1 e1) (fun _ _ _ _ _ => trivial) (fun i x σ' H' H'' hi p y => by
    obtain ⟨rfl, c, hc, rfl⟩ := y
    have hc' : l[i]? = some c := by simpa using hc
    exact hs i c σ' H'' hc' p) (fun σ' H' p => hd σ' H' p)⟩
/-- a text among a dict's keys -/
theorem ev_kin {d : Addr} {kvs : List (Key × V)} {ks : List (List Nat)} {x : List Nat} (hx : Ev tx σ H (vS x)) (h : Ev te σ H (.ref d)) (hd : H d = some (.dK kvs)) (hk : kvs.map (·.1) = ks.map (fun l => Sum.inr (S l))) : Ev (tDIn tx te) σ H (.bl (decide (x ∈ ks))) := fun H1 e Q q =>
  hx H1 e _ fun H2 e2 => h H2 (e.trans e2) _ fun H3 e3 => ⟨d, _, rfl, DGet.k (k := Sum.inr (S x)) (((e.trans e2).trans e3) _ _ hd), by
    rw [← valV_any, keys_any hk]
    exact q H3 (e2.trans e3)⟩
theorem ev_lenD {d : Addr} {kvs : List (Key × V)} (h : Ev te σ H (.ref d)) (hd : H d = some (.dK kvs)) : Ev (tCB (fun xs H Q => ∃ a kvs, xs = [V.ref a] ∧ H a = some (.dK kvs) ∧ Q (.int kvs.length) H) (tCons te tNil)) σ H (.int (kvs.length : Int)) := fun H1 e Q q =>
  h H1 e _ fun H2 e2 => ⟨d, kvs, rfl, (e.trans e2) _ _ hd, q H2 e2⟩
/-- {k: v} -/
theorem q_asgD1 {i : Nat} {k : List Nat} {w : V} (h1 : Ev tx σ H (vS k)) (h2 : Ev tv σ H w) (hs : ∀ G, Ex H G → ∀ p, G p = none → Ev tx σ (upd G p (.dK [])) (vS k) ∧ Ev tv σ (upd G p (.dK [])) w) (kk : ∀ p H1, H p = none → Ex H H1 → H1 p = some (.dK [(Sum.inr (S k), w)]) → tz D (σ.set i (some (.ref p))) H1) : tSeq (tAsg (tDisp [(tx, tv)]) (gName i)) tz D σ H := fun p hp => by
  obtain ⟨a1, a2⟩ := hs H (Ex.refl H) p hp
  refine a1 _ (Ex.refl _) _ fun H1 e1 => a2 H1 e1 _ fun H2 e2 => ⟨(e1.trans e2) _ _ upd_same, [(Sum.inr (S k), w)], rfl, by simp, ?_⟩
  exact kk p _ hp (Ex.mut ((Ex.new hp).trans (e1.trans e2)) hp) upd_same
end
/-! ### promises -/
/-- a text of some letters -/
def txF (l : List Nat) (v : V) : Bool := match v with
  | .str z => z.cps.toList.all fun c => l.contains c
  | _ => false
theorem txF_S {l x : List Nat} : txF l (vS x) = x.all (fun c => l.contains c) := rfl
/-- a list's items are things -/
def Items (H : Hp) (v : V) : Prop := ∀ a xs, v = .ref a → H a = some (.lst xs) → xs.length ≤ 15000000 ∧ ∀ x ∈ xs, ∃ n, Thing H x n
theorem Items.ex {H H' : Hp} {v : V} {n : String} (th : Thing H v n) (e : Ex H H') (h : Items H v) : Items H' v := fun a xs hv ha => by
  cases th with
  | lst q =>
    cases hv
    have := e _ _ q
    rw [ha] at this
    cases this
    obtain ⟨h1, h2⟩ := h a _ rfl q
    exact ⟨h1, fun x hx => by obtain ⟨n, t⟩ := h2 x hx; exact ⟨n, t.ex e⟩⟩
  | tup q =>
    cases hv
    have := e _ _ q
    rw [ha] at this
    cases this
  | dK q =>
    cases hv
    have := e _ _ q
    rw [ha] at this
    cases this
  | _ => cases hv
/-- a list of texts of some letters -/
def goodT (H : Hp) (l : List Nat) (v : V) : Prop := ∃ a xs, v = .ref a ∧ H a = some (.lst xs) ∧ xs.all (txF l) = true
def sp_checkT (C1 C2 : Addr) : Sp := fun vs H Q E => ∃ v n v2 n2, vs = [v, v2] ∧ Thing H v n ∧ Thing H v2 n2 ∧ Items H v2 ∧
  (areL v = false → ∀ H2, Ex H H2 → E (.ref C1) none H2) ∧ (∀ l, v = vS l → areL v = true → ¬ goodT H l v2 → ∀ H2, Ex H H2 → E (.ref C2) none H2) ∧ (∀ l, v = vS l → areL v = true → goodT H l v2 → RetV .non H Q)
def keysAre (kvs : List (Key × V)) (ks : List (List Nat)) : Prop := kvs.map (·.1) = ks.map (fun l => Sum.inr (S l))
def sp_longer : Sp := fun vs H Q _ => ∃ (l : List Nat) (ps pk pt : Addr) (sh kn tx : List (List Nat)) (kk kt : List (Key × V)), vs = [vS l, .ref ps, .ref pk, .ref pt] ∧ l.Nodup ∧ l.length ≤ 100 ∧ sh.Nodup ∧ sh.length ≤ 101 ∧ (∀ x ∈ sh, x.length ≤ 100) ∧
  H ps = some (.lst (sh.map vS)) ∧ H pk = some (.dK kk) ∧ keysAre kk kn ∧ H pt = some (.dK kt) ∧ keysAre kt tx ∧
  ∀ p kvs H2, H p = none → Ex H H2 → H2 p = some (.dK kvs) → keysAre kvs (longF l sh kn tx) → Q (.ref p) H2
/-- word_of -/
def sp_wordof (C1 C2 : Addr) (T : List (Addr × Str)) : Sp := fun vs H Q E => ∃ v n v2 n2, vs = [v, v2] ∧ Thing H v n ∧ Thing H v2 n2 ∧ Items H v2 ∧
  (areL v = false → ∀ H2, Ex H H2 → E (.ref C1) none H2) ∧ (∀ l, v = vS l → areL v = true → ¬ goodT H l v2 → ∀ H2, Ex H H2 → E (.ref C2) none H2) ∧
  (∀ l a xs, v = vS l → areL v = true → v2 = .ref a → H a = some (.lst (xs.map vS)) → (∀ x ∈ xs, ∀ c ∈ x, c ∈ l) → Tabs T H ∧ (∀ w, wordF l xs = some w → ∀ H2, NX T H H2 → Q (vS w) H2) ∧ (wordF l xs = none → ∀ H2, NX T H H2 → E (.ref C2) none H2))
theorem longF_congr {l : List Nat} {sh kn tx kn' tx' : List (List Nat)} (h1 : ∀ x, x ∈ kn ↔ x ∈ kn') (h2 : ∀ x, x ∈ tx ↔ x ∈ tx') : longF l sh kn tx = longF l sh kn' tx' := by
  have e1 : ∀ x, kn.contains x = kn'.contains x := fun x => by rw [Bool.eq_iff_iff, List.contains_iff_mem, List.contains_iff_mem]; exact h1 x
  have e2 : ∀ x, tx.contains x = tx'.contains x := fun x => by rw [Bool.eq_iff_iff, List.contains_iff_mem, List.contains_iff_mem]; exact h2 x
  unfold longF
  simp only [e1, e2]
theorem texts_of {l : List Nat} : ∀ {xs : List V}, (∀ x ∈ xs, txF l x = true) → ∃ ys : List (List Nat), xs = ys.map vS ∧ ∀ y ∈ ys, ∀ c ∈ y, c ∈ l
  | [], _ => ⟨[], rfl, fun y h => by cases h⟩
  | x :: xs, h => by
    obtain ⟨ys, rfl, h2⟩ := texts_of (xs := xs) fun y hy => h y (List.mem_cons_of_mem _ hy)
    have h1 := h x List.mem_cons_self
    cases x with
    | str z =>
      have h3 : z.cps.toList.all (fun c => l.contains c) = true := h1
      refine ⟨z.cps.toList :: ys, rfl, fun y hy c hc => ?_⟩
      rcases List.mem_cons.mp hy with rfl | hy
      · exact List.contains_iff_mem.mp (List.all_eq_true.mp h3 c hc)
      · exact h2 y hy c hc
    | _ => cases h1
end WP
namespace WP
open PySem PySem.Spec PyProof.Rows L2 Evl SrtO LamX
open SX (S S_len S_cat S_inj S_tl)
section
variable {K : PySem.W.Frag} {σ : L2.St} {H H' : Hp} {t1 t2 t3 t4 te : TE} {tz : TS} {D : Ends}
theorem goodT.ex {l : List Nat} {v : V} (h : goodT H l v) (e : Ex H H') : goodT H' l v := by
  obtain ⟨a, xs, h1, h2, h3⟩ := h
  exact ⟨a, xs, h1, e _ _ h2, h3⟩
theorem goodT.back {l : List Nat} {v : V} {n : String} (th : Thing H v n) (e : Ex H H') (h : goodT H' l v) : goodT H l v := by
  obtain ⟨a, xs, h1, h2, h3⟩ := h
  cases th with
  | lst q =>
    cases h1
    have := e _ _ q
    rw [h2] at this
    cases this
    exact ⟨a, xs, rfl, q, h3⟩
  | tup q =>
    cases h1
    have := e _ _ q
    rw [h2] at this
    cases this
  | dK q =>
    cases h1
    have := e _ _ q
    rw [h2] at this
    cases this
  | _ => cases h1
theorem s_asgLong {i : Nat} {E : XK} {l : List Nat} {pk pt : Addr} {sh kn tx : List (List Nat)} {kk kt : List (Key × V)} (h1 : Ev t1 σ H (vS l)) (h2 : EvL t2 σ H (sh.map vS)) (h3 : Ev t3 σ H (.ref pk)) (h4 : Ev t4 σ H (.ref pt)) (hl : l.Nodup) (hlz : l.length ≤ 100) (hs : sh.Nodup) (hsz : sh.length ≤ 101) (hsl : ∀ x ∈ sh, x.length ≤ 100)
    (hpk : H pk = some (.dK kk)) (hkk : keysAre kk kn) (hpt : H pt = some (.dK kt)) (hkt : keysAre kt tx) (k : ∀ p kvs H1, H p = none → Ex H H1 → H1 p = some (.dK kvs) → keysAre kvs (longF l sh kn tx) → D.nx (σ.set i (some (.ref p))) H1) :
    tAsg (tCall sp_longer [] E (tCons t1 (tCons t2 (tCons t3 (tCons t4 tNil))))) (gName i) D σ H :=
  h1 H (Ex.refl H) _ fun H1 e1 => h2 H1 e1 _ fun ps H2 hps e2 hh2 => h3 H2 (e1.trans e2) _ fun H3 e3 => h4 H3 ((e1.trans e2).trans e3) _ fun H4 e4 =>
    have x4 : Ex H H4 := ((e1.trans e2).trans e3).trans e4
    ⟨l, ps, pk, pt, sh, kn, tx, kk, kt, rfl, hl, hlz, hs, hsz, hsl, (e3.trans e4) _ _ hh2, x4 _ _ hpk, hkk, x4 _ _ hpt, hkt, fun p kvs H5 hp e5 h5 hk => k p kvs H5 (fresh_back x4 hp) (x4.trans e5) h5 hk⟩
theorem keysAre.len {kvs : List (Key × V)} {ks : List (List Nat)} (h : keysAre kvs ks) : kvs.length = ks.length := by
  have := congrArg List.length h
  rw [List.length_map, List.length_map] at this
  exact this
end
end WP
/-! ### any(a list) while an exception is handled -/
namespace HotX
open PySem PySem.Spec PyProof.Rows
section
variable {prog : Program} {w : World} {A : Around} {E : Value → Shared → Prop} {s : Shared}
theorem pyNext_list_end_hot {it l x1 : Addr} {i : Nat} {items} {Q : Option Value → Shared → Prop} (hot : HotAt A x1 s.heap) (hne1 : x1 ≠ it)
    (hit : s.heap.IsListIter it l i) (hl : s.heap.IsList l items) (hx : items[i]? = none)
    (hQ : ∀ h', (∀ b o, b ≠ it → s.heap.get? b = some o → h'.get? b = some o) → Q none { s with heap := h' }) : wpAny (model prog w) A (pyNext (.ref it)) Q E s := by
  obtain ⟨o, ho, hc, hd⟩ := id hit
  obtain ⟨ol, hol, _, nl, hdl⟩ := hl
  obtain ⟨hh, o1, vs1, h1, d1, c1⟩ := hot
  unfold pyNext
  refine wpAny_bind (wpAny_attempt (wpAny_callSpecial?_slot (name := Str.ofString "__next__") hit.typeIs slot_listiter_next
    (wpAny_call_entry slot_listiter_next hit.typeIs entry_listiter_next ?_ (args_listiter_next _))))
  show wpAny _ _ (field (.ref it) 0 >>= _) _ _ s
  refine wpAny_bind (wpAny_field ho hd (x := .ref l) rfl ?_)
  show wpAny _ _ (if (Value.ref l == Value.none) = true then _ else _) _ _ s
  rw [if_neg (show ¬ ((Value.ref l == Value.none) = true) from Bool.false_ne_true)]
  show wpAny _ _ (field (.ref it) 1 >>= _) _ _ s
  refine wpAny_bind (wpAny_field ho hd (x := .int i 0) rfl ?_)
  show wpAny _ _ (seqItems? (.ref l) >>= _) _ _ s
  refine wpAny_bind (wpAny_seqItems hol hdl ?_)
  simp only [Int.toNat_natCast, hx]
  refine wpAny_bind (wpAny_rule (wpAny_bind (wpAny_setField ho hd (by simp) ?_)))
  show wpAny _ _ (newExc (.type "StopIteration") [] >>= _) _ _ _
  refine wpAny_bind ?_
  simp only [newExc, newTuple]
  refine wpAny_bind (wpAny_newObj_type ?_ (by size_fits))
  refine wpAny_bind (m := firstArgMember _ _) (wpAny_of_eq (a := Value.none) (by first | rfl | (simp only [firstArgMember]; rfl)) ?_)
  refine wpAny_newObj_type ?_ (by size_fits)
  refine raiseNew_hot ⟨hh, o1, vs1, (((Heap.SameBut.update ..).extBut.push _).push _) x1 o1 hne1 h1, d1, c1⟩ (Nat.ne_of_lt (Heap.lt_size (((Heap.SameBut.update ..).extBut.push _) x1 o1 hne1 h1))) (Heap.get?_push_size _ rfl) rfl (by first | (simp; done) | (simp; omega) | (simp only [Array.size_append]; simp; omega)) ?_
  refine wpAny_bind (wpAny_isInstance (T := "StopIteration") (b := true) ⟨_, Heap.get?_update_self _ (Heap.get?_push_size _ rfl) rfl, rfl⟩ isSubtype_stop ?_)
  refine wpAny_pure (hQ _ fun b o hb e => ?_)
  rw [Heap.get?_update_other _ _ (Nat.ne_of_gt (Heap.lt_size (((Heap.SameBut.update ..).extBut.push _) b o hb e)))]
  exact (((Heap.SameBut.update ..).extBut.push _).push _) b o hb e
theorem listH (hh : ∃ x1, A.handled = some (.ref x1)) (x1 : Addr) (hx : A.handled = some (.ref x1)) (I ax : Addr) (hne : ax ≠ I) (h1 : x1 ≠ I) (items : Array Value) :
    Walks prog w A I [I, ax, x1] [I] items.size (fun i v => items[i]? = some v) (fun i h => (h.IsListIter I ax i ∧ h.IsList ax items) ∧ HotAt A x1 h) where
  sub := fun b hb => by simp at hb; simp [hb]
  frame := fun _ _ _ st hk => ⟨⟨st.1.1.at fun o e => hk I (by simp) o e, st.1.2.at fun o e => hk ax (by simp) o e⟩, by
    obtain ⟨a1, o, vs, a2, a3, a4⟩ := st.2
    exact ⟨a1, o, vs, hk x1 (by simp) o a2, a3, a4⟩⟩
  item := fun i s Q E hi st hQ => by
    refine wpAny_pyNext_list_item st.1.1 st.1.2 (x := items[i]) (by simp [hi]) fun h' hit' hs' => ?_
    refine hQ _ h' s.toks (by simp [hi]) ⟨⟨hit', st.1.2.extBut hs'.extBut hne⟩, ?_⟩ fun b o hb e => hs'.extBut b o (fun h => hb (by simp [h])) e
    obtain ⟨a1, o, vs, a2, a3, a4⟩ := st.2
    exact ⟨a1, o, vs, hs'.extBut x1 o h1 a2, a3, a4⟩
  done := fun s Q E st hQ => pyNext_list_end_hot st.2 h1 st.1.1 st.1.2 (by simp) fun h' he' => hQ h' s.toks fun b o hb e => he' b o (fun h => hb (by simp [h])) e
  self := fun _ _ _ _ st hQ => wpAny_pyIter_listiter st.1.1 hQ
end
end HotX
namespace L2
open PySem PySem.Spec PyProof.Rows HotX L2H
theorem cr_anyH {X : Cx} (hc : HotC X) : CallR X (.builtin "any") (rAny X.K) := by
  intro pins s σ H vs us Q I r h
  obtain ⟨a, bs, rfl, hs, q⟩ := h
  obtain ⟨its, rv, hl, _⟩ := I.list hs
  rw [Vals.ref1 r]
  have hb := rv.bls
  obtain ⟨x1, hot⟩ := hc.at I
  refine call_any_walk (iter_any hl.isList fun s₂ e2 st hne => ?_)
  subst e2
  obtain ⟨hh, o1, vs1, g1, g2, g3⟩ := hot
  have h1 : x1 ≠ s.heap.objs.size := Nat.ne_of_lt (Heap.lt_size g1)
  refine ⟨_, _, _, _, _, _, _, rfl, HotX.listH (A := X.A.in1) ⟨x1, hh⟩ x1 hh _ a hne h1 its.toArray, ⟨st, hh, o1, vs1, Heap.get?_push_of_some _ g1, g2, g3⟩, truth_bools hb, fun h' tk hk => ?_⟩
  refine ⟨.bl _, H, I.kept fun b o eo => hk b o (fun hmem => ?_) (Heap.get?_push_of_some _ eo), ?_, q⟩
  · rcases List.mem_cons.mp hmem with e1 | hmem
    · exact absurd (e1 ▸ Heap.lt_size eo) (Nat.lt_irrefl _)
    · cases hmem
  · show Value.bool _ = Value.bool _
    rw [← any_range, hb, List.size_toArray, List.length_map]
end L2
/-! ### the layer over exceptions whose context is None -/
namespace WP
open PySem PySem.Spec PyProof.Rows L2 Evl SrtO LamX L2H
open SX (S S_len S_cat S_inj S_tl)
structure CalN (P : Program) (w : World) (K : PySem.W.Frag) (mg : Str → Option Value) (base : Heap) (k : Nat) (x : Str) (ps : List Str) (sp : Sp) : Prop where
  ex : ∃ (f : Addr) (fd : FuncData), FnOk P w K mg base (L2N.CX P w) k f fd ps sp ∧ mg x = some (.ref f) ∧ PySem.W.keepIn K (.ref f) = true ∧ Binds K fd ps []
theorem pe_calN {X : Cx} {k : Nat} {ps : List Str} {sp : Sp} {E : XK} {x : Str} {p pos : Pos} {e : Expr} {es : List Expr} {t : TA} (C : CalN X.prog X.w X.K X.mg X.base k x ps sp) (hr : Room k X.A) (hg : Gl X x) (hx : Passes (L2N.CX X.prog X.w) X E) (ha : PA X (e :: es) t)
    (hdb : (x == ("__debug__" : Str)) = false := by decide) (he : starEach (e :: es) X.env = (false, eval e X.env) :: starEach es X.env := by rfl) (hpl : (backTo pos (starEach es X.env)).any (·.1) = false := by rfl) :
    PE X (.Call (.Name x p) (e :: es) [] pos) (tCall sp [] E t) := by
  obtain ⟨f, fd, F, hm, hk, hb⟩ := C.ex
  exact pe_call F hr hg hm hk hb .nil hx ha hdb he hpl
/-- in a try's body -/
theorem pe_calS {X : Cx} {k : Nat} {ps : List Str} {sp : Sp} {W : WX} {x : Str} {p pos : Pos} {e : Expr} {es : List Expr} {t : TA} (C : CalN X.prog X.w X.K X.mg X.base k x ps sp) (hr : Room k X.A) (hg : Gl X x) (tk : L2N.Takes X W) (ha : PA X (e :: es) t)
    (hdb : (x == ("__debug__" : Str)) = false := by decide) (he : starEach (e :: es) X.env = (false, eval e X.env) :: starEach es X.env := by rfl) (hpl : (backTo pos (starEach es X.env)).any (·.1) = false := by rfl) :
    PE X (.Call (.Name x p) (e :: es) [] pos) (tCallS sp (WE W) t) := by
  obtain ⟨f, fd, F, hm, hk, hb⟩ := C.ex
  exact pe_callS F hr hg hm hk hb (fun σ => L2N.passAt tk σ) ha hdb he hpl
theorem calN_mk {P : Program} {w : World} {K : PySem.W.Frag} {mg : Str → Option Value} {base : Heap} {k : Nat} {x : Str} {st : Stmt} {ps : List Str} {sp : Sp} (D : Dn K mg x st) (ok : ∀ f fd, Fun K x x st f fd → FnOk P w K mg base (L2N.CX P w) k f fd ps sp)
    (b : ∀ (kV doc pm : Value) (an : Option Addr) (cdv ct : Value) (us : List Value), us.length = ps.length → bindArgs (PySem.W.fnOf x x (defArgs st) (defBody st) (defScope st) .none kV doc pm an cdv ct) ⟨us, []⟩ = pure (ps.zip us)) : CalN P w K mg base k x ps sp := by
  obtain ⟨f, fd, g, F⟩ := D.ex
  exact ⟨f, fd, ok f fd F, g, F.kp, F.binds b⟩
theorem calcN_mk {P : Program} {w : World} {K : PySem.W.Frag} {mg : Str → Option Value} {base : Heap} {k : Nat} {x : Str} {st : Stmt} {c : Addr} {ps : List Str} {sp : Sp} (D : DnC K mg x st c) (ok : ∀ f fd, Fun K x x st f fd → fd.code = .ref c → FnOk P w K mg base (L2N.CX P w) k f fd ps sp)
    (b : ∀ (kV doc pm : Value) (an : Option Addr) (cdv ct : Value) (us : List Value), us.length = ps.length → bindArgs (PySem.W.fnOf x x (defArgs st) (defBody st) (defScope st) .none kV doc pm an cdv ct) ⟨us, []⟩ = pure (ps.zip us)) : CalN P w K mg base k x ps sp := by
  obtain ⟨f, fd, g, F, hc⟩ := D.ex
  exact ⟨f, fd, ok f fd F hc, g, F.kp, F.binds b⟩
theorem cx_noN {P : Program} {w : World} {H : Hp} {s : Shared} {e : Value} {s' : Shared} (h : L2N.CX P w [] H s (fun _ _ _ => False) e s') : False := by
  obtain ⟨_, _, _, _, _, _, _, _, _, _, _, _, z⟩ := h
  exact z
theorem passLN {X : Cx} : Passes (L2N.CX X.prog X.w) X E0 := fun _ _ _ _ _ _ _ h => by
  obtain ⟨_, _, _, _, _, _, _, _, _, _, _, _, z⟩ := h
  exact z.elim
theorem okXcN {P : Program} {w : World} {K : PySem.W.Frag} {mg : Str → Option Value} {base : Heap} {x qual : Str} {st : Stmt} {f : Addr} {fd : FuncData} {N ps : List Str} {k : Nat} {sp : Sp} (F : Fun K x qual st f fd) (Sc : FnScope N ps (defScope st)) (len : ∀ vs H Q E, sp vs H Q E → vs.length = ps.length)
    (hbody : ∀ (cdv : Value) (A : Around) (outer : List Env) (s : Shared) (H : Hp) (vs : List V) (Q : VK) (E : XK), fd.code = cdv → Room k (A.deeper (envOfC qual (defScope st) s.heap.objs.size f cdv)) → sp vs H Q E →
      ∃ t, PSs (cxOf (L2N.CX P w) P w K mg base N qual (defScope st) f cdv A outer s H E) (defBody st) t ∧ t { nx := fun _ H' => Q .non H', rt := Q } (start N vs) H) : FnOk P w K mg base (L2N.CX P w) (k + 1) f fd ps sp := by
  obtain ⟨oc, od, kV, doc, pm, an, cdv, ct, osl, rfl, lk, hcd⟩ := F.ex
  exact fn_of lk hcd Sc len fun A outer s H vs Q E hr hsp => hbody cdv A outer s H vs Q E rfl hr hsp
theorem okXN {P : Program} {w : World} {K : PySem.W.Frag} {mg : Str → Option Value} {base : Heap} {x qual : Str} {st : Stmt} {f : Addr} {fd : FuncData} {N ps : List Str} {k : Nat} {sp : Sp} (F : Fun K x qual st f fd) (Sc : FnScope N ps (defScope st)) (len : ∀ vs H Q E, sp vs H Q E → vs.length = ps.length)
    (hbody : ∀ (cdv : Value) (A : Around) (outer : List Env) (s : Shared) (H : Hp) (vs : List V) (Q : VK) (E : XK), Room k (A.deeper (envOfC qual (defScope st) s.heap.objs.size f cdv)) → sp vs H Q E →
      ∃ t, PSs (cxOf (L2N.CX P w) P w K mg base N qual (defScope st) f cdv A outer s H E) (defBody st) t ∧ t { nx := fun _ H' => Q .non H', rt := Q } (start N vs) H) : FnOk P w K mg base (L2N.CX P w) (k + 1) f fd ps sp :=
  okXcN F Sc len fun cdv A outer s H vs Q E _ => hbody cdv A outer s H vs Q E
/-! the suite -/
theorem hot_of {X : Cx} {a : Addr} {oe : Obj} {cls : Value} {d : Option Addr} {pn : List (Addr × Obj)} (hz : L2N.Zn cls d oe) (hf : ∃ vs, oe.data = .fields vs) : HotC (X.suite a ((a, oe) :: pn)) := by
  obtain ⟨vs, hv⟩ := hf
  exact ⟨(a, oe), ⟨rfl, vs, hv, hz.2.2 vs hv⟩, List.mem_cons_self⟩
/-- isinstance(e, C) of the caught error -/
def rIsX (K : PySem.W.Frag) (cls : Value) (d : Option Addr) (a : Addr) : List V → Hp → VK → Prop := fun xs H Q => ∃ (D : Addr) (c : V) (cv : Value) (b : Bool), cls = .ref D ∧ d = none ∧ ExcC K D ∧ xs = [.ref a, c] ∧ ClsV c cv ∧ PySem.W.kitOne K (.ref D) cv = some b ∧ Q (.bl b) H
theorem call_isX {X : Cx} {a : Addr} {oe : Obj} {cls : Value} {d : Option Addr} {pn : List (Addr × Obj)} (hz : Zc cls d oe) (hf : ∃ vs, oe.data = .fields vs) : CallR (X.suite a ((a, oe) :: pn)) (.builtin "isinstance") (rIsX X.K cls d a) := by
  intro pins s σ H xs us Q I r h
  obtain ⟨D, c, cv, b, rfl, rfl, ec, rfl, hc, hk, q⟩ := h
  exact call_isE ec hz hf pins s σ H _ us Q I r ⟨c, cv, b, rfl, fun u h => hc.eq h, hk, q⟩
section
variable {K : PySem.W.Frag} {σ : L2.St} {H : Hp} {ta : TE}
theorem ev_isX {D a : Addr} {c : V} {cv : Value} {b : Bool} (ec : ExcC K D) (h : Ev ta σ H (.ref a)) (hc : ClsV c cv) (hk : PySem.W.kitOne K (.ref D) cv = some b) : Ev (tCB (rIsX K (.ref D) none a) (tCons ta (tCons (tC c) tNil))) σ H (.bl b) := fun H1 e Q q =>
  h H1 e _ fun H2 e2 => ⟨D, c, cv, b, rfl, rfl, ec, rfl, hc, hk, q H2 e2⟩
end
end WP
namespace WP
open PySem PySem.Spec PyProof.Rows L2 Evl SrtO LamX L2H
open SX (S S_len S_cat S_inj S_tl)
theorem was_yes {K : PySem.W.Frag} {c cls : Value} {d : Option Addr} {i : Nat} {ts : Addr → Value → Option Addr → TS} {Wout : WX} {D : Ends} {σ : L2.St} {H : Hp} (h : PySem.W.exmOne K cls c = some true)
    (k : ∀ a, H a = none → ts a cls d { nx := fun σ' H' => D.nx (σ'.set i none) H', rt := D.rt, bk := fun σ' H' => D.bk (σ'.set i none) H', ct := fun σ' H' => D.ct (σ'.set i none) H' } (σ.set i (some (.ref a))) H) : wAs K c i ts Wout D cls d σ H := ⟨true, h, fun _ => k, fun z => nomatch z⟩
section
variable {K : PySem.W.Frag} {σ : L2.St} {H : Hp} {ta : TE}
theorem ev_anyV {a : Addr} {bs : List Bool} (h : Ev ta σ H (.ref a)) (hs : SqL K H a (bs.map V.bl)) : Ev (tCB (rAny K) (tCons ta tNil)) σ H (.bl (bs.any id)) := fun H1 e Q q => h H1 e _ fun H2 e2 => ⟨a, bs, rfl, ex_l (e.trans e2) hs, q H2 e2⟩
end
/-- in a try's body: return f(..); x = f(..); f(..) -/
theorem s_retS {σ : L2.St} {H : Hp} {sp : Sp} {vs : List V} {E : L2.St → XK} {ta : TA} {D : Ends} (h : EvA ta σ H vs) (k : ∀ H1, Ex H H1 → sp vs H1 D.rt (E σ)) : tRet (tCallS sp E ta) D σ H := h H (Ex.refl H) _ fun H1 e => k H1 e
theorem s_dropS {σ : L2.St} {H : Hp} {sp : Sp} {vs : List V} {E : L2.St → XK} {ta : TA} {D : Ends} (h : EvA ta σ H vs) (k : ∀ H1, Ex H H1 → sp vs H1 (fun _ H2 => D.nx σ H2) (E σ)) : tDrop (tCallS sp E ta) D σ H := h H (Ex.refl H) _ fun H1 e => k H1 e
theorem rv_isN {x : V} {H : Hp} : RV (fun x y H Q => y = .non ∧ Q (.bl (decide (x = .non))) H) x .non H (.bl (decide (x = .non))) := fun H1 _ _ q => ⟨rfl, q H1 (Ex.refl H1)⟩
theorem rv_notN {x : V} {H : Hp} : RV (fun x y H Q => y = .non ∧ Q (.bl (!decide (x = .non))) H) x .non H (.bl (!decide (x = .non))) := fun H1 _ _ q => ⟨rfl, q H1 (Ex.refl H1)⟩
section
variable {K : PySem.W.Frag} {σ : L2.St} {H : Hp} {ta te : TE} {xs : List V} {v : V} {tz : TS} {D : Ends}
theorem q_appZ {l : Addr} (hl : H l = some (.lst xs)) (ha : Ev ta σ H (.ref l)) (h : Ev te σ H v) (hz : xs.length < 16000000) (k : ∀ H1, Ex H H1 → tz D σ (upd H1 l (.lst (xs ++ [v])))) :
    tSeq (tDrop (tBM K "list" rAppend ta (tCons te tNil))) tz D σ H := s_appZ (D := { D with nx := tz D }) hl ha h hz k
end
/-- the word told, or None -/
def wordV : Option (List Nat) → V
  | none => .non
  | some w => vS w
/-- a list of texts of some letters, of bounded lengths -/
structure TxL (l : List Nat) (xs : List (List Nat)) : Prop where
  mem : ∀ x ∈ xs, ∀ c ∈ x, c ∈ l
  len : ∀ x ∈ xs, x.length ≤ 100000
  many : xs.length ≤ 10000000
def sp_told6 (T : List (Addr × Str)) : Sp := fun vs H Q _ => ∃ (l : List Nat) (a : Addr) (xs : List (List Nat)), vs = [vS l, .ref a] ∧ areL (vS l) = true ∧ H a = some (.lst (xs.map vS)) ∧ TxL l xs ∧ Tabs T H ∧ ∀ H2, NX T H H2 → Q (wordV (wordF l xs)) H2
theorem spvn_told6 {T : List (Addr × Str)} {H : Hp} {l : List Nat} {a : Addr} {xs : List (List Nat)} (hl : areL (vS l) = true) (hx : TxL l xs) (ha : H a = some (.lst (xs.map vS))) (hT : Tabs T H) : SpVN T (sp_told6 T) ([vS l, .ref a] ++ []) H (wordV (wordF l xs)) := fun H1 n Q q E =>
  ⟨l, a, xs, rfl, hl, n.lst ha, hx, n.2 hT, q⟩
def sp_right6 (T : List (Addr × Str)) : Sp := fun vs H Q _ => ∃ (l : List Nat) (a : Addr) (xs : List (List Nat)), vs = [vS l, .ref a] ∧ areL (vS l) = true ∧ H a = some (.lst (xs.map vS)) ∧ TxL l xs ∧ Tabs T H ∧ ∀ H2, NX T H H2 → Q (.bl true) H2
theorem spvn_right6 {T : List (Addr × Str)} {H : Hp} {l : List Nat} {a : Addr} {xs : List (List Nat)} (hl : areL (vS l) = true) (hx : TxL l xs) (ha : H a = some (.lst (xs.map vS))) (hT : Tabs T H) : SpVN T (sp_right6 T) ([vS l, .ref a] ++ []) H (.bl true) := fun H1 n Q q E =>
  ⟨l, a, xs, rfl, hl, n.lst ha, hx, n.2 hT, q⟩
theorem TxL.cps {l : List Nat} {xs : List (List Nat)} (hz : Az l) (h : TxL l xs) : ∀ x ∈ xs, Cps x := fun x hx c hc => azs_lt (hz c (h.mem x hx c hc))
end WP
namespace WP
open PySem PySem.Spec PyProof.Rows L2 Evl SrtO LamX L2H
open SX (S S_len S_cat S_inj S_tl)
theorem cut_txt (ys : List (List Nat)) (lo hi : Option Int) : ∃ zs : List (List Nat), cutV (ys.map vS) lo hi = zs.map vS ∧ zs.length ≤ ys.length ∧ ∀ z ∈ zs, z ∈ ys := by
  refine ⟨(ys.drop (HT.sIx ys.length 0 lo)).take (HT.sIx ys.length ys.length hi - HT.sIx ys.length 0 lo), ?_, ?_, fun z hz => List.mem_of_mem_drop (List.mem_of_mem_take hz)⟩
  · unfold cutV
    rw [List.length_map, List.map_take, List.map_drop]
  · rw [List.length_take, List.length_drop]
    omega
theorem TxL.sub {l : List Nat} {xs ys : List (List Nat)} (h : TxL l xs) (hs : ∀ y ∈ ys, y ∈ xs) (hz : ys.length ≤ xs.length) : TxL l ys := ⟨fun y hy => h.mem y (hs y hy), fun y hy => h.len y (hs y hy), Nat.le_trans hz h.many⟩
theorem TxL.app {l : List Nat} {xs ys : List (List Nat)} (h : TxL l xs) (g : TxL l ys) (hz : xs.length + ys.length ≤ 10000000) : TxL l (xs ++ ys) := ⟨fun y hy => (List.mem_append.mp hy).elim (h.mem y) (g.mem y), fun y hy => (List.mem_append.mp hy).elim (h.len y) (g.len y), by rw [List.length_append]; exact hz⟩
theorem TxL.one {l x : List Nat} (h : ∀ c ∈ x, c ∈ l) (hz : x.length ≤ 100000) : TxL l [x] := ⟨fun y hy => by rw [List.mem_singleton.mp hy]; exact h, fun y hy => by rw [List.mem_singleton.mp hy]; exact hz, by simp⟩
theorem TxL.miss {w l : List Nat} (hw : Wd w) (hl : Wd l) (ho : okL l w = true) : TxL l (missF w l) := ⟨fun y hy c hc => by
    rcases (miss_mem hw).mp hy with ⟨d, hd, rfl, _⟩ | ⟨a, x, d, rfl, h1, h3, _⟩
    · rw [List.mem_singleton.mp hc]; exact hd
    · refine okL_mem ho c ?_
      rcases List.mem_cons.mp hc with rfl | hc
      · exact h1.subset List.mem_cons_self
      · exact h3.subset hc, fun y hy => by have := miss_txt hw hl y hy; omega, by have := miss_len hw hl; omega⟩
theorem TxL.lit {l : List Nat} {xs : List (List Nat)} (h : (xs.all fun x => decide (x.length ≤ 1000) && x.all fun c => l.contains c) = true) (hz : xs.length ≤ 1000) : TxL l xs := by
  have h' := List.all_eq_true.mp h
  refine ⟨fun x hx c hc => ?_, fun x hx => ?_, by omega⟩
  · have := h' x hx
    rw [Bool.and_eq_true] at this
    exact List.contains_iff_mem.mp (List.all_eq_true.mp this.2 c hc)
  · have := h' x hx
    rw [Bool.and_eq_true] at this
    have := of_decide_eq_true this.1
    omega
section
variable {T : List (Addr × Str)} {K : PySem.W.Frag} {σ : L2.St} {H H' : Hp} {xs ys vs : List V} {ta tb te t1 t2 tl : TE} {v x y z : V} {tu tz : TS} {D : Ends} {sp : Sp}
theorem eln_lst {ta : TA} (h : EvAN T ta σ H vs) (hz : vs.length ≤ 100000) : EvLN T (tLst ta) σ H vs := fun H1 n Q q =>
  h H1 n _ fun H2 n2 => ⟨Nat.le_trans hz (by decide), fun p hp => q p _ ⟨H2, n2, hp, NX.of (Ex.new hp)⟩ upd_same⟩
theorem evn_call2L {E : XK} (h1 : EvN T t1 σ H v) (h2 : EvLN T t2 σ H xs) (hs : ∀ p G, NX T H G → G p = some (.lst xs) → SpVN T sp [v, .ref p] G z) : EvN T (tCall sp [] E (tCons t1 (tCons t2 tNil))) σ H z := fun H1 n Q q =>
  h1 H1 n _ fun H2 n2 => h2 H2 (n.trans n2) _ fun p H3 n3 h3 => by
    show sp ([v, .ref p] ++ []) H3 Q E
    rw [List.append_nil]
    exact hs p H3 ((n.trans n2).trans n3.nx) h3 H3 (NX.refl _) Q (fun H4 n4 => q H4 ((n2.trans n3.nx).trans n4)) E
theorem spv_cell {a : Addr} {ns : List Int} {k : Nat} (h : SqL K H a (ns.map V.int)) : SpV (sp_cell K) ([.ref a, .int (k : Nat)] ++ []) H (.int (cellAt ns k)) := fun H1 e Q q E => ⟨a, ns, k, rfl, ex_l e h, q⟩
theorem spv_draw {c m : Int} {k : Nat} (hc : Lim 5000000 c) (hk : k ≤ 1000000) (hm : 0 < m) : SpV sp_draw ([.int c, .int (k : Nat), .int m] ++ []) H (.int (drawF c k m)) := fun H1 e Q q E => ⟨c, k, m, rfl, hc, hk, hm, q⟩
/-! ### pairs of a word and its letters -/
def PairW (v : V) (H : Hp) : Prop := ∃ q w l, v = .ref q ∧ H q = some (.tup [vS w, vS l]) ∧ Wd w ∧ areL (vS l) = true ∧ okL l w = true
theorem stay_pairW : Stay PairW := fun v H H' e h => by
  obtain ⟨q, w, l, rfl, h, r⟩ := h
  exact ⟨q, w, l, rfl, e _ _ h, r⟩
theorem NX.tup {a : Addr} (n : NX T H H') (h : H a = some (.tup xs)) : H' a = some (.tup xs) := n.1 _ _ h (by intro ps z; cases z)
theorem NX.dK {a : Addr} {kvs : List (Key × V)} (n : NX T H H') (h : H a = some (.dK kvs)) : H' a = some (.dK kvs) := n.1 _ _ h (by intro ps z; cases z)
theorem eg_pairW {L : List Nat} (hL : areL (vS L) = true) (ha : EvQ ta σ H (fun v => ∃ w, v = vS w ∧ Wd w ∧ okL L w = true)) (hb : EvQ tb σ H (fun v => v = vS L)) : EvG (tTup (tCons ta (tCons tb tNil))) σ H PairW := fun H1 e Q q =>
  ha H1 e _ fun v1 H2 p1 e2 => hb H2 (e.trans e2) _ fun v2 H3 p2 e3 => ⟨by show 2 ≤ sizeLine; decide, fun p hp => by
    obtain ⟨w, rfl, h1, h2⟩ := p1
    subst p2
    exact q _ _ ((e2.trans e3).trans (Ex.new hp)) ⟨p, w, L, rfl, upd_same, h1, hL, h2⟩⟩
theorem q_forPairN {a : Addr} {i j : Nat} (h : Ev tl σ H (.ref a)) (hx : H a = some (.lst xs)) (hp : ∀ x ∈ xs, PairW x H) (I : L2.St → Prop) (i0 : I σ)
    (hs : ∀ w l σ' H', Wd w → areL (vS l) = true → okL l w = true → I σ' → NX T H H' → tu { D with nx := fun σ2 H2 => I σ2 ∧ NX T H H2, ct := fun σ2 H2 => I σ2 ∧ NX T H H2, bk := tz D } ((σ'.set i (some (vS w))).set j (some (vS l))) H')
    (hd : ∀ σ' H', I σ' → NX T H H' → tz D σ' H') : tSeq (tFor (iList K tl) (gTup K 2 (gCons (gName i) (gCons (gName j) gNil))) tu) tz D σ H :=
  h H (Ex.refl H) _ fun H1 e => ⟨a, rfl, ⟨xs, sq_of (e _ _ hx)⟩, for_list (D := { D with nx := tz D }) (fun _ σ' H' => I σ' ∧ NX T H H') ⟨i0, NX.of e⟩ (fun _ σ' H' _ q => sq_of (q.2.lst hx)) (fun k x σ' H' hi q => by
    obtain ⟨pa, w, l, rfl, hpa, h1, h2, h3⟩ := hp x (List.mem_of_getElem? hi)
    exact ⟨pa, _, rfl, st_of (q.2.tup hpa), rfl, _, _, rfl, _, _, rfl, rfl, hs w l σ' H' h1 h2 h3 q.1 q.2⟩) (fun σ' H' q => hd σ' H' q.1 q.2)⟩
/-! ### lists of texts, walked in a tuple -/
def LstX (l : List Nat) (v : V) (H : Hp) : Prop := ∃ q ys, v = .ref q ∧ H q = some (.lst (ys.map vS)) ∧ TxL l ys
theorem stay_lstX {l : List Nat} : Stay (LstX l) := fun v H H' e h => by
  obtain ⟨q, ys, rfl, h, r⟩ := h
  exact ⟨q, ys, rfl, e _ _ h, r⟩
theorem EvL.toX {l : List Nat} {ys : List (List Nat)} (h : EvL te σ H (ys.map vS)) (ht : TxL l ys) : EvG te σ H (LstX l) := fun H1 e Q q => h H1 e Q fun p H2 _ e2 h2 => q _ H2 e2 ⟨p, ys, rfl, h2, ht⟩
theorem eag_all {P : V → Hp → Prop} : EvAG tNil σ H (fun vs H1 => vs.length ≤ 0 ∧ ∀ x ∈ vs, P x H1) := fun H1 _ _ q => q [] H1 (Ex.refl H1) ⟨Nat.le_refl _, fun x h => by cases h⟩
theorem eag_more {tr : TA} {P : V → Hp → Prop} {n : Nat} (st : Stay P) (h : EvG te σ H P) (hr : EvAG tr σ H (fun vs H1 => vs.length ≤ n ∧ ∀ x ∈ vs, P x H1)) : EvAG (tCons te tr) σ H (fun vs H1 => vs.length ≤ n + 1 ∧ ∀ x ∈ vs, P x H1) := fun H1 e Q q =>
  h H1 e _ fun v H2 e2 p => hr H2 (e.trans e2) _ fun r H3 e3 q3 => q (v :: r) H3 (e2.trans e3) ⟨Nat.succ_le_succ q3.1, fun x hx => by
    rcases List.mem_cons.mp hx with rfl | hx
    · exact st _ _ _ e3 p
    · exact q3.2 x hx⟩
theorem s_forTupN {ta : TA} {l : List Nat} {j n : Nat} (hn : n ≤ 1000) (h : EvAG ta σ H (fun vs H1 => vs.length ≤ n ∧ ∀ x ∈ vs, LstX l x H1)) (I : L2.St → Prop) (i0 : I σ)
    (hs : ∀ G q ys σ' H', H' q = some (.lst (ys.map vS)) → TxL l ys → I σ' → NX T H G → NX T G H' → tu { D with nx := fun σ2 H2 => I σ2 ∧ NX T G H2, ct := fun σ2 H2 => I σ2 ∧ NX T G H2, bk := D.nx } (σ'.set j (some (.ref q))) H')
    (hd : ∀ σ' H', I σ' → NX T H H' → D.nx σ' H') : tFor (iTup K (tTup ta)) (gName j) tu D σ H :=
  h H (Ex.refl H) _ fun vs H1 e1 hv => ⟨Nat.le_trans (Nat.le_trans hv.1 hn) (by decide), fun p hp => by
    have x1 : Ex H (upd H1 p (.tup vs)) := e1.trans (Ex.new hp)
    have h1 : (upd H1 p (.tup vs)) p = some (.tup vs) := upd_same
    have hv1 : ∀ x ∈ vs, LstX l x (upd H1 p (.tup vs)) := fun x hx => stay_lstX _ _ _ (Ex.new hp) (hv.2 x hx)
    generalize upd H1 p (.tup vs) = H2 at x1 h1 hv1
    refine ⟨p, rfl, ⟨vs, st_of h1⟩, for_tup (fun _ σ' H' => I σ' ∧ NX T H2 H') ⟨i0, NX.refl _⟩ (fun _ σ' H' _ q => st_of (q.2.tup h1)) (fun k x σ' H' hi q => ?_) (fun σ' H' q => hd σ' H' q.1 ((NX.of x1).trans q.2))⟩
    obtain ⟨q', ys, rfl, hq, ht⟩ := hv1 x (List.mem_of_getElem? hi)
    exact hs H2 q' ys σ' H' (q.2.lst hq) ht q.1 (NX.of x1) q.2⟩
end
end WP
namespace WP
open PySem PySem.Spec PyProof.Rows L2 Evl SrtO LamX L2H
open SX (S S_len S_cat S_inj S_tl)
theorem el_cat1 {σ : L2.St} {H : Hp} {ta tb : TE} {b : Addr} {xs ys : List V} (ha : EvL ta σ H xs) (hb : Ev tb σ H (.ref b)) (hs : H b = some (.lst ys)) (hz : xs.length + ys.length ≤ 1000000) : EvL (tOp rCat ta tb) σ H (xs ++ ys) := fun H1 e _ q =>
  ha H1 e _ fun a H2 _ e2 ha2 => hb H2 (e.trans e2) _ fun H3 e3 => ⟨a, b, xs, ys, rfl, rfl, e3 _ _ ha2, ((e.trans e2).trans e3) _ _ hs, Nat.le_trans hz (by decide), fun p hp => q p _ (fresh_back (e2.trans e3) hp) ((e2.trans e3).trans (Ex.new hp)) upd_same⟩
theorem areL_ne {l : List Nat} (h : areL (vS l) = true) : l ≠ [] := by
  rw [areL_S, Bool.and_eq_true, Bool.and_eq_true, decide_eq_true_eq] at h
  exact h.2.1
theorem at_first {l : List Nat} (h : l ≠ []) : ∃ c, atI l 0 = some c ∧ c ∈ l := by
  cases l with
  | nil => exact (h rfl).elim
  | cons c r => exact ⟨c, atI_nat (j := 0) rfl, List.mem_cons_self⟩
theorem at_last {l : List Nat} (h : l ≠ []) : ∃ c, atI l (-1) = some c ∧ c ∈ l := by
  refine ⟨l.getLast h, ?_, List.getLast_mem h⟩
  conv => lhs; rw [← List.dropLast_concat_getLast h]
  exact atI_last _ _
theorem EvL.is {te : TE} {σ : L2.St} {H : Hp} {xs ys : List V} (h : EvL te σ H xs) (e : xs = ys) : EvL te σ H ys := e ▸ h
end WP
namespace WP
open PySem PySem.Spec PyProof.Rows L2 Evl SrtO LamX L2H
open SX (S S_len S_cat S_inj S_tl)
/-! ### own classes, exceptions without context -/
structure CalMN (P : Program) (w : World) (K : PySem.W.Frag) (mg : Str → Option Value) (base : Heap) (k : Nat) (C : Addr) (m : Str) (ps : List Str) (sp : Sp) : Prop where
  ex : ∃ (f : Addr) (fd : FuncData), FnOk P w K mg base (L2N.CX P w) k f fd ps sp ∧ Meth K C m f ∧ Binds K fd ps []
structure CalIN (P : Program) (w : World) (K : PySem.W.Frag) (mg : Str → Option Value) (base : Heap) (k : Nat) (x : Str) (C : Addr) (ps : List Str) (sp : Sp) : Prop where
  ex : ∃ (f : Addr) (fd : FuncData), FnOk P w K mg base (L2N.CX P w) k f fd ps sp ∧ Mk K C f ∧ Binds K fd ps []
  g : mg x = some (.ref C)
theorem pe_calMN {X : Cx} {k : Nat} {C : Addr} {ps : List Str} {sp : Sp} {E : XK} {m : Str} {apos pos : Pos} {o e : Expr} {es : List Expr} {ta : TE} {t : TA} {pl : Sem Bool} (he : PE X o ta) (c : Cls X.K C) (M : CalMN X.prog X.w X.K X.mg X.base k C m ps sp) (hr : Room k X.A) (hx : Passes (L2N.CX X.prog X.w) X E) (ha : PA X (e :: es) t)
    (hst : starEach (e :: es) X.env = (false, eval e X.env) :: starEach es X.env := by rfl) (hpl : (backTo pos (starEach es X.env)).any (·.1) = false := by rfl)
    (ht : eval (.Call (.Attribute o m apos) (e :: es) [] pos) X.env = (do
      let ov ← eval o X.env
      standAt apos.atName
      let (f, first) ← holding [ov] (getMethod ov m pl)
      callWith pos f first (backTo pos (starEach (e :: es) X.env)) (backToKw pos (keywordEach [] X.env))) := by rfl) :
    PE X (.Call (.Attribute o m apos) (e :: es) [] pos) (tMeth C m sp [] E ta t) := by
  obtain ⟨f, fd, F, hm, hb⟩ := M.ex
  exact pe_meth he c hm F hr hb .nil hx ha hst hpl ht
theorem pe_calIN {X : Cx} {k : Nat} {C : Addr} {ps : List Str} {sp : Sp} {E : XK} {x : Str} {p pos : Pos} {e : Expr} {es : List Expr} {t : TA} (M : CalIN X.prog X.w X.K X.mg X.base k x C ps sp) (hr : Room (k + 1) X.A) (hg : Gl X x) (hx : Passes (L2N.CX X.prog X.w) X E) (ha : PA X (e :: es) t)
    (hdb : (x == ("__debug__" : Str)) = false := by decide) (he : starEach (e :: es) X.env = (false, eval e X.env) :: starEach es X.env := by rfl) (hpl : (backTo pos (starEach es X.env)).any (·.1) = false := by rfl) :
    PE X (.Call (.Name x p) (e :: es) [] pos) (tMake C sp [] E t) := by
  obtain ⟨f, fd, F, hm, hb⟩ := M.ex
  exact pe_make hm F hr hg M.g hb .nil hx ha hdb he hpl
theorem calmN_mk {P : Program} {w : World} {K : PySem.W.Frag} {mg : Str → Option Value} {base : Heap} {k : Nat} {C : Addr} {m q : Str} {st : Stmt} {ps : List Str} {sp : Sp} (D : DnM K C m q st) (ok : ∀ f fd, Fun K m q st f fd → FnOk P w K mg base (L2N.CX P w) k f fd ps sp)
    (b : ∀ (kV doc pm : Value) (an : Option Addr) (cdv ct : Value) (us : List Value), us.length = ps.length → bindArgs (PySem.W.fnOf m q (defArgs st) (defBody st) (defScope st) .none kV doc pm an cdv ct) ⟨us, []⟩ = pure (ps.zip us)) : CalMN P w K mg base k C m ps sp := by
  obtain ⟨f, fd, g, i, F⟩ := D.ex
  exact ⟨f, fd, ok f fd F, ⟨g, i, F.kp⟩, F.binds b⟩
theorem caliN_mk {P : Program} {w : World} {K : PySem.W.Frag} {mg : Str → Option Value} {base : Heap} {k : Nat} {C : Addr} {x q : Str} {st : Stmt} {ps : List Str} {sp : Sp} {nf : List Str} (k0 : Kl K mg x C nf) (mk : PySem.W.makesIn K C = true) (kc : PySem.W.keepIn K (.ref C) = true) (D : DnM K C "__init__" q st) (ok : ∀ f fd, Fun K "__init__" q st f fd → FnOk P w K mg base (L2N.CX P w) k f fd ps sp)
    (b : ∀ (kV doc pm : Value) (an : Option Addr) (cdv ct : Value) (us : List Value), us.length = ps.length → bindArgs (PySem.W.fnOf "__init__" q (defArgs st) (defBody st) (defScope st) .none kV doc pm an cdv ct) ⟨us, []⟩ = pure (ps.zip us)) : CalIN P w K mg base k x C ps sp := by
  obtain ⟨f, fd, g, i, F⟩ := D.ex
  exact ⟨⟨f, fd, ok f fd F, ⟨mk, g, i, kc⟩, F.binds b⟩, k0.g⟩
/-! ### a def handed over, called in a try's body -/
structure HeldN (P : Program) (w : World) (K : PySem.W.Frag) (mg : Str → Option Value) (base : Heap) (k : Nat) (f : Addr) (sp : Sp) : Prop where
  ex : ∃ (fd : FuncData) (ps : List Str), FnOk P w K mg base (L2N.CX P w) k f fd ps sp ∧ PySem.W.keepIn K (.ref f) = true ∧ Binds K fd ps []
theorem CalN.held {P : Program} {w : World} {K : PySem.W.Frag} {mg : Str → Option Value} {base : Heap} {k j : Nat} {x : Str} {ps : List Str} {sp : Sp} (C : CalN P w K mg base j x ps sp) (h : j ≤ k) : ∃ f, mg x = some (.ref f) ∧ HeldN P w K mg base k f sp := by
  obtain ⟨f, fd, F, g, hk, hb⟩ := C.ex
  exact ⟨f, g, fd, ps, F.mono h, hk, hb⟩
def tAsk (Hd : Addr → Sp → Prop) (i : Nat) (E : L2.St → XK) (t : TA) : TE := fun σ H Q => ∃ f sp, σ[i]? = some (some (.ref f)) ∧ Hd f sp ∧ t σ H fun vs H1 => sp vs H1 Q (E σ)
theorem pe_ask {X : Cx} {k i : Nat} {W : WX} {x : Str} {p pos : Pos} {e : Expr} {es : List Expr} {t : TA} (hr : Room k X.A) (hN : X.N[i]? = some x) (hv : Vis X.env.scope x) (tk : L2N.Takes X W) (ha : PA X (e :: es) t)
    (hdb : (x == ("__debug__" : Str)) = false := by decide) (hcd : (x == ("__classdict__" : Str)) = false := by decide)
    (he : starEach (e :: es) X.env = (false, eval e X.env) :: starEach es X.env := by rfl) (hpl : (backTo pos (starEach es X.env)).any (·.1) = false := by rfl) : PE X (.Call (.Name x p) (e :: es) [] pos) (tAsk (HeldN X.prog X.w X.K X.mg X.base k) i (WE W) t) := by
  refine ⟨fun pins s σ H Q I h => ?_⟩
  obtain ⟨f, sp, hs, hH, ht⟩ := h
  obtain ⟨fd, ps, F, hk, hb⟩ := hH.ex
  refine wpAny_Call_Name_kw (thn ((pe_var (pos := p) hN hv hdb hcd).run pins s σ H (fun v H1 => v = .ref f ∧ H1 = H) I ⟨.ref f, hs, rfl, rfl⟩) fun u s1 ⟨v, H1, I1, r1, q1⟩ => ?_)
  obtain ⟨rfl, rfl⟩ := q1
  cases r1
  refine PySem.W.callWith_K (h₀ := X.base) I.ok.mod.kin hk (thn (ha.run pos pins s1 σ _ _ I1 ht) fun us s2 ⟨vs, H2, I2, r, q⟩ => ⟨I2.kIn, ?_⟩) he hpl
  exact run_fnS (E := WE W) F hr hb (L2N.passAt tk σ) I2 r q
/-- the promise raises an error of the class C, whatever is wished -/
def Rz (T : List (Addr × Str)) (sp : Sp) (vs : List V) (H : Hp) (C : Addr) : Prop := ∀ G, NX T H G → ∀ (Q : VK) (E : XK), (∀ H2, NX T G H2 → E (.ref C) none H2) → sp vs G Q E
section
variable {K : PySem.W.Frag} {σ : L2.St} {H : Hp} {ta tb : TE}
theorem ev_indexB {a : Addr} {bs : List Bool} {j : Nat} (h : Ev ta σ H (.ref a)) (hs : H a = some (.lst (bs.map V.bl))) (hj : bs[j]? = some true) (hno : ∀ (m : Nat) (b : Bool), m < j → bs[m]? = some b → b = false) : Ev (tBM K "list" (rIndexD K) ta (tCons (tC (.bl true)) tNil)) σ H (.int (j : Int)) := fun H1 e Q q =>
  h H1 e _ fun H2 e2 => by
    have h2 := (e.trans e2) _ _ hs
    refine ⟨.inl ⟨rfl, _, sq_of h2⟩, a, .bl true, .bool true, bs.map PyData.bool, j, .bool true, rfl, rfl, .lst (sq_of h2) (dp_map (fun x => .bl x) bs), .bl true, shaped_map bs (fun x _ => lay_bool x), by decide, by rw [List.getElem?_map, hj]; rfl, by rw [eqv_bool]; rfl, fun m z' hm hz => ?_, q H2 e2⟩
    rw [List.getElem?_map] at hz
    cases hb : bs[m]? with
    | none => rw [hb] at hz; cases hz
    | some b =>
      rw [hb] at hz
      cases hz
      rw [hno m b hm hb, eqv_bool]
      rfl
end
/-! ### _law_sort -/
def tW : List Nat := [119, 111, 114, 100]
def tL : List Nat := [108, 101, 116, 116, 101, 114, 115]
def tP : List Nat := [112, 105, 101, 99, 101]
def tN : List Nat := [110, 111, 110, 101]
def sp_sort (P : Program) (w : World) (K : PySem.W.Frag) (mg : Str → Option Value) (base : Heap) (k : Nat) (CW CL CP CN : Addr) (T : List (Addr × Str)) : Sp := fun vs H Q _ => ∃ (f : Addr) (sp : Sp) (v1 v2 : V) (C : Addr) (nm : List Nat), vs = [.ref f, v1, v2] ∧ HeldN P w K mg base k f sp ∧
  ((C = CW ∧ nm = tW) ∨ (C = CL ∧ nm = tL) ∨ (C = CP ∧ nm = tP) ∨ (C = CN ∧ nm = tN)) ∧ Rz T sp [v1, v2] H C ∧ ∀ H2, NX T H H2 → Q (vS nm) H2
theorem s_dropAsk {Hd : Addr → Sp → Prop} {i : Nat} {E : L2.St → XK} {t : TA} {σ : L2.St} {H : Hp} {D : Ends} {f : Addr} {sp : Sp} {vs : List V} (hf : σ[i]? = some (some (.ref f))) (hH : Hd f sp) (h : EvA t σ H vs) (k : ∀ H1, Ex H H1 → sp vs H1 (fun _ H2 => D.nx σ H2) (E σ)) : tDrop (tAsk Hd i E t) D σ H :=
  ⟨f, sp, hf, hH, h H (Ex.refl H) _ fun H1 e => k H1 e⟩
end WP
namespace WP
open PySem PySem.Spec PyProof.Rows L2 Evl SrtO LamX L2H
open SX (S S_len S_cat S_inj S_tl)
/-! ### other letters: the same with every sign moved on -/
def sh (d : Nat) (x : List Nat) : List Nat := x.map (· + d)
theorem sh_len (d : Nat) (x : List Nat) : (sh d x).length = x.length := List.length_map _
theorem sh_app (d : Nat) (x y : List Nat) : sh d (x ++ y) = sh d x ++ sh d y := List.map_append
theorem sh_inj {d : Nat} : ∀ {x y : List Nat}, sh d x = sh d y → x = y
  | [], [], _ => rfl
  | [], _ :: _, h => by cases h
  | _ :: _, [], h => by cases h
  | a :: x, b :: y, h => by
    have h' : (a + d) :: sh d x = (b + d) :: sh d y := h
    injection h' with h1 h2
    rw [sh_inj h2, Nat.add_right_cancel h1]
theorem sh_lt {d : Nat} : ∀ {x y : List Nat}, sh d x < sh d y ↔ x < y
  | [], [] => Iff.rfl
  | [], b :: y => by
    show [] < (b + d) :: sh d y ↔ [] < b :: y
    simp
  | a :: x, [] => by
    show (a + d) :: sh d x < [] ↔ a :: x < []
    simp
  | a :: x, b :: y => by
    show (a + d) :: sh d x < (b + d) :: sh d y ↔ a :: x < b :: y
    rw [List.cons_lt_cons_iff, List.cons_lt_cons_iff, sh_lt (x := x)]
    constructor
    · rintro (h | ⟨h1, h2⟩)
      · exact .inl (by omega)
      · exact .inr ⟨by omega, h2⟩
    · rintro (h | ⟨h1, h2⟩)
      · exact .inl (by omega)
      · exact .inr ⟨by omega, h2⟩
theorem sh_ins (d : Nat) (x : List Nat) : ∀ l, ins (sh d x) (l.map (sh d)) = (ins x l).map (sh d)
  | [] => rfl
  | y :: r => by
    rw [List.map_cons]
    unfold ins
    by_cases h : y < x
    · rw [if_pos h, if_pos (sh_lt.mpr h), sh_ins d x r]
      rfl
    · rw [if_neg h, if_neg (fun z => h (sh_lt.mp z))]
      rfl
theorem sh_srt (d : Nat) : ∀ l, srt (l.map (sh d)) = (srt l).map (sh d)
  | [] => rfl
  | x :: r => by
    show ins (sh d x) (srt (r.map (sh d))) = (ins x (srt r)).map (sh d)
    rw [sh_srt d r, sh_ins]
theorem sh_ct {d : Nat} {l : List (List Nat)} {x : List Nat} : (l.map (sh d)).contains (sh d x) = l.contains x := by
  rw [Bool.eq_iff_iff, List.contains_iff_mem, List.contains_iff_mem, List.mem_map]
  constructor
  · rintro ⟨y, hy, e⟩
    rw [← sh_inj e]
    exact hy
  · intro h
    exact ⟨x, h, rfl⟩
theorem sh_tail (d : Nat) (x : List Nat) : (sh d x).tail = sh d x.tail := by
  cases x <;> rfl
theorem sh_long (d : Nat) (l : List Nat) (s kn tx : List (List Nat)) : longF (sh d l) (s.map (sh d)) (kn.map (sh d)) (tx.map (sh d)) = (longF l s kn tx).map (sh d) := by
  unfold longF
  rw [List.flatMap_map, List.map_flatMap]
  congr 1
  funext t
  have key : ∀ m : List Nat, (List.filter (fun c => !(tx.map (sh d)).contains (sh d t ++ [c]) && (kn.map (sh d)).contains ((sh d t ++ [c]).tail)) (sh d m)).map (fun c => sh d t ++ [c]) = ((m.filter fun c => !tx.contains (t ++ [c]) && kn.contains ((t ++ [c]).tail)).map fun c => t ++ [c]).map (sh d) := by
    intro m
    induction m with
    | nil => rfl
    | cons c m ih =>
      have e1 : sh d t ++ [c + d] = sh d (t ++ [c]) := by rw [sh_app]; rfl
      have e2 : (!(tx.map (sh d)).contains (sh d t ++ [c + d]) && (kn.map (sh d)).contains ((sh d t ++ [c + d]).tail)) = (!tx.contains (t ++ [c]) && kn.contains ((t ++ [c]).tail)) := by
        rw [e1, sh_tail, sh_ct, sh_ct]
      show (List.filter _ ((c + d) :: sh d m)).map _ = _
      by_cases h : (!tx.contains (t ++ [c]) && kn.contains ((t ++ [c]).tail)) = true
      · rw [List.filter_cons, if_pos (by rw [e2]; exact h), List.filter_cons, if_pos h, List.map_cons, List.map_cons, List.map_cons, ih, e1]
      · rw [List.filter_cons, if_neg (by rw [e2]; exact h), List.filter_cons, if_neg h, ih]
  exact key l
theorem sh_loop (d : Nat) (l : List Nat) (xs : List (List Nat)) : ∀ (n : Nat) (kn : List (List Nat)) (lon : List Nat), loopF (sh d l) (xs.map (sh d)) n (kn.map (sh d)) (sh d lon) = (loopF l xs n kn lon).map (sh d)
  | 0, kn, lon => rfl
  | n + 1, kn, lon => by
    unfold loopF
    rw [sh_srt]
    cases hs : srt kn with
    | nil => rfl
    | cons t r =>
      show (if (sh d t).length > 100 || (kn.map (sh d)).length > 101 then none else loopF (sh d l) (xs.map (sh d)) n (longF (sh d l) ((t :: r).map (sh d)) (kn.map (sh d)) (xs.map (sh d))) (sh d t)) = Option.map (sh d) (if t.length > 100 || kn.length > 101 then none else loopF l xs n (longF l (t :: r) kn xs) t)
      rw [sh_len, List.length_map, sh_long, sh_loop d l xs n]
      split <;> rfl
theorem sh_inf {d : Nat} {w y : List Nat} : y <:+: sh d w ↔ ∃ x, y = sh d x ∧ x <:+: w := by
  constructor
  · intro h
    obtain ⟨b, e, hbe, he, rfl⟩ := infix_cut.mp h
    rw [sh_len] at he
    refine ⟨(w.drop b).take (e - b), ?_, infix_cut.mpr ⟨b, e, hbe, he, rfl⟩⟩
    unfold sh
    rw [List.map_take, List.map_drop]
  · rintro ⟨x, rfl, s, t, rfl⟩
    exact ⟨sh d s, sh d t, by rw [← sh_app, ← sh_app]⟩
theorem sh_mem {d c : Nat} {w : List Nat} : c ∈ sh d w ↔ ∃ e, c = e + d ∧ e ∈ w := by
  unfold sh
  rw [List.mem_map]
  constructor
  · rintro ⟨e, h, rfl⟩
    exact ⟨e, rfl, h⟩
  · rintro ⟨e, rfl, h⟩
    exact ⟨e, h, rfl⟩
theorem sh_isM {d : Nat} {w l y : List Nat} : isM (sh d w) (sh d l) y ↔ ∃ x, y = sh d x ∧ isM w l x := by
  constructor
  · rintro (⟨c, hc, rfl, h⟩ | ⟨a, x, c, rfl, h1, h2, h3⟩)
    · obtain ⟨e, rfl, he⟩ := sh_mem.mp hc
      exact ⟨[e], rfl, .inl ⟨e, he, rfl, fun z => h (sh_mem.mpr ⟨e, rfl, z⟩)⟩⟩
    · obtain ⟨u, e1, hu⟩ := sh_inf.mp h1
      obtain ⟨v, e2, hv⟩ := sh_inf.mp h2
      cases u with
      | nil => cases e1
      | cons a' x' =>
        have e1' : a :: x = (a' + d) :: sh d x' := e1
        injection e1' with ha hx
        subst ha hx
        have hne : v ≠ [] := fun z => by
          rw [z] at e2
          have := congrArg List.length e2
          simp [sh] at this
        have ev := List.dropLast_concat_getLast hne
        rw [← ev, sh_app] at e2
        have hl := List.append_inj' e2 rfl
        have hx2 : x' = v.dropLast := sh_inj hl.1
        have hc2 : c = v.getLast hne + d := by
          have h2 : [c] = [v.getLast hne + d] := hl.2
          injection h2
        refine ⟨a' :: (x' ++ [v.getLast hne]), ?_, .inr ⟨a', x', v.getLast hne, rfl, hu, by rw [hx2, ev]; exact hv, fun z => h3 ?_⟩⟩
        · rw [hc2]
          show (a' + d) :: (sh d x' ++ [v.getLast hne + d]) = (a' + d) :: sh d (x' ++ [v.getLast hne])
          rw [sh_app]
          rfl
        · refine sh_inf.mpr ⟨_, ?_, z⟩
          rw [hc2]
          show (a' + d) :: (sh d x' ++ [v.getLast hne + d]) = (a' + d) :: sh d (x' ++ [v.getLast hne])
          rw [sh_app]
          rfl
  · rintro ⟨x, rfl, h | ⟨a, x, c, rfl, h1, h2, h3⟩⟩
    · obtain ⟨c, hc, rfl, h⟩ := h
      refine .inl ⟨c + d, sh_mem.mpr ⟨c, rfl, hc⟩, rfl, fun z => ?_⟩
      obtain ⟨e, he, hm⟩ := sh_mem.mp z
      rw [Nat.add_right_cancel he] at h
      exact h hm
    · refine .inr ⟨a + d, sh d x, c + d, ?_, sh_inf.mpr ⟨_, rfl, h1⟩, sh_inf.mpr ⟨x ++ [c], by rw [sh_app]; rfl, h2⟩, fun z => ?_⟩
      · show (a + d) :: sh d (x ++ [c]) = _
        rw [sh_app]
        rfl
      · obtain ⟨v, e, hv⟩ := sh_inf.mp z
        rw [sh_inj e] at h3
        exact h3 hv
theorem sh_ltLT {d : Nat} {x y : List Nat} : ltLT (sh d x) (sh d y) = ltLT x y := by
  rw [Bool.eq_iff_iff, ltLT_iff, ltLT_iff, sh_len, sh_len, sh_lt]
theorem sh_miss {d : Nat} {w l : List Nat} (hw : Wd w) (hw2 : Wd (sh d w)) (hl : l.Nodup) : missF (sh d w) (sh d l) = (missF w l).map (sh d) := by
  have hl2 : (sh d l).Nodup := nd_map (fun a b h => Nat.add_right_cancel h) hl
  have nd : (missF w l).Nodup := (srtL_perm _).nodup_iff.mpr (cand_nd hl)
  rw [← miss_of hw2 hl2 (m := (missF w l).map (sh d)) (nd_map (fun a b h => sh_inj h) nd) fun y => ?_]
  · refine (srtL_of (List.Perm.refl _) ?_).symm
    refine List.pairwise_map.mpr ((srtL_up (cand w l)).imp fun {a b} h => ?_)
    rw [sh_ltLT]
    exact h
  · rw [sh_isM, List.mem_map]
    constructor
    · rintro ⟨x, hx, rfl⟩
      exact ⟨x, rfl, (miss_mem hw).mp hx⟩
    · rintro ⟨x, rfl, hx⟩
      exact ⟨x, (miss_mem hw).mpr hx, rfl⟩
theorem map_sh_inj {d : Nat} {xs ys : List (List Nat)} (h : xs.map (sh d) = ys.map (sh d)) : xs = ys := (List.map_inj_right fun a b e => sh_inj e).mp h
theorem sh_word {d : Nat} {l : List Nat} {xs : List (List Nat)} (hl : l.Nodup) (hz : Az l) (hz2 : Az (sh d l)) : wordF (sh d l) (xs.map (sh d)) = (wordF l xs).map (sh d) := by
  unfold wordF
  have e : loopF (sh d l) (xs.map (sh d)) 103 [[]] [] = (loopF l xs 103 [[]] []).map (sh d) := sh_loop d l xs 103 [[]] []
  rw [e]
  cases h : loopF l xs 103 [[]] [] with
  | none => rfl
  | some w =>
    obtain ⟨hw, ho⟩ := loop_ok hl hz OfK.zero (Nat.zero_le _) (fun c hc => by cases hc) h
    have hw2 : Wd (sh d w) := ⟨by rw [sh_len]; exact hw.1, fun c hc => by
      obtain ⟨e, rfl, he⟩ := sh_mem.mp hc
      exact hz2 _ (sh_mem.mpr ⟨e, rfl, okL_mem ho e he⟩)⟩
    show (if missF (sh d w) (sh d l) = xs.map (sh d) then some (sh d w) else none) = Option.map (sh d) (if missF w l = xs then some w else none)
    rw [sh_miss hw hw2 hl]
    by_cases q : missF w l = xs
    · rw [if_pos q, if_pos (by rw [q])]
      rfl
    · rw [if_neg q, if_neg (fun z => q (map_sh_inj z))]
      rfl
end WP
namespace WP
open PySem PySem.Spec PyProof.Rows L2 Evl SrtO LamX L2H
open SX (S S_len S_cat S_inj S_tl)
theorem rep_flat (n c : Nat) : (List.replicate n [c]).flatten = List.replicate n c := by
  induction n with
  | zero => rfl
  | succ n ih => rw [List.replicate_succ, List.replicate_succ, List.flatten_cons, ih]; rfl
theorem rv_rep {n c : Nat} {H : Hp} (h : n ≤ 1000) : RV rMulS (vS [c]) (.int (n : Int)) H (vS (List.replicate n c)) := by
  rw [← rep_flat]
  exact rv_mulS (by simp; omega) (by omega)
theorem inf_rep {a n : Nat} {x : List Nat} : x <:+: List.replicate n a ↔ ∃ i, i ≤ n ∧ x = List.replicate i a := by
  have := inf_ab (a := a) (b := a) (m := n) (n := 0) (x := x)
  rw [List.replicate_zero, List.append_nil] at this
  rw [this]
  constructor
  · rintro ⟨i, j, hi, hj, rfl⟩
    have : j = 0 := by omega
    subst this
    exact ⟨i, hi, by simp⟩
  · rintro ⟨i, hi, rfl⟩
    exact ⟨i, 0, hi, Nat.le_refl _, by simp⟩
theorem pieces_nd (w : List Nat) : (piecesF w).Nodup := (pieces_up w).imp fun {a b} h e => by rw [e] at h; exact List.lt_irrefl _ h
theorem pieces_rep (n a : Nat) : (piecesF (List.replicate n a)).length = n + 1 := by
  have e : (((List.range (n + 1)).map fun i => List.replicate i a) : List (List Nat)).length = n + 1 := by simp
  have nd : ((List.range (n + 1)).map fun i => List.replicate i a).Nodup := nd_map (fun i j h => by have := congrArg List.length h; simpa using this) List.nodup_range
  refine Nat.le_antisymm ?_ ?_
  · rw [← e]
    refine nd_le (pieces_nd _) fun x hx => ?_
    obtain ⟨i, hi, rfl⟩ := inf_rep.mp (pieces_mem.mp hx)
    exact List.mem_map.mpr ⟨i, List.mem_range.mpr (by omega), rfl⟩
  · rw [← e]
    refine nd_le nd fun x hx => ?_
    obtain ⟨i, hi, rfl⟩ := List.mem_map.mp hx
    exact pieces_mem.mpr (inf_rep.mpr ⟨i, by have := List.mem_range.mp hi; omega, rfl⟩)
theorem wd_rep {a n : Nat} (h : n ≤ 100) (ha : a ∈ azs) : Wd (List.replicate n a) := ⟨by simp; omega, fun c hc => by rw [(List.mem_replicate.mp hc).2]; exact ha⟩
section
variable {P : Program} {w : World} {K : PySem.W.Frag} {mg : Str → Option Value} {base : Heap} {T : List (Addr × Str)} {σ : L2.St} {H : Hp} {ta tb te : TE}
theorem spvn_sort {k : Nat} {CW CL CP CN f C : Addr} {sp : Sp} {v1 v2 : V} {nm : List Nat} (hH : HeldN P w K mg base k f sp) (hC : (C = CW ∧ nm = tW) ∨ (C = CL ∧ nm = tL) ∨ (C = CP ∧ nm = tP) ∨ (C = CN ∧ nm = tN)) (hz : Rz T sp [v1, v2] H C) : SpVN T (sp_sort P w K mg base k CW CL CP CN T) ([.ref f, v1, v2] ++ []) H (vS nm) := fun H1 n Q q E =>
  ⟨f, sp, v1, v2, C, nm, rfl, hH, hC, fun G m Q1 E1 h => hz G (n.trans m) Q1 E1 h, q⟩
/-! ### refusals -/
theorem rz_numof {C1 C2 C3 : Addr} {w t : List Nat} (hw : Wd w) (ht : Wd t) (h : ¬ t <:+: w) : Rz T (sp_numof C1 C2 C3) [vS w, vS t] H C3 := fun G n Q E q =>
  ⟨vS w, "str", vS t, "str", rfl, thing_S (by have := hw.1; omega), thing_S (by have := ht.1; omega), fun z => (not_true_false (isText_wd hw) z).elim, fun _ z => (not_true_false (isText_wd ht) z).elim, fun w' t' e1 e2 _ _ => by
    have a1 := S_inj (V.str.inj e1)
    have a2 := S_inj (V.str.inj e2)
    subst a1 a2
    exact ⟨fun k hk => (h (pieces_mem.mp (List.mem_of_getElem? hk))).elim, fun _ H2 e => q H2 (NX.of e)⟩⟩
theorem rz_places1 {C1 C2 : Addr} {v1 v2 : V} {n1 n2 : String} (h1 : ∀ G, NX T H G → Thing G v1 n1) (h2 : ∀ G, NX T H G → Thing G v2 n2) (h : isText v1 = false) : Rz T (sp_places C1 C2) [v1, v2] H C1 := fun G n Q E q =>
  ⟨v1, n1, v2, n2, rfl, h1 G n, h2 G n, fun _ H2 e => q H2 (NX.of e), fun z => (not_true_false z h).elim, fun w t e1 e2 hw _ => by
    rw [e1, isText_wd hw] at h
    cases h⟩
theorem rz_missing {C1 C2 : Addr} {w l : List Nat} (hw : Wd w) (hl : l.length ≤ 1000000) (h : areL (vS l) = false ∨ okL l w = false) : Rz T (sp_missing C1 C2 T) [vS w, vS l] H C2 := fun G n Q E q =>
  ⟨vS w, "str", vS l, "str", rfl, thing_S (by have := hw.1; omega), thing_S hl, fun z => (not_true_false (isText_wd hw) z).elim, fun w' e1 _ _ H2 e => q H2 (NX.of e), fun w' l' e1 e2 _ ha ho => by
    have a1 := S_inj (V.str.inj e1)
    have a2 := S_inj (V.str.inj e2)
    subst a1 a2
    rcases h with h | h
    · exact (not_true_false ha h).elim
    · exact (not_true_false ho h).elim⟩
theorem rz_word1 {C1 C2 : Addr} {v v2 : V} {n n2 : String} (h1 : ∀ G, NX T H G → Thing G v n) (h2 : ∀ G, NX T H G → Thing G v2 n2 ∧ Items G v2) (h : areL v = false) : Rz T (sp_wordof C1 C2 T) [v, v2] H C1 := fun G m Q E q =>
  ⟨v, n, v2, n2, rfl, h1 G m, (h2 G m).1, (h2 G m).2, fun _ H2 e => q H2 (NX.of e), fun l _ ha => (not_true_false ha h).elim, fun l a xs _ ha => (not_true_false ha h).elim⟩
theorem rz_word2 {C1 C2 : Addr} {l : List Nat} {v2 : V} {n2 : String} (ha : areL (vS l) = true) (h2 : ∀ G, NX T H G → Thing G v2 n2 ∧ Items G v2) (h : ∀ G, NX T H G → ¬ goodT G l v2) : Rz T (sp_wordof C1 C2 T) [vS l, v2] H C2 := fun G m Q E q =>
  ⟨vS l, "str", v2, n2, rfl, thing_S (by have := (areL_is ha).1.1; omega), (h2 G m).1, (h2 G m).2, fun z => (not_true_false ha z).elim, fun _ _ _ _ H2 e => q H2 (NX.of e), fun l' a xs e1 _ e2 hx hm => (h G m ⟨a, _, e2, hx, by
    have a1 := S_inj (V.str.inj e1)
    subst a1
    rw [List.all_map, List.all_eq_true]
    intro x hxm
    show txF l (vS x) = true
    rw [txF_S, List.all_eq_true]
    exact fun c hc => List.contains_iff_mem.mpr (hm x hxm c hc)⟩).elim⟩
theorem items_txt {a : Addr} {xs : List (List Nat)} (ha : H a = some (.lst (xs.map vS))) (hx : ∀ x ∈ xs, x.length ≤ 1000000) (hz : xs.length ≤ 10000000) : Items H (.ref a) := fun a' ys e h => by
  cases e
  rw [ha] at h
  cases h
  refine ⟨by rw [List.length_map]; omega, fun x hxm => ?_⟩
  obtain ⟨y, hy, rfl⟩ := List.mem_map.mp hxm
  exact ⟨"str", thing_S (hx y hy)⟩
theorem map_vS_inj {xs ys : List (List Nat)} (h : xs.map vS = ys.map vS) : xs = ys := (List.map_inj_right fun a b h => S_inj (V.str.inj h)).mp h
theorem wordof_vs {C1 C2 : Addr} {l : List Nat} {a : Addr} {xs : List (List Nat)} (ha : areL (vS l) = true) (hx : TxL l xs) (hH : H a = some (.lst (xs.map vS))) (hT : Tabs T H) {Q : VK} {E : XK} (hq : ∀ w, wordF l xs = some w → ∀ H2, NX T H H2 → Q (vS w) H2) (he : wordF l xs = none → ∀ H2, NX T H H2 → E (.ref C2) none H2) : sp_wordof C1 C2 T [vS l, .ref a] H Q E :=
  ⟨vS l, "str", .ref a, "list", rfl, thing_S (by have := (areL_is ha).1.1; omega), .lst hH, items_txt hH (fun x hxm => by have := hx.len x hxm; omega) hx.many, fun z => (not_true_false ha z).elim, fun l' e1 _ hb => by
    have a1 := S_inj (V.str.inj e1)
    subst a1
    refine (hb ⟨a, _, rfl, hH, ?_⟩).elim
    rw [List.all_map, List.all_eq_true]
    intro x hxm
    show txF l (vS x) = true
    rw [txF_S, List.all_eq_true]
    exact fun c hc => List.contains_iff_mem.mpr (hx.mem x hxm c hc), fun l' a' ys e1 _ e2 hy _ => by
    have a1 := S_inj (V.str.inj e1)
    subst a1
    cases e2
    rw [hH] at hy
    have := map_vS_inj (HO.lst.inj (Option.some.inj hy))
    subst this
    exact ⟨hT, hq, he⟩⟩
theorem rz_word3 {C1 C2 : Addr} {l : List Nat} {a : Addr} {xs : List (List Nat)} (ha : areL (vS l) = true) (hx : TxL l xs) (hH : H a = some (.lst (xs.map vS))) (hT : Tabs T H) (h : wordF l xs = none) : Rz T (sp_wordof C1 C2 T) [vS l, .ref a] H C2 := fun G n Q E q =>
  wordof_vs ha hx (n.lst hH) (n.2 hT) (fun w hw => by rw [h] at hw; cases hw) fun _ => q
theorem spvn_wordof {C1 C2 : Addr} {l : List Nat} {a : Addr} {xs : List (List Nat)} {v : List Nat} (ha : areL (vS l) = true) (hx : TxL l xs) (hH : H a = some (.lst (xs.map vS))) (hT : Tabs T H) (h : wordF l xs = some v) : SpVN T (sp_wordof C1 C2 T) ([vS l, .ref a] ++ []) H (vS v) := fun G n Q q E =>
  wordof_vs ha hx (n.lst hH) (n.2 hT) (fun w hw => by rw [h] at hw; cases hw; exact q) (fun z => by rw [h] at z; cases z)
theorem spl_places {C1 C2 : Addr} {w t : List Nat} (hw : Wd w) (ht : Wd t) : SpL (sp_places C1 C2) ([vS w, vS t] ++ []) H ((placesF w t).map vN) := fun H1 e Q q E =>
  ⟨vS w, "str", vS t, "str", rfl, thing_S (by have := hw.1; omega), thing_S (by have := ht.1; omega), fun z => (not_true_false (isText_wd hw) z).elim, fun _ z => (not_true_false (isText_wd ht) z).elim, fun w' t' e1 e2 _ _ => by
    have a1 := S_inj (V.str.inj e1)
    have a2 := S_inj (V.str.inj e2)
    subst a1 a2
    exact q⟩
end
/-- two letters, one behind the other -/
def sp_ab (T : List (Addr × Str)) : Sp := fun vs H Q _ => ∃ d : Nat, vs = [vS [97 + d], vS [98 + d]] ∧ d < 25 ∧ Tabs T H ∧ ∀ H2, NX T H H2 → Q (.bl true) H2
end WP
namespace WP
open PySem PySem.Spec PyProof.Rows L2 Evl SrtO LamX L2H
open SX (S S_len S_cat S_inj S_tl)
section
variable {K : PySem.W.Frag} {σ : L2.St} {H H' : Hp} {ta tb tc te : TE} {tu tz : TS} {D : Ends}
theorem s_forRgI {ta : TA} {j : Nat} {lo hi : Int} (h : EvA ta σ H [.int lo, .int hi]) (hb : -100000 ≤ lo ∧ lo ≤ 100000 ∧ -100000 ≤ hi ∧ hi ≤ 100000) (I : L2.St → Prop) (i0 : I σ)
    (hs : ∀ G (i : Int) σ' H', I σ' → Ex H G → Ex G H' → tu { D with nx := fun σ2 H2 => I σ2 ∧ Ex G H2, ct := fun σ2 H2 => I σ2 ∧ Ex G H2, bk := D.nx } (σ'.set j (some (.int i))) H')
    (hd : ∀ σ' H', I σ' → Ex H H' → D.nx σ' H') : tFor (iRng2 ta) (gName j) tu D σ H :=
  h H (Ex.refl H) _ fun H1 e1 => ⟨lo, hi, rfl, ⟨by omega, by omega, by omega, by omega⟩, for_range (lo := lo) (n := (hi - lo).toNat) (fun _ σ' H' => I σ' ∧ Ex H1 H') ⟨i0, Ex.refl _⟩ (fun i σ' H' _ p => hs H1 (lo + (i : Int)) σ' H' p.1 e1 p.2) (fun σ' H' p => hd σ' H' p.1 (e1.trans p.2))⟩
theorem q_forRgI {ta : TA} {j : Nat} {lo hi : Int} (h : EvA ta σ H [.int lo, .int hi]) (hb : -100000 ≤ lo ∧ lo ≤ 100000 ∧ -100000 ≤ hi ∧ hi ≤ 100000) (I : L2.St → Prop) (i0 : I σ)
    (hs : ∀ G (i : Int) σ' H', I σ' → Ex H G → Ex G H' → tu { D with nx := fun σ2 H2 => I σ2 ∧ Ex G H2, ct := fun σ2 H2 => I σ2 ∧ Ex G H2, bk := tz D } (σ'.set j (some (.int i))) H')
    (hd : ∀ σ' H', I σ' → Ex H H' → tz D σ' H') : tSeq (tFor (iRng2 ta) (gName j) tu) tz D σ H := s_forRgI (D := { D with nx := tz D }) h hb I i0 hs hd
/-- a text and two numbers, told by a property -/
def Trp (p : List Nat → Int → Int → Prop) (v : V) (H : Hp) : Prop := ∃ a t i j, v = .ref a ∧ H a = some (.tup [vS t, .int i, .int j]) ∧ p t i j
theorem stay_trp {p : List Nat → Int → Int → Prop} : Stay (Trp p) := fun v H H' e h => by
  obtain ⟨a, t, i, j, rfl, h, q⟩ := h
  exact ⟨a, t, i, j, rfl, e _ _ h, q⟩
theorem eg_trp {p : List Nat → Int → Int → Prop} {l : List Nat} {i j : Int} (ha : Ev ta σ H (vS l)) (hb : Ev tb σ H (.int i)) (hc : Ev tc σ H (.int j)) (q : p l i j) : EvG (tTup (tCons ta (tCons tb (tCons tc tNil)))) σ H (Trp p) := fun H1 e Q k =>
  eu_tup (ea_cons ha (ea_cons hb (ea_cons hc ea_nil))) (by simp) H1 e Q fun a H2 _ e2 h2 => k _ H2 e2 ⟨a, l, i, j, rfl, h2, q⟩
/-- a number and a truth value -/
def PrB (p : Int → Bool → Prop) (v : V) (H : Hp) : Prop := ∃ a i b, v = .ref a ∧ H a = some (.tup [.int i, .bl b]) ∧ p i b
theorem stay_prb {p : Int → Bool → Prop} : Stay (PrB p) := fun v H H' e h => by
  obtain ⟨a, i, b, rfl, h, q⟩ := h
  exact ⟨a, i, b, rfl, e _ _ h, q⟩
theorem eg_prb {p : Int → Bool → Prop} {i : Int} {b : Bool} (ha : Ev ta σ H (.int i)) (hb : Ev tb σ H (.bl b)) (q : p i b) : EvG (tTup (tCons ta (tCons tb tNil))) σ H (PrB p) := fun H1 e Q k =>
  eu_tup (ea_cons ha (ea_cons hb ea_nil)) (by simp) H1 e Q fun a H2 _ e2 h2 => k _ H2 e2 ⟨a, i, b, rfl, h2, q⟩
theorem eag_le {ta : TA} {P : V → Hp → Prop} {n : Nat} (hn : n ≤ 1000) (h : EvAG ta σ H (fun vs H1 => vs.length ≤ n ∧ ∀ x ∈ vs, P x H1)) : EvAG ta σ H (fun vs H1 => vs.length ≤ 1000 ∧ ∀ x ∈ vs, P x H1) := h.imp fun vs H1 p => ⟨Nat.le_trans p.1 hn, p.2⟩
end
end WP
namespace WP
open PySem PySem.Spec PyProof.Rows L2 Evl SrtO LamX L2H
open SX (S S_len S_cat S_inj S_tl)
theorem ev_isiI {K : PySem.W.Frag} {mg : Str → Option Value} {σ : L2.St} {H : Hp} {ta : TE} {C : Addr} {x : Str} {nf : List Str} {fs : List (Str × V)} {C2 : Addr} {b : Bool} (h : EvI ta σ H C fs) (k : Kl K mg x C nf) (hk : PySem.W.kitOne K (.ref C) (.ref C2) = some b) : Ev (tCB (rIsi K) (tCons ta (tCons (tC (.ref C2)) tNil))) σ H (.bl b) := fun H1 e Q q =>
  h H1 e _ fun p dx H2 _ e2 h2 => ⟨.ref p, .ref C2, .ref C, .ref C2, b, rfl, .own C2, .base (.ins h2 k.cl k.ha k.hn k.htk k.hm), hk, q H2 e2⟩
end WP
namespace WP
open PySem PySem.Spec PyProof.Rows L2 Evl SrtO LamX L2H
open SX (S S_len S_cat S_inj S_tl)
/-- of each letter some run is a least missing text -/
theorem pow_miss {w l : List Nat} (hw : Wd w) {c : Nat} (hc : c ∈ l) : ∃ k, 0 < k ∧ List.replicate k c ∈ missF w l := by
  have ex : ∃ k, ¬ List.replicate k c <:+: w := ⟨w.length + 1, fun z => by have := inf_len z; simp at this; omega⟩
  have key : ∀ n k, ¬ List.replicate k c <:+: w → k ≤ n → ∃ j, ¬ List.replicate (j + 1) c <:+: w ∧ List.replicate j c <:+: w := by
    intro n
    induction n with
    | zero =>
      intro k hk hn
      have : k = 0 := by omega
      subst this
      exact (hk List.nil_infix).elim
    | succ n ih =>
      intro k hk hn
      cases k with
      | zero => exact (hk List.nil_infix).elim
      | succ k =>
        by_cases h : List.replicate k c <:+: w
        · exact ⟨k, hk, h⟩
        · exact ih k h (by omega)
  obtain ⟨k, hk⟩ := ex
  obtain ⟨j, h1, h2⟩ := key k k hk (Nat.le_refl _)
  refine ⟨j + 1, by omega, (miss_mem hw).mpr ?_⟩
  cases j with
  | zero => exact .inl ⟨c, hc, rfl, fun z => h1 (one_infix.mpr z)⟩
  | succ j => exact .inr ⟨c, List.replicate j c, c, by rw [rep_snoc, ← List.replicate_succ], by rw [← List.replicate_succ]; exact h2, by rw [rep_snoc]; exact h2, h1⟩
theorem word_nopow {l : List Nat} {xs : List (List Nat)} {c : Nat} (hl : areL (vS l) = true) (hc : c ∈ l) (h : ∀ x ∈ xs, x = [] ∨ ∃ y ∈ x, y ≠ c) : wordF l xs = none := by
  cases hw : wordF l xs with
  | none => rfl
  | some v =>
    obtain ⟨h1, h2, h3⟩ := word_ok (areL_is hl).2 (areL_is hl).1.2 hw
    obtain ⟨k, hk, hm⟩ := pow_miss h1 hc
    rw [h3] at hm
    rcases h _ hm with e | ⟨y, hy, hn⟩
    · have := congrArg List.length e
      simp at this
      omega
    · exact (hn (List.mem_replicate.mp hy).2).elim
/-! ### lines of a word, its letters and its least missing texts -/
structure LF (w l : List Nat) (due : List (List Nat)) : Prop where
  ok : okWL w l = true
  ms : missF w l = due
  w1 : ∀ i, i < due.length → wordF l (due.take i ++ due.drop (i + 1)) = none
  w2 : ∀ i, i < due.length → wordF l (due ++ (due.drop i).take 1) = none
  w3 : 1 < due.length → wordF l due.reverse = none
  sz : due.length ≤ 1000
def lineOk (w l : List Nat) (due : List (List Nat)) : Bool := okWL w l && (decide (missF w l = due) && (((List.range due.length).all fun i => decide (wordF l (due.take i ++ due.drop (i + 1)) = none) && decide (wordF l (due ++ (due.drop i).take 1) = none)) && ((decide (due.length ≤ 1) || decide (wordF l due.reverse = none)) && decide (due.length ≤ 1000))))
theorem lf_of {w l : List Nat} {due : List (List Nat)} (h : lineOk w l due = true) : LF w l due := by
  unfold lineOk at h
  rw [Bool.and_eq_true, Bool.and_eq_true, Bool.and_eq_true, Bool.and_eq_true, decide_eq_true_eq, List.all_eq_true, decide_eq_true_eq] at h
  obtain ⟨h1, h2, h3, h4, h5⟩ := h
  refine ⟨h1, h2, fun i hi => ?_, fun i hi => ?_, fun hi => ?_, h5⟩
  · have := h3 i (List.mem_range.mpr hi)
    rw [Bool.and_eq_true, decide_eq_true_eq, decide_eq_true_eq] at this
    exact this.1
  · have := h3 i (List.mem_range.mpr hi)
    rw [Bool.and_eq_true, decide_eq_true_eq, decide_eq_true_eq] at this
    exact this.2
  · rw [Bool.or_eq_true, decide_eq_true_eq, decide_eq_true_eq] at h4
    rcases h4 with h4 | h4
    · omega
    · exact h4
theorem word_sh {d : Nat} {l : List Nat} {xs : List (List Nat)} (ha : areL (vS l) = true) (ha2 : areL (vS (sh d l)) = true) (h : wordF l xs = none) : wordF (sh d l) (xs.map (sh d)) = none := by
  rw [sh_word (areL_is ha).2 (areL_is ha).1.2 (areL_is ha2).1.2, h]
  rfl
theorem lf_sh {d : Nat} {w l : List Nat} {due : List (List Nat)} (h : LF w l due) (ha2 : areL (vS (sh d l)) = true) : LF (sh d w) (sh d l) (due.map (sh d)) := by
  obtain ⟨hw, ha, ho⟩ := okWL_is h.ok
  have ho2 : okL (sh d l) (sh d w) = true := okL_of fun c hc => by
    obtain ⟨e, rfl, he⟩ := sh_mem.mp hc
    exact sh_mem.mpr ⟨e, rfl, okL_mem ho e he⟩
  have hw2 : Wd (sh d w) := ⟨by rw [sh_len]; exact hw.1, fun c hc => (areL_is ha2).1.2 c (okL_mem ho2 c hc)⟩
  refine ⟨?_, ?_, fun i hi => ?_, fun i hi => ?_, fun hi => ?_, by rw [List.length_map]; exact h.sz⟩
  · unfold okWL
    rw [isText_wd hw2, ha2, ho2]
    rfl
  · rw [sh_miss hw hw2 (areL_is ha).2, h.ms]
  · rw [List.length_map] at hi
    rw [← List.map_take, ← List.map_drop, ← List.map_append]
    exact word_sh ha ha2 (h.w1 i hi)
  · rw [List.length_map] at hi
    rw [← List.map_drop, ← List.map_take, ← List.map_append]
    exact word_sh ha ha2 (h.w2 i hi)
  · rw [List.length_map] at hi
    rw [← List.map_reverse]
    exact word_sh ha ha2 (h.w3 hi)
def lines0 : List (List Nat × List Nat × List (List Nat)) := [([], [97, 98], [[97], [98]]), ([97], [97, 98], [[98], [97, 97]]), ([97, 97], [97], [[97, 97, 97]]), ([97, 98], [97, 98], [[97, 97], [98, 97], [98, 98]]), ([98], [97, 98], [[97], [98, 98]]), ([97, 98, 97], [97, 98], [[97, 97], [98, 98], [98, 97, 98]]), ([], [97], [[97]])]
theorem lines_ok : (lines0.all fun p => lineOk p.1 p.2.1 p.2.2) = true := by decide +kernel
theorem line_at {w l : List Nat} {due : List (List Nat)} (h : (w, l, due) ∈ lines0) : LF w l due := lf_of (List.all_eq_true.mp lines_ok _ h)
theorem areL_2 : ∀ d, d < 25 → areL (vS [97 + d, 98 + d]) = true ∧ areL (vS [97 + d]) = true ∧ areL (vS [98 + d, 97 + d]) = false := by decide +kernel
/-! in the heap -/
def Ln (v : V) (H : Hp) : Prop := ∃ q w l pd due, v = .ref q ∧ H q = some (.tup [vS w, vS l, .ref pd]) ∧ H pd = some (.lst (due.map vS)) ∧ LF w l due
theorem stay_ln : Stay Ln := fun v H H' e h => by
  obtain ⟨q, w, l, pd, due, rfl, h1, h2, h3⟩ := h
  exact ⟨q, w, l, pd, due, rfl, e _ _ h1, e _ _ h2, h3⟩
section
variable {T : List (Addr × Str)} {K : PySem.W.Frag} {σ : L2.St} {H H' : Hp} {ta tb tc te tl : TE} {tu tz : TS} {D : Ends} {sp : Sp} {xs : List V} {x1 x2 z : V}
theorem eg_ln {w l : List Nat} {due : List (List Nat)} (h : LF w l due) (ha : Ev ta σ H (vS w)) (hb : Ev tb σ H (vS l)) (hc : EvL tc σ H (due.map vS)) : EvG (tTup (tCons ta (tCons tb (tCons tc tNil)))) σ H Ln := fun H1 e Q q =>
  ha H1 e _ fun H2 e2 => hb H2 (e.trans e2) _ fun H3 e3 => hc H3 ((e.trans e2).trans e3) _ fun pd H4 _ e4 h4 => ⟨by show 3 ≤ sizeLine; decide, fun p hp => q _ _ ((((e2.trans e3).trans e4)).trans (Ex.new hp)) ⟨p, w, l, pd, due, rfl, upd_same, (Ex.new hp) _ _ h4, h⟩⟩
theorem elg_le {P : V → Hp → Prop} {ta : TA} {n : Nat} (hn : n ≤ 1000) (h : EvAG ta σ H (fun vs H1 => vs.length ≤ n ∧ ∀ x ∈ vs, P x H1)) (st : Stay P) : EvLG (tLst ta) σ H n P := fun H1 e Q q =>
  h H1 e _ fun vs H2 e2 hv => ⟨Nat.le_trans hv.1 (Nat.le_trans hn (by decide)), fun p hp => q vs p _ hv.1 (fun x hx => st x _ _ (Ex.new hp) (hv.2 x hx)) (fresh_back e2 hp) (e2.trans (Ex.new hp)) upd_same⟩
theorem q_asgG {P : V → Hp → Prop} {i n : Nat} (h : EvLG te σ H n P) (k : ∀ xs p H1, xs.length ≤ n → (∀ x ∈ xs, P x H1) → Ex H H1 → H1 p = some (.lst xs) → tz D (σ.set i (some (.ref p))) H1) : tSeq (tAsg te (gName i)) tz D σ H :=
  h H (Ex.refl H) _ fun xs p H1 hl hx _ e h1 => k xs p H1 hl hx e h1
theorem q_forLnN {a : Addr} {i j k : Nat} (h : Ev tl σ H (.ref a)) (hx : H a = some (.lst xs)) (hp : ∀ x ∈ xs, Ln x H) (I : L2.St → Prop) (i0 : I σ)
    (hs : ∀ w l pd due σ' H', LF w l due → H' pd = some (.lst (due.map vS)) → I σ' → NX T H H' → tu { D with nx := fun σ2 H2 => I σ2 ∧ NX T H H2, ct := fun σ2 H2 => I σ2 ∧ NX T H H2, bk := tz D } (((σ'.set i (some (vS w))).set j (some (vS l))).set k (some (.ref pd))) H')
    (hd : ∀ σ' H', I σ' → NX T H H' → tz D σ' H') : tSeq (tFor (iList K tl) (gTup K 3 (gCons (gName i) (gCons (gName j) (gCons (gName k) gNil)))) tu) tz D σ H :=
  h H (Ex.refl H) _ fun H1 e => ⟨a, rfl, ⟨xs, sq_of (e _ _ hx)⟩, for_list (D := { D with nx := tz D }) (fun _ σ' H' => I σ' ∧ NX T H H') ⟨i0, NX.of e⟩ (fun _ σ' H' _ q => sq_of (q.2.lst hx)) (fun m x σ' H' hi q => by
    obtain ⟨pa, w, l, pd, due, rfl, hpa, hpd, hf⟩ := hp x (List.mem_of_getElem? hi)
    exact ⟨pa, _, rfl, st_of (q.2.tup hpa), rfl, _, _, rfl, _, _, rfl, _, _, rfl, rfl, hs w l pd due σ' H' hf (q.2.lst hpd) q.1 q.2⟩) (fun σ' H' q => hd σ' H' q.1 q.2)⟩
theorem evn_call3L {E : XK} {t1 t2 t3 : TE} (h1 : EvN T t1 σ H x1) (h2 : EvN T t2 σ H x2) (h3 : EvLN T t3 σ H xs) (hs : ∀ p G, NX T H G → G p = some (.lst xs) → SpVN T sp [x1, x2, .ref p] G z) : EvN T (tCall sp [] E (tCons t1 (tCons t2 (tCons t3 tNil)))) σ H z := fun H1 n Q q =>
  h1 H1 n _ fun H2 n2 => h2 H2 (n.trans n2) _ fun H3 n3 => h3 H3 ((n.trans n2).trans n3) _ fun p H4 n4 h4 => by
    show sp ([x1, x2, .ref p] ++ []) H4 Q E
    rw [List.append_nil]
    exact hs p H4 (((n.trans n2).trans n3).trans n4.nx) h4 H4 (NX.refl _) Q (fun H5 n5 => q H5 (((n2.trans n3).trans n4.nx).trans n5)) E
/-- over a new tuple of things with a property that stays -/
theorem q_forTupP {P : V → Hp → Prop} {ta : TA} {j n : Nat} (hn : n ≤ 1000) (h : EvAG ta σ H (fun vs H1 => vs.length ≤ n ∧ ∀ x ∈ vs, P x H1)) (st : ∀ v H H', NX T H H' → P v H → P v H') (I : L2.St → Prop) (i0 : I σ)
    (hs : ∀ G v σ' H', P v H' → I σ' → NX T H G → NX T G H' → tu { D with nx := fun σ2 H2 => I σ2 ∧ NX T G H2, ct := fun σ2 H2 => I σ2 ∧ NX T G H2, bk := tz D } (σ'.set j (some v)) H')
    (hd : ∀ σ' H', I σ' → NX T H H' → tz D σ' H') : tSeq (tFor (iTup K (tTup ta)) (gName j) tu) tz D σ H :=
  h H (Ex.refl H) _ fun vs H1 e1 hv => ⟨Nat.le_trans (Nat.le_trans hv.1 hn) (by decide), fun p hp => by
    have x1 : Ex H (upd H1 p (.tup vs)) := e1.trans (Ex.new hp)
    have h1 : (upd H1 p (.tup vs)) p = some (.tup vs) := upd_same
    have hv1 : ∀ x ∈ vs, P x (upd H1 p (.tup vs)) := fun x hx => st _ _ _ (NX.of (Ex.new hp)) (hv.2 x hx)
    generalize upd H1 p (.tup vs) = H2 at x1 h1 hv1
    refine ⟨p, rfl, ⟨vs, st_of h1⟩, for_tup (D := { D with nx := tz D }) (fun _ σ' H' => I σ' ∧ NX T H2 H') ⟨i0, NX.refl _⟩ (fun _ σ' H' _ q => st_of (q.2.tup h1)) (fun k x σ' H' hi q => ?_) (fun σ' H' q => hd σ' H' q.1 ((NX.of x1).trans q.2))⟩
    exact hs H2 x σ' H' (st _ _ _ q.2 (hv1 x (List.mem_of_getElem? hi))) q.1 (NX.of x1) q.2⟩
theorem Rz.mono {sp : Sp} {vs : List V} {C : Addr} (h : Rz T sp vs H C) (n : NX T H H') : Rz T sp vs H' C := fun G m => h G (n.trans m)
theorem EvL.toP {P : V → Hp → Prop} (h : EvL te σ H xs) (p : ∀ q G, Ex H G → G q = some (.lst xs) → P (.ref q) G) : EvG te σ H P := fun H1 e Q q => h H1 e Q fun a H2 _ e2 h2 => q _ H2 e2 (p a H2 (e.trans e2) h2)
end
end WP
namespace WP
open PySem PySem.Spec PyProof.Rows L2 Evl SrtO LamX L2H
open SX (S S_len S_cat S_inj S_tl)
def dF : List Int → Nat
  | [] => 0
  | z :: _ => z.natAbs % 25
theorem dF_lt (ns : List Int) : dF ns < 25 := by
  cases ns with
  | nil => decide
  | cons z r => exact Nat.mod_lt _ (by decide)
theorem spvn_ab {T : List (Addr × Str)} {H : Hp} {d : Nat} (hd : d < 25) (hT : Tabs T H) : SpVN T (sp_ab T) ([vS [97 + d], vS [98 + d]] ++ []) H (.bl true) := fun H1 n Q q E => ⟨d, rfl, hd, n.2 hT, q⟩
end WP
namespace WP
open PySem PySem.Spec PyProof.Rows L2 Evl SrtO LamX L2H
open SX (S S_len S_cat S_inj S_tl)
/-! ### a def called in an except suite, the caught error handed over -/
/-- isinstance of the error that is handled, in such a def's body -/
theorem call_isH {CX : CXT} {P : Program} {w : World} {K : PySem.W.Frag} {mg : Str → Option Value} {base : Heap} {N : List Str} {qual : Str} {scope : Scope} {f : Addr} {cd : Value} {A : Around} {outer : List Env} {s0 : Shared} {H0 : Hp} {E0' : XK} {a : Addr} {oe : Obj} {cls : Value} {d : Option Addr}
    (hz : Zc cls d oe) (hf : ∃ vs, oe.data = .fields vs) : CallR (cxH CX P w K mg base N qual scope f cd A outer s0 H0 E0' (a, oe)) (.builtin "isinstance") (rIsX K cls d a) := by
  intro pins s σ H xs us Q I r h
  obtain ⟨D, c, cv, b, rfl, rfl, C, rfl, hc, hk, q⟩ := h
  obtain ⟨vs, hv⟩ := hf
  obtain ⟨hget, _⟩ := I.pin (a, oe) (List.mem_append.mpr (.inl (show (a, oe) ∈ [(a, oe)] from List.mem_cons_self)))
  cases r with
  | cons r1 r2 =>
    cases r2 with
    | cons r3 r4 =>
      cases r4
      cases r1
      obtain rfl := hc.eq r3
      have J : PySem.W.InstAt s.heap a oe D none := by
        obtain ⟨oc, od, oda, osl⟩ := oe
        obtain ⟨h1, h2⟩ := hz
        dsimp only at h1 h2 hv
        subst h1 h2 hv
        exact ⟨hget, rfl, rfl, trivial⟩
      exact PySem.W.kia_one (PySem.W.handS_kitx_exc C.hg C.hk C.hs C.hd C.ha C.hn C.ht C.hm) I.kIn J hk (fun z => nomatch z) fun tk => ⟨.bl b, H, I.kept (t' := tk) fun _ _ z => z, rfl, q⟩
/-- the call itself -/
theorem run_hot {CX : CXT} {P : Program} {w : World} {K : PySem.W.Frag} {mg : Str → Option Value} {base : Heap} {k : Nat} {x qual : Str} {st : Stmt} {f : Addr} {fd : FuncData} {N ps : List Str} {A : Around} {outer : List Env} {s : Shared} {H : Hp} {us : List Value} {vs : List V} {Q : VK} {p : Addr × Obj} {t : TS}
    (F : Fun K x qual st f fd) (Sc : FnScope N ps (defScope st)) (hr : RoomH (k + 1) A) (hot : Hot1 A p) (hpin : PinOk outer H s p) (e0 : Env0 P w K mg base A outer s H) (hb : BindsTo s fd ⟨us, []⟩ (ps.zip us)) (r : Vals vs us) (hl : vs.length = ps.length)
    (ht : ∀ cdv, PSs (cxH CX P w K mg base N qual (defScope st) f cdv A outer s H (fun _ _ _ => False) p) (defBody st) t) (hq : t { nx := fun _ H' => Q .non H', rt := Q } (L2.start N vs) H) :
    codeAny (model P w) A (.call (.ref f) ⟨us, []⟩) (CR CX outer P w H s Q (fun _ _ _ => False)) s := by
  obtain ⟨oc, od, kV, doc, pm, an, cdv, ct, osl, rfl, lk, hcd⟩ := F.ex
  have KX : K.In s.heap := e0.mod.kin.keeps fun b o e => (e0.bs b o e).1
  refine codeAny_call_function hr.depth (KX _ _ lk) rfl Sc.co Sc.gen rfl (PySem.W.codeRec_of KX hcd) (hb _ _ _ _ (wpAny_newFunctionEnv_cells Sc.kind (fun ⟨n, v⟩ hy => ?_) fun env he s1 y => ?_))
  · exact (Sc.par n (List.of_mem_zip hy).1).imp id fun q => ⟨q, PySem.W.cellsFrom_some _ _ _ (.inl q)⟩
  · subst he
    refine ⟨(e0.mod.nolimit.keeps fun b o e => (e0.bs b o e).1).keeps y.toInCall.keep, codeAny_func (wpAny_mono ((ht cdv).run [] s1 _ H _ (inv_startH Sc hpin e0 hl r y) hq) (fun fl s' hs => ?_) fun e s' hs => hs)⟩
    match fl, hs with
    | .ret u, ⟨v, σ', H', J, rv, q⟩ => exact ⟨v, H', J.os, J.bare, J.base, J.hok, rv, q⟩
    | .next, ⟨σ', H', J, q⟩ => exact ⟨.non, H', J.os, J.bare, J.base, J.hok, rfl, q⟩
    | .brk, ⟨_, _, _, q⟩ => exact q.elim
    | .cont, ⟨_, _, _, q⟩ => exact q.elim
/-- f(e) in a suite, e the caught error: the def's body is read at once -/
def tHot (N : List Str) (a : Addr) (ts : TS) (te : TE) : TE := fun σ H Q => te σ H fun v H1 => v = .ref a ∧ ts { nx := fun _ H' => Q .non H', rt := Q } (L2.start N [.ref a]) H1
theorem pe_hot {X : Cx} {k : Nat} {a : Addr} {oe : Obj} {cls : Value} {d : Option Addr} {pn : List (Addr × Obj)} {x qual : Str} {st : Stmt} {N : List Str} {p0 : Str} {ts : TS} {q pos : Pos} {e : Expr} {te : TE} {f : Addr} {fd : FuncData}
    (hz : L2N.Zn cls d oe) (hf : ∃ vs, oe.data = .fields vs) (hr : RoomH (k + 1) X.A) (F : Fun X.K x qual st f fd) (hm : X.mg x = some (.ref f)) (hb : Binds X.K fd [p0] []) (Sc : FnScope N [p0] (defScope st))
    (ht : ∀ (cdv : Value) (A : Around) (outer : List Env) (s : Shared) (H : Hp), PSs (cxH (L2N.CX X.prog X.w) X.prog X.w X.K X.mg X.base N qual (defScope st) f cdv A outer s H (fun _ _ _ => False) (a, oe)) (defBody st) ts)
    (hg : Gl (X.suite a ((a, oe) :: pn)) x) (ha : PA (X.suite a ((a, oe) :: pn)) [e] (tCons te tNil))
    (hdb : (x == ("__debug__" : Str)) = false := by decide) (hs : starEach [e] (X.suite a ((a, oe) :: pn)).env = (false, eval e (X.suite a ((a, oe) :: pn)).env) :: starEach [] (X.suite a ((a, oe) :: pn)).env := by rfl) (hpl : (backTo pos (starEach [] (X.suite a ((a, oe) :: pn)).env)).any (·.1) = false := by rfl) :
    PE (X.suite a ((a, oe) :: pn)) (.Call (.Name x q) [e] [] pos) (tHot N a ts te) := by
  refine ⟨fun pins s σ H Q I h => ?_⟩
  refine wpAny_Call_Name_kw (ld_glob (X := X.suite a ((a, oe) :: pn)) I hg hm ?_ hdb)
  refine PySem.W.callWith_K (h₀ := X.base) I.ok.mod.kin F.kp (thn (ha.run pos pins s σ H (fun vs H1 => vs = [.ref a] ∧ ts { nx := fun _ H' => Q .non H', rt := Q } (L2.start N [.ref a]) H1) I (show te σ H _ from ?_)) fun us s1 ⟨vs, H1, I1, r, hv, q⟩ => ⟨I1.kIn, ?_⟩) hs hpl
  · have e : (fun (v : V) (H1 : Hp) => v = .ref a ∧ ts { nx := fun _ H' => Q .non H', rt := Q } (L2.start N [.ref a]) H1) = fun v H1 => [v] = [V.ref a] ∧ ts { nx := fun _ H' => Q .non H', rt := Q } (L2.start N [.ref a]) H1 := by
      funext v H1
      rw [List.cons.injEq]
      simp
    have h' : te σ H (fun v H1 => v = .ref a ∧ ts { nx := fun _ H' => Q .non H', rt := Q } (L2.start N [.ref a]) H1) := h
    rw [e] at h'
    exact h'
  · subst hv
    have hl : us.length = 1 := by rw [← r.length]; rfl
    have b := hb s1 us I1.kIn (by rw [List.append_nil]; exact hl)
    rw [List.append_nil] at b
    obtain ⟨vsf, hvf⟩ := hf
    have P1 := I1.pin (a, oe) (List.mem_append_left _ (show (a, oe) ∈ (a, oe) :: pn from List.mem_cons_self))
    refine wpAny_call (codeAny_mono (run_hot (CX := L2N.CX X.prog X.w) (k := k) (p := (a, oe)) F Sc (A := (X.suite a ((a, oe) :: pn)).A) ⟨hr.dp, hr.un⟩ ⟨rfl, vsf, hvf, hz.2.2 vsf hvf⟩ ⟨P1.1, P1.2.1, fun hm => (List.mem_cons.mp (I1.stkSub a hm)).elim P1.2.2.1 P1.2.2.2.1, P1.2.2.2.2⟩ I1.env0 b r rfl (fun cdv => ht cdv _ _ _ _) q) fun rr s' hq => ?_)
    match rr, hq with
    | .error e, hq =>
      obtain ⟨_, _, _, _, _, _, _, _, _, _, _, _, z⟩ := hq
      exact z.elim
    | .ok (.ret u), hq => exact I1.after hq
    | .ok .next, hq => exact False.elim hq
    | .ok .brk, hq => exact False.elim hq
    | .ok .cont, hq => exact False.elim hq
end WP
namespace WP
open PySem PySem.Spec PyProof.Rows L2 Evl SrtO LamX L2H
open SX (S S_len S_cat S_inj S_tl)
/-! ### which refusal it is -/
def kindsF (i : Nat) : List Bool := [decide (i = 0), decide (i = 1), decide (i = 2), decide (i = 3), decide (i = 4), decide (i = 5), true]
def sp_told8 (P : Program) (w : World) (K : PySem.W.Frag) (mg : Str → Option Value) (base : Heap) (k : Nat) (C0 C1 C2 C3 C4 C5 : Addr) (T : List (Addr × Str)) : Sp := fun vs H Q _ => ∃ (f : Addr) (sp : Sp) (v1 v2 : V) (C : Addr) (i : Nat), vs = [.ref f, v1, v2] ∧ HeldN P w K mg base k f sp ∧
  [C0, C1, C2, C3, C4, C5][i]? = some C ∧ Rz T sp [v1, v2] H C ∧ ∀ p H2, NN T H p H2 → H2 p = some (.lst ((kindsF i).map V.bl)) → Q (.ref p) H2
theorem s_retHot {N : List Str} {a : Addr} {ts : TS} {te : TE} {σ : L2.St} {H : Hp} {D : Ends} (h : Ev te σ H (.ref a)) (k : ∀ H1, Ex H H1 → ts { nx := fun _ H' => D.rt .non H', rt := D.rt } (L2.start N [.ref a]) H1) : tRet (tHot N a ts te) D σ H := h H (Ex.refl H) _ fun H1 e => ⟨rfl, k H1 e⟩
theorem six {α : Type} {x0 x1 x2 x3 x4 x5 y : α} {i : Nat} (h : [x0, x1, x2, x3, x4, x5][i]? = some y) : (i = 0 ∧ y = x0) ∨ (i = 1 ∧ y = x1) ∨ (i = 2 ∧ y = x2) ∨ (i = 3 ∧ y = x3) ∨ (i = 4 ∧ y = x4) ∨ (i = 5 ∧ y = x5) := by
  match i, h with
  | 0, h => cases h; simp
  | 1, h => cases h; simp
  | 2, h => cases h; simp
  | 3, h => cases h; simp
  | 4, h => cases h; simp
  | 5, h => cases h; simp
end WP
namespace WP
open PySem PySem.Spec PyProof.Rows L2 Evl SrtO LamX L2H
open SX (S S_len S_cat S_inj S_tl)
section
variable {T : List (Addr × Str)} {K : PySem.W.Frag} {σ : L2.St} {H H' : Hp} {ta tb te tl : TE} {tu tz : TS} {D : Ends} {sp : Sp}
/-- a comprehension in which tables may grow -/
theorem eln_lcG {a : Addr} {es : List V} {j : Nat} {vs : List Nat} (v : V → V) (h : EvN T tl σ H (.ref a)) (hx : H a = some (.lst es)) (hz : es.length ≤ 15000000) (hw : ∀ x, wipe ((wipe σ vs).set j (some x)) vs = wipe σ vs)
    (he : ∀ (x : V) G, x ∈ es → NX T H G → EvN T te ((wipe σ vs).set j (some x)) G (v x)) : EvLN T (tLc (iList K tl) (gName j) tYes te vs) σ H (es.map v) := fun H0 n0 Q q => by
  refine h H0 n0 _ fun H1 n1 => ⟨a, rfl, ⟨es, sq_of ((n0.trans n1).lst hx)⟩, fun Dl hD => ?_⟩
  have hx1 := (n0.trans n1).lst hx
  refine lc_list (xs := es) (fun i H' => NX T H1 H' ∧ H' Dl = some (.lst ((es.take i).map v))) ⟨NX.of (Ex.new hD), upd_same⟩ (fun i H' _ p => sq_of (p.1.lst hx1)) (fun i x H' hi p => ?_) (fun H' p => ?_)
  · have hm := List.mem_of_getElem? hi
    have ta1 : es.take (i + 1) = es.take i ++ [x] := by rw [List.take_add_one, hi]; rfl
    refine ⟨hw _, ?_⟩
    unfold tYes
    simp only [↓reduceIte]
    refine he x H' hm ((n0.trans n1).trans p.1) H' (NX.refl _) _ fun H4 n4 => ⟨_, n4.lst p.2, ?_, NX.mut (NX.refl H1) hD (p.1.trans n4) (n4.lst p.2), ?_⟩
    · rw [List.length_map, List.length_take]
      exact Nat.lt_of_le_of_lt (Nat.le_trans (Nat.min_le_right _ _) hz) (by decide)
    · rw [ta1, List.map_append]
      exact upd_same
  · have p2 := p.2
    rw [List.take_of_length_le (Nat.le_refl _)] at p2
    exact q Dl H' ⟨H1, n1, hD, p.1⟩ p2
theorem evn_all {bs : List Bool} (h : EvLN T ta σ H (bs.map V.bl)) : EvN T (tCB (rAll K) (tCons ta tNil)) σ H (.bl (bs.all id)) := fun H1 n Q q => h H1 n _ fun p H2 n2 h2 => ⟨p, bs, rfl, sq_of h2, q H2 n2.nx⟩
end
/-- _law_all -/
def sp_all8 (P : Program) (w : World) (K : PySem.W.Frag) (mg : Str → Option Value) (base : Heap) (k : Nat) (C0 C1 C2 C3 C4 C5 : Addr) (T : List (Addr × Str)) : Sp := fun vs H Q _ => ∃ (f : Addr) (sp : Sp) (pd pt pu : Addr) (ds : List Int) (es : List V) (C : Addr) (i : Nat), vs = [.ref f, .ref pd, .ref pt, .ref pu] ∧ HeldN P w K mg base k f sp ∧
  [C0, C1, C2, C3, C4, C5][i]? = some C ∧ H pd = some (.lst (ds.map V.int)) ∧ H pt = some (.lst es) ∧ es.length ≤ 1000 ∧ H pu = some (.lst ((kindsF i).map V.bl)) ∧ (∀ d ∈ ds, ∀ x ∈ es, Rz T sp [.int d, x] H C) ∧ ∀ H2, NX T H H2 → Q (.bl true) H2
theorem spln_told8 {P : Program} {w : World} {K : PySem.W.Frag} {mg : Str → Option Value} {base : Heap} {T : List (Addr × Str)} {H : Hp} {k : Nat} {C0 C1 C2 C3 C4 C5 f C : Addr} {sp : Sp} {v1 v2 : V} {i : Nat} (hH : HeldN P w K mg base k f sp) (hC : [C0, C1, C2, C3, C4, C5][i]? = some C) (hz : Rz T sp [v1, v2] H C) : SpLN T (sp_told8 P w K mg base k C0 C1 C2 C3 C4 C5 T) ([.ref f, v1, v2] ++ []) H ((kindsF i).map V.bl) := fun H1 n Q q E =>
  ⟨f, sp, v1, v2, C, i, rfl, hH, hC, hz.mono n, q⟩
theorem spvn_all8 {P : Program} {w : World} {K : PySem.W.Frag} {mg : Str → Option Value} {base : Heap} {T : List (Addr × Str)} {H : Hp} {k : Nat} {C0 C1 C2 C3 C4 C5 f C : Addr} {sp : Sp} {pd pt pu : Addr} {ds : List Int} {es : List V} {i : Nat} (hH : HeldN P w K mg base k f sp) (hC : [C0, C1, C2, C3, C4, C5][i]? = some C) (hd : H pd = some (.lst (ds.map V.int))) (ht : H pt = some (.lst es)) (hl : es.length ≤ 1000) (hu : H pu = some (.lst ((kindsF i).map V.bl))) (hz : ∀ d ∈ ds, ∀ x ∈ es, Rz T sp [.int d, x] H C) : SpVN T (sp_all8 P w K mg base k C0 C1 C2 C3 C4 C5 T) ([.ref f, .ref pd, .ref pt, .ref pu] ++ []) H (.bl true) := fun H1 n Q q E =>
  ⟨f, sp, pd, pt, pu, ds, es, C, i, rfl, hH, hC, n.lst hd, n.lst ht, hl, n.lst hu, fun d hd x hx => (hz d hd x hx).mono n, q⟩
end WP
namespace WP
open PySem PySem.Spec PyProof.Rows L2 Evl SrtO LamX L2H
open SX (S S_len S_cat S_inj S_tl)
/-! ### the doors, refusing -/
def ban : List Nat := [98, 97, 110, 97, 110, 97]
def aab : List Nat := [97, 97, 98]
theorem wd_ban : Wd ban := isText_is (by decide +kernel)
theorem wd_aab : Wd aab := isText_is (by decide +kernel)
section
variable {T : List (Addr × Str)} {H : Hp} {Q : VK} {E : XK} {C1 C2 C3 C4 : Addr} {v v2 : V} {n n2 : String}
theorem no_text {w : List Nat} (h : isText v = false) (e : v = vS w) (hw : Wd w) : False := by rw [e, isText_wd hw] at h; cases h
theorem places_1 (h1 : Thing H v n) (h2 : Thing H v2 n2) (h : isText v = false) (k : ∀ H2, Ex H H2 → E (.ref C1) none H2) : sp_places C1 C2 ([v, v2] ++ []) H Q E := ⟨v, n, v2, n2, rfl, h1, h2, fun _ => k, fun z => (not_true_false z h).elim, fun w t e1 _ hw _ => (no_text h e1 hw).elim⟩
theorem places_2 {w : List Nat} (hw : Wd w) (h2 : Thing H v2 n2) (h : isText v2 = false) (k : ∀ H2, Ex H H2 → E (.ref C2) none H2) : sp_places C1 C2 ([vS w, v2] ++ []) H Q E := ⟨vS w, "str", v2, n2, rfl, thing_S (by have := hw.1; omega), h2, fun z => (not_true_false (isText_wd hw) z).elim, fun _ _ => k, fun w' t _ e2 _ ht => (no_text h e2 ht).elim⟩
theorem many_1 (h1 : Thing H v n) (h : isText v = false) (k : ∀ H2, Ex H H2 → E (.ref C1) none H2) : sp_many C1 ([v] ++ []) H Q E := ⟨v, n, rfl, h1, fun _ => k, fun w e1 hw => (no_text h e1 hw).elim⟩
theorem oflen_1 (h1 : Thing H v n) (h2 : Thing H v2 n2) (h : isText v = false) (k : ∀ H2, Ex H H2 → E (.ref C1) none H2) : sp_oflen C1 C2 ([v, v2] ++ []) H Q E := ⟨v, n, v2, n2, rfl, h1, h2, fun _ => k, fun z => (not_true_false z h).elim, fun w m e1 _ hw => (no_text h e1 hw).elim⟩
theorem oflen_2 {w : List Nat} (hw : Wd w) (h2 : Thing H v2 n2) (h : isNum v2 = false) (k : ∀ H2, Ex H H2 → E (.ref C2) none H2) : sp_oflen C1 C2 ([vS w, v2] ++ []) H Q E := ⟨vS w, "str", v2, n2, rfl, thing_S (by have := hw.1; omega), h2, fun z => (not_true_false (isText_wd hw) z).elim, fun _ _ => k, fun w' m _ e2 _ => by rw [e2, isNum_int, decide_eq_true (by omega)] at h; cases h⟩
theorem pieceby_1 (h1 : Thing H v n) (h2 : Thing H v2 n2) (h : isText v = false) (k : ∀ H2, Ex H H2 → E (.ref C1) none H2) : sp_pieceby C1 C2 ([v, v2] ++ []) H Q E := ⟨v, n, v2, n2, rfl, h1, h2, fun _ => k, fun z => (not_true_false z h).elim, fun w m e1 _ hw => (no_text h e1 hw).elim⟩
theorem pieceby_2 {w : List Nat} (hw : Wd w) (h2 : Thing H v2 n2) (h : isNum v2 = false ∨ ∃ m : Nat, v2 = .int (m : Nat) ∧ (piecesF w).length ≤ m) (k : ∀ H2, Ex H H2 → E (.ref C2) none H2) : sp_pieceby C1 C2 ([vS w, v2] ++ []) H Q E := ⟨vS w, "str", v2, n2, rfl, thing_S (by have := hw.1; omega), h2, fun z => (not_true_false (isText_wd hw) z).elim, fun _ _ => k, fun w' m e1 e2 _ => by
    obtain rfl : w = w' := S_inj (V.str.inj e1)
    refine ⟨fun x hx => ?_, fun _ => k⟩
    rcases h with h | ⟨m', e3, hm⟩
    · rw [e2, isNum_int, decide_eq_true (by omega)] at h
      cases h
    · rw [e2] at e3
      have : m = m' := by have := V.int.inj e3; omega
      subst this
      rw [List.getElem?_eq_none hm] at hx
      cases hx⟩
theorem numof_1 (h1 : Thing H v n) (h2 : Thing H v2 n2) (h : isText v = false) (k : ∀ H2, Ex H H2 → E (.ref C1) none H2) : sp_numof C1 C2 C3 ([v, v2] ++ []) H Q E := ⟨v, n, v2, n2, rfl, h1, h2, fun _ => k, fun z => (not_true_false z h).elim, fun w t e1 _ hw _ => (no_text h e1 hw).elim⟩
theorem numof_2 {w : List Nat} (hw : Wd w) (h2 : Thing H v2 n2) (h : isText v2 = false) (k : ∀ H2, Ex H H2 → E (.ref C2) none H2) : sp_numof C1 C2 C3 ([vS w, v2] ++ []) H Q E := ⟨vS w, "str", v2, n2, rfl, thing_S (by have := hw.1; omega), h2, fun z => (not_true_false (isText_wd hw) z).elim, fun _ _ => k, fun w' t _ e2 _ ht => (no_text h e2 ht).elim⟩
theorem told_1 (h1 : Thing H v n) (h2 : Thing H v2 n2) (h : isText v = false) (k : ∀ H2, Ex H H2 → E (.ref C1) none H2) : sp_told C1 C2 C3 C4 ([v, v2] ++ []) H Q E := ⟨v, n, v2, n2, rfl, h1, h2, fun _ => k, fun z => (not_true_false z h).elim, fun w t e1 _ hw _ => (no_text h e1 hw).elim⟩
theorem told_2 {w : List Nat} (hw : Wd w) (h2 : Thing H v2 n2) (h : isText v2 = false) (k : ∀ H2, Ex H H2 → E (.ref C2) none H2) : sp_told C1 C2 C3 C4 ([vS w, v2] ++ []) H Q E := ⟨vS w, "str", v2, n2, rfl, thing_S (by have := hw.1; omega), h2, fun z => (not_true_false (isText_wd hw) z).elim, fun _ _ => k, fun w' t _ e2 _ ht => (no_text h e2 ht).elim⟩
theorem missing_1 (h1 : Thing H v n) (h2 : Thing H v2 n2) (h : isText v = false) (k : ∀ H2, Ex H H2 → E (.ref C1) none H2) : sp_missing C1 C2 T ([v, v2] ++ []) H Q E := ⟨v, n, v2, n2, rfl, h1, h2, fun _ => k, fun w e1 hw => (no_text h e1 hw).elim, fun w l e1 _ hw => (no_text h e1 hw).elim⟩
theorem missing_2 {w : List Nat} (hw : Wd w) (h2 : Thing H v2 n2) (h : areL v2 = false ∨ ∃ l, v2 = vS l ∧ okL l w = false) (k : ∀ H2, Ex H H2 → E (.ref C2) none H2) : sp_missing C1 C2 T ([vS w, v2] ++ []) H Q E := ⟨vS w, "str", v2, n2, rfl, thing_S (by have := hw.1; omega), h2, fun z => (not_true_false (isText_wd hw) z).elim, fun w' e1 _ _ => k, fun w' l e1 e2 _ ha ho => by
    obtain rfl : w = w' := S_inj (V.str.inj e1)
    rcases h with h | ⟨l', e3, h⟩
    · exact (not_true_false ha h).elim
    · rw [e2] at e3
      obtain rfl : l = l' := S_inj (V.str.inj e3)
      exact (not_true_false ho h).elim⟩
theorem wordof_1 (h1 : Thing H v n) (h : areL v = false) (k : ∀ H2, Ex H H2 → E (.ref C1) none H2) : sp_wordof C1 C2 T ([v, .non] ++ []) H Q E := ⟨v, n, .non, "NoneType", rfl, h1, .non, fun a xs e => (by cases e), fun _ => k, fun l _ ha => (not_true_false ha h).elim, fun l a xs _ ha => (not_true_false ha h).elim⟩
/-! ### promises of the law's own doors -/
def sp_wword (C : Addr) : Sp := fun vs H Q E => ∃ (d : Int) (v : V) (n : String), vs = [.int d, v] ∧ Thing H v n ∧ isText v = false ∧ ∀ H2, Ex H H2 → E (.ref C) none H2
def sp_wtext (C : Addr) : Sp := fun vs H Q E => ∃ (d : Int) (v : V) (n : String), vs = [.int d, v] ∧ Thing H v n ∧ isText v = false ∧ ∀ H2, Ex H H2 → E (.ref C) none H2
def sp_wnum (C : Addr) : Sp := fun vs H Q E => ∃ (d : Int) (v : V) (n : String), vs = [.int d, v] ∧ Thing H v n ∧ (isNum v = false ∨ (d ≠ 0 ∧ ∃ m : Nat, v = .int (m : Nat) ∧ 16 ≤ m)) ∧ ∀ H2, Ex H H2 → E (.ref C) none H2
def sp_wlets (C : Addr) : Sp := fun vs H Q E => ∃ (d : Int) (v : V) (n : String), vs = [.int d, v] ∧ Thing H v n ∧ (areL v = false ∨ (d = 0 ∧ ∃ l, v = vS l ∧ okL l aab = false)) ∧ ∀ H2, Ex H H2 → E (.ref C) none H2
def sp_wnone (C1 C3 C4 : Addr) (T : List (Addr × Str)) : Sp := fun vs H Q E => ∃ (d : Int) (v : V), vs = [.int d, v] ∧
  ((d = 0 ∧ (∃ t, v = vS t ∧ Wd t ∧ ¬ t <:+: ban) ∧ ∀ H2, NX T H H2 → E (.ref C3) none H2) ∨ (d ≠ 0 ∧ Rz T (sp_wordof C1 C4 T) [vS [97, 98], v] H C4 ∧ ∀ H2, NX T H H2 → E (.ref C4) none H2))
end
section
variable {σ : L2.St} {H : Hp} {D : Ends} {t : TT} {ta tb : TE}
theorem s_retIf {b : Bool} (h : EvT t σ H b) (h1 : b = true → ∀ H1, Ex H H1 → ta σ H1 D.rt) (h2 : b = false → ∀ H1, Ex H H1 → tb σ H1 D.rt) : tRet (tIf t ta tb) D σ H := h H (Ex.refl H) _ fun H1 e => by
  cases b with
  | true => exact h1 rfl H1 e
  | false => exact h2 rfl H1 e
theorem x_if {b : Bool} {Q : VK} (h : EvT t σ H b) (h1 : b = true → ∀ H1, Ex H H1 → ta σ H1 Q) (h2 : b = false → ∀ H1, Ex H H1 → tb σ H1 Q) : tIf t ta tb σ H Q := h H (Ex.refl H) _ fun H1 e => by
  cases b with
  | true => exact h1 rfl H1 e
  | false => exact h2 rfl H1 e
theorem x_call {sp : Sp} {dvs vs : List V} {E : XK} {ta : TA} {Q : VK} (h : EvA ta σ H vs) (k : ∀ H1, Ex H H1 → sp (vs ++ dvs) H1 Q E) : tCall sp dvs E ta σ H Q := h H (Ex.refl H) _ fun H1 e => k H1 e
end
end WP
namespace WP
open PySem PySem.Spec PyProof.Rows L2 Evl SrtO LamX L2H
open SX (S S_len S_cat S_inj S_tl)
/-! ### lists that are no word's -/
theorem word_unsorted {l : List Nat} {xs : List (List Nat)} (hl : areL (vS l) = true) (h : ¬ Srtd ltLT xs) : wordF l xs = none := by
  cases hw : wordF l xs with
  | none => rfl
  | some v =>
    obtain ⟨h1, h2, h3⟩ := word_ok (areL_is hl).2 (areL_is hl).1.2 hw
    exact (h (h3 ▸ srtL_up _)).elim
theorem word_twice {l : List Nat} {xs : List (List Nat)} (hl : areL (vS l) = true) (h : ¬ xs.Nodup) : wordF l xs = none := by
  cases hw : wordF l xs with
  | none => rfl
  | some v =>
    obtain ⟨h1, h2, h3⟩ := word_ok (areL_is hl).2 (areL_is hl).1.2 hw
    exact (h (h3 ▸ (srtL_perm _).nodup_iff.mpr (cand_nd (areL_is hl).2))).elim
theorem word_long {l : List Nat} {xs : List (List Nat)} {x : List Nat} (hl : areL (vS l) = true) (hx : x ∈ xs) (h : 101 < x.length) : wordF l xs = none := by
  cases hw : wordF l xs with
  | none => rfl
  | some v =>
    obtain ⟨h1, h2, h3⟩ := word_ok (areL_is hl).2 (areL_is hl).1.2 hw
    rw [← h3] at hx
    exfalso
    have hv := h1.1
    rcases (miss_mem h1).mp hx with ⟨d, hd, rfl, _⟩ | ⟨a, x, d, rfl, h4, _, _⟩
    · simp at h
    · have := h4.length_le
      simp at this h
      omega
theorem miss_rep {a b n : Nat} (hn : 1 < n) (hab : a ≠ b) (y : List Nat) : y ∈ [[a], List.replicate (n + 1) b] ↔ isM (List.replicate n b) [a, b] y := by
  constructor
  · intro h
    rcases List.mem_cons.mp h with rfl | h
    · exact .inl ⟨a, by simp, rfl, fun z => hab (List.mem_replicate.mp z).2⟩
    · rw [List.mem_singleton.mp h]
      refine .inr ⟨b, List.replicate (n - 1) b, b, ?_, ?_, ?_, fun z => ?_⟩
      · rw [rep_snoc, show n - 1 + 1 = n by omega, List.replicate_succ]
      · exact inf_rep.mpr ⟨n, Nat.le_refl _, by rw [← List.replicate_succ, show n - 1 + 1 = n by omega]⟩
      · exact inf_rep.mpr ⟨n, Nat.le_refl _, by rw [rep_snoc, show n - 1 + 1 = n by omega]⟩
      · obtain ⟨i, hi, e⟩ := inf_rep.mp z
        have := congrArg List.length e
        simp at this
        omega
  · rintro (⟨c, hc, rfl, h⟩ | ⟨d, x, c, rfl, h1, h2, h3⟩)
    · rcases List.mem_cons.mp hc with rfl | hc
      · simp
      · rw [List.mem_singleton.mp hc] at h
        exact (h (List.mem_replicate.mpr ⟨by omega, rfl⟩)).elim
    · obtain ⟨i, hi, e1⟩ := inf_rep.mp h1
      obtain ⟨j, hj, e2⟩ := inf_rep.mp h2
      have hcb : c = b := (List.mem_replicate.mp (show c ∈ List.replicate j b by rw [← e2]; simp)).2
      have hdb : d = b := (List.mem_replicate.mp (show d ∈ List.replicate i b by rw [← e1]; simp)).2
      subst hcb hdb
      have ey : d :: (x ++ [d]) = List.replicate (j + 1) d := by rw [e2, List.replicate_succ]
      rw [ey] at h3 ⊢
      have : n < j + 1 := Nat.lt_of_not_le fun q => h3 (inf_rep.mpr ⟨j + 1, q, rfl⟩)
      have : j + 1 = n + 1 := by omega
      rw [this]
      simp
theorem miss_b100 : missF (List.replicate 100 98) [97, 98] = [[97], List.replicate 101 98] := by
  rw [← miss_of (wd_rep (by decide) (by decide)) (by decide) (by decide +kernel : ([[97], List.replicate 101 98] : List (List Nat)).Nodup) (miss_rep (by decide) (by decide))]
  decide +kernel
theorem ofLen_ab {n : Nat} (h : 3 ≤ n) : ofLen [97, 98] n = 0 := by
  unfold ofLen
  rw [List.length_eq_zero_iff, List.filter_eq_nil_iff]
  intro x hx q
  have h1 := (pieces_mem.mp hx).length_le
  have h2 := eq_of_beq q
  simp at h1
  omega
/-! ### things that are refused -/
def ThN (H : Hp) (v : V) : Prop := ∃ n, Thing H v n
theorem Thing.nx {T : List (Addr × Str)} {H H' : Hp} {v : V} {n : String} (e : NX T H H') (h : Thing H v n) : Thing H' v n := by
  cases h with
  | non => exact .non
  | bl b => exact .bl b
  | int i => exact .int i
  | str l h => exact .str l h
  | lst q => exact .lst (e.lst q)
  | tup q => exact .tup (e.tup q)
  | dK q => exact .dK (e.dK q)
def BadP (p : V → Bool) (v : V) (H : Hp) : Prop := ∃ n, Thing H v n ∧ p v = false
theorem stay_bad {p : V → Bool} : Stay (BadP p) := fun v H H' e h => by
  obtain ⟨n, h1, h2⟩ := h
  exact ⟨n, h1.ex e, h2⟩
theorem BadP.nx {T : List (Addr × Str)} {p : V → Bool} {v : V} {H H' : Hp} (e : NX T H H') (h : BadP p v H) : BadP p v H' := by
  obtain ⟨n, h1, h2⟩ := h
  exact ⟨n, Thing.nx e h1, h2⟩
theorem BadP.imp {p q : V → Bool} {v : V} {H : Hp} (h : BadP p v H) (i : p v = false → q v = false) : BadP q v H := by
  obtain ⟨n, h1, h2⟩ := h
  exact ⟨n, h1, i h2⟩
theorem areL_no {v : V} (h : isText v = false) : areL v = false := by
  unfold areL
  rw [h]
  rfl
section
variable {T : List (Addr × Str)} {K : PySem.W.Frag} {σ : L2.St} {H H' : Hp} {ta tb te t2 t3 t4 : TE} {tz : TS} {D : Ends} {p : V → Bool} {xs : List V} {v : V}
theorem eg_c {n : String} (h : ∀ H1, Thing H1 v n) (hp : p v = false) (he : Ev te σ H v) : EvG te σ H (BadP p) := Ev.toG he fun H1 _ => ⟨n, h H1, hp⟩
theorem eg_txt {l : List Nat} (he : Ev te σ H (vS l)) (hp : p (vS l) = false) (hl : l.length ≤ 1000000) : EvG te σ H (BadP p) := eg_c (fun _ => thing_S hl) hp he
theorem eg_lst (he : EvL te σ H xs) (hp : ∀ a, p (.ref a) = false) : EvG te σ H (BadP p) := EvL.toP he fun q G _ h => ⟨"list", .lst h, hp q⟩
theorem eg_tup (he : EvU te σ H xs) (hp : ∀ a, p (.ref a) = false) : EvG te σ H (BadP p) := fun H1 e Q q => he H1 e Q fun a H2 _ e2 h2 => q _ H2 e2 ⟨"tuple", .tup h2, hp a⟩
theorem eg_dnew (hp : ∀ a, p (.ref a) = false) : EvG tDNewK σ H (BadP p) := fun H1 e Q q a ha => q _ _ (Ex.new ha) ⟨"dict", .dK upd_same, hp a⟩
theorem s_retG {P : V → Hp → Prop} {n : Nat} (h : EvLG te σ H n P) (k : ∀ xs p H1, xs.length ≤ n → (∀ x ∈ xs, P x H1) → H p = none → Ex H H1 → H1 p = some (.lst xs) → D.rt (.ref p) H1) : tRet te D σ H := h H (Ex.refl H) _ k
theorem rz_wword {C : Addr} {d : Int} (h : BadP isText v H) : Rz T (sp_wword C) [.int d, v] H C := fun G n Q E q => by
  obtain ⟨m, h1, h2⟩ := h
  exact ⟨d, v, m, rfl, Thing.nx n h1, h2, fun H2 e => q H2 (NX.of e)⟩
theorem rz_wtext {C : Addr} {d : Int} (h : BadP isText v H) : Rz T (sp_wtext C) [.int d, v] H C := fun G n Q E q => by
  obtain ⟨m, h1, h2⟩ := h
  exact ⟨d, v, m, rfl, Thing.nx n h1, h2, fun H2 e => q H2 (NX.of e)⟩
theorem rz_wnum {C : Addr} {d : Int} (h : BadP isNum v H) : Rz T (sp_wnum C) [.int d, v] H C := fun G n Q E q => by
  obtain ⟨m, h1, h2⟩ := h
  exact ⟨d, v, m, rfl, Thing.nx n h1, .inl h2, fun H2 e => q H2 (NX.of e)⟩
theorem rz_wnum1 {C : Addr} {m : Nat} (h : 16 ≤ m) : Rz T (sp_wnum C) [.int 1, .int (m : Nat)] H C := fun G n Q E q => ⟨1, _, "int", rfl, .int _, .inr ⟨by decide, m, rfl, h⟩, fun H2 e => q H2 (NX.of e)⟩
theorem rz_wlets {C : Addr} {d : Int} (h : BadP areL v H) : Rz T (sp_wlets C) [.int d, v] H C := fun G n Q E q => by
  obtain ⟨m, h1, h2⟩ := h
  exact ⟨d, v, m, rfl, Thing.nx n h1, .inl h2, fun H2 e => q H2 (NX.of e)⟩
theorem rz_wlets0 {C : Addr} {l : List Nat} (hl : l.length ≤ 1000) (h : okL l aab = false) : Rz T (sp_wlets C) [.int 0, vS l] H C := fun G n Q E q => ⟨0, _, "str", rfl, thing_S (by omega), .inr ⟨rfl, l, rfl, h⟩, fun H2 e => q H2 (NX.of e)⟩
theorem rz_wnone0 {C1 C3 C4 : Addr} {t : List Nat} (ht : Wd t) (h : ¬ t <:+: ban) : Rz T (sp_wnone C1 C3 C4 T) [.int 0, vS t] H C3 := fun G n Q E q => ⟨0, _, rfl, .inl ⟨rfl, ⟨t, rfl, ht, h⟩, q⟩⟩
theorem rz_wnone1 {C1 C3 C4 : Addr} (h : Rz T (sp_wordof C1 C4 T) [vS [97, 98], v] H C4) : Rz T (sp_wnone C1 C3 C4 T) [.int 1, v] H C4 := fun G n Q E q => ⟨1, _, rfl, .inr ⟨by decide, h.mono n, q⟩⟩
/-- refused at all these doors -/
def RzA (T : List (Addr × Str)) (sp : Sp) (C : Addr) (ds : List Int) (v : V) (G : Hp) : Prop := ∀ d ∈ ds, Rz T sp [.int d, v] G C
theorem stay_rza {sp : Sp} {C : Addr} {ds : List Int} : Stay (RzA T sp C ds) := fun v H H' e h d hd => (h d hd).mono (NX.of e)
theorem rza_one {sp : Sp} {C : Addr} {d : Int} (h : Rz T sp [.int d, v] H C) : RzA T sp C [d] v H := fun d' hd => by rw [List.mem_singleton.mp hd]; exact h
theorem eg_newR {sp : Sp} {C : Addr} {ds : List Int} {ta : TA} {n : Nat} (hn : n ≤ 1000) (h : EvAG ta σ H (fun vs H1 => vs.length ≤ n ∧ ∀ x ∈ vs, RzA T sp C ds x H1)) : EvG (tLst ta) σ H (LstP (RzA T sp C ds) 1000) := fun H1 e Q q =>
  elg_le hn h stay_rza H1 e Q fun xs p H2 hl hx _ e2 h2 => q _ H2 e2 ⟨p, xs, rfl, h2, by omega, hx⟩
/-- a call of _law_all -/
theorem evn_all8 {P : Program} {w : World} {mg : Str → Option Value} {base : Heap} {k : Nat} {C0 C1 C2 C3 C4 C5 f C : Addr} {sp : Sp} {ds : List Int} {i : Nat} {pu : Addr} {E : XK} (hH : HeldN P w K mg base k f sp) (hC : [C0, C1, C2, C3, C4, C5][i]? = some C)
    (h2 : ∀ G, NX T H G → EvL t2 σ G (ds.map V.int)) (h3 : ∀ G, NX T H G → EvG t3 σ G (LstP (RzA T sp C ds) 1000)) (h4 : ∀ G, NX T H G → Ev t4 σ G (.ref pu)) (hu : H pu = some (.lst ((kindsF i).map V.bl))) :
    EvN T (tCall (sp_all8 P w K mg base k C0 C1 C2 C3 C4 C5 T) [] E (tCons (tC (.ref f)) (tCons t2 (tCons t3 (tCons t4 tNil))))) σ H (.bl true) := fun H1 n1 Q q =>
  h2 H1 n1 H1 (Ex.refl _) _ fun pd Ha _ ea hpd => h3 Ha (n1.trans (NX.of ea)) Ha (Ex.refl _) _ fun vt Hb eb ht => h4 Hb ((n1.trans (NX.of ea)).trans (NX.of eb)) Hb (Ex.refl _) _ fun Hc ec => by
    obtain ⟨pt, es, rfl, hpt, hl, hz⟩ := ht
    have nc : NX T H1 Hc := (NX.of ea).trans ((NX.of eb).trans (NX.of ec))
    exact ⟨f, sp, pd, pt, pu, ds, es, C, i, rfl, hH, hC, ec _ _ (eb _ _ hpd), ec _ _ hpt, hl, (n1.trans nc).lst hu, fun d hd x hx => (hz x hx d hd).mono (NX.of ec), fun H2 n2 => q H2 (nc.trans n2)⟩
theorem LstP.imp {P R : V → Hp → Prop} {n : Nat} (h : LstP P n v H) (i : ∀ x, P x H → R x H) : LstP R n v H := by
  obtain ⟨a, xs, rfl, h1, h2, h3⟩ := h
  exact ⟨a, xs, rfl, h1, h2, fun x hx => i x (h3 x hx)⟩
end
def sp_bad (K : PySem.W.Frag) : Sp := fun vs H Q _ => ∃ (a : Addr) (ns : List Int) (far : Int), vs = [.ref a, .int far] ∧ SqL K H a (ns.map V.int) ∧ ns.length ≤ 63 ∧ (∀ z ∈ ns, Lim 1048577 z) ∧ 0 ≤ far ∧ far < 10 ^ 20 ∧
  ∀ xs p H2, xs.length ≤ 100 → (∀ x ∈ xs, BadP isText x H2) → H p = none → Ex H H2 → H2 p = some (.lst xs) → Q (.ref p) H2
end WP
/-! ### promises of defs that show lists: asked for where no repr is under way -/
namespace WP
open PySem PySem.Spec PyProof.Rows L2 Evl SrtO LamX L2H
open SX (S S_len S_cat S_inj S_tl)
structure FnG (P : Program) (w : World) (K : PySem.W.Frag) (mg : Str → Option Value) (base : Heap) (CX : CXT) (k : Nat) (f : Addr) (fd : FuncData) (ps : List Str) (sp : Sp) : Prop where
  len : ∀ vs H Q E, sp vs H Q E → vs.length = ps.length
  run : ∀ (A : Around) (outer : List Env) (s : Shared) (H : Hp) (args : Args) (us : List Value) (vs : List V) (Q : VK) (E : XK), A.guards = some [] → Room k A → Env0 P w K mg base A outer s H → BindsTo s fd args (ps.zip us) → Vals vs us → sp vs H Q E →
    codeAny (model P w) A (.call (.ref f) args) (CR CX outer P w H s Q E) s
structure CalG (P : Program) (w : World) (K : PySem.W.Frag) (mg : Str → Option Value) (base : Heap) (k : Nat) (x : Str) (ps : List Str) (sp : Sp) : Prop where
  ex : ∃ (f : Addr) (fd : FuncData), FnG P w K mg base (L2N.CX P w) k f fd ps sp ∧ mg x = some (.ref f) ∧ PySem.W.keepIn K (.ref f) = true ∧ Binds K fd ps []
theorem pe_calG {X : Cx} {k : Nat} {ps : List Str} {sp : Sp} {E : XK} {x : Str} {p pos : Pos} {e : Expr} {es : List Expr} {t : TA} (C : CalG X.prog X.w X.K X.mg X.base k x ps sp) (hgd : X.A.guards = some []) (hr : Room k X.A) (hg : Gl X x) (hx : Passes (L2N.CX X.prog X.w) X E) (ha : PA X (e :: es) t)
    (hdb : (x == ("__debug__" : Str)) = false := by decide) (he : starEach (e :: es) X.env = (false, eval e X.env) :: starEach es X.env := by rfl) (hpl : (backTo pos (starEach es X.env)).any (·.1) = false := by rfl) :
    PE X (.Call (.Name x p) (e :: es) [] pos) (tCall sp [] E t) := by
  obtain ⟨f, fd, F, hm, hk, hb⟩ := C.ex
  refine ⟨fun pins s σ H Q I h => ?_⟩
  refine wpAny_Call_Name_kw (ld_glob I hg hm ?_ hdb)
  refine PySem.W.callWith_K (h₀ := X.base) I.ok.mod.kin hk (thn (ha.run pos pins s σ H _ I h) fun us s1 ⟨vs, H1, I1, r, q⟩ => ⟨I1.kIn, ?_⟩) he hpl
  have r2 : Vals (vs ++ []) (us ++ []) := r.append .nil
  have hl : (us ++ []).length = ps.length := by
    rw [← r2.length]
    exact F.len _ _ _ _ q
  refine wpAny_call (codeAny_mono (F.run X.A X.stack s1 H1 ⟨us, []⟩ (us ++ []) (vs ++ []) Q E hgd hr I1.env0 (hb s1 us I1.kIn hl) r2 q) fun rr s' hq => ?_)
  rcases rr with e | (_ | _ | _ | u)
  · exact hx pins σ H1 s1 e s' I1 hq
  · exact False.elim hq
  · exact False.elim hq
  · exact False.elim hq
  · exact I1.after hq
/-- a def by its body -/
theorem okXcG {P : Program} {w : World} {K : PySem.W.Frag} {mg : Str → Option Value} {base : Heap} {x qual : Str} {st : Stmt} {f : Addr} {fd : FuncData} {N ps : List Str} {k : Nat} {sp : Sp} (F : Fun K x qual st f fd) (Sc : FnScope N ps (defScope st)) (len : ∀ vs H Q E, sp vs H Q E → vs.length = ps.length)
    (hbody : ∀ (cdv : Value) (A : Around) (outer : List Env) (s : Shared) (H : Hp) (vs : List V) (Q : VK) (E : XK), fd.code = cdv → A.guards = some [] → Room k (A.deeper (envOfC qual (defScope st) s.heap.objs.size f cdv)) → sp vs H Q E →
      ∃ t, PSs (cxOf (L2N.CX P w) P w K mg base N qual (defScope st) f cdv A outer s H E) (defBody st) t ∧ t { nx := fun _ H' => Q .non H', rt := Q } (start N vs) H) : FnG P w K mg base (L2N.CX P w) (k + 1) f fd ps sp := by
  obtain ⟨oc, od, kV, doc, pm, an, cdv, ct, osl, rfl, lk, hcd⟩ := F.ex
  exact ⟨len, fun A outer s H args us vs Q E hgd hr e0 hb r hsp => LamX.run_ofS lk hcd Sc hr e0 hb r (len _ _ _ _ hsp) fun hr' => hbody cdv A outer s H vs Q E rfl hgd hr' hsp⟩
theorem calG_mk {P : Program} {w : World} {K : PySem.W.Frag} {mg : Str → Option Value} {base : Heap} {k : Nat} {x : Str} {st : Stmt} {ps : List Str} {sp : Sp} (D : Dn K mg x st) (ok : ∀ f fd, Fun K x x st f fd → FnG P w K mg base (L2N.CX P w) k f fd ps sp)
    (b : ∀ (kV doc pm : Value) (an : Option Addr) (cdv ct : Value) (us : List Value), us.length = ps.length → bindArgs (PySem.W.fnOf x x (defArgs st) (defBody st) (defScope st) .none kV doc pm an cdv ct) ⟨us, []⟩ = pure (ps.zip us)) : CalG P w K mg base k x ps sp := by
  obtain ⟨f, fd, g, F⟩ := D.ex
  exact ⟨f, fd, ok f fd F, g, F.kp, F.binds b⟩
/-- in a def's body, and in the block of a comprehension of it, no repr is under way -/
theorem gd_cx {CX : CXT} {P : Program} {w : World} {K : PySem.W.Frag} {mg : Str → Option Value} {base : Heap} {N : List Str} {qual : Str} {scope : Scope} {f : Addr} {cd : Value} {A : Around} {outer : List Env} {s : Shared} {H : Hp} {E : XK} (h : A.guards = some []) : (cxOf CX P w K mg base N qual scope f cd A outer s H E).A.guards = some [] := h
end WP
/-! ### the end of a law whose promise asks that no repr is under way -/
namespace WP
open PySem PySem.Spec PyProof.Rows L2 Evl SrtO LamX L2H
open SX (S S_len S_cat S_inj S_tl)
/-- the script, where it is no thing of K, and the tables -/
def headH (K : PySem.W.Frag) (a : Addr) (o : Obj) (xs : List V) (T : List Addr) : Hp := fun b => if b = a ∧ (K.lookup a).isNone = true then some (.frz o (.lst xs)) else if b ∈ T then some (.tbl #[]) else none
theorem headH_at {K : PySem.W.Frag} {a : Addr} {o : Obj} {xs : List V} {T : List Addr} {b : Addr} {u : HO} (h : headH K a o xs T b = some u) : (b = a ∧ K.lookup a = none ∧ u = .frz o (.lst xs)) ∨ (b ∈ T ∧ u = .tbl #[]) := by
  unfold headH at h
  split at h
  · rename_i q
    exact .inl ⟨q.1, Option.isNone_iff_eq_none.mp q.2, (Option.some.inj h).symm⟩
  · split at h
    · rename_i q
      exact .inr ⟨q, (Option.some.inj h).symm⟩
    · cases h
theorem headH_tbl {K : PySem.W.Frag} {a : Addr} {o : Obj} {xs : List V} {T : List Addr} {b : Addr} (n : a ∉ T) (h : b ∈ T) : headH K a o xs T b = some (.tbl #[]) := by
  unfold headH
  rw [if_neg (show ¬ (b = a ∧ (List.lookup a K).isNone = true) from fun z => n (z.1 ▸ h)), if_pos h]
theorem law_callG {P : Program} {w : World} {K : PySem.W.Frag} {mg mb : Str → Option Value} {CX : CXT} {k : Nat} {fa a : Addr} {cs : List (Addr × Addr)} {fd : FuncData} {x : Str} {sp : Sp} {s₁ : Shared} {vs : List Value} {ns : List Int}
    (KX : K.In s₁.heap) (hns : s₁.heap.Ns mainGlobals mg) (hb : s₁.heap.Ns builtinsNs mb) (hbb : ∀ x : Str, x ≠ "__name__" → mb x = bootBuiltins x) (hlim : s₁.heap.NoLimit) (hg : s₁.gens = #[])
    (hT : ∀ p ∈ cs, s₁.heap.get? p.2 = some { cls := .none, data := .fields #[] }) (nT : ∀ p ∈ cs, K.lookup p.2 = none) (C : ∀ p ∈ cs, PySem.W.CodeHd s₁.heap p.1 p.2)
    (hbm : ∃ (bm : Addr) (ob : Obj), mg "__builtins__" = some (.ref bm) ∧ bm ≠ builtinsNs ∧ s₁.heap.get? bm = some ob ∧ ob.cls = .type "module" ∧ ob.dict = some builtinsNs ∧ ob.data = .plain)
    (ha : s₁.heap.get? a = some { cls := .type "list", data := .seq vs.toArray }) (hi : IntsAre vs ns) (hl : ns.length ≤ sizeLine) (hr : Room k callerA)
    (F : ∀ base : Heap, K.In base → base.Ns mainGlobals mg → (∀ p ∈ cs, TabB base mg p.1 p.2) → FnG P w K mg base CX k fa fd [x] sp) (hbind : ∀ (s : Shared) (u : Value), BindsTo s fd ⟨[u], []⟩ [(x, u)])
    (hsp : ∀ H : Hp, (∀ p ∈ cs, H p.2 = some (.tbl #[])) → SqL K H a (ns.map V.int) → sp [.ref a] H (fun v _ => v = .bl true) fun _ _ _ => False)
    (hCX : ∀ H e s', CX [] H s₁ (fun _ _ _ => False) e s' → False) :
    codeAny (model P w) callerA (.call (.ref fa) ⟨[.ref a], []⟩) (fun r s' => r = .ok (.ret (.bool true)) ∧ OldK s₁.heap s'.heap ∧ s'.os = s₁.os ∧ AllBare s'.gens) s₁ := by
  let o : Obj := { cls := .type "list", data := .seq vs.toArray }
  let T : List Addr := cs.map (·.2)
  let H : Hp := headH K a o (ns.map V.int) T
  have inT : ∀ p ∈ cs, p.2 ∈ T := fun p hp => List.mem_map.mpr ⟨p, hp, rfl⟩
  have isT : ∀ b ∈ T, ∃ p ∈ cs, p.2 = b ∧ s₁.heap.get? b = some { cls := .none, data := .fields #[] } ∧ K.lookup b = none := fun b hb => by
    obtain ⟨p, hp, e⟩ := List.mem_map.mp hb
    exact ⟨p, hp, e, by rw [← e]; exact hT p hp, by rw [← e]; exact nT p hp⟩
  have aT : a ∉ T := fun z => by
    obtain ⟨_, _, _, q, _⟩ := isT a z
    rw [ha] at q
    exact absurd (congrArg (fun o : Obj => o.data) (Option.some.inj q)) (by intro z; cases z)
  -- what is tracked is a list or an empty table, and no thing of K
  have trk : ∀ b u, H b = some u → K.lookup b = none ∧ ∃ ob, s₁.heap.get? b = some ob ∧ (ob = o ∨ ob = { cls := .none, data := .fields #[] }) := fun b u e => by
    rcases headH_at e with ⟨e1, e2, _⟩ | ⟨e1, _⟩
    · exact ⟨by rw [e1]; exact e2, o, by rw [e1]; exact ha, .inl rfl⟩
    · obtain ⟨_, _, _, q, n⟩ := isT b e1
      exact ⟨n, _, q, .inr rfl⟩
  have free : ∀ {b : Addr} {ob : Obj}, s₁.heap.get? b = some ob → ob ≠ o → ob ≠ { cls := .none, data := .fields #[] } → (hidT s₁.heap H).get? b = some ob := fun {b ob} e n1 n2 => hidT_get e (by
    cases q : H b with
    | none => rfl
    | some u =>
      obtain ⟨_, ob', e', r⟩ := trk b u q
      rw [e] at e'
      cases e'
      exact (r.elim n1 n2).elim)
  have freeD : ∀ {b : Addr} {ob : Obj}, s₁.heap.get? b = some ob → ob.data ≠ o.data → ob.data ≠ .fields #[] → (hidT s₁.heap H).get? b = some ob := fun e n1 n2 => free e (fun z => n1 (by rw [z])) fun z => n2 (by rw [z])
  have nsK : ∀ {b : Addr} {m : Str → Option Value}, s₁.heap.Ns b m → (hidT s₁.heap H).Ns b m := fun ⟨ob, es, ep, e, d, r⟩ => ⟨ob, es, ep, freeD e (by rw [d]; intro z; cases z) (by rw [d]; intro z; cases z), d, r⟩
  have kin : K.In (hidT s₁.heap H) := fun b ob e => hidT_get (KX b ob e) (by
    cases q : H b with
    | none => rfl
    | some u =>
      rw [(trk b u q).1] at e
      cases e)
  have tb : ∀ p ∈ cs, TabB (hidT s₁.heap H) mg p.1 p.2 := fun p hp => by
    obtain ⟨oG, esG, epG, eG, dG, rG⟩ := id hns
    refine ⟨?_, ?_, fun z => ?_⟩
    · obtain ⟨oc, us, fl, tf, fg, tg, inF, tx, tt, e1, r1, r2, r3, r⟩ := C p hp
      refine ⟨oc, us, fl, tf, fg, tg, inF, tx, tt, freeD e1 (by rw [r2]; intro z; cases z) ?_, r1, r2, r3, r⟩
      rw [r2]
      intro z
      cases z
      simp at r3
    · obtain ⟨bm, ob, b1, b2, b3, b4, b5, b6⟩ := hbm
      refine ⟨bm, ob, b1, b2, fun q => ?_, fun q => ?_, freeD b3 (by rw [b6]; intro z; cases z) (by rw [b6]; intro z; cases z), b4, b5, b6⟩
      · rw [q, eG] at b3
        cases b3
        rw [dG] at b6
        cases b6
      · rw [q, hT p hp] at b3
        cases b3
        cases b6
    · rw [z, hT p hp] at eG
      cases eG
      cases dG
  have rv := vals_ints hi
  have hok : HOk P w H s₁.heap := fun b u e => by
    rcases headH_at e with ⟨e1, _, e3⟩ | ⟨e1, e2⟩
    · rw [e1, e3]
      exact ⟨ha, by rw [List.length_map]; exact hl, vs, _, rv, ha⟩
    · rw [e2]
      obtain ⟨_, _, _, q, _⟩ := isT b e1
      exact q
  have sq : SqL K H a (ns.map V.int) := by
    cases hk : K.lookup a with
    | none => exact .inl (.inr ⟨o, if_pos ⟨rfl, by rw [hk]; rfl⟩⟩)
    | some oa =>
      have e := KX a oa hk
      rw [ha] at e
      cases e
      exact .inr ⟨_, vs.toArray, _, hk, rfl, rfl, rfl, by rw [List.size_toArray, hi.length]; exact hl, by simpa using rv⟩
  have e0 : Env0 P w K mg (hidT s₁.heap H) callerA [] s₁ H :=
    ⟨rfl, ⟨kin, nsK hns, ⟨mb, nsK hb, hbb⟩, let ⟨mc, h1, h2⟩ := hlim; ⟨mc, nsK h1, h2⟩⟩, fun b ob e => of_hidT e, Nat.le_of_eq (hidT_size _ _), trivial, fun b hb => absurd (show b ∈ ([] : List Addr) from hb) (by simp), hok, .of_eq hg⟩
  have hH : ∀ p ∈ cs, H p.2 = some (.tbl #[]) := fun p hp => headH_tbl aT (inT p hp)
  refine codeAny_mono ((F _ kin (nsK hns) tb).run callerA [] s₁ H ⟨[.ref a], []⟩ [.ref a] [.ref a] _ _ rfl hr e0 (hbind s₁ (.ref a)) (.cons rfl .nil) (hsp H hH sq)) fun r s' h => ?_
  rcases r with e | (_ | _ | _ | u)
  · exact (hCX H e s' h).elim
  · exact False.elim h
  · exact False.elim h
  · exact False.elim h
  obtain ⟨v, H', os, bare, un, hok', r', q⟩ := h
  have q' : v = .bl true := q
  subst q'
  obtain rfl : u = Value.bool true := r'
  have old : ∀ b ob, b ∉ T → s₁.heap.get? b = some ob → s'.heap.get? b = some ob := fun b ob nb e => by
    cases q : H b with
    | none => exact un.keep b ob e q (by intro z; exact absurd (show b ∈ ([] : List Addr) from z) (by simp)) (by simp)
    | some u =>
      rcases headH_at q with ⟨_, _, e3⟩ | ⟨e1, _⟩
      · rw [e3] at q
        have g1 := (hok b _ q).1
        rw [e] at g1
        cases g1
        exact (hok' b _ (un.frzs b _ _ q)).1
      · exact absurd e1 nb
  have grown : ∀ b ∈ T, ∃ (p : Addr × Addr) (more : Array Value), p ∈ cs ∧ p.2 = b ∧ s₁.heap.get? b = some { cls := .none, data := .fields #[] } ∧ s'.heap.get? b = some { cls := .none, data := .fields more } := fun b hb => by
    obtain ⟨p, hp, e, g, _⟩ := isT b hb
    obtain ⟨more, z⟩ := un.tbls b #[] (headH_tbl aT hb)
    exact ⟨p, _, hp, e, g, hok' b _ z⟩
  refine ⟨rfl, ⟨fun b ob e => ?_, fun b ob e => ?_⟩, os, bare⟩
  · by_cases hb : b ∈ T
    · obtain ⟨p, more, hp, e1, g1, g2⟩ := grown b hb
      rw [g1] at e
      cases e
      subst e1
      exact .inr (.inl ⟨((C p hp).tab (hT p hp)).isCodeTable, rfl, #[], more, rfl, by rw [Array.empty_append]; exact g2⟩)
    · exact .inl (old b ob hb e)
  · by_cases hb : b ∈ T
    · obtain ⟨_, _, _, _, _, g2⟩ := grown b hb
      exact ⟨_, g2⟩
    · exact ⟨ob, old b ob hb e⟩
/-- what is known of the law's promise at the head's heap h -/
def LawAtG (l : PySem.W.OpenLaw) (w : World) (K : PySem.W.Frag) (CX : CXT) (k n : Nat) (x : Str) (mg : Str → Option Value) (fa : Addr) (h : Heap) : Prop :=
  ∃ (fd : FuncData) (cs : List (Addr × Addr)) (sp : Sp), (∀ p ∈ cs, h.get? p.2 = some { cls := .none, data := .fields #[] }) ∧ (∀ p ∈ cs, K.lookup p.2 = none) ∧ (∀ p ∈ cs, PySem.W.CodeHd h p.1 p.2) ∧ (∀ (s : Shared) (u : Value), BindsTo s fd ⟨[u], []⟩ [(x, u)]) ∧
    (∀ (H : Hp) (a : Addr) (ns : List Int), ns.length ≤ n → (∀ z ∈ ns, Builtin.Int.intBits z ≤ 1048576) → (∀ p ∈ cs, H p.2 = some (.tbl #[])) → SqL K H a (ns.map V.int) → sp [.ref a] H (fun v _ => v = .bl true) fun _ _ _ => False) ∧
    ∀ base : Heap, K.In base → base.Ns mainGlobals mg → (∀ p ∈ cs, TabB base mg p.1 p.2) → FnG l.prog w K mg base CX k fa fd [x] sp
theorem walk_ofG {l : PySem.W.OpenLaw} {n k : Nat} {q : Program} {loose : List Str} {XP : (Str → Option Value) → Heap → Prop} {YP : World → Heap → Prop} {d : DefRec} {K : Params → PySem.W.Frag} {CX : World → CXT} {x : Str}
    (hn : l.most = some n) (hn2 : n ≤ sizeLine) (hdf : d.params.defaults = []) (hr : Room k callerA) (hY : ∀ (w : World) (h : Heap), YP w h → (K w.params).In h)
    (F : ∀ (w : World) (mg : Str → Option Value) (fa : Addr) (h : Heap), YP w h → (K w.params).In h → h.Ns mainGlobals mg → mg d.name = some (.ref fa) → (∀ (y : Str) (c P : Addr), ((recsOf q).any fun e => e.name == y) = true → PySem.W.tabIn (K w.params) y = some (c, P) → PySem.W.CodeHd h c P ∧ h.get? P = some (PySem.W.tabObj #[])) → LawAtG l w (K w.params) (CX w) k n x mg fa h)
    (hCX : ∀ (w : World) (H : Hp) (s : Shared) (e : Value) (s' : Shared), CX w [] H s (fun _ _ _ => False) e s' → False) :
    PySem.W.WalkO q loose XP YP l.row.toRowW d [] (fun f vs => PySem.call f vs) := by
  refine Att.attach_callB hn hdf fun w s₀ s₁ mg mb fa o pm cd doc a vs ns G Y ho hd hcd hmg hobj hints hlen hbits hg => ?_
  have KX := hY w _ Y
  obtain ⟨fd, cs, sp, hT, nT, C, hb, hsp, hF⟩ := F w mg fa _ Y KX G.T.g hmg fun y c P hy ht => by
    cases hf : (recsOf q).find? (fun e => e.name == y) with
    | none =>
      obtain ⟨e, he, h1⟩ := List.any_eq_true.mp hy
      exact absurd h1 (by simpa using List.find?_eq_none.mp hf e he)
    | some dL => exact PySem.W.tab_of G.T KX hf ht
  exact law_callG KX G.T.g G.T.b G.T.builtins G.T.nolimit hg hT nT C G.T.bmain hobj hints (Nat.le_trans hlen hn2) hr hF hb (fun H hH hS => hsp H a ns hlen hbits hH hS) fun H e s' => hCX w H s₁ e s'
end WP
/-! ### lambdas as values -/
namespace WP
open PySem PySem.Spec PyProof.Rows L2 Evl SrtO LamX L2H
open SX (S S_len S_cat S_inj S_tl)
/-- a lambda's words: its qualified name, its parameters, its body, its scope -/
structure Lk where
  q : Str
  params : Arguments
  body : Expr
  scope : Scope
/-- the object at f is the lambda L (it holds no cells), its code object at c -/
def LamO (L : Lk) (f c : Addr) : HO := .ext fun h => ∃ pm ctv, h.get? f = some (PySem.W.kla_obj "<lambda>" L.q L.params L.body L.scope [] pm c ctv)
def IsLam (L : Lk) (H : Hp) (f : Addr) : Prop := ∃ c, H f = some (LamO L f c) ∧ H c = some (CodeO c L.q)
/-- what is told of things as they stand (lambdas and their code objects) stays -/
def KeepE (H H' : Hp) : Prop := ∀ b φ, H b = some (.ext φ) → H' b = some (.ext φ)
theorem KeepE.refl (H : Hp) : KeepE H H := fun _ _ h => h
theorem KeepE.trans {H H1 H2 : Hp} (a : KeepE H H1) (b : KeepE H1 H2) : KeepE H H2 := fun c φ h => b c φ (a c φ h)
theorem KeepE.ofN {H H' : Hp} (e : ExtN H H') : KeepE H H' := fun b φ h => e b _ h (by intro ps z; cases z)
theorem KeepE.mut {H : Hp} {a : Addr} {xs : List V} {o : HO} (h : H a = some (.lst xs)) : KeepE H (upd H a o) := fun b φ e => by
  rw [upd_ne (fun z => by rw [z, h] at e; cases e)]
  exact e
theorem IsLam.keep {L : Lk} {H H' : Hp} {f : Addr} (h : IsLam L H f) (k : KeepE H H') : IsLam L H' f := by
  obtain ⟨c, h1, h2⟩ := h
  exact ⟨c, k _ _ h1, k _ _ h2⟩
theorem tabs_grow {T : List (Addr × Str)} {H : Hp} {P c : Addr} {q : Str} {ps : Array Value} {pos : Pos} (hT : Tabs T H) (hP : H P = some (.tbl ps)) (ht : TriplesOk ps.toList) (ha : ∀ (pos : Pos) (cv : Value), codeAmong pos ps.toList = some cv → ∃ c, cv = .ref c ∧ H c = some (CodeO c q)) (hu : ∀ p ∈ T, p.1 = P → p.2 = q) (nC : H c = none) :
    ExtN H (upd (upd H P (.tbl (ps ++ #[rawInt pos.line, rawInt pos.col, .ref c]))) c (CodeO c q)) ∧ Tabs T (upd (upd H P (.tbl (ps ++ #[rawInt pos.line, rawInt pos.col, .ref c]))) c (CodeO c q)) := by
  have hE : ExtN H (upd (upd H P (.tbl (ps ++ #[rawInt pos.line, rawInt pos.col, .ref c]))) c (CodeO c q)) := fun b o e n => by
    have h1 : b ≠ c := ne_of_none e nC
    have h2 : b ≠ P := fun z => by
      rw [z, hP] at e
      exact n ps (Option.some.inj e).symm
    rw [upd_ne h1, upd_ne h2]
    exact e
  have known : ∀ {ps' : Array Value} {q' : Str}, (∀ (pos : Pos) (cv : Value), codeAmong pos ps'.toList = some cv → ∃ c, cv = .ref c ∧ H c = some (CodeO c q')) → ∀ (pos : Pos) (cv : Value), codeAmong pos ps'.toList = some cv → ∃ d, cv = .ref d ∧ upd (upd H P (.tbl (ps ++ #[rawInt pos.line, rawInt pos.col, .ref c]))) c (CodeO c q) d = some (CodeO d q') := fun h p' cv hc => by
    obtain ⟨d, e1, e2⟩ := h p' cv hc
    refine ⟨d, e1, ?_⟩
    have h1 : d ≠ c := ne_of_none e2 nC
    have h2 : d ≠ P := fun z => by
      rw [z, hP] at e2
      exact codeO_ne ps (Option.some.inj e2).symm
    rw [upd_ne h1, upd_ne h2]
    exact e2
  refine ⟨hE, fun p hp => ?_⟩
  by_cases hb : p.1 = P
  · rw [hu p hp hb, hb]
    have eL : (ps ++ #[rawInt pos.line, rawInt pos.col, .ref c]).toList = ps.toList ++ [rawInt pos.line, rawInt pos.col, .ref c] := by simp
    refine ⟨_, (upd_ne (ne_of_none hP nC)).trans upd_same, by rw [eL]; exact PySem.TriplesOk_snoc _ _ _ _ ht, fun p' cv hcv => ?_⟩
    rw [eL] at hcv
    rcases among_app _ ht hcv with z | z
    · obtain ⟨d, e1, e2⟩ := ha p' cv z
      exact ⟨d, e1, hE _ _ e2 codeO_ne⟩
    · exact ⟨c, z, upd_same⟩
  · obtain ⟨ps', a1, a2, a3⟩ := hT p hp
    refine ⟨ps', ?_, a2, fun p' cv hcv => ?_⟩
    · rw [upd_ne (ne_of_none a1 nC), upd_ne hb]
      exact a1
    · obtain ⟨d, e1, e2⟩ := a3 p' cv hcv
      exact ⟨d, e1, hE _ _ e2 codeO_ne⟩
/-- lambda x: body, as a value -/
def tLamV (T : List (Addr × Str)) (L : Lk) : TE := fun σ H Q => Tabs T H ∧ ∀ f H1, NX T H H1 → H f = none → IsLam L H1 f → Q (.ref f) H1
section
variable {X : Cx} {pins : List (Addr × Obj)} {σ : L2.St} {H : Hp} {s : Shared}
theorem lam_laid {L : Lk} {c : Addr} {pm ctv : Value} {t' : Nat} (I : Inv X pins σ H s) : Inv X pins σ (upd H s.heap.objs.size (LamO L s.heap.objs.size c)) { s with heap := s.heap.push (PySem.W.kla_obj "<lambda>" L.q L.params L.body L.scope [] pm c ctv), toks := t' } := by
  refine I.laid (fun b u e => Heap.get?_push_of_some _ e) (Nat.le_refl _) ?_
  have e : (s.heap.push (PySem.W.kla_obj "<lambda>" L.q L.params L.body L.scope [] pm c ctv)).get? s.heap.objs.size = some (PySem.W.kla_obj "<lambda>" L.q L.params L.body L.scope [] pm c ctv) := Heap.get?_push_size _ rfl
  exact ⟨⟨pm, ctv, e⟩, ⟨_, e⟩, fun h1 h2 ⟨p, t, z⟩ st => ⟨p, t, st _ z⟩⟩
theorem pe_lamV {T : List (Addr × Str)} {c P : Addr} {params : Arguments} {body : Expr} {scope : Scope} {pos : Pos} (TB : TabB X.base X.mg c P) (hcode : X.env.code = .ref c) (hm : (P, X.env.qual ++ "<lambda>") ∈ T) (hu : ∀ p ∈ T, p.1 = P → p.2 = X.env.qual ++ "<lambda>")
    (hnf : ∀ y ∈ scope.names, y.2 ≠ .free) (hdef : defaultsOf params X.env = ([], []) := by rfl) (hclo : cloFrom X.env.cells scope.names [] = [] := by rfl) :
    PE X (.Lambda params body scope pos) (tLamV T ⟨X.env.qual ++ "<lambda>", params, body, scope⟩) := by
  refine ⟨fun pins s σ H Q I h => ?_⟩
  obtain ⟨hT, h⟩ := h
  obtain ⟨ps, hP, ht, ha⟩ := hT _ hm
  have hclo2 : closureFor scope X.env = pure [] := hclo ▸ closure_ok fun y hy e => absurd e (hnf y hy)
  have hP2 : s.heap.get? P = some { cls := .none, data := .fields ps } := I.hok P _ hP
  refine PySem.W.kla_eval hdef ?_
  cases hc : codeAmong pos ps.toList with
  | none =>
    refine PySem.W.kla_makeFunction (mg := X.mg) hclo2 I.ok.glob (I.mod.glob.keeps I.bk) hcode (TB.code.keeps I.bk) hP2 ht hc TB.gP (TB.bm.keeps I.bk) fun d ctv h' tk hx hge hlt hrec htb => ?_
    obtain ⟨d2, od, vs, t, e2, hod, hd, hv⟩ := hrec
    cases e2
    have nD : H d = none := I.hok.fresh hge
    obtain ⟨hE, hT1⟩ := tabs_grow (pos := pos) hT hP ht ha hu nD
    have I1 := inv_table (t' := tk) (more := #[rawInt pos.line, rawInt pos.col, .ref d]) I hP hx htb hge ⟨od, vs, t, hod, hd, hv⟩
    have nF := I1.hok.fresh (Nat.le_refl _)
    refine ⟨.ref h'.objs.size, _, lam_laid (L := ⟨X.env.qual ++ "<lambda>", params, body, scope⟩) (c := d) (t' := tk) I1, rfl, h _ _ ⟨hE.trans (ExtN.of fun b o e => (upd_ne (ne_of_none e nF)).trans e), fun _ => hT1.ext fun b o e => (upd_ne (ne_of_none e nF)).trans e⟩ ?_ ⟨d, upd_same, (upd_ne (Nat.ne_of_lt hlt)).trans upd_same⟩⟩
    exact I.hok.fresh (Nat.le_trans hge (Nat.le_of_lt hlt))
  | some cv =>
    obtain ⟨d, e, hco⟩ := ha pos cv hc
    subst e
    refine PySem.W.kla_makeFunctionHit (mg := X.mg) hclo2 I.ok.glob (I.mod.glob.keeps I.bk) hcode (TB.code.keeps I.bk) hP2 ht hc (TB.bm.keeps I.bk) fun ctv h' tk hx hsz => ?_
    have I1 : Inv X pins σ H { s with heap := h', toks := tk } := I.kept hx
    have nF : H h'.objs.size = none := I1.hok.fresh (Nat.le_refl _)
    exact ⟨.ref h'.objs.size, _, lam_laid (L := ⟨X.env.qual ++ "<lambda>", params, body, scope⟩) (c := d) (t' := tk) I1, rfl, h _ _ (NX.of (Ex.new nF)) nF ⟨d, upd_same, (upd_ne (ne_of_none hco nF)).trans hco⟩⟩
end
/-! ### what a lambda promises -/
abbrev SpA := Addr → V → Hp → VK → Prop
structure LamOk (P : Program) (w : World) (K : PySem.W.Frag) (mg : Str → Option Value) (base : Heap) (k : Nat) (sp : SpA) : Prop where
  isl : ∀ f v H Q, sp f v H Q → ∃ L, IsLam L H f
  run : ∀ (A : Around) (outer : List Env) (s : Shared) (H : Hp) (f : Addr) (u : Value) (v : V) (Q : VK), Room k A → Env0 P w K mg base A outer s H → RelV v u → sp f v H Q →
    codeAny (model P w) A (.call (.ref f) ⟨[u], []⟩) (CR (L2N.CX P w) outer P w H s Q (fun _ _ _ => False)) s
/-- .. by its body -/
def spLam (L : Lk) (x : Str) (tb : TE) : SpA := fun f v H Q => IsLam L H f ∧ tb (L2.start [x] [v]) H Q
theorem lamOk_of {P : Program} {w : World} {K : PySem.W.Frag} {mg : Str → Option Value} {base : Heap} {k : Nat} {L : Lk} {x : Str} {tb : TE} (Sc : FnScope [x] [x] L.scope)
    (hb : ∀ (pm cv ctv u : Value), bindArgs (PySem.W.kla_fn "<lambda>" L.q L.params L.body L.scope [] pm cv ctv) ⟨[u], []⟩ = pure [(x, u)])
    (hbody : ∀ (f c : Addr) (A : Around) (outer : List Env) (s : Shared) (H : Hp), Room k (A.deeper (envOfC L.q L.scope s.heap.objs.size f (.ref c))) → PE (cxOf (L2N.CX P w) P w K mg base [x] L.q L.scope f (.ref c) A outer s H (fun _ _ _ => False)) L.body tb) : LamOk P w K mg base (k + 1) (spLam L x tb) := by
  refine ⟨fun f v H Q h => ⟨L, h.1⟩, fun A outer s H f u v Q hr e0 r h => ?_⟩
  obtain ⟨⟨c, hf, hc⟩, hq⟩ := h
  obtain ⟨⟨pm, ctv, of⟩, _, _⟩ := e0.hok f _ hf
  obtain ⟨⟨oc, vs, t, h1, h2, h3⟩, _, _⟩ := e0.hok c _ hc
  have lim : s.heap.NoLimit := e0.mod.nolimit.keeps fun b o e => (e0.bs b o e).1
  refine PySem.W.kla_callFunE hr.depth of rfl Sc.co Sc.gen rfl ⟨c, oc, vs, t, rfl, h1, h2, h3⟩ ?_
  rw [hb]
  refine wpAny_pure (wpAny_newFunctionEnv_cells Sc.kind (fun y hy => ?_) fun env he s1 x1 => ?_)
  · rw [List.mem_singleton.mp hy]
    rcases Sc.par x (by simp) with q | q
    · exact .inl q
    · exact .inr ⟨q, PySem.W.cellsFrom_some _ _ _ (.inl q)⟩
  · subst he
    refine ⟨lim.keeps x1.toInCall.keep, ?_⟩
    have J : Inv (cxOf (L2N.CX P w) P w K mg base [x] L.q L.scope f (.ref c) A outer s H (fun _ _ _ => False)) [] (L2.start [x] [v]) H s1 := inv_start (ps := [x]) (us := [u]) Sc hr.hd e0 rfl (.cons r .nil) x1
    refine PySem.W.kla_codeExpr (wpAny_mono ((hbody f c A outer s H (hr.deeper _)).run [] s1 _ H Q J hq) (fun w' s' hq => ?_) fun e s' hq => hq)
    obtain ⟨v', H', J', rv, q⟩ := hq
    exact ⟨v', H', J'.os, J'.bare, J'.base, J'.hok, rv, q⟩
theorem LamOk.imp {P : Program} {w : World} {K : PySem.W.Frag} {mg : Str → Option Value} {base : Heap} {k : Nat} {sp sp' : SpA} (o : LamOk P w K mg base k sp) (h : ∀ f v H Q, sp' f v H Q → sp f v H Q) : LamOk P w K mg base k sp' :=
  ⟨fun f v H Q q => o.isl f v H Q (h f v H Q q), fun A outer s H f u v Q hr e0 r q => o.run A outer s H f u v Q hr e0 r (h f v H Q q)⟩
theorem LamOk.or {P : Program} {w : World} {K : PySem.W.Frag} {mg : Str → Option Value} {base : Heap} {k : Nat} {sp sp' : SpA} (o : LamOk P w K mg base k sp) (o' : LamOk P w K mg base k sp') : LamOk P w K mg base k (fun f v H Q => sp f v H Q ∨ sp' f v H Q) :=
  ⟨fun f v H Q q => q.elim (o.isl f v H Q) (o'.isl f v H Q), fun A outer s H f u v Q hr e0 r q => q.elim (o.run A outer s H f u v Q hr e0 r) (o'.run A outer s H f u v Q hr e0 r)⟩
theorem LamOk.mono {P : Program} {w : World} {K : PySem.W.Frag} {mg : Str → Option Value} {base : Heap} {j k : Nat} {sp : SpA} (o : LamOk P w K mg base j sp) (h : j ≤ k) : LamOk P w K mg base k sp :=
  ⟨o.isl, fun A outer s H f u v Q hr => o.run A outer s H f u v Q (hr.mono h)⟩
/-- x(e), x a name that holds a lambda -/
def tAskV (i : Nat) (sp : SpA) (te : TE) : TE := fun σ H Q => ∃ f L, σ[i]? = some (some (.ref f)) ∧ IsLam L H f ∧ te σ H fun v H1 => sp f v H1 Q
theorem fnAt_lam {X : Cx} {pins : List (Addr × Obj)} {σ : L2.St} {H : Hp} {s : Shared} {L : Lk} {f : Addr} (I : Inv X pins σ H s) (h : IsLam L H f) : PySem.W.FnAt f s.heap := by
  obtain ⟨c, hf, _⟩ := h
  obtain ⟨⟨pm, ctv, of⟩, _, _⟩ := I.hok f _ hf
  exact ⟨_, _, _, _, of⟩
theorem pe_askV {X : Cx} {k : Nat} {sp : SpA} {i : Nat} {x : Str} {p pos : Pos} {e : Expr} {te : TE} (Lm : LamOk X.prog X.w X.K X.mg X.base k sp) (hr : Room k X.A) (hN : X.N[i]? = some x) (hv : Vis X.env.scope x) (hx : Passes (L2N.CX X.prog X.w) X (fun _ _ _ => False)) (ha : PE X e te)
    (hd : (x == ("__debug__" : Str)) = false := by decide) (hcd : (x == ("__classdict__" : Str)) = false := by decide) (he : starEach (e :: []) X.env = (false, eval e X.env) :: starEach [] X.env := by rfl) (hpl : (backTo pos (starEach [] X.env)).any (·.1) = false := by rfl) :
    PE X (.Call (.Name x p) [e] [] pos) (tAskV i sp te) := by
  refine ⟨fun pins s σ H Q I h => ?_⟩
  obtain ⟨f, L, hs, hl, ht⟩ := h
  refine wpAny_Call_Name_kw (thn ((pe_var (pos := p) (i := i) hN hv hd hcd).run pins s σ H (fun v H1 => v = .ref f ∧ H1 = H) I ⟨.ref f, hs, rfl, rfl⟩) fun u s1 ⟨v, H1, I1, r1, q1⟩ => ?_)
  obtain ⟨ev, eH⟩ := q1
  subst ev eH
  obtain rfl : u = Value.ref f := r1
  have ha2 : PA X [e] (tCons te tNil) := pa_cons ha pa_nil he
  refine PySem.W.callWith_F (first := []) (fnAt_lam I1 hl) (thn (ha2.run pos pins s1 σ H1 (fun vs H2 => match vs with | [v] => sp f v H2 Q | _ => False) I1 ht) fun us s2 ⟨vs, H2, I2, r, q⟩ => ?_) he hpl
  match vs, q, r with
  | [v], q, r =>
    have q : sp f v H2 Q := q
    refine ⟨?_, ?_⟩
    · obtain ⟨L2, hl2⟩ := Lm.isl _ _ _ _ q
      exact fnAt_lam I2 hl2
    · cases r with
      | cons r1 r2 =>
        cases r2
        refine wpAny_call (codeAny_mono (Lm.run X.A X.stack s2 H2 f _ v Q hr I2.env0 r1 q) fun rr s' hq => ?_)
        rcases rr with e | (_ | _ | _ | u)
        · exact hx pins σ H2 s2 e s' I2 hq
        · exact False.elim hq
        · exact False.elim hq
        · exact False.elim hq
        · exact I2.after hq
end WP
namespace WP
open PySem PySem.Spec PyProof.Rows L2 Evl SrtO LamX L2H
open SX (S S_len S_cat S_inj S_tl)
/-! ### str(list) -/
def rStrD (K : PySem.W.Frag) : List V → Hp → VK → Prop := fun xs H Q => ∃ (a : Addr) (d : PyData), xs = [.ref a] ∧ Dp K H (.ref a) d ∧ d.showable = true ∧ d.hasDict = false ∧ d.depth ≤ 64 ∧ d.shown.length ≤ 1000000 ∧ Q (.str d.shown) H
theorem call_strD {X : Cx} {k : Nat} (hg : X.A.guards = some []) (hr : Room k X.A) : CallR X (.type "str") (rStrD X.K) := by
  intro pins s σ H xs us Q I r h
  obtain ⟨a, d, rfl, hd, h1, h2, h3, h4, q⟩ := h
  rw [Vals.ref1 r]
  obtain ⟨as, rd⟩ := Dp.reads I d (.ref a) (.ref a) hd rfl
  exact PySem.str_of_reads rd h1 (PyData.noDict_hsm h2) hg (by have := hr.un; omega) (fun b o e => e) (fun h' u tk hk => ⟨.str d.shown, H, I.kept hk, ⟨u, rfl⟩, q⟩) (Nat.le_trans h4 (by decide))
/-- what is never reached -/
def tNever : TE := fun _ _ _ => False
theorem pe_never {X : Cx} {e : Expr} : PE X e tNever := ⟨fun _ _ _ _ _ _ h => h.elim⟩
/-! ### texts and ints, and lists of them -/
def flatV : V → Bool
  | .str _ => true
  | .int _ => true
  | _ => false
def toD : V → PyData
  | .str x => .str x
  | .int i => .int i
  | _ => .none
theorem dp_flat {K : PySem.W.Frag} {H : Hp} {v : V} (h : flatV v = true) : Dp K H v (toD v) := by
  cases v with
  | str x => exact .str x
  | int i => exact .int i
  | _ => cases h
theorem dps_flat {K : PySem.W.Frag} {H : Hp} : ∀ {xs : List V}, xs.all flatV = true → DpAll K H xs (xs.map toD)
  | [], _ => .nil
  | v :: xs, h => by
    rw [List.all_cons, Bool.and_eq_true] at h
    exact .cons (dp_flat h.1) (dps_flat h.2)
def dL (xs : List V) : PyData := .list (xs.map toD)
/-- what may be shown and compared -/
def okS (xs : List V) : Bool := xs.all flatV && ((dL xs).showable && (!(dL xs).hasDict && (decide ((dL xs).depth ≤ 62) && (decide ((dL xs).shown.length ≤ 1000000) && (decide (xs.length ≤ 1000) && (dL xs).canLay0)))))
structure OkS (xs : List V) : Prop where
  flat : xs.all flatV = true
  sh : (dL xs).showable = true
  nd : (dL xs).hasDict = false
  dp : (dL xs).depth ≤ 62
  ln : (dL xs).shown.length ≤ 1000000
  sz : xs.length ≤ 1000
  cl : (dL xs).canLay0 = true
theorem okS_is {xs : List V} (h : okS xs = true) : OkS xs := by
  unfold okS at h
  simp only [Bool.and_eq_true, Bool.not_eq_true', decide_eq_true_eq] at h
  obtain ⟨h1, h2, h3, h4, h5, h6, h7⟩ := h
  exact ⟨h1, h2, h3, h4, h5, h6, h7⟩
/-! ### all but one thing stays -/
def Of (r : Addr) (H : Hp) (zs : List V) (G : Hp) : Prop := (∀ b o, b ≠ r → H b = some o → G b = some o) ∧ G r = some (.lst zs)
section
variable {T : List (Addr × Str)} {K : PySem.W.Frag} {σ : L2.St} {H H0 H' G : Hp} {a r p : Addr} {xs ys zs : List V}
theorem Of.new {o : HO} (h : Of r H zs G) (hp : G p = none) : Of r H zs (upd G p o) := by
  refine ⟨fun b o' n e => ?_, ?_⟩
  · have := h.1 b o' n e
    rw [upd_ne (ne_of_none this hp)]
    exact this
  · rw [upd_ne (ne_of_none h.2 hp)]
    exact h.2
theorem Of.ex (h : Of r H zs G) (e : Ex G H') : Of r H zs H' := ⟨fun b o n q => e _ _ (h.1 b o n q), e _ _ h.2⟩
theorem Of.mut (h : Of r H zs G) : Of r H ys (upd G r (.lst ys)) := ⟨fun b o n e => by rw [upd_ne n]; exact h.1 b o n e, upd_same⟩
theorem Of.of (e : Ex H G) (h : H r = some (.lst zs)) : Of r H zs G := ⟨fun b o _ q => e _ _ q, e _ _ h⟩
theorem Of.pre (e : Ex H H') (h : Of r H' zs G) : Of r H zs G := ⟨fun b o n q => h.1 b o n (e _ _ q), h.2⟩
theorem Of.nx (n : NN T H0 a H) (h : H a = some (.lst xs)) (o : Of a H ys G) : NX T H0 G := by
  refine ⟨fun b u e q => o.1 b u (n.ne e q) (n.nx.1 b u e q), fun t => ?_⟩
  have t1 := n.nx.2 t
  intro q hq
  obtain ⟨ps, h1, h2, h3⟩ := t1 q hq
  refine ⟨ps, o.1 _ _ (fun z => by rw [z, h] at h1; cases h1) h1, h2, fun pos cv hc => ?_⟩
  obtain ⟨c, e1, e2⟩ := h3 pos cv hc
  exact ⟨c, e1, o.1 _ _ (fun z => by rw [z, h] at e2; cases e2) e2⟩
theorem Of.tabs (h : H a = some (.lst xs)) (o : Of a H ys G) (t : Tabs T H) : Tabs T G := by
  intro q hq
  obtain ⟨ps, h1, h2, h3⟩ := t q hq
  refine ⟨ps, o.1 _ _ (fun z => by rw [z, h] at h1; cases h1) h1, h2, fun pos cv hc => ?_⟩
  obtain ⟨c, e1, e2⟩ := h3 pos cv hc
  exact ⟨c, e1, o.1 _ _ (fun z => by rw [z, h] at e2; cases e2) e2⟩
theorem Of.keep (h : H a = some (.lst xs)) (o : Of a H ys G) : KeepE H G := fun b φ e => o.1 b _ (fun z => by rw [z, h] at e; cases e) e
end
/-! ### promises -/
def flatS (v : V) : Bool := match v with
  | .str x => decide (x.length ≤ 1000)
  | .int _ => true
  | _ => false
/-- _law_two -/
def sp_two : Sp := fun vs H Q _ => ∃ v, vs = [v] ∧ ∀ p G, H p = none → Ex H G → G p = some (.tup [v, v]) → Q (.ref p) G
/-- _law_deep, n turns deep -/
def sp_deep (n : Nat) : Sp := fun vs H Q _ => ∃ v, vs = [v] ∧ ((1 ≤ n ∧ (∃ l : List Nat, v = vS l ∧ l.length ≤ 1000) ∧ ∀ G, Ex H G → Q v G) ∨
  (2 ≤ n ∧ ∃ (a : Addr) (ts : List (List Nat)), v = .ref a ∧ H a = some (.lst (ts.map vS)) ∧ (∀ t ∈ ts, t.length ≤ 1000) ∧ ts.length ≤ 1000 ∧ ∀ p G, H p = none → Ex H G → G p = some (.lst (ts.map vS)) → Q (.ref p) G) ∨
  (3 ≤ n ∧ ∃ (a r : Addr) (ts : List (List Nat)), v = .ref a ∧ H a = some (.lst [.ref r]) ∧ H r = some (.lst (ts.map vS)) ∧ (∀ t ∈ ts, t.length ≤ 1000) ∧ ts.length ≤ 1000 ∧ ∀ p p2 G, H p = none → H p2 = none → p ≠ p2 → Ex H G → G p = some (.lst [.ref p2]) → G p2 = some (.lst (ts.map vS)) → Q (.ref p) G))
def FlatT (v : V) : Prop := (∃ l : List Nat, v = vS l ∧ l.length ≤ 1000) ∨ ∃ i, v = .int i
/-- _law_spoilt, n turns deep -/
def sp_spoilt (n : Nat) : Sp := fun vs H Q _ => ∃ v, vs = [v] ∧ ((1 ≤ n ∧ FlatT v ∧ ∀ G, Ex H G → Q .non G) ∨
  (2 ≤ n ∧ ∃ (a : Addr) (xs : List V), v = .ref a ∧ H a = some (.lst xs) ∧ (∀ x ∈ xs, FlatT x) ∧ xs.length ≤ 1000 ∧ ∀ G ys, Of a H ys G → Q .non G))
/-- _law_put -/
def sp_put : Sp := fun vs H Q _ => ∃ (h m r o : Addr) (xs ys : List (List Nat)), vs = [.ref h, .ref m] ∧ H h = some (.lst [.ref r]) ∧ H r = some (.lst (xs.map vS)) ∧ H m = some (.lst [.ref o]) ∧ H o = some (.lst (ys.map vS)) ∧ r ≠ o ∧ (∀ t ∈ xs, Cps t) ∧ (∀ t ∈ ys, t.length ≤ 1000) ∧ ys.length ≤ 1000 ∧ ∀ G, Of r H (ys.map vS) G → Q .non G
theorem fnOk_never {P : Program} {w : World} {K : PySem.W.Frag} {mg : Str → Option Value} {base : Heap} {CX : CXT} {k : Nat} {f : Addr} {fd : FuncData} {ps : List Str} {sp : Sp} (h : ∀ vs H Q E, ¬ sp vs H Q E) : FnOk P w K mg base CX k f fd ps sp :=
  ⟨fun vs H Q E q => (h vs H Q E q).elim, fun _ _ _ H _ _ vs Q E _ _ _ _ q => (h vs H Q E q).elim⟩
theorem deep_never : ∀ vs H Q E, ¬ sp_deep 0 vs H Q E := fun vs H Q E h => by
  obtain ⟨v, _, h | h | h⟩ := h <;> exact absurd h.1 (by decide)
theorem spoilt_never : ∀ vs H Q E, ¬ sp_spoilt 0 vs H Q E := fun vs H Q E h => by
  obtain ⟨v, _, h | h⟩ := h <;> exact absurd h.1 (by decide)
end WP
namespace WP
open PySem PySem.Spec PyProof.Rows L2 Evl SrtO LamX L2H
open SX (S S_len S_cat S_inj S_tl)
section
variable {T : List (Addr × Str)} {K : PySem.W.Frag} {σ : L2.St} {H H0 H' G : Hp} {ta : TE} {v : V}
/-- isinstance(e, (list, tuple)) -/
theorem kit_no {n c1 c2 : String} (h1 : kitB n c1 = some false) (h2 : kitB n c2 = some false) : PySem.W.kitAny K (.type n) [.type c1, .type c2] = some false := by
  unfold PySem.W.kitAny
  rw [kit_ty h1]
  unfold PySem.W.kitAny
  rw [kit_ty h2]
  rfl
theorem kit_yes {n c1 c2 : String} (h1 : kitB n c1 = some true) : PySem.W.kitAny K (.type n) [.type c1, .type c2] = some true := by
  unfold PySem.W.kitAny
  rw [kit_ty h1]
theorem ev_isiW {n c1 c2 : String} {b : Bool} (h : Ev ta σ H v) (hT : ∀ G, Ex H G → Thing G v n) (hk : PySem.W.kitAny K (.type n) [.type c1, .type c2] = some b) : Ev (tCB (rIsiT K) (tCons ta (tCons (tTup (tCons (tC (.ty c1)) (tCons (tC (.ty c2)) tNil))) tNil))) σ H (.bl b) := fun H1 e Q q =>
  h H1 e _ fun H2 e2 => ⟨by show 2 ≤ sizeLine; decide, fun p hp => ⟨v, p, _, _, _, b, rfl, upd_same, .cons (.ty c1) (.cons (.ty c2) .nil), ((hT H2 (e.trans e2)).ex (Ex.new hp)).ty, hk, q _ (e2.trans (Ex.new hp))⟩⟩
theorem ev_isi2 {n c1 c2 : String} (h : Ev ta σ H v) (hT : ∀ G, Thing G v n) (h1 : kitB n c1 = some false) (h2 : kitB n c2 = some false) : Ev (tCB (rIsiT K) (tCons ta (tCons (tTup (tCons (tC (.ty c1)) (tCons (tC (.ty c2)) tNil))) tNil))) σ H (.bl false) := ev_isiW h (fun G _ => hT G) (kit_no h1 h2)
theorem ev_isi2T {a : Addr} {xs : List V} (h : Ev ta σ H (.ref a)) (ha : H a = some (.lst xs)) : Ev (tCB (rIsiT K) (tCons ta (tCons (tTup (tCons (tC (.ty "list")) (tCons (tC (.ty "tuple")) tNil))) tNil))) σ H (.bl true) := ev_isiW h (fun G e => Thing.lst (e _ _ ha)) (kit_yes (by decide +kernel))
theorem txt_ne {ts : List (List Nat)} {r : Addr} : ts.map vS ≠ [.ref r] := fun h => by
  cases ts with
  | nil => cases h
  | cons t r => cases h
theorem ne_txt {ts : List (List Nat)} {r a b : Addr} (h1 : H a = some (.lst (ts.map vS))) (h2 : H b = some (.lst [.ref r])) : b ≠ a := fun z => by
  rw [z, h1] at h2
  exact txt_ne (HO.lst.inj (Option.some.inj h2))
end
/-! ### a lambda that is asked -/
/-- asked with what Pre tells, f gives a tuple that holds one new list of xs twice -/
def AskG (T : List (Addr × Str)) (sp : SpA) (Pre : V → Hp → Prop) (xs : List V) (f : Addr) (H : Hp) : Prop := (∃ L, IsLam L H f) ∧ ∀ H', KeepE H H' → Tabs T H' → ∀ (v : V) (Q : VK), Pre v H' → (∀ a t H1, NN T H' a H1 → H1 a = some (.lst xs) → H1 t = some (.tup [.ref a, .ref a]) → Q (.ref t) H1) → sp f v H' Q
section
variable {T : List (Addr × Str)} {K : PySem.W.Frag} {σ : L2.St} {H H0 H' G : Hp} {ta te : TE} {v : V} {sp : SpA} {Pre : V → Hp → Prop} {xs ys zs : List V} {f a r p : Addr} {i : Nat} {D : Ends} {tz : TS}
theorem AskG.keep (h : AskG T sp Pre xs f H) (k : KeepE H G) : AskG T sp Pre xs f G := by
  obtain ⟨⟨L, hL⟩, h2⟩ := h
  exact ⟨⟨L, hL.keep k⟩, fun H' k' => h2 H' (k.trans k')⟩
theorem AskG.nx (h : AskG T sp Pre xs f H) (n : NX T H G) : AskG T sp Pre xs f G := h.keep (KeepE.ofN n.1)
/-- e, of which Pre is told, wherever tables have grown -/
def EvPre (T : List (Addr × Str)) (te : TE) (σ : L2.St) (H : Hp) (Pre : V → Hp → Prop) : Prop := ∀ G, NX T H G → ∀ Q : VK, (∀ v G2, NX T G G2 → Pre v G2 → Q v G2) → te σ G Q
/-- x(e)[0] -/
theorem eln_ask (h : EvPre T te σ H Pre) (hs : σ[i]? = some (some (.ref f))) (A : AskG T sp Pre xs f H) (hT : Tabs T H) : EvLN T (tOp (rIxT K) (tAskV i sp te) (tC (.int 0))) σ H xs := fun H1 n Q q => by
  obtain ⟨⟨L, hL⟩, h2⟩ := A
  exact ⟨f, L, hs, hL.keep (KeepE.ofN n.1), h H1 n _ fun v G2 n2 hp => h2 G2 (KeepE.ofN (n.trans n2).1) ((n.trans n2).2 hT) v _ hp fun a t H3 n3 ha ht => ⟨t, _, 0, .ref a, rfl, rfl, st_of ht, rfl, q a H3 (n3.pre n2) ha⟩⟩
/-- a, b = x(e) -/
theorem q_ask2 {j k : Nat} (h : EvPre T te σ H Pre) (hs : σ[i]? = some (some (.ref f))) (A : AskG T sp Pre xs f H) (hT : Tabs T H)
    (c : ∀ a H1, NN T H a H1 → H1 a = some (.lst xs) → tz D ((σ.set j (some (.ref a))).set k (some (.ref a))) H1) : tSeq (tAsg (tAskV i sp te) (gTup K 2 (gCons (gName j) (gCons (gName k) gNil)))) tz D σ H := by
  obtain ⟨⟨L, hL⟩, h2⟩ := A
  exact ⟨f, L, hs, hL, h H (NX.refl H) _ fun v G2 n2 hp => h2 G2 (KeepE.ofN n2.1) (n2.2 hT) v _ hp fun a t H3 n3 ha ht => ⟨t, _, rfl, st_of ht, rfl, _, _, rfl, _, _, rfl, rfl, c a H3 (n3.pre n2) ha⟩⟩
theorem str_run {Q : VK} (ha : H a = some (.lst xs)) (hx : OkS xs) (q : Q (.str (dL xs).shown) H) : rStrD K [.ref a] H Q := ⟨a, dL xs, rfl, .lst (sq_of ha) (dps_flat hx.flat), hx.sh, hx.nd, Nat.le_trans hx.dp (by decide), hx.ln, q⟩
theorem evn_strL (h : EvLN T ta σ H xs) (hx : OkS xs) : EvN T (tCB (rStrD K) (tCons ta tNil)) σ H (.str (dL xs).shown) := fun H1 n Q q => h H1 n _ fun a H2 n2 ha => str_run ha hx (q H2 n2.nx)
theorem ev_strV (h : Ev ta σ H (.ref a)) (ha : H a = some (.lst xs)) (hx : OkS xs) : Ev (tCB (rStrD K) (tCons ta tNil)) σ H (.str (dL xs).shown) := fun H1 e Q q => h H1 e _ fun H2 e2 => str_run ((e.trans e2) _ _ ha) hx (q H2 e2)
theorem evp_var {j : Nat} (hs : σ[j]? = some (some v)) (h : ∀ G, NX T H G → Pre v G) : EvPre T (tVar j) σ H Pre := fun G n Q q => ⟨v, hs, q v G (NX.refl G) (h G n)⟩
end
/-- _law_new_right -/
def sp_newR (T : List (Addr × Str)) (sp : SpA) : Sp := fun vs H Q _ => ∃ (f ws : Addr) (words : List (List Nat)) (g : List Nat → List V), vs = [.ref f, .ref ws] ∧ H ws = some (.lst (words.map vS)) ∧ (∀ l ∈ words, AskG T sp (fun v _ => v = vS l) (g l) f H) ∧ (∀ l ∈ words, okS (g l) = true ∧ ∀ x ∈ g l, FlatT x) ∧ Tabs T H ∧ ∀ H2, NX T H H2 → Q (.bl true) H2
end WP
namespace WP
open PySem PySem.Spec PyProof.Rows L2 Evl SrtO LamX L2H
open SX (S S_len S_cat S_inj S_tl)
/-! ### all but one list stays, tables may grow -/
def OfN (T : List (Addr × Str)) (r : Addr) (H : Hp) (zs : List V) (G : Hp) : Prop := (∀ b o, b ≠ r → H b = some o → (∀ ps, o ≠ .tbl ps) → G b = some o) ∧ (Tabs T H → Tabs T G) ∧ G r = some (.lst zs)
section
variable {T : List (Addr × Str)} {K : PySem.W.Frag} {σ : L2.St} {H H0 H' G G' : Hp} {xs ys zs : List V} {a b r p : Addr} {ts : List (List Nat)}
theorem OfN.nx (n : NN T H0 r H) (o : OfN T r H ys G) : NX T H0 G := ⟨fun b u e q => o.1 b u (n.ne e q) (n.nx.1 b u e q) q, fun t => o.2.1 (n.nx.2 t)⟩
theorem OfN.to (o : OfN T r H zs G) (n : NX T G G') : OfN T r H zs G' := ⟨fun b u h e q => n.1 b u (o.1 b u h e q) q, fun t => n.2 (o.2.1 t), n.lst o.2.2⟩
theorem OfN.put (o : OfN T r H zs G) (h : Of r G ys G') : OfN T r H ys G' := ⟨fun b u hb e q => h.1 b u hb (o.1 b u hb e q), fun t => h.tabs o.2.2 (o.2.1 t), h.2⟩
theorem OfN.of (n : NX T H G) (h : H r = some (.lst zs)) : OfN T r H zs G := ⟨fun b u _ e q => n.1 b u e q, n.2, n.lst h⟩
theorem OfN.lst (o : OfN T r H zs G) (hb : b ≠ r) (h : H b = some (.lst ys)) : G b = some (.lst ys) := o.1 b _ hb h (by intro ps z; cases z)
theorem OfN.tup (o : OfN T r H zs G) (hb : b ≠ r) (h : H b = some (.tup ys)) : G b = some (.tup ys) := o.1 b _ hb h (by intro ps z; cases z)
/-- a list of one list of texts -/
def LL (G : Hp) (h : Addr) (ts : List (List Nat)) : Prop := ∃ r, G h = some (.lst [.ref r]) ∧ G r = some (.lst (ts.map vS))
theorem LL.nx (h : LL H a ts) (n : NX T H G) : LL G a ts := by
  obtain ⟨r, h1, h2⟩ := h
  exact ⟨r, n.lst h1, n.lst h2⟩
theorem rv_neLL (h1 : ∀ G, Ex H G → LL G a ts) (h2 : ∀ G, Ex H G → LL G b ts) (ok : OkS (ts.map vS)) : RV (rNeD K) (.ref a) (.ref b) H (.bl false) := fun H1 e Q q => by
  obtain ⟨r, a1, a2⟩ := h1 H1 e
  obtain ⟨r', b1, b2⟩ := h2 H1 e
  have cl : (PyData.list [dL (ts.map vS)]).canLay0 = true := by
    have := ok.cl
    simp only [PyData.canLay0, PyData.canLayAll0, this, Bool.and_self]
  have dp : (PyData.list [dL (ts.map vS)]).depth ≤ 64 := by
    have := ok.dp
    simp only [PyData.depth, PyData.depthAll]
    omega
  have sh : SeqAt.shaped (PyData.list [dL (ts.map vS)]) = true := by
    unfold SeqAt.shaped
    rw [cl, decide_eq_true dp]
    rfl
  refine ⟨_, _, .lst (sq_of a1) (.cons (.lst (sq_of a2) (dps_flat ok.flat)) .nil), .lst (sq_of b1) (.cons (.lst (sq_of b2) (dps_flat ok.flat)) .nil), sh, sh, ?_⟩
  have e2 : PyData.eqv (PyData.list [dL (ts.map vS)]) (PyData.list [dL (ts.map vS)]) = true := SeqAt.eqv_refl _ cl
  show Q (.bl (!PyData.eqv (PyData.list [dL (ts.map vS)]) (PyData.list [dL (ts.map vS)]))) H1
  rw [e2]
  exact q H1 (Ex.refl _)
end
def PreL (ts : List (List Nat)) : V → Hp → Prop := fun v G => ∃ h, v = .ref h ∧ LL G h ts
/-- what is asked of the two lists of texts -/
structure Ts (ts : List (List Nat)) (xs : List V) : Prop where
  ok : OkS (ts.map vS)
  cps : ∀ t ∈ ts, Cps t
  len : ∀ t ∈ ts, t.length ≤ 1000
  sz : ts.length ≤ 1000
  okx : OkS xs
  fx : ∀ x ∈ xs, FlatT x
/-- _law_door_right -/
def sp_doorR (T : List (Addr × Str)) (sp : SpA) : Sp := fun vs H Q _ => ∃ (f l1 l2 : Addr) (t1 t2 : List (List Nat)) (x1 x2 : List V), vs = [.ref f, .ref l1, .ref l2] ∧ LL H l1 t1 ∧ LL H l2 t2 ∧ Ts t1 x1 ∧ Ts t2 x2 ∧ AskG T sp (PreL t1) x1 f H ∧ AskG T sp (PreL t2) x2 f H ∧ Tabs T H ∧ ∀ H2, NX T H H2 → Q (.bl true) H2
end WP
namespace WP
open PySem PySem.Spec PyProof.Rows L2 Evl SrtO LamX L2H
section
variable {T : List (Addr × Str)} {σ : L2.St} {H : Hp} {ta : TA} {tz : TS} {D : Ends} {x y : V} {i j : Nat}
theorem q_parN (h : EvAN T ta σ H [x, y]) (k : ∀ H1, NX T H H1 → tz D ((σ.set i (some x)).set j (some y)) H1) : tSeq (tPar i j ta) tz D σ H := h H (NX.refl H) _ fun H1 n => ⟨x, y, rfl, k H1 n⟩
end
end WP
namespace WP
open PySem PySem.Spec PyProof.Rows L2 Evl SrtO LamX L2H
open SX (S S_len S_cat S_inj S_tl)
/-! ### the three lambdas of the law -/
def tb1 (C1 C2 : Addr) (T : List (Addr × Str)) : TE := tCall sp_two [] E0 (tCons (tCall (sp_missing C1 C2 T) [] E0 (tCons (tVar 0) (tCons (tC (.str "ab")) tNil))) tNil)
def tb2 (C1 C3 : Addr) : TE := tCall sp_two [] E0 (tCons (tCall (sp_places C1 C3) [] E0 (tCons (tVar 0) (tCons (tC (.str "ab")) tNil))) tNil)
def tb3 (K : PySem.W.Frag) (C2 C4 : Addr) (T : List (Addr × Str)) : TE := tCall sp_two [] E0 (tCons (tLst (tCons (tCall (sp_wordof C2 C4 T) [] E0 (tCons (tC (.str "ab")) (tCons (tOp (rIxL K) (tVar 0) (tC (.int 0))) tNil))) tNil)) tNil)
/-- either of two promises -/
def spOr (s1 s2 : SpA) : SpA := fun f v H Q => s1 f v H Q ∨ s2 f v H Q
section
variable {T : List (Addr × Str)} {K : PySem.W.Frag} {σ : L2.St} {H H0 H' G : Hp} {f : Addr} {L : Lk} {x : Str} {C1 C2 C3 C4 : Addr} {l : List Nat} {sp s2 : SpA} {Pre : V → Hp → Prop} {xs : List V}
theorem AskG.inl (h : AskG T sp Pre xs f H) : AskG T (spOr sp s2) Pre xs f H := ⟨h.1, fun H' k t v Q p c => .inl (h.2 H' k t v Q p c)⟩
theorem AskG.inr (h : AskG T sp Pre xs f H) : AskG T (spOr s2 sp) Pre xs f H := ⟨h.1, fun H' k t v Q p c => .inr (h.2 H' k t v Q p c)⟩
theorem ask1 (hl : IsLam L H f) (hW : Wd l) (hO : okL [97, 98] l = true) : AskG T (spLam L x (tb1 C1 C2 T)) (fun v _ => v = vS l) ((missF l [97, 98]).map vS) f H := by
  refine ⟨⟨L, hl⟩, fun H' kp hT v Q hv c => ⟨hl.keep kp, ?_⟩⟩
  subst hv
  have h : EvLN T (tCall (sp_missing C1 C2 T) [] E0 (tCons (tVar 0) (tCons (tC (.str "ab")) tNil))) (L2.start [x] [vS l]) H' ((missF l [97, 98]).map vS) := eln_call (EvA.toN fun G _ => ea_cons (ev_var rfl) (ea_cons ev_c ea_nil)) (spln_missing hW (by decide +kernel) hO hT)
  exact h H' (NX.refl _) _ fun a H1 n1 ha => ⟨_, rfl, fun t G _ e hG => c a t G (n1.post (NX.of e)) (e _ _ ha) hG⟩
theorem ask2 (hl : IsLam L H f) (hW : Wd l) : AskG T (spLam L x (tb2 C1 C3)) (fun v _ => v = vS l) ((placesF l [97, 98]).map vN) f H := by
  refine ⟨⟨L, hl⟩, fun H' kp hT v Q hv c => ⟨hl.keep kp, ?_⟩⟩
  subst hv
  have h : EvLN T (tCall (sp_places C1 C3) [] E0 (tCons (tVar 0) (tCons (tC (.str "ab")) tNil))) (L2.start [x] [vS l]) H' ((placesF l [97, 98]).map vN) := EvL.toN fun G _ => el_call (ea_cons (ev_var rfl) (ea_cons ev_c ea_nil)) (spl_places hW (isText_is (by decide +kernel)))
  exact h H' (NX.refl _) _ fun a H1 n1 ha => ⟨_, rfl, fun t G _ e hG => c a t G (n1.post (NX.of e)) (e _ _ ha) hG⟩
theorem ask3 {ts : List (List Nat)} (hl : IsLam L H f) (hx : TxL [97, 98] ts) (hw : wordF [97, 98] ts = some l) : AskG T (spLam L x (tb3 K C2 C4 T)) (PreL ts) [vS l] f H := by
  refine ⟨⟨L, hl⟩, fun H' kp hT v Q hv c => ⟨hl.keep kp, ?_⟩⟩
  obtain ⟨h, rfl, r, h1, h2⟩ := hv
  have e : EvN T (tCall (sp_wordof C2 C4 T) [] E0 (tCons (tC (.str "ab")) (tCons (tOp (rIxL K) (tVar 0) (tC (.int 0))) tNil))) (L2.start [x] [.ref h]) H' (vS l) := evn_call (vs := [vS [97, 98], .ref r]) (ean_cons (Ev.toN fun G _ => ev_c) (ean_cons (Ev.toN fun G n => ev_op (ev_var rfl) ev_c (rv_ixL (K := K) (sq_of (n.lst h1)) rfl)) ean_nil)) (spvn_wordof (by decide +kernel) hx h2 hT hw)
  exact e H' (NX.refl _) _ fun H1 n1 => ⟨by show 1 ≤ sizeLine; decide, fun p hp => ⟨_, rfl, fun t G _ e hG => c p t G ⟨H1, n1, hp, NX.of ((Ex.new hp).trans e)⟩ (e _ _ upd_same) hG⟩⟩
end
/-- _law_doors_right -/
def sp_doorsR (T : List (Addr × Str)) (sp : SpA) : Sp := fun vs H Q _ => ∃ (as f l1 l2 : Addr) (t1 t2 : List (List Nat)) (x1 x2 : List V), vs = [.ref as, .ref l1, .ref l2] ∧ H as = some (.lst [.ref f]) ∧ LL H l1 t1 ∧ LL H l2 t2 ∧ Ts t1 x1 ∧ Ts t2 x2 ∧ AskG T sp (PreL t1) x1 f H ∧ AskG T sp (PreL t2) x2 f H ∧ Tabs T H ∧ ∀ H2, NX T H H2 → Q (.bl true) H2
/-! ### the words of the law -/
def abba : List Nat := [97, 98, 98, 97]
def abab : List Nat := [97, 98, 97, 98]
def ws9 : List (List Nat) := [abba, [97, 97, 98], [98, 97, 98, 97, 98], [98]]
theorem ws9_ok : ∀ l ∈ abab :: ws9, isText (vS l) = true ∧ okL [97, 98] l = true ∧ okS ((missF l [97, 98]).map vS) = true ∧ okS ((placesF l [97, 98]).map vN) = true := by decide +kernel
theorem flat_txt {ts : List (List Nat)} (h : ∀ t ∈ ts, t.length ≤ 1000) : ∀ x ∈ ts.map vS, FlatT x := fun x hx => by
  obtain ⟨t, ht, rfl⟩ := List.mem_map.mp hx
  exact .inl ⟨t, rfl, h t ht⟩
theorem flat_num {ns : List Nat} : ∀ x ∈ ns.map vN, FlatT x := fun x hx => by
  obtain ⟨t, ht, rfl⟩ := List.mem_map.mp hx
  exact .inr ⟨_, rfl⟩
theorem ts_of {w : List Nat} (hw : Wd w) (h1 : okS ((missF w [97, 98]).map vS) = true) (h2 : okS [vS w] = true) : Ts (missF w [97, 98]) [vS w] := by
  have hl : Wd [97, 98] := isText_is (by decide +kernel)
  refine ⟨okS_is h1, miss_cps hw hl, fun t ht => Nat.le_trans (miss_txt hw hl t ht) (by decide), ?_, okS_is h2, fun x hx => ?_⟩
  · have := (okS_is h1).sz
    rw [List.length_map] at this
    exact this
  · rw [List.mem_singleton.mp hx]
    have := hw.1
    exact .inl ⟨w, rfl, by omega⟩
theorem ts_abba : Ts (missF abba [97, 98]) [vS abba] := ts_of (isText_is (by decide +kernel)) (by decide +kernel) (by decide +kernel)
theorem ts_abab : Ts (missF abab [97, 98]) [vS abab] := ts_of (isText_is (by decide +kernel)) (by decide +kernel) (by decide +kernel)
theorem wd_abba : wordF [97, 98] (missF abba [97, 98]) = some abba := word_again (isText_is (by decide +kernel)) (by decide) (by decide +kernel)
theorem wd_abab : wordF [97, 98] (missF abab [97, 98]) = some abab := word_again (isText_is (by decide +kernel)) (by decide) (by decide +kernel)
theorem tx_abba : TxL [97, 98] (missF abba [97, 98]) := TxL.lit (by decide +kernel) (by decide +kernel)
theorem tx_abab : TxL [97, 98] (missF abab [97, 98]) := TxL.lit (by decide +kernel) (by decide +kernel)
section
variable {T : List (Addr × Str)} {K : PySem.W.Frag} {σ : L2.St} {H H0 H' G : Hp} {ta : TA} {tb t1 t2 : TE} {tz : TS} {D : Ends} {xs ys vs : List V} {i j : Nat}
theorem q_parLL (h1 : EvLN T t1 σ H xs) (h2 : ∀ G, NX T H G → EvLN T t2 σ G ys) (k : ∀ p q G, NX T H G → G p = some (.lst xs) → G q = some (.lst ys) → tz D ((σ.set i (some (.ref p))).set j (some (.ref q))) G) : tSeq (tPar i j (tCons t1 (tCons t2 tNil))) tz D σ H :=
  h1 H (NX.refl H) _ fun p H1 n1 hp => h2 H1 n1.nx H1 (NX.refl H1) _ fun q H2 n2 hq => ⟨_, _, rfl, k p q H2 (n1.nx.trans n2.nx) (n2.nx.lst hp) hq⟩
/-- (a, b, ..)[e] -/
theorem eq_ixU (ha : EvA ta σ H vs) (hz : vs.length ≤ 100000) (hb : ∀ G, Ex H G → EvQ tb σ G (fun v => ∃ r : Int, v = .int r ∧ 0 ≤ r ∧ r < vs.length)) : EvQ (tOp (rIxT K) (tTup ta) tb) σ H (· ∈ vs) := fun H1 e Q q => ha H1 e _ fun H2 e2 => ⟨sz_of hz, fun p hp => hb _ ((e.trans e2).trans (Ex.new hp)) _ (Ex.refl _) _ fun v H3 hv e3 => by
  obtain ⟨r, rfl, r0, r1⟩ := hv
  obtain ⟨m, rfl⟩ := Int.eq_ofNat_of_zero_le r0
  have hm : m < vs.length := by omega
  exact ⟨p, vs, (m : Int), vs[m], rfl, rfl, st_of (e3 _ _ upd_same), atI_nat (List.getElem?_eq_getElem hm), q _ H3 (List.getElem_mem hm) ((e2.trans (Ex.new hp)).trans e3)⟩⟩
end
/-! ### where the lambdas stand in the law's text -/
def forB : Stmt → List Stmt
  | .For _ _ b _ _ => b
  | _ => []
def noE : Expr := .Name "x" ⟨0, 0, 0, 0⟩
def noS : Stmt := .Pass ⟨0, 0, 0, 0⟩
def asgV : Stmt → Expr
  | .Assign _ v _ => v
  | .Return (some v) _ => v
  | _ => noE
def callA : Expr → List Expr
  | .Call _ l _ _ => l
  | _ => []
def lstE : Expr → List Expr
  | .List l _ => l
  | _ => []
def lkOf (st : Stmt) (q : Str) : Expr → Lk
  | .Lambda p b s _ => ⟨q, p, b, s⟩
  | e => ⟨q, defArgs st, e, defScope st⟩
end WP
namespace WP
open PySem PySem.Spec PyProof.Rows L2 Evl
open SX (S S_len S_cat S_inj S_tl)
def topS (i : Nat) : Stmt := PySem.Challenge.pw_wordpieces_k09_whole_anew.main.body.getD i (.Pass ⟨0, 0, 0, 0⟩)
section
variable {P : Program} {w : World} {K : PySem.W.Frag} {mg : Str → Option Value} {base : Heap}
abbrev s_is_text : Stmt := topS 9
abbrev nm_is_text : List Str := ["thing"]
theorem sc_is_text : FnScope nm_is_text ["thing"] (defScope s_is_text) := ⟨rfl, rfl, rfl, by decide +kernel, rfl, by decide +kernel, by decide +kernel⟩
theorem ok_is_text {f : Addr} {fd : FuncData} (F : Fun K "is_text" "is_text" s_is_text f fd) (B : Bl mg) (g_LETTERS : ∃ u, mg "LETTERS" = some u ∧ RelV (.str (S azs)) u) (g_MOST : ∃ u, mg "MOST" = some u ∧ RelV (.int 100) u) :
    FnOk P w K mg base (L2N.CX P w) 1 f fd ["thing"] (sp_is_text) := by
  obtain ⟨u_LETTERS, g_LETTERS, r_LETTERS⟩ := g_LETTERS
  obtain ⟨u_MOST, g_MOST, r_MOST⟩ := g_MOST
  refine okXN F sc_is_text (fun vs H Q E h => ?_) (fun cdv A outer s H vs Q E hr h => ?_)
  · obtain ⟨v, n, rfl, hT, k⟩ := h
    first | rfl | (rw [List.length_cons, hl]; rfl)
  · obtain ⟨v, n, rfl, hT, k⟩ := h
    refine ⟨_, (pss_one (ps_ret (pe_and (pe_callB call_isi (by rfl) B.isinstance (by decide +kernel) (pa_cons (pv 0) (pa_cons (pe_bltn (v := .ty "str") (by rfl) B.str_ (by decide +kernel) rfl) pa_nil))) (pe_and (pe_cmpR op_le (pe_callB call_len_str (by rfl) B.len PySem.boot_len (pa_cons (pv 0) pa_nil)) (pe_glob rfl g_MOST r_MOST) (nomark _)) (pe_one (pe_cmpR op_eq (pe_bm PySem.F.plainAttrs_str PySem.F.slot_str_strip PySem.F.type_str_strip mt_stripChars (pv 0) (pa_cons (pe_glob rfl g_LETTERS r_LETTERS) pa_nil)) pe_str (nomark _))))))), ?_⟩
    cases hT with
    | str l hl =>
      refine s_ret (v := .bl (isText (.str (S l)))) (ev_is (ev_andV (ev_isi (ev_var rfl) (.str l hl) (b := true) (by decide +kernel)) fun _ =>
        ev_andV (ev_op (ev_lenS (ev_var rfl) hl) ev_c rv_I0) fun _ => ev_op (ev_bm (ev_var rfl) (fun _ _ => rfl) (ea_cons ev_c ea_nil) (z := .str (Txt.stripChars (S l) (S azs))) ?_) ev_c (rv_eq (x := .str (Txt.stripChars (S l) (S azs))) rfl)) ?_) (fun H1 e1 => k.go e1)
      · exact fun H1 _ Q q => ⟨S l, S azs, rfl, rfl, by rw [S_len]; exact Nat.le_trans hl (by decide), q H1 (Ex.refl H1)⟩
      · rw [isText_S]
        congr 1
        rw [Bool.true_and]
        have e : decide (V.str (Txt.stripChars (S l) (S azs)) = V.str "") = l.all (fun c => azs.contains c) := by
          rw [← strip_S, Bool.eq_iff_iff, decide_eq_true_eq, decide_eq_true_eq]
          exact ⟨fun h => V.str.inj h, fun h => congrArg V.str h⟩
        rw [e]
        congr 1
        exact decide_eq_decide.mpr (by omega)
    | non => exact s_ret (ev_andV (b := false) (ev_isi (ev_var rfl) .non (b := false) (by decide +kernel)) fun h => nomatch h) (fun H1 e1 => k.go e1)
    | bl b => exact s_ret (ev_andV (b := false) (ev_isi (ev_var rfl) (.bl b) (b := false) (by decide +kernel)) fun h => nomatch h) (fun H1 e1 => k.go e1)
    | int i => exact s_ret (ev_andV (b := false) (ev_isi (ev_var rfl) (.int i) (b := false) (by decide +kernel)) fun h => nomatch h) (fun H1 e1 => k.go e1)
    | lst q => exact s_ret (ev_andV (b := false) (ev_isi (ev_var rfl) (.lst q) (b := false) (by decide +kernel)) fun h => nomatch h) (fun H1 e1 => k.go e1)
    | tup q => exact s_ret (ev_andV (b := false) (ev_isi (ev_var rfl) (.tup q) (b := false) (by decide +kernel)) fun h => nomatch h) (fun H1 e1 => k.go e1)
    | dK q => exact s_ret (ev_andV (b := false) (ev_isi (ev_var rfl) (.dK q) (b := false) (by decide +kernel)) fun h => nomatch h) (fun H1 e1 => k.go e1)

abbrev s_places_of : Stmt := topS 14
abbrev nm_places_of : List Str := ["word", "text", "many", "place"]
theorem sc_places_of : FnScope nm_places_of ["word", "text"] (defScope s_places_of) := ⟨rfl, rfl, rfl, by decide +kernel, rfl, by decide +kernel, by decide +kernel⟩
theorem ok_places_of {f : Addr} {fd : FuncData} (F : Fun K "places_of" "places_of" s_places_of f fd) (B : Bl mg) :
    FnOk P w K mg base (L2N.CX P w) 1 f fd ["word", "text"] (sp_places_of) := by
  refine okXN F sc_places_of (fun vs H Q E h => ?_) (fun cdv A outer s H vs Q E hr h => ?_)
  · obtain ⟨W, T, rfl, hW, hT, k⟩ := h
    first | rfl | (rw [List.length_cons, hl]; rfl)
  · obtain ⟨W, T, rfl, hW, hT, k⟩ := h
    refine ⟨_, (pss_cons (ps_set (i := 2) sc_places_of.nd rfl (.inl rfl) (pe_op op_add (pe_op op_sub (pe_callB call_len_str (by rfl) B.len PySem.boot_len (pa_cons (pv 0) pa_nil)) (pe_callB call_len_str (by rfl) B.len PySem.boot_len (pa_cons (pv 1) pa_nil))) pe_int))
      (pss_one (ps_ret (pe_lc (own := [("place", 3)]) (g := (gName 3)) rfl sc_places_of.nd (pi_range1 rfl B.range (pa_cons (pv 2) pa_nil)) (blkOk_by (N := nm_places_of) (sc := defScope s_places_of) (by decide +kernel)) (fun _ _ _ _ _ => by exact (pg_name (i := 3) sc_places_of.nd rfl (.inl rfl))) (fun _ _ _ _ _ => by exact (pts_one (pt_cmpR op_eq (pe_slice sl_str (pv 0) (po_some (pv 3)) (po_some (pe_op op_add (pv 3) (pe_callB call_len_str (by rfl) B.len PySem.boot_len (pa_cons (pv 1) pa_nil))))) (pv 1) (nomark _)))) (fun _ _ _ _ _ => by exact (pv 3)))))), ?_⟩
    refine q_asg (ev_op (ev_op (ev_lenS (ev_var rfl) (by omega)) (ev_lenS (ev_var rfl) (by omega)) rv_I0) ev_c rv_I0) fun H1 e1 => ?_
    refine s_retL (el_lcR (fun i => decide (cut W (some (i : Int)) (some ((i : Int) + (T.length : Int))) = T)) vN (ea_cons (ev_var rfl) ea_nil) ⟨by omega, by omega⟩ (fun x => rfl)
      (fun i H2 e2 hi => et_test (ev_op (ev_slS (ev_var rfl) (eo_some (ev_var rfl)) (eo_some (ev_op (ev_var rfl) (ev_lenS (ev_var rfl) (by omega)) rv_I0)) (by omega)) (ev_var rfl) rv_eqS))
      (fun i H2 e2 hi _ => ev_var rfl)) fun p H2 hp e2 h2 => k.go e1 hp e2 ?_
    rw [h2]
    unfold given placesF
    congr 4
    · funext i
      rw [show ((i : Int) + (T.length : Int)) = ((i + T.length : Nat) : Int) by omega, cut_mid, Nat.add_sub_cancel_left]
    · congr 1
      omega

abbrev s_around : Stmt := topS 17
abbrev nm_around : List Str := ["word", "found", "begin", "end", "ahead", "behind", "pairs"]
theorem sc_around : FnScope nm_around ["word"] (defScope s_around) := ⟨rfl, rfl, rfl, by decide +kernel, rfl, by decide +kernel, by decide +kernel⟩
theorem ok_around {f : Addr} {fd : FuncData} (F : Fun K "around" "around" s_around f fd) (B : Bl mg) :
    FnOk P w K mg base (L2N.CX P w) 1 f fd ["word"] (sp_around) := by
  refine okXN F sc_around (fun vs H Q E h => ?_) (fun cdv A outer s H vs Q E hr h => ?_)
  · obtain ⟨W, rfl, hW, k⟩ := h
    first | rfl | (rw [List.length_cons, hl]; rfl)
  · obtain ⟨W, rfl, hW, k⟩ := h
    refine ⟨_, (pss_cons (ps_set (i := 1) sc_around.nd rfl (.inl rfl) pe_dnewK)
      (pss_cons (ps_for (passes_of rfl) rfl (pi_range1 rfl B.range (pa_cons (pe_op op_add (pe_callB call_len_str (by rfl) B.len PySem.boot_len (pa_cons (pv 0) pa_nil)) pe_int) pa_nil)) (pg_name (i := 2) sc_around.nd rfl (.inl rfl))
      (pss_one (ps_for (passes_of rfl) rfl (pi_range2 rfl B.range (pa_cons (pv 2) (pa_cons (pe_op op_add (pe_callB call_len_str (by rfl) B.len PySem.boot_len (pa_cons (pv 0) pa_nil)) pe_int) pa_nil))) (pg_name (i := 3) sc_around.nd rfl (.inl rfl))
      (pss_cons (ps_set (i := 4) sc_around.nd rfl (.inl rfl) (pe_ifExp (pt_cmpR op_gt (pv 2) pe_int (nomark _)) (pe_ix ix_str (pv 0) (pe_op op_sub (pv 2) pe_int) (fun _ _ => rfl)) pe_str))
      (pss_cons (ps_set (i := 5) sc_around.nd rfl (.inl rfl) (pe_ifExp (pt_cmpR op_lt (pv 3) (pe_callB call_len_str (by rfl) B.len PySem.boot_len (pa_cons (pv 0) pa_nil)) (nomark _)) (pe_ix ix_str (pv 0) (pv 3) (fun _ _ => rfl)) pe_str))
      (pss_cons (ps_set (i := 6) sc_around.nd rfl (.inl rfl) (pe_dsetd (pv 1) (pe_slice sl_str (pv 0) (po_some (pv 2)) (po_some (pv 3))) pe_dnewT ⟨rfl, rfl, rfl, rfl⟩))
      (pss_one (ps_dput (hu_of hr) (pv 6) (pe_tup (pa_cons (pv 4) (pa_cons (pv 5) pa_nil))) pe_bl rfl))))))))
      (pss_one (ps_ret (pv 1))))), ?_⟩
    refine q_asgDK fun pf H1 hpf e1 h1 => ?_
    refine q_forR1 (j := 2) (n := (W.length : Int) + 1) (ea_cons (ev_op (ev_lenS (l := W) (ev_var rfl) (by omega)) ev_c rv_I0) ea_nil) (by omega) (fun i σ' H' => ∃ es y2 y3 y4 y5 y6, σ' = [some (vS W), some (.ref pf), y2, y3, y4, y5, y6] ∧ H' pf = some (.dK (keysE es)) ∧ InOk es H' ∧ (∀ e ∈ es, H e.2.1 = none ∧ e.2.1 ≠ pf ∧ e.2.2.length ≤ i * 101) ∧ es.length ≤ i * 101 ∧ AR (fun x p => ∃ b e, b < i ∧ b ≤ e ∧ e ≤ W.length ∧ x = (W.drop b).take (e - b) ∧ p = (ahF W b, beF W e)) es ∧ Ex H H')
      (fun H2 e2 => ⟨[], none, none, none, none, none, rfl, e2 _ _ h1, fun e he => (by cases he), fun e he => (by cases he), by simp, AR.nil.congr fun x p => ⟨fun h => h.elim, fun ⟨b, _, h, _⟩ => absurd h (Nat.not_lt_zero _)⟩, e1.trans e2⟩) ?_ ?_
    · rintro i _ H2 hi ⟨es, y2, y3, y4, y5, y6, rfl, h2, hin, hes, hlen, har, x2⟩
      refine s_forR2 (j := 3) (lo := (i : Int)) (n := (W.length : Int) + 1) (ea_cons (ev_var rfl) (ea_cons (ev_op (ev_lenS (l := W) (ev_var rfl) (by omega)) ev_c rv_I0) ea_nil)) (by omega) (fun m σ' H' => ∃ es y3 y4 y5 y6, σ' = [some (vS W), some (.ref pf), some (.int (i : Int)), y3, y4, y5, y6] ∧ H' pf = some (.dK (keysE es)) ∧ InOk es H' ∧ (∀ e ∈ es, H e.2.1 = none ∧ e.2.1 ≠ pf ∧ e.2.2.length ≤ i * 101 + m) ∧ es.length ≤ i * 101 + m ∧ AR (fun x p => (∃ b e, b < i ∧ b ≤ e ∧ e ≤ W.length ∧ x = (W.drop b).take (e - b) ∧ p = (ahF W b, beF W e)) ∨ ∃ e, i ≤ e ∧ e < i + m ∧ x = (W.drop i).take (e - i) ∧ p = (ahF W i, beF W e)) es ∧ Ex H H')
        (fun H3 e3 => ⟨es, y3, y4, y5, y6, rfl, e3 _ _ h2, fun e he => e3 _ _ (hin e he), fun e he => ⟨(hes e he).1, (hes e he).2.1, by have := (hes e he).2.2; omega⟩, by omega, har.congr fun x p => ⟨.inl, fun h => h.elim id fun ⟨e, h1, h2, _⟩ => absurd h2 (by omega)⟩, x2.trans e3⟩) ?_ ?_
      · clear har hlen hes hin h2 x2 es y3 y4 y5 y6
        rintro m _ H3 hm' ⟨es, y3, y4, y5, y6, rfl, h3, hin, hes, hlen, har, x3⟩
        have hiW : i ≤ W.length := by omega
        have hmW : i + m ≤ W.length := by omega
        have hb101 : i * 101 + m < 20000 := by omega
        -- ahead, behind
        refine q_asg (v := vS (ahF W i)) (ev_if (b := decide ((i : Int) > 0)) (et_test (ev_op (ev_var rfl) ev_c rv_I0)) (fun hb => ?_) (fun hb => ?_)) fun H4 e4 => ?_
        · have h0 : 0 < i := by have := of_decide_eq_true hb; omega
          obtain ⟨c, hc⟩ : ∃ c, W[i - 1]? = some c := ⟨_, List.getElem?_eq_getElem (by omega)⟩
          refine ev_is (ev_op (ev_var rfl) (ev_op (ev_var rfl) ev_c rv_I0) (rv_ixS' (c := c) (by omega) ?_)) ?_
          · rw [show (i : Int) - 1 = ((i - 1 : Nat) : Int) by omega]
            exact atI_nat hc
          · unfold ahF
            rw [if_neg (by omega), take1 hc]
        · have h0 : i = 0 := by have := of_decide_eq_false hb; omega
          refine ev_is ev_c ?_
          unfold ahF
          rw [if_pos h0]
          rfl
        refine q_asg (v := vS (beF W (i + m))) (ev_if (b := decide ((i : Int) + (m : Int) < (W.length : Int))) (et_test (ev_op (ev_var rfl) (ev_lenS (l := W) (ev_var rfl) (by omega)) rv_I0)) (fun hb => ?_) (fun hb => ?_)) fun H5 e5 => ?_
        · have h0 : i + m < W.length := by have := of_decide_eq_true hb; omega
          obtain ⟨c, hc⟩ : ∃ c, W[i + m]? = some c := ⟨_, List.getElem?_eq_getElem h0⟩
          refine ev_is (ev_op (ev_var rfl) (ev_var rfl) (rv_ixS' (c := c) (by omega) ?_)) ?_
          · rw [show (i : Int) + (m : Int) = ((i + m : Nat) : Int) by omega]
            exact atI_nat hc
          · unfold beF
            rw [take1 hc]
        · have h0 : ¬ i + m < W.length := by have := of_decide_eq_false hb; omega
          refine ev_is ev_c ?_
          unfold beF
          rw [List.drop_of_length_le (by omega)]
          rfl
        have x5 : Ex H H5 := (x3.trans e4).trans e5
        have h5 : H5 pf = some (.dK (keysE es)) := (e4.trans e5) _ _ h3
        have hin5 : InOk es H5 := fun e he => (e4.trans e5) _ _ (hin e he)
        have hocc : ∀ x p, ((((∃ b e, b < i ∧ b ≤ e ∧ e ≤ W.length ∧ x = (W.drop b).take (e - b) ∧ p = (ahF W b, beF W e)) ∨ ∃ e, i ≤ e ∧ e < i + m ∧ x = (W.drop i).take (e - i) ∧ p = (ahF W i, beF W e)) ∨ (x = (W.drop i).take m ∧ p = (ahF W i, beF W (i + m)))) ↔ ((∃ b e, b < i ∧ b ≤ e ∧ e ≤ W.length ∧ x = (W.drop b).take (e - b) ∧ p = (ahF W b, beF W e)) ∨ ∃ e, i ≤ e ∧ e < i + (m + 1) ∧ x = (W.drop i).take (e - i) ∧ p = (ahF W i, beF W e))) := fun x p => by
          constructor
          · rintro ((h | ⟨e, a1, a2, a3⟩) | ⟨h1, h2⟩)
            · exact .inl h
            · exact .inr ⟨e, a1, by omega, a3⟩
            · exact .inr ⟨i + m, by omega, by omega, by rw [Nat.add_sub_cancel_left]; exact h1, h2⟩
          · rintro (h | ⟨e, a1, a2, a3, a4⟩)
            · exact .inl (.inl h)
            · by_cases c : e < i + m
              · exact .inl (.inr ⟨e, a1, c, a3, a4⟩)
              · have : e = i + m := by omega
                subst this
                rw [Nat.add_sub_cancel_left] at a3
                exact .inr ⟨a3, a4⟩
        refine q_setd (kvs := keysE es) (x := (W.drop i).take m) h5 (ev_var rfl) (ev_is (ev_slS (l := W) (ev_var rfl) (eo_some (ev_var rfl)) (eo_some (ev_var rfl)) (by omega)) (by rw [show (i : Int) + (m : Int) = ((i + m : Nat) : Int) by omega, cut_mid, Nat.add_sub_cancel_left])) (by rw [keysE_len]; omega) (fun v p H6 hv e6 hp => ?_) (fun p H6 hn e6 hp => ?_)
        · obtain ⟨e, he, hek, rfl⟩ := valE_some hv
          have hed := hes e he
          have x6 : Ex H5 (upd H6 p (.dT [])) := e6.trans (Ex.new hp)
          refine s_putT (ps := e.2.2) (x6 _ _ (hin5 e he)) (ev_var rfl) (ev_var rfl) (ev_var rfl) (by omega) fun q H7 e7 hq => ?_
          have x7 : Ex H5 (upd H7 q (.tup [vS (ahF W i), vS (beF W (i + m))])) := (x6.trans e7).trans (Ex.new hq)
          have hne : ∀ e' ∈ es, e'.1 ≠ e.1 → e'.2.1 ≠ e.2.1 := fun e' he' hk hq => hk (by
            have := List.pairwise_iff_getElem.mp har.an
            obtain ⟨a, ha, ea⟩ := List.getElem_of_mem he'
            obtain ⟨b, hb, eb⟩ := List.getElem_of_mem he
            rcases Nat.lt_trichotomy a b with z | z | z
            · exact absurd (by rw [List.getElem_map, List.getElem_map, ea, eb]; exact hq) (this a b (by rw [List.length_map]; exact ha) (by rw [List.length_map]; exact hb) z)
            · subst z
              rw [← ea, ← eb]
            · exact absurd (by rw [List.getElem_map, List.getElem_map, ea, eb]; exact hq.symm) (this b a (by rw [List.length_map]; exact hb) (by rw [List.length_map]; exact ha) z))
          refine ⟨modA es ((W.drop i).take m) (ahF W i, beF W (i + m)), _, _, _, _, rfl, ?_, fun e' he' => ?_, fun e' he' => ?_, ?_, (har.mod (List.mem_map.mpr ⟨e, he, hek⟩)).congr hocc, Ex.mut (x5.trans x7) hed.1⟩
          · rw [upd_ne (Ne.symm hed.2.1), modA_kv]
            exact x7 _ _ h5
          · obtain ⟨e0, he0, rfl⟩ := List.mem_map.mp he'
            by_cases c : e0.1 = (W.drop i).take m
            · rw [if_pos c]
              have : e0 = e := by
                have kn := har.kn
                have := List.pairwise_iff_getElem.mp kn
                obtain ⟨a, ha, ea⟩ := List.getElem_of_mem he0
                obtain ⟨b, hb, eb⟩ := List.getElem_of_mem he
                rcases Nat.lt_trichotomy a b with z | z | z
                · exact absurd (by rw [List.getElem_map, List.getElem_map, ea, eb, c, hek]) (this a b (by rw [List.length_map]; exact ha) (by rw [List.length_map]; exact hb) z)
                · subst z
                  rw [← ea, ← eb]
                · exact absurd (by rw [List.getElem_map, List.getElem_map, ea, eb, c, hek]) (this b a (by rw [List.length_map]; exact hb) (by rw [List.length_map]; exact ha) z)
              subst this
              exact upd_same
            · rw [if_neg c, upd_ne (hne e0 he0 (by rw [hek]; exact c))]
              exact x7 _ _ (hin5 e0 he0)
          · obtain ⟨e0, he0, rfl⟩ := List.mem_map.mp he'
            have h0 := hes e0 he0
            by_cases c : e0.1 = (W.drop i).take m
            · rw [if_pos c]
              exact ⟨h0.1, h0.2.1, Nat.le_trans (addP_len _ _) (by omega)⟩
            · rw [if_neg c]
              exact ⟨h0.1, h0.2.1, by omega⟩
          · unfold modA
            rw [List.length_map]
            omega
        · have hx : (W.drop i).take m ∉ es.map (·.1) := fun z => by
            have hk := keys_any (keysE_keys es) ((W.drop i).take m)
            rw [valV_any, hn, decide_eq_true z] at hk
            cases hk
          have hpp : p ≠ pf := fun z => by
            rw [z, e6 _ _ h5] at hp
            cases hp
          have hpe : p ∉ es.map (·.2.1) := fun z => by
            obtain ⟨e, he, q⟩ := List.mem_map.mp z
            have := e6 _ _ (hin5 e he)
            rw [q, hp] at this
            cases this
          have hp0 : H p = none := fresh_back (x5.trans e6) hp
          refine s_putT (ps := []) (by rw [upd_ne hpp, upd_same]; rfl) (ev_var rfl) (ev_var rfl) (ev_var rfl) (by simp) fun q H7 e7 hq => ?_
          have x6 : Ex H5 (upd H6 p (.dT [])) := e6.trans (Ex.new hp)
          have hin7 : ∀ e ∈ es, H7 e.2.1 = some (.dT (pkE e.2.2)) := fun e he => e7 _ _ (by
            rw [upd_ne (hes e he).2.1]
            exact x6 _ _ (hin5 e he))
          have hp7 : H7 p = some (.dT []) := e7 _ _ (by rw [upd_ne hpp, upd_same])
          refine ⟨es ++ [((W.drop i).take m, p, [(ahF W i, beF W (i + m))])], _, _, _, _, rfl, ?_, fun e he => ?_, fun e he => ?_, by rw [List.length_append, List.length_singleton]; omega, (har.new hx hpe).congr hocc, ?_⟩
          · rw [upd_ne (Ne.symm hpp), upd_ne (fun z => by have := e7 _ _ (upd_same (H := upd H6 p (.dT [])) (a := pf) (o := .dK (putK (keysE es) (Sum.inr (S ((W.drop i).take m))) (.ref p)))); rw [z, hq] at this; cases this), ← putE_new hn]
            exact e7 _ _ upd_same
          · rcases List.mem_append.mp he with he | he
            · rw [upd_ne (fun z => hpe (List.mem_map.mpr ⟨e, he, z⟩)), upd_ne (ne_of_none (hin7 e he) hq)]
              exact hin7 e he
            · rw [List.mem_singleton] at he
              subst he
              exact upd_same
          · rcases List.mem_append.mp he with he | he
            · have := hes e he
              exact ⟨this.1, this.2.1, by omega⟩
            · rw [List.mem_singleton] at he
              subst he
              exact ⟨hp0, hpp, by rw [List.length_singleton]; omega⟩
          · have e6' : Ex H (upd (upd H6 p (.dT [])) pf (.dK (putK (keysE es) (Sum.inr (S ((W.drop i).take m))) (.ref p)))) := Ex.mut ((x5.trans e6).trans (Ex.new hp)) hpf
            exact Ex.mut ((e6'.trans e7).trans (Ex.new hq)) hp0
      · rintro _ H3 ⟨es, y3, y4, y5, y6, rfl, h3, hin, hes, hlen, har, x3⟩
        have ht : ((W.length : Int) + 1 - (i : Int)).toNat = W.length + 1 - i := by omega
        rw [ht] at hlen hes har
        refine ⟨es, _, y3, y4, y5, y6, rfl, h3, hin, fun e he => ⟨(hes e he).1, (hes e he).2.1, by have := (hes e he).2.2; omega⟩, by omega, har.congr fun x p => ?_, x3⟩
        constructor
        · rintro (⟨b, e, a1, a2, a3, a4⟩ | ⟨e, a1, a2, a3⟩)
          · exact ⟨b, e, by omega, a2, a3, a4⟩
          · exact ⟨i, e, by omega, a1, by omega, a3⟩
        · rintro ⟨b, e, a1, a2, a3, a4⟩
          by_cases c : b < i
          · exact .inl ⟨b, e, c, a2, a3, a4⟩
          · obtain rfl : b = i := by omega
            exact .inr ⟨e, a2, by omega, a4⟩
    · rintro _ H2 ⟨es, y2, y3, y4, y5, y6, rfl, h2, hin, hes, hlen, har, x2⟩
      have ht : ((W.length : Int) + 1).toNat = W.length + 1 := by omega
      rw [ht] at hlen hes har
      refine s_ret (ev_var rfl) fun H3 e3 => k es pf H3 hpf (fun e he => ⟨(hes e he).1, (hes e he).2.1, by have := (hes e he).2.2; omega⟩) (by omega) (x2.trans e3) (e3 _ _ h2) (fun e he => e3 _ _ (hin e he)) (har.congr fun x p => ⟨fun ⟨b, e, _, a2, a3, a4⟩ => ⟨b, e, a2, a3, a4⟩, fun ⟨b, e, a2, a3, a4⟩ => ⟨b, e, by omega, a2, a3, a4⟩⟩)

abbrev s_longer_ones : Stmt := topS 21
abbrev nm_longer_ones : List Str := ["letters", "shorter", "known", "texts", "found", "text", "letter", "longer"]
theorem sc_longer_ones : FnScope nm_longer_ones ["letters", "shorter", "known", "texts"] (defScope s_longer_ones) := ⟨rfl, rfl, rfl, by decide +kernel, rfl, by decide +kernel, by decide +kernel⟩
theorem ok_longer_ones {f : Addr} {fd : FuncData} (F : Fun K "longer_ones" "longer_ones" s_longer_ones f fd) (B : Bl mg) :
    FnOk P w K mg base (L2N.CX P w) 1 f fd ["letters", "shorter", "known", "texts"] (sp_longer) := by
  refine okXN F sc_longer_ones (fun vs H Q E h => ?_) (fun cdv A outer s H vs Q E hr h => ?_)
  · obtain ⟨l, ps, pk, pt, sh, kn, tx, kk, kt, rfl, hl, hlz, hs, hsz, hsl, hps, hpk, hkk, hpt, hkt, k⟩ := h
    first | rfl | (rw [List.length_cons, hl]; rfl)
  · obtain ⟨l, ps, pk, pt, sh, kn, tx, kk, kt, rfl, hl, hlz, hs, hsz, hsl, hps, hpk, hkk, hpt, hkt, k⟩ := h
    refine ⟨_, (pss_cons (ps_set (i := 4) sc_longer_ones.nd rfl (.inl rfl) pe_dnewK)
      (pss_cons (ps_for (passes_of rfl) rfl (pi_list (pv 1)) (pg_name (i := 5) sc_longer_ones.nd rfl (.inl rfl))
      (pss_one (ps_for (passes_of rfl) rfl (pi_str (pv 0)) (pg_name (i := 6) sc_longer_ones.nd rfl (.inl rfl))
      (pss_cons (ps_set (i := 7) sc_longer_ones.nd rfl (.inl rfl) (pe_op op_add_str (pv 5) (pv 6)))
      (pss_one (ps_if (PW.pt (pw_and (pt_cmp (pc_dnotin (hu_of hr) (pv 7) (pv 3))) (pw_and1 (pt_cmp (pc_din (hu_of hr) (pe_slice sl_str (pv 7) (po_some pe_int) po_none) (pv 2)))))) (pss_one (ps_dput (hu_of hr) (pv 4) (pv 7) pe_bl rfl)) pss_nil))))))
      (pss_one (ps_ret (pv 4))))), ?_⟩
    refine q_asgDK fun pf H1 hpf e1 h1 => ?_
    have row : ∀ t c, (!tx.contains (t ++ [c]) && kn.contains ((t ++ [c]).tail)) = (!decide ((t ++ [c]) ∈ tx) && decide ((t ++ [c]).tail ∈ kn)) := fun t c => by
      simp [List.contains_iff_mem]
    have lf : ∀ (m : Nat), longF l (sh.take m) kn tx <+: longF l sh kn tx := fun m => by
      have e : longF l sh kn tx = longF l (sh.take m) kn tx ++ longF l (sh.drop m) kn tx := by
        unfold longF
        rw [← List.flatMap_append, List.take_append_drop]
      rw [e]
      exact List.prefix_append _ _
    refine q_forLn (K := K) (j := 5) (a := ps) (xs := sh.map vS) (ev_var rfl) (sq_of (e1 _ _ hps)) (fun m σ' H' => ∃ kvs y5 y6 y7, σ' = [some (vS l), some (.ref ps), some (.ref pk), some (.ref pt), some (.ref pf), y5, y6, y7] ∧ H' pf = some (.dK kvs) ∧ keysAre kvs (longF l (sh.take m) kn tx) ∧ Ex H H')
      (fun H2 e2 => ⟨[], none, none, none, rfl, e2 _ _ h1, rfl, e1.trans e2⟩) (fun m σ' H' _ hP => ?_) (fun m x σ' H' hx hP => ?_) (fun σ' H' hP => ?_)
    · obtain ⟨_, _, _, _, _, _, _, x2⟩ := hP
      exact sq_of (x2 _ _ hps)
    · obtain ⟨kvs, y5, y6, y7, rfl, h2, hk2, x2⟩ := hP
      rw [List.getElem?_map] at hx
      obtain ⟨t, ht, rfl⟩ : ∃ t, sh[m]? = some t ∧ x = vS t := by
        cases q : sh[m]? with
        | none => rw [q] at hx; cases hx
        | some y => rw [q] at hx; exact ⟨y, rfl, (Option.some.inj hx).symm⟩
      have htm := List.mem_of_getElem? ht
      have htl := hsl t htm
      have tk1 : sh.take (m + 1) = sh.take m ++ [t] := by rw [List.take_add_one, ht]; rfl
      have part : ∀ n, longF l (sh.take m) kn tx ++ ((l.take n).filter fun c => !tx.contains (t ++ [c]) && kn.contains ((t ++ [c]).tail)).map (fun c => t ++ [c]) <+: longF l (sh.take (m + 1)) kn tx := fun n => by
        rw [tk1]
        unfold longF
        rw [List.flatMap_append, List.flatMap_singleton]
        refine (List.prefix_append_right_inj _).mpr ?_
        conv => rhs; rw [← List.take_append_drop n l, List.filter_append, List.map_append]
        exact List.prefix_append _ _
      have hnd : (longF l sh kn tx).Nodup := longF_nd hl hs
      have hbig : (longF l sh kn tx).length ≤ 10100 := Nat.le_trans longF_len (Nat.mul_le_mul hsz hlz)
      refine s_forS (l := l) (j := 6) (ev_var rfl) (fun n σ' H' => ∃ kvs y6 y7, σ' = [some (vS l), some (.ref ps), some (.ref pk), some (.ref pt), some (.ref pf), some (vS t), y6, y7] ∧ H' pf = some (.dK kvs) ∧ keysAre kvs (longF l (sh.take m) kn tx ++ ((l.take n).filter fun c => !tx.contains (t ++ [c]) && kn.contains ((t ++ [c]).tail)).map (fun c => t ++ [c])) ∧ Ex H H')
        (fun H3 e3 => ⟨kvs, y6, y7, rfl, e3 _ _ h2, by simpa using hk2, x2.trans e3⟩) (fun n c σ' H3 hc hP => ?_) (fun σ' H3 hP => ?_)
      · clear hk2 h2 x2 kvs
        obtain ⟨kvs, y6, y7, rfl, h3, hk3, x3⟩ := hP
        have lt1 : l.take (n + 1) = l.take n ++ [c] := by rw [List.take_add_one, hc]; rfl
        refine q_asg (v := vS (t ++ [c])) (ev_op (ev_var rfl) (ev_var rfl) (rv_addS (by simp; omega))) fun H4 e4 => ?_
        refine s_when (b := !tx.contains (t ++ [c]) && kn.contains ((t ++ [c]).tail)) (et_is (et_and (et_test (ev_knin (ev_var rfl) (ev_var rfl) ((x3.trans e4) _ _ hpt) hkt)) fun _ => et_test (ev_kin (x := (t ++ [c]).tail) (ev_is (ev_slS (l := t ++ [c]) (ev_var rfl) (eo_some ev_c) eo_none (by simp; omega)) (by
          show vS (cut (t ++ [c]) (some ((1 : Nat) : Int)) none) = _
          rw [cut_from, List.drop_one])) (ev_var rfl) ((x3.trans e4) _ _ hpk) hkk)) (row t c).symm) (fun hb H5 e5 => ?_) (fun hb H5 e5 => ?_)
        · have fy : List.filter (fun c => !tx.contains (t ++ [c]) && kn.contains ((t ++ [c]).tail)) [c] = [c] := by
            rw [List.filter_cons_of_pos (p := fun c : Nat => !tx.contains (t ++ [c]) && kn.contains ((t ++ [c]).tail)) hb]
            rfl
          have hlen : kvs.length ≤ 10100 := by
            have := congrArg List.length hk3
            rw [List.length_map, List.length_map] at this
            rw [this]
            exact Nat.le_trans ((part n).trans (lf (m + 1))).length_le hbig
          refine s_putK (kvs := kvs) (k := Sum.inr (S (t ++ [c]))) ((e4.trans e5) _ _ h3) (ev_var rfl) (ev_var rfl) ev_c (by omega) fun H6 e6 => ⟨_, _, _, rfl, upd_same, ?_, Ex.mut (((x3.trans e4).trans e5).trans e6) hpf⟩
          have hnew : (t ++ [c]) ∉ longF l (sh.take m) kn tx ++ ((l.take n).filter fun c => !tx.contains (t ++ [c]) && kn.contains ((t ++ [c]).tail)).map (fun c => t ++ [c]) := fun z => by
            have p2 := (part (n + 1)).trans (lf (m + 1))
            rw [lt1, List.filter_append, List.map_append, fy, List.map_cons, List.map_nil, ← List.append_assoc] at p2
            have := p2.sublist.nodup hnd
            rw [List.nodup_append] at this
            exact this.2.2 _ z _ List.mem_cons_self rfl
          show keysAre _ _
          unfold keysAre at hk3 ⊢
          rw [keys_put hk3, lt1, List.filter_append, fy]
          congr 1
          rw [List.map_append, List.map_cons, List.map_nil, ← List.append_assoc]
          unfold addK
          rw [if_neg hnew]
        · have fn : List.filter (fun c => !tx.contains (t ++ [c]) && kn.contains ((t ++ [c]).tail)) [c] = [] := by
            rw [List.filter_cons_of_neg (p := fun c : Nat => !tx.contains (t ++ [c]) && kn.contains ((t ++ [c]).tail)) (by rw [hb]; decide)]
            rfl
          refine ⟨kvs, _, _, rfl, (e4.trans e5) _ _ h3, ?_, (x3.trans e4).trans e5⟩
          rw [lt1, List.filter_append, List.map_append, fn, List.map_nil, List.append_nil]
          exact hk3
      · obtain ⟨kvs, y6, y7, rfl, h3, hk3, x3⟩ := hP
        refine ⟨kvs, _, _, _, rfl, h3, ?_, x3⟩
        rw [List.take_of_length_le (Nat.le_refl _)] at hk3
        rw [tk1]
        unfold longF at hk3 ⊢
        rw [List.flatMap_append, List.flatMap_singleton]
        exact hk3
    · obtain ⟨kvs, y5, y6, y7, rfl, h2, hk2, x2⟩ := hP
      rw [List.length_map, List.take_of_length_le (Nat.le_refl _)] at hk2
      exact s_ret (v := .ref pf) (ev_var rfl) fun H3 e3 => k pf kvs H3 hpf (x2.trans e3) (e3 _ _ h2) hk2

abbrev s_law_cell_at : Stmt := topS 24
abbrev nm_law_cell_at : List Str := ["_law_script", "_law_k"]
theorem sc_law_cell_at : FnScope nm_law_cell_at ["_law_script", "_law_k"] (defScope s_law_cell_at) := ⟨rfl, rfl, rfl, by decide +kernel, rfl, by decide +kernel, by decide +kernel⟩
theorem ok_law_cell_at {f : Addr} {fd : FuncData} (F : Fun K "_law_cell_at" "_law_cell_at" s_law_cell_at f fd) (B : Bl mg) :
    FnOk P w K mg base (L2N.CX P w) 1 f fd ["_law_script", "_law_k"] (sp_cell K) := by
  refine okXN F sc_law_cell_at (fun vs H Q E h => ?_) (fun cdv A outer s H vs Q E hr h => ?_)
  · obtain ⟨a, ns, i, rfl, hS, k⟩ := h
    first | rfl | (rw [List.length_cons, hl]; rfl)
  · obtain ⟨a, ns, i, rfl, hS, k⟩ := h
    refine ⟨_, (pss_cons (ps_if (pt_cmpR op_lt (pv 1) (pe_callB call_len_seq (by rfl) B.len PySem.boot_len (pa_cons (pv 0) pa_nil)) (nomark _)) (pss_one (ps_ret (pe_ix ix_list (pv 0) (pv 1) (fun _ _ => rfl)))) pss_nil)
      (pss_one (ps_ret pe_int))), ?_⟩
    refine q_when (et_test (ev_op (ev_var rfl) (ev_len (K := K) (ev_var rfl) hS) rv_I0)) (fun hb H1 e1 => ?_) (fun hb H1 e1 => ?_)
    · have hi : i < ns.length := by
        have := of_decide_eq_true hb
        rw [List.length_map] at this
        omega
      refine s_ret (v := .int (cellAt ns i)) (ev_op (ev_var rfl) (ev_var rfl) (rv_ixL (K := K) (ex_l e1 hS) ?_)) (fun H2 e2 => k.go (e1.trans e2))
      rw [atI_nat (j := i) (v := .int (cellAt ns i))]
      rw [List.getElem?_map]
      unfold cellAt
      rw [List.getD_eq_getElem?_getD, List.getElem?_eq_getElem hi]
      rfl
    · refine s_ret (v := .int (cellAt ns i)) (ev_is ev_c ?_) (fun H2 e2 => k.go (e1.trans e2))
      have hi : ns.length ≤ i := by
        have := of_decide_eq_false hb
        rw [List.length_map] at this
        omega
      unfold cellAt
      rw [List.getD_eq_getElem?_getD, List.getElem?_eq_none hi]
      rfl

abbrev s_law_draw : Stmt := topS 25
abbrev nm_law_draw : List Str := ["_law_cell", "_law_k", "_law_most", "_law_primes"]
theorem sc_law_draw : FnScope nm_law_draw ["_law_cell", "_law_k", "_law_most"] (defScope s_law_draw) := ⟨rfl, rfl, rfl, by decide +kernel, rfl, by decide +kernel, by decide +kernel⟩
theorem ok_law_draw {f : Addr} {fd : FuncData} (F : Fun K "_law_draw" "_law_draw" s_law_draw f fd) (B : Bl mg) :
    FnOk P w K mg base (L2N.CX P w) 1 f fd ["_law_cell", "_law_k", "_law_most"] (sp_draw) := by
  refine okXN F sc_law_draw (fun vs H Q E h => ?_) (fun cdv A outer s H vs Q E hr h => ?_)
  · obtain ⟨c, i, m, rfl, hc, hi, hm, k⟩ := h
    first | rfl | (rw [List.length_cons, hl]; rfl)
  · obtain ⟨c, i, m, rfl, hc, hi, hm, k⟩ := h
    refine ⟨_, (pss_cons (ps_set (i := 3) sc_law_draw.nd rfl (.inl rfl) (pe_tup (pa_cons pe_int (pa_cons pe_int (pa_cons pe_int (pa_cons pe_int (pa_cons pe_int (pa_cons pe_int (pa_cons pe_int (pa_cons pe_int (pa_cons pe_int (pa_cons pe_int (pa_cons pe_int (pa_cons pe_int (pa_cons pe_int (pa_cons pe_int (pa_cons pe_int (pa_cons pe_int pa_nil))))))))))))))))))
      (pss_one (ps_ret (pe_op op_mod (pe_op op_mod (pe_op op_add (pe_op op_mulV (pv 0) pe_int) (pe_op op_mulV (pv 1) pe_int)) (pe_ix ix_tup (pv 3) (pe_op op_mod (pv 1) pe_int) (fun _ _ => rfl))) (pv 2))))), ?_⟩
    refine q_asgU (xs := primes.map V.int) (eu_tup (by repeat' (first | exact ea_nil | refine ea_cons ev_c ?_)) (by decide)) fun p H1 hp e1 h1 => ?_
    refine s_ret (v := .int (drawF c i m)) (ev_op (ev_op (ev_op (ev_op (ev_var rfl) ev_c (rv_I (hc.mulOk (Lim.small (by decide) (by decide)) (by decide)))) (ev_op (ev_var rfl) ev_c (rv_I ((Lim.small (i := (i : Int)) (by omega) (by omega)).mulOk (Lim.small (by decide) (by decide)) (by decide)))) rv_I0)
      (ev_op (ev_var rfl) (ev_op (ev_var rfl) ev_c (rv_I (by decide))) (rv_ixT (K := K) (st_of h1) (v := .int (primes.getD (i % 16) 1)) ?_)) (rv_I (primes_pos i))) (ev_var rfl) (rv_I hm)) (fun H2 e2 => k.go (e1.trans e2))
    have e : ((i : Int) % 16) = ((i % 16 : Nat) : Int) := by omega
    rw [e, atI_nat (j := i % 16)]
    have hlt : i % 16 < primes.length := Nat.mod_lt _ (by decide)
    rw [List.getElem?_map, List.getD_eq_getElem?_getD, List.getElem?_eq_getElem hlt]
    rfl

abbrev s_law_two : Stmt := topS 31
abbrev nm_law_two : List Str := ["_law_found"]
theorem sc_law_two : FnScope nm_law_two ["_law_found"] (defScope s_law_two) := ⟨rfl, rfl, rfl, by decide +kernel, rfl, by decide +kernel, by decide +kernel⟩
theorem ok_law_two {f : Addr} {fd : FuncData} (F : Fun K "_law_two" "_law_two" s_law_two f fd) (B : Bl mg) :
    FnOk P w K mg base (L2N.CX P w) 1 f fd ["_law_found"] (sp_two) := by
  refine okXN F sc_law_two (fun vs H Q E h => ?_) (fun cdv A outer s H vs Q E hr h => ?_)
  · obtain ⟨v, rfl, k⟩ := h
    first | rfl | (rw [List.length_cons, hl]; rfl)
  · obtain ⟨v, rfl, k⟩ := h
    refine ⟨_, (pss_one (ps_ret (pe_tup (pa_cons (pv 0) (pa_cons (pv 0) pa_nil))))), ?_⟩
    exact s_retU (xs := [v, v]) (eu_tup (ea_cons (ev_var rfl) (ea_cons (ev_var rfl) ea_nil)) (by show 2 ≤ 100000; decide)) fun p H1 hp e1 h1 => k p H1 hp e1 h1

abbrev s_check_word : Stmt := topS 10
abbrev nm_check_word : List Str := ["word"]
theorem sc_check_word : FnScope nm_check_word ["word"] (defScope s_check_word) := ⟨rfl, rfl, rfl, by decide +kernel, rfl, by decide +kernel, by decide +kernel⟩
theorem ok_check_word {f : Addr} {fd : FuncData} {a_BadWord : Addr} (F : Fun K "check_word" "check_word" s_check_word f fd) (B : Bl mg) (c_is_text : CalN P w K mg base 1 "is_text" ["thing"] (sp_is_text)) (e_BadWord : Er K mg "BadWord" (a_BadWord) bmE) :
    FnOk P w K mg base (L2N.CX P w) 2 f fd ["word"] (sp_check a_BadWord) := by
  refine okXN F sc_check_word (fun vs H Q E h => ?_) (fun cdv A outer s H vs Q E hr h => ?_)
  · obtain ⟨v, n, rfl, hT, k1, k2⟩ := h
    first | rfl | (rw [List.length_cons, hl]; rfl)
  · obtain ⟨v, n, rfl, hT, k1, k2⟩ := h
    refine ⟨_, (pss_one (ps_if (pt_not (pt_val (pe_calN c_is_text (hr.mono (by decide)) (by rfl) (L2N.passes_call (L2N.takes_of rfl rfl rfl rfl) (fun _ _ _ _ h => h)) (pa_cons (pv 0) pa_nil)))) (pss_one (L2N.ps_raise rfl (L2N.takes_of rfl rfl rfl rfl) (L2N.pmk_own PySem.F.excBase_ValueError e_BadWord.x e_BadWord.g e_BadWord.k (raises_own e_BadWord.b e_BadWord.t) rfl))) pss_nil)), ?_⟩
    refine s_when (et_not (et_B (ev_call (ea_cons (ev_var rfl) ea_nil) (z := .bl (isText v)) ?_))) (fun hb H1 e1 => ?_) (fun hb H1 e1 => ?_)
    · exact fun H1 e1 Q q E => ⟨v, n, rfl, hT.ex e1, q⟩
    · exact k2 (by simpa using hb) H1 e1
    · exact (k1 (by simpa using hb)).go e1

abbrev s_check_text : Stmt := topS 11
abbrev nm_check_text : List Str := ["text"]
theorem sc_check_text : FnScope nm_check_text ["text"] (defScope s_check_text) := ⟨rfl, rfl, rfl, by decide +kernel, rfl, by decide +kernel, by decide +kernel⟩
theorem ok_check_text {f : Addr} {fd : FuncData} {a_BadText : Addr} (F : Fun K "check_text" "check_text" s_check_text f fd) (B : Bl mg) (c_is_text : CalN P w K mg base 1 "is_text" ["thing"] (sp_is_text)) (e_BadText : Er K mg "BadText" (a_BadText) bmE) :
    FnOk P w K mg base (L2N.CX P w) 2 f fd ["text"] (sp_check a_BadText) := by
  refine okXN F sc_check_text (fun vs H Q E h => ?_) (fun cdv A outer s H vs Q E hr h => ?_)
  · obtain ⟨v, n, rfl, hT, k1, k2⟩ := h
    first | rfl | (rw [List.length_cons, hl]; rfl)
  · obtain ⟨v, n, rfl, hT, k1, k2⟩ := h
    refine ⟨_, (pss_one (ps_if (pt_not (pt_val (pe_calN c_is_text (hr.mono (by decide)) (by rfl) (L2N.passes_call (L2N.takes_of rfl rfl rfl rfl) (fun _ _ _ _ h => h)) (pa_cons (pv 0) pa_nil)))) (pss_one (L2N.ps_raise rfl (L2N.takes_of rfl rfl rfl rfl) (L2N.pmk_own PySem.F.excBase_ValueError e_BadText.x e_BadText.g e_BadText.k (raises_own e_BadText.b e_BadText.t) rfl))) pss_nil)), ?_⟩
    refine s_when (et_not (et_B (ev_call (ea_cons (ev_var rfl) ea_nil) (z := .bl (isText v)) ?_))) (fun hb H1 e1 => ?_) (fun hb H1 e1 => ?_)
    · exact fun H1 e1 Q q E => ⟨v, n, rfl, hT.ex e1, q⟩
    · exact k2 (by simpa using hb) H1 e1
    · exact (k1 (by simpa using hb)).go e1

abbrev s_are_letters : Stmt := topS 12
abbrev nm_are_letters : List Str := ["thing", "one", "other"]
theorem sc_are_letters : FnScope nm_are_letters ["thing"] (defScope s_are_letters) := ⟨rfl, rfl, rfl, by decide +kernel, rfl, by decide +kernel, by decide +kernel⟩
theorem ok_are_letters {f : Addr} {fd : FuncData} (F : Fun K "are_letters" "are_letters" s_are_letters f fd) (B : Bl mg) (c_is_text : CalN P w K mg base 1 "is_text" ["thing"] (sp_is_text)) :
    FnOk P w K mg base (L2N.CX P w) 2 f fd ["thing"] (sp_are) := by
  refine okXN F sc_are_letters (fun vs H Q E h => ?_) (fun cdv A outer s H vs Q E hr h => ?_)
  · obtain ⟨v, n, rfl, hT, k⟩ := h
    first | rfl | (rw [List.length_cons, hl]; rfl)
  · obtain ⟨v, n, rfl, hT, k⟩ := h
    refine ⟨_, (pss_one (ps_ret (pe_and (pe_calN c_is_text (hr.mono (by decide)) (by rfl) (L2N.passes_call (L2N.takes_of rfl rfl rfl rfl) (fun _ _ _ _ h => h)) (pa_cons (pv 0) pa_nil)) (pe_and (pe_cmpR op_ne (pv 0) pe_str (nomark _)) (pe_one (pe_callB (cr_all rfl) (by rfl) B.all_ (by decide +kernel) (pa_cons (pe_lc (own := [("one", 1), ("other", 2)]) (g := (gTup K 2 (gCons (gName 1) (gCons (gName 2) gNil)))) rfl sc_are_letters.nd (pi_zipS (by rfl) B.zip (pa_cons (pv 0) (pa_cons (pe_slice sl_str (pv 0) (po_some pe_int) po_none) pa_nil))) (blkOk_by (N := nm_are_letters) (sc := defScope s_are_letters) (by decide +kernel)) (fun _ _ _ _ _ => by exact (pg_tup rfl (pgs_cons (pg_name (i := 1) sc_are_letters.nd rfl (.inl rfl)) (pgs_cons (pg_name (i := 2) sc_are_letters.nd rfl (.inl rfl)) pgs_nil)))) (fun _ _ _ _ _ => by exact pts_nil) (fun _ _ _ _ _ => by exact (pe_cmpR op_lt_str (pv 1) (pv 2) (nomark _)))) pa_nil))))))), ?_⟩
    have ct : ∀ H1, Ex H H1 → SpV sp_is_text [v] H1 (.bl (isText v)) := fun H1 e1 H2 e2 Q q E => ⟨v, n, rfl, hT.ex (e1.trans e2), q⟩
    by_cases hi : isText v = true
    · obtain ⟨l, rfl, hw⟩ := text_wd hT hi
      have hwl := hw.1
      have lt : ∀ c ∈ l, c < 128 := fun c hc => by
        have h1 := hw.2 c hc
        have h2 : ∀ d ∈ azs, d < 128 := by decide
        exact h2 c h1
      refine s_ret (v := .bl (areL (vS l))) (ev_is (ev_andV (ev_call (ea_cons (ev_var rfl) ea_nil) (ct H (Ex.refl H))) fun _ => ev_andV (ev_op (ev_var rfl) ev_c (rv_neS (b := []))) fun _ => ev_all (K := K) (bs := (l.zip l.tail).map fun p : Nat × Nat => decide (p.1 < p.2)) ?_) ?_) (fun H1 e1 => k.go e1)
      · have e : ((l.zip l.tail).map fun p : Nat × Nat => decide (p.1 < p.2)).map V.bl = (l.zip l.tail).map fun p : Nat × Nat => V.bl (decide (p.1 < p.2)) := by
          rw [List.map_map]
          rfl
        rw [e]
        refine el_lcZ _ (ea_cons (ev_var rfl) (ea_cons (ev_is (ev_slS (l := l) (ev_var rfl) (eo_some ev_c) eo_none (by omega)) ?_) ea_nil)) lt (fun c hc => lt c (List.mem_of_mem_tail hc)) (by omega) (fun x y => rfl) (fun p H1 e1 hp => ?_)
        · have : cut l (some ((1 : Nat) : Int)) none = l.drop 1 := cut_from l 1
          show vS (cut l (some ((1 : Nat) : Int)) none) = _
          rw [this, List.drop_one]
        · exact ev_is (ev_op (ev_var rfl) (ev_var rfl) rv_str2') (by congr 1; rw [decide_eq_decide]; simp [List.cons_lt_cons_iff])
      · rw [areL_S, List.all_map]
        show _ = V.bl (_ && (decide (¬ l = []) && risF l))
        rw [decide_not]
        rfl
    · have hi' : isText v = false := by simpa using hi
      refine s_ret (v := .bl (areL v)) (ev_is (ev_andV (b := true) (ev_call (ea_cons (ev_var rfl) ea_nil) (ct H (Ex.refl H))) fun h => absurd h hi) ?_) (fun H1 e1 => k.go e1)
      unfold areL
      rw [hi']
      rfl

abbrev s_law_number : Stmt := topS 26
abbrev nm_law_number : List Str := ["_law_cell", "_law_k", "_law_limit", "_law_small"]
theorem sc_law_number : FnScope nm_law_number ["_law_cell", "_law_k", "_law_limit"] (defScope s_law_number) := ⟨rfl, rfl, rfl, by decide +kernel, rfl, by decide +kernel, by decide +kernel⟩
theorem ok_law_number {f : Addr} {fd : FuncData} (F : Fun K "_law_number" "_law_number" s_law_number f fd) (B : Bl mg) (c_law_draw : CalN P w K mg base 1 "_law_draw" ["_law_cell", "_law_k", "_law_most"] (sp_draw)) :
    FnOk P w K mg base (L2N.CX P w) 2 f fd ["_law_cell", "_law_k", "_law_limit"] (sp_number) := by
  refine okXN F sc_law_number (fun vs H Q E h => ?_) (fun cdv A outer s H vs Q E hr h => ?_)
  · obtain ⟨c, i, m, rfl, hc, hi, hm, k⟩ := h
    first | rfl | (rw [List.length_cons, hl]; rfl)
  · obtain ⟨c, i, m, rfl, hc, hi, hm, k⟩ := h
    refine ⟨_, (pss_cons (ps_if (pt_cmpR op_ge (pv 0) (pe_op op_pow pe_int pe_int) (nomark _)) (pss_one (ps_ret (pe_op op_mod (pe_op op_fdiv (pe_op op_sub (pv 0) (pe_op op_pow pe_int pe_int)) (pe_ix ix_tup (pe_tup (pa_cons pe_int (pa_cons pe_int (pa_cons pe_int (pa_cons pe_int (pa_cons pe_int pa_nil)))))) (pe_op op_mod (pv 1) pe_int) (fun _ _ => rfl))) (pv 2)))) pss_nil)
      (pss_cons (ps_set (i := 3) sc_law_number.nd rfl (.inl rfl) (pe_op op_mod (pv 0) pe_int))
      (pss_one (ps_ret (pe_op op_mod (pe_calN c_law_draw (hr.mono (by decide)) (by rfl) (L2N.passes_call (L2N.takes_of rfl rfl rfl rfl) (fun _ _ _ _ h => h)) (pa_cons (pe_op op_mulV (pe_op op_add (pv 3) (pe_op op_mulV pe_int (pv 1))) (pe_op op_add (pe_op op_add (pv 3) (pe_op op_mulV pe_int (pv 1))) pe_int)) (pa_cons (pe_op op_add (pe_op op_mod (pv 1) pe_int) pe_int) (pa_cons pe_int pa_nil)))) (pv 2)))))), ?_⟩
    refine q_when (et_test (ev_op (ev_var rfl) (ev_op ev_c ev_c (rv_I ⟨by decide, by decide, by decide⟩)) rv_I0)) (fun hb H1 e1 => ?_) (fun hb H1 e1 => ?_)
    · have hix : atI ([1, 7, 49, 343, 2401].map V.int) ((i : Int) % 5) = some (.int (([1, 7, 49, 343, 2401] : List Int).getD (i % 5) 1)) := by
        have e : ((i : Int) % 5) = ((i % 5 : Nat) : Int) := by omega
        have hlt : i % 5 < ([1, 7, 49, 343, 2401] : List Int).length := Nat.mod_lt _ (by decide)
        rw [e, atI_nat (j := i % 5)]
        rw [List.getElem?_map, List.getD_eq_getElem?_getD, List.getElem?_eq_getElem hlt]
        rfl
      have hd : CDiv (c - 10 ^ 18) (([1, 7, 49, 343, 2401] : List Int).getD (i % 5) 1) := by
        have h : ∀ j : Nat, j < 5 → CDiv (c - 10 ^ 18) (([1, 7, 49, 343, 2401] : List Int).getD j 1) := by
          unfold CDiv
          decide
        exact h _ (Nat.mod_lt _ (by decide))
      refine s_ret (ev_op (ev_op (ev_op (ev_var rfl) (ev_op ev_c ev_c (rv_I ⟨by decide, by decide, by decide⟩)) rv_I0) (ev_opU1 (eu_tup (vs := [1, 7, 49, 343, 2401].map V.int) (by repeat' (first | exact ea_nil | refine ea_cons ev_c ?_)) (by decide)) (ev_op (ev_var rfl) ev_c (rv_I (by decide))) (fun p H2 h2 e2 => rv_ixT (K := K) (st_of h2) hix)) (rv_I hd)) (ev_var rfl) (rv_I hm)) (fun H2 e2 => (k _ ?_ ?_).go (e1.trans e2))
      · exact Int.emod_nonneg _ (by omega)
      · exact Int.emod_lt_of_pos _ hm
    · have m0 : 0 ≤ c % 1000003 := Int.emod_nonneg _ (by decide)
      have m1 : c % 1000003 < 1000003 := Int.emod_lt_of_pos _ (by decide)
      refine q_asg (ev_op (ev_var rfl) ev_c (rv_I (by decide))) fun H1' e1' => ?_
      have e1 := e1.trans e1'
      generalize hs : c % 1000003 = s at m0 m1 ⊢
      have l1 : Lim 100 (s + 977 * (i : Int)) := (Lim.small (by omega) (by omega)).mono (by decide)
      have l2 : Lim 100 (s + 31 * (i : Int) + 5) := (Lim.small (by omega) (by omega)).mono (by decide)
      have s1 : ∀ z : Int, -1000 ≤ z → z ≤ 1000 → CMulV z (i : Int) := fun z z1 z2 => (Lim.small (i := z) (by omega) (by omega)).mulOk (Lim.small (i := (i : Int)) (by omega) (by omega)) (by decide)
      refine s_ret (ev_op (ev_call (ea_cons (ev_op (ev_op (ev_var rfl) (ev_op ev_c (ev_var rfl) (rv_I (s1 977 (by decide) (by decide)))) rv_I0) (ev_op (ev_op (ev_var rfl) (ev_op ev_c (ev_var rfl) (rv_I (s1 31 (by decide) (by decide)))) rv_I0) ev_c rv_I0) (rv_I (l1.mulOk l2 (by decide)))) (ea_cons (ev_op (ev_op (ev_var rfl) ev_c (rv_I (by decide))) ev_c rv_I0) (ea_cons ev_c ea_nil)))
        (z := .int (drawF ((s + 977 * (i : Int)) * (s + 31 * (i : Int) + 5)) (i % 9 + 1) 999983)) ?_) (ev_var rfl) (rv_I hm)) (fun H2 e2 => (k _ ?_ ?_).go (e1.trans e2))
      · exact fun H2 e2 Q q E => ⟨_, i % 9 + 1, _, by
          show [_, _, _] = [_, _, _]
          rw [show ((i % 9 + 1 : Nat) : Int) = (i : Int) % 9 + 1 by omega], (l1.mul l2).mono (by decide), by omega, by decide, q⟩
      · exact Int.emod_nonneg _ (by omega)
      · exact Int.emod_lt_of_pos _ hm

abbrev s_law_spoilt : Stmt := topS 28
abbrev nm_law_spoilt : List Str := ["_law_found", "_law_one"]
theorem sc_law_spoilt : FnScope nm_law_spoilt ["_law_found"] (defScope s_law_spoilt) := ⟨rfl, rfl, rfl, by decide +kernel, rfl, by decide +kernel, by decide +kernel⟩
theorem ok_law_spoilt {f : Addr} {fd : FuncData} {k_rec n_rec : Nat} (F : Fun K "_law_spoilt" "_law_spoilt" s_law_spoilt f fd) (B : Bl mg) (c_law_spoilt : CalN P w K mg base k_rec "_law_spoilt" ["_law_found"] (sp_spoilt n_rec)) :
    FnOk P w K mg base (L2N.CX P w) (k_rec + 1) f fd ["_law_found"] (sp_spoilt (n_rec + 1)) := by
  refine okXN F sc_law_spoilt (fun vs H Q E h => ?_) (fun cdv A outer s H vs Q E hr h => ?_)
  · obtain ⟨v, rfl, h⟩ := h
    first | rfl | (rw [List.length_cons, hl]; rfl)
  · obtain ⟨v, rfl, h⟩ := h
    refine ⟨_, (pss_cons (ps_if (pt_val (pe_callB call_isiT (by rfl) B.isinstance (by decide +kernel) (pa_cons (pv 0) (pa_cons (pe_tup (pa_cons (pe_bltn (v := .ty "list") (by rfl) B.list_ (by decide +kernel) rfl) (pa_cons (pe_bltn (v := .ty "tuple") (by rfl) B.tuple_ (by decide +kernel) rfl) pa_nil))) pa_nil)))) (pss_one (ps_for (passes_of rfl) rfl (pi_list (pv 0)) (pg_name (i := 1) sc_law_spoilt.nd rfl (.inl rfl))
      (pss_one (ps_expr (pe_calN c_law_spoilt hr (by rfl) (L2N.passes_call (L2N.takes_of rfl rfl rfl rfl) (fun _ _ _ _ h => h)) (pa_cons (pv 1) pa_nil)))))) pss_nil)
      (pss_one (ps_if (pt_val (pe_callB call_isi (by rfl) B.isinstance (by decide +kernel) (pa_cons (pv 0) (pa_cons (pe_bltn (v := .ty "list") (by rfl) B.list_ (by decide +kernel) rfl) pa_nil)))) (pss_one (ps_expr (pe_bm PySem.F.plainAttrs_list PySem.F.slot_list_append PySem.F.type_list_append mt_append (pv 0) (pa_cons (pe_tup pa_nil) pa_nil)))) pss_nil))), ?_⟩
    rcases h with ⟨_, hf, k⟩ | ⟨hn, a, xs, rfl, ha, hx, hz, k⟩
    · obtain ⟨n, hn1, hn2⟩ : ∃ n, (∀ G, Thing G v n) ∧ (n = "str" ∨ n = "int") := by
        rcases hf with ⟨l, rfl, hl⟩ | ⟨i, rfl⟩
        · exact ⟨"str", fun G => thing_S (by omega), .inl rfl⟩
        · exact ⟨"int", fun G => .int i, .inr rfl⟩
      refine q_when (b := false) (et_B (ev_isi2 (ev_var rfl) hn1 (by rcases hn2 with rfl | rfl <;> decide +kernel) (by rcases hn2 with rfl | rfl <;> decide +kernel))) (fun h => nomatch h) (fun _ H1 e1 => ?_)
      exact s_when (b := false) (et_B (ev_isi (ev_var rfl) (hn1 _) (by rcases hn2 with rfl | rfl <;> decide +kernel))) (fun h => nomatch h) (fun _ H2 e2 => k H2 (e1.trans e2))
    · refine q_when (b := true) (et_B (ev_isi2T (ev_var rfl) ha)) (fun _ H1 e1 => ?_) (fun h => nomatch h)
      refine s_forLn (K := K) (j := 1) (ev_var rfl) (sq_of (e1 _ _ ha)) (fun m σ' H' => (∃ y1, σ' = [some (.ref a), y1]) ∧ Ex H H') (fun H2 e2 => ⟨⟨none, rfl⟩, e1.trans e2⟩) (fun m σ' H' _ p => sq_of (p.2 _ _ ha)) (fun m x σ' H' hm p => ?_) (fun σ' H' p => ?_)
      · obtain ⟨⟨y1, rfl⟩, e2⟩ := p
        exact s_drop (v := .non) (ev_call (ea_cons (ev_var rfl) ea_nil) fun H3 _ Q q E => ⟨_, rfl, .inl ⟨by omega, hx x (List.mem_of_getElem? hm), q⟩⟩) fun H3 e3 => ⟨⟨_, rfl⟩, e2.trans e3⟩
      · obtain ⟨⟨y1, rfl⟩, e2⟩ := p
        refine s_when (b := true) (et_B (ev_isi (ev_var rfl) (.lst (e2 _ _ ha)) (by decide +kernel))) (fun _ H3 e3 => ?_) (fun h => nomatch h)
        have e13 := e2.trans e3
        refine ⟨_, rfl, .inl ⟨rfl, xs, sq_of (e13 _ _ ha)⟩, by decide, fun p hp => ⟨a, xs, _, rfl, rfl, Ex.new hp _ _ (e13 _ _ ha), Nat.lt_of_le_of_lt hz (by decide), k _ (xs ++ [.ref p]) ?_⟩⟩
        exact ((Of.of e13 ha).new hp).mut

abbrev s_check_letters : Stmt := topS 13
abbrev nm_check_letters : List Str := ["letters", "word", "letter"]
theorem sc_check_letters : FnScope nm_check_letters ["letters", "word"] (defScope s_check_letters) := ⟨rfl, rfl, rfl, by decide +kernel, rfl, by decide +kernel, by decide +kernel⟩
theorem ok_check_letters {f : Addr} {fd : FuncData} {a_BadLetters : Addr} (F : Fun K "check_letters" "check_letters" s_check_letters f fd) (B : Bl mg) (c_are_letters : CalN P w K mg base 2 "are_letters" ["thing"] (sp_are)) (e_BadLetters : Er K mg "BadLetters" (a_BadLetters) bmE) :
    FnOk P w K mg base (L2N.CX P w) 3 f fd ["letters", "word"] (sp_checkL a_BadLetters) := by
  refine okXN F sc_check_letters (fun vs H Q E h => ?_) (fun cdv A outer s H vs Q E hr h => ?_)
  · obtain ⟨v, n, w, rfl, hT, hw, k1, k2⟩ := h
    first | rfl | (rw [List.length_cons, hl]; rfl)
  · obtain ⟨v, n, w, rfl, hT, hw, k1, k2⟩ := h
    refine ⟨_, (pss_one (ps_if (PW.pt (pw_or (pt_not (pt_val (pe_calN c_are_letters (hr.mono (by decide)) (by rfl) (L2N.passes_call (L2N.takes_of rfl rfl rfl rfl) (fun _ _ _ _ h => h)) (pa_cons (pv 0) pa_nil)))) (pw_or1 (pt_not (pt_val (pe_callB (cr_all rfl) (by rfl) B.all_ (by decide +kernel) (pa_cons (pe_lc (own := [("letter", 2)]) (g := (gName 2)) rfl sc_check_letters.nd (pi_str (pv 1)) (blkOk_by (N := nm_check_letters) (sc := defScope s_check_letters) (by decide +kernel)) (fun _ _ _ _ _ => by exact (pg_name (i := 2) sc_check_letters.nd rfl (.inl rfl))) (fun _ _ _ _ _ => by exact pts_nil) (fun _ _ _ _ _ => by exact (pe_cmpR op_in_str (pv 2) (pv 0) (by rfl)))) pa_nil))))))) (pss_one (L2N.ps_raise rfl (L2N.takes_of rfl rfl rfl rfl) (L2N.pmk_own PySem.F.excBase_ValueError e_BadLetters.x e_BadLetters.g e_BadLetters.k (raises_own e_BadLetters.b e_BadLetters.t) rfl))) pss_nil)), ?_⟩
    have ca : ∀ H1, Ex H H1 → SpV sp_are [v] H1 (.bl (areL v)) := fun H1 e1 H2 e2 Q q E => ⟨v, n, rfl, hT.ex (e1.trans e2), q⟩
    have hwl := hw.1
    by_cases hi : areL v = true
    · obtain ⟨l, rfl, hlw, _, _⟩ := areL_wd hT hi
      have hll := hlw.1
      refine s_when (b := !okL l w) (et_is (et_or (et_not (et_B (ev_call (ea_cons (ev_var rfl) ea_nil) (ca H (Ex.refl H))))) fun _ => et_not (et_B (ev_all (K := K) (bs := w.map fun c => l.contains c) ?_))) ?_) (fun hb H1 e1 => ?_) (fun hb H1 e1 => ?_)
      · have e : (w.map fun c => l.contains c).map V.bl = (w.filter fun _ => true).map fun c => V.bl (l.contains c) := by
          rw [List.filter_eq_self.mpr (fun _ _ => rfl), List.map_map]
          rfl
        rw [e]
        refine el_lcS (fun _ => true) _ (ev_var rfl) (by omega) (fun x => rfl) (fun c H1 hc e1 => et_yes) (fun c H1 hc e1 _ => ev_is (ev_op (ev_var rfl) (ev_var rfl) rv_in) (by rw [inF_one]))
      · rw [hi, List.all_map]
        rfl
      · exact k2 (.inr ⟨l, rfl, by simpa using hb⟩) H1 e1
      · exact (k1 l rfl hi (by simpa using hb)).go e1
    · have hi' : areL v = false := by simpa using hi
      exact s_when (b := true) (et_is (et_or (b := true) (et_not (et_B (ev_call (ea_cons (ev_var rfl) ea_nil) (ca H (Ex.refl H))))) fun h => absurd h (by rw [hi']; decide)) (by rw [hi']; rfl)) (fun _ H1 e1 => k2 (.inl hi') H1 e1) (fun h => nomatch h)

abbrev s_places : Stmt := topS 15
abbrev nm_places : List Str := ["word", "text"]
theorem sc_places : FnScope nm_places ["word", "text"] (defScope s_places) := ⟨rfl, rfl, rfl, by decide +kernel, rfl, by decide +kernel, by decide +kernel⟩
theorem ok_places {f : Addr} {fd : FuncData} {a_BadText : Addr} {a_BadWord : Addr} (F : Fun K "places" "places" s_places f fd) (B : Bl mg) (c_check_word : CalN P w K mg base 2 "check_word" ["word"] (sp_check a_BadWord)) (c_check_text : CalN P w K mg base 2 "check_text" ["text"] (sp_check a_BadText)) (c_places_of : CalN P w K mg base 1 "places_of" ["word", "text"] (sp_places_of)) :
    FnOk P w K mg base (L2N.CX P w) 3 f fd ["word", "text"] (sp_places a_BadWord a_BadText) := by
  refine okXN F sc_places (fun vs H Q E h => ?_) (fun cdv A outer s H vs Q E hr h => ?_)
  · obtain ⟨v1, n1, v2, n2, rfl, hT1, hT2, k1, k2, k3⟩ := h
    first | rfl | (rw [List.length_cons, hl]; rfl)
  · obtain ⟨v1, n1, v2, n2, rfl, hT1, hT2, k1, k2, k3⟩ := h
    refine ⟨_, (pss_cons (ps_expr (pe_calN c_check_word (hr.mono (by decide)) (by rfl) (L2N.passes_call (L2N.takes_of rfl rfl rfl rfl) (fun _ _ _ _ h => h)) (pa_cons (pv 0) pa_nil)))
      (pss_cons (ps_expr (pe_calN c_check_text (hr.mono (by decide)) (by rfl) (L2N.passes_call (L2N.takes_of rfl rfl rfl rfl) (fun _ _ _ _ h => h)) (pa_cons (pv 1) pa_nil)))
      (pss_one (ps_ret (pe_calN c_places_of (hr.mono (by decide)) (by rfl) (L2N.passes_call (L2N.takes_of rfl rfl rfl rfl) (fun _ _ _ _ h => h)) (pa_cons (pv 0) (pa_cons (pv 1) pa_nil))))))), ?_⟩
    refine q_dropC (ea_cons (ev_var rfl) ea_nil) fun H1 e1 => ?_
    refine ⟨v1, n1, rfl, hT1.ex e1, fun h1 H2 e2 => ?_, fun h1 H2 e2 => k1 h1 H2 (e1.trans e2)⟩
    refine q_dropC (ea_cons (ev_var rfl) ea_nil) fun H3 e3 => ?_
    have x3 : Ex H H3 := (e1.trans e2).trans e3
    refine ⟨v2, n2, rfl, hT2.ex x3, fun h2 H4 e4 => ?_, fun h2 H4 e4 => k2 h1 h2 H4 (x3.trans e4)⟩
    have x4 : Ex H H4 := x3.trans e4
    obtain ⟨W, rfl, hw⟩ := text_wd hT1 h1
    obtain ⟨T, rfl, ht⟩ := text_wd hT2 h2
    refine s_retL (el_call (ea_cons (ev_var rfl) (ea_cons (ev_var rfl) ea_nil)) (xs := (placesF W T).map vN) ?_) fun p H5 hp e5 h5 => (k3 W T rfl rfl hw ht).go x4 hp e5 h5
    exact fun H5 e5 Q q E => ⟨W, T, rfl, by have := hw.1; omega, by have := ht.1; omega, q⟩

abbrev s_check_texts : Stmt := topS 20
abbrev nm_check_texts : List Str := ["letters", "some", "text"]
theorem sc_check_texts : FnScope nm_check_texts ["letters", "some"] (defScope s_check_texts) := ⟨rfl, rfl, rfl, by decide +kernel, rfl, by decide +kernel, by decide +kernel⟩
theorem ok_check_texts {f : Addr} {fd : FuncData} {a_BadLetters : Addr} {a_NoWord : Addr} (F : Fun K "check_texts" "check_texts" s_check_texts f fd) (B : Bl mg) (c_are_letters : CalN P w K mg base 2 "are_letters" ["thing"] (sp_are)) (e_BadLetters : Er K mg "BadLetters" (a_BadLetters) bmE) (e_NoWord : Er K mg "NoWord" (a_NoWord) bmE) :
    FnOk P w K mg base (L2N.CX P w) 3 f fd ["letters", "some"] (sp_checkT a_BadLetters a_NoWord) := by
  refine okXN F sc_check_texts (fun vs H Q E h => ?_) (fun cdv A outer s H vs Q E hr h => ?_)
  · obtain ⟨v, n, v2, n2, rfl, hT, hT2, hI, k1, k2, k3⟩ := h
    first | rfl | (rw [List.length_cons, hl]; rfl)
  · obtain ⟨v, n, v2, n2, rfl, hT, hT2, hI, k1, k2, k3⟩ := h
    refine ⟨_, (pss_cons (ps_if (pt_not (pt_val (pe_calN c_are_letters (hr.mono (by decide)) (by rfl) (L2N.passes_call (L2N.takes_of rfl rfl rfl rfl) (fun _ _ _ _ h => h)) (pa_cons (pv 0) pa_nil)))) (pss_one (L2N.ps_raise rfl (L2N.takes_of rfl rfl rfl rfl) (L2N.pmk_own PySem.F.excBase_ValueError e_BadLetters.x e_BadLetters.g e_BadLetters.k (raises_own e_BadLetters.b e_BadLetters.t) rfl))) pss_nil)
      (pss_one (ps_if (PW.pt (pw_or (pt_not (pt_val (pe_callB call_isi (by rfl) B.isinstance (by decide +kernel) (pa_cons (pv 1) (pa_cons (pe_bltn (v := .ty "list") (by rfl) B.list_ (by decide +kernel) rfl) pa_nil))))) (pw_or1 (pt_not (pt_val (pe_callB (cr_all rfl) (by rfl) B.all_ (by decide +kernel) (pa_cons (pe_lc (own := [("text", 2)]) (g := (gName 2)) rfl sc_check_texts.nd (pi_list (pv 1)) (blkOk_by (N := nm_check_texts) (sc := defScope s_check_texts) (by decide +kernel)) (fun _ _ _ _ _ => by exact (pg_name (i := 2) sc_check_texts.nd rfl (.inl rfl))) (fun _ _ _ _ _ => by exact pts_nil) (fun _ _ _ _ _ => by exact (pe_and (pe_callB (show CallR _ _ (rIsi K) from call_isi) (by rfl) B.isinstance (by decide +kernel) (pa_cons (pv 2) (pa_cons (pe_bltn (v := .ty "str") (by rfl) B.str_ (by decide +kernel) rfl) pa_nil))) (pe_one (pe_cmpR op_eq (show PE _ _ (tBM K "str" _ _ _) from pe_bm PySem.F.plainAttrs_str PySem.F.slot_str_strip PySem.F.type_str_strip mt_stripChars (pv 2) (pa_cons (pv 0) pa_nil)) pe_str (nomark _)))))) pa_nil))))))) (pss_one (L2N.ps_raise rfl (L2N.takes_of rfl rfl rfl rfl) (L2N.pmk_own PySem.F.excBase_ValueError e_NoWord.x e_NoWord.g e_NoWord.k (raises_own e_NoWord.b e_NoWord.t) rfl))) pss_nil))), ?_⟩
    have ca : ∀ H1, Ex H H1 → SpV sp_are [v] H1 (.bl (areL v)) := fun H1 e1 H2 e2 Q q E => ⟨v, n, rfl, hT.ex (e1.trans e2), q⟩
    by_cases hi : areL v = true
    · obtain ⟨l, rfl, hlw, _, _⟩ := areL_wd hT hi
      have hll := hlw.1
      refine q_when (b := false) (et_is (et_not (et_B (ev_call (ea_cons (ev_var rfl) ea_nil) (ca H (Ex.refl H))))) (by rw [hi]; rfl)) (fun h => nomatch h) (fun _ H1 e1 => ?_)
      by_cases hk : kitB n2 "list" = some false
      · have hb : ¬ goodT H l v2 := fun ⟨a, xs, h1, h2, h3⟩ => by
          cases hT2 with
          | lst q => exact absurd hk (by decide +kernel)
          | tup q => cases h1; rw [q] at h2; cases h2
          | dK q => cases h1; rw [q] at h2; cases h2
          | _ => cases h1
        exact s_when (b := true) (et_is (et_or (b := true) (et_not (et_B (ev_isi (K := K) (ev_var rfl) (hT2.ex e1) (b := false) hk))) (fun h => nomatch h)) rfl) (fun _ H2 e2 => k2 l rfl hi hb H2 (e1.trans e2)) (fun h => nomatch h)
      cases hT2 with
      | lst q =>
        rename_i a xs
        obtain ⟨hz, hx⟩ := hI a xs rfl q
        refine s_when (b := !xs.all (txF l)) (et_is (et_or (et_not (et_B (ev_isi (ev_var rfl) (Thing.lst (e1 _ _ q)) (b := true) (by decide +kernel)))) fun _ => et_not (et_B (ev_all (K := K) (bs := xs.map (txF l)) ?_))) ?_) (fun hb H2 e2 => ?_) (fun hb H2 e2 => ?_)
        · have e : (xs.map (txF l)).map V.bl = (xs.filter fun _ => true).map fun x => V.bl (txF l x) := by
            rw [List.filter_eq_self.mpr (fun _ _ => rfl), List.map_map]
            rfl
          rw [e]
          refine el_lcGZ id (fun _ => true) _ (ev_var rfl) (sq_of (by rw [List.map_id]; exact e1 _ _ q)) hz (fun x => rfl) (fun x H2 hx e2 => et_yes) (fun x H2 hm e2 _ => ?_)
          obtain ⟨nx, tx⟩ := hx x hm
          have tx2 := tx.ex (e1.trans e2)
          cases tx with
          | str z hz2 =>
            refine ev_is (ev_andV (ev_isi (ev_var rfl) tx2 (b := true) (by decide +kernel)) fun _ => ev_op (ev_bm (ev_var rfl) (fun _ _ => rfl) (ea_cons (ev_var rfl) ea_nil) (z := .str (Txt.stripChars (S z) (S l))) ?_) ev_c (rv_eq (x := .str (Txt.stripChars (S z) (S l))) rfl)) ?_
            · exact fun H1 _ Q q => ⟨S z, S l, rfl, rfl, by rw [S_len]; exact Nat.le_trans hz2 (by decide), q H1 (Ex.refl H1)⟩
            · have e : decide (V.str (Txt.stripChars (S z) (S l)) = V.str "") = z.all (fun c => l.contains c) := by
                rw [← strip_S, Bool.eq_iff_iff, decide_eq_true_eq, decide_eq_true_eq]
                exact ⟨fun h => V.str.inj h, fun h => congrArg V.str h⟩
              rw [e, Bool.true_and]
              rfl
          | non => exact ev_andV (b := false) (ev_isi (ev_var rfl) tx2 (b := false) (by decide +kernel)) fun h => nomatch h
          | bl b => exact ev_andV (b := false) (ev_isi (ev_var rfl) tx2 (b := false) (by decide +kernel)) fun h => nomatch h
          | int i => exact ev_andV (b := false) (ev_isi (ev_var rfl) tx2 (b := false) (by decide +kernel)) fun h => nomatch h
          | lst q => exact ev_andV (b := false) (ev_isi (ev_var rfl) tx2 (b := false) (by decide +kernel)) fun h => nomatch h
          | tup q => exact ev_andV (b := false) (ev_isi (ev_var rfl) tx2 (b := false) (by decide +kernel)) fun h => nomatch h
          | dK q => exact ev_andV (b := false) (ev_isi (ev_var rfl) tx2 (b := false) (by decide +kernel)) fun h => nomatch h
        · rw [List.all_map]
          rfl
        · refine k2 l rfl hi (fun ⟨a', xs', h1, h2, h3⟩ => ?_) H2 (e1.trans e2)
          cases h1
          rw [q] at h2
          cases h2
          rw [h3] at hb
          cases hb
        · exact (k3 l rfl hi ⟨a, xs, rfl, q, by simpa using hb⟩).go (e1.trans e2)
      | _ => exact absurd (by decide +kernel) hk
    · have hi' : areL v = false := by simpa using hi
      exact q_when (b := true) (et_is (et_not (et_B (ev_call (ea_cons (ev_var rfl) ea_nil) (ca H (Ex.refl H))))) (by rw [hi']; rfl)) (fun _ H1 e1 => k1 hi' H1 e1) (fun h => nomatch h)

abbrev s_law_deep : Stmt := topS 27
abbrev nm_law_deep : List Str := ["_law_thing", "_law_one"]
theorem sc_law_deep : FnScope nm_law_deep ["_law_thing"] (defScope s_law_deep) := ⟨rfl, rfl, rfl, by decide +kernel, rfl, by decide +kernel, by decide +kernel⟩
theorem ok_law_deep {f : Addr} {fd : FuncData} {k_rec n_rec : Nat} (F : Fun K "_law_deep" "_law_deep" s_law_deep f fd) (B : Bl mg) (c_law_deep : CalN P w K mg base k_rec "_law_deep" ["_law_thing"] (sp_deep n_rec)) :
    FnOk P w K mg base (L2N.CX P w) (k_rec + 1) f fd ["_law_thing"] (sp_deep (n_rec + 1)) := by
  refine okXN F sc_law_deep (fun vs H Q E h => ?_) (fun cdv A outer s H vs Q E hr h => ?_)
  · obtain ⟨v, rfl, h⟩ := h
    first | rfl | (rw [List.length_cons, hl]; rfl)
  · obtain ⟨v, rfl, h⟩ := h
    refine ⟨_, (pss_cons (ps_if (pt_val (pe_callB call_isi (by rfl) B.isinstance (by decide +kernel) (pa_cons (pv 0) (pa_cons (pe_bltn (v := .ty "list") (by rfl) B.list_ (by decide +kernel) rfl) pa_nil)))) (pss_one (ps_ret (pe_lc (own := [("_law_one", 1)]) (g := (gName 1)) rfl sc_law_deep.nd (pi_list (pv 0)) (blkOk_by (N := nm_law_deep) (sc := defScope s_law_deep) (by decide +kernel)) (fun _ _ _ _ _ => by exact (pg_name (i := 1) sc_law_deep.nd rfl (.inl rfl))) (fun _ _ _ _ _ => by exact pts_nil) (fun _ _ _ _ _ => by exact (pe_calN c_law_deep hr (by rfl) passLN (pa_cons (pv 1) pa_nil)))))) pss_nil)
      (pss_one (ps_ret (pe_ifExp (pt_val (pe_callB call_isi (by rfl) B.isinstance (by decide +kernel) (pa_cons (pv 0) (pa_cons (pe_bltn (v := .ty "tuple") (by rfl) B.tuple_ (by decide +kernel) rfl) pa_nil)))) pe_never (pv 0))))), ?_⟩
    rcases h with ⟨_, ⟨l, rfl, hl⟩, k⟩ | ⟨hn, a, ts, rfl, ha, hts, hz, k⟩ | ⟨hn, a, r, ts, rfl, ha, hr0, hts, hz, k⟩
    · refine q_when (b := false) (et_B (ev_isi (ev_var rfl) (thing_S (by omega)) (by decide +kernel))) (fun h => nomatch h) (fun _ H1 e1 => ?_)
      exact s_ret (v := vS l) (fun H2 e2 Q q => et_B (b := false) (ev_isi (ev_var rfl) (thing_S (by omega)) (by decide +kernel)) H2 e2 _ fun H3 e3 => ⟨_, rfl, q H3 e3⟩) fun H2 e2 => k H2 (e1.trans e2)
    · refine q_when (b := true) (et_B (ev_isi (ev_var rfl) (.lst ha) (by decide +kernel))) (fun _ H1 e1 => ?_) (fun h => nomatch h)
      refine s_retL (el_lcXZ (K := K) (fun _ => true) vS (ev_var rfl) (sq_of (e1 _ _ ha)) (by omega) (fun _ => rfl) (fun x H2 _ _ => fun H3 _ _ q => q H3 (Ex.refl _)) (fun x H2 hx _ _ => ev_call (ea_cons (ev_var rfl) ea_nil) fun H3 _ Q q E => ⟨_, rfl, .inl ⟨by omega, ⟨x, rfl, hts x hx⟩, q⟩⟩)) fun p H2 hp e2 h2 => ?_
      rw [List.filter_eq_self.mpr fun _ _ => rfl] at h2
      exact k p H2 (fresh_back e1 hp) (e1.trans e2) h2
    · refine q_when (b := true) (et_B (ev_isi (ev_var rfl) (.lst ha) (by decide +kernel))) (fun _ H1 e1 => ?_) (fun h => nomatch h)
      refine ⟨_, rfl, a, rfl, ⟨_, sq_of (e1 _ _ ha)⟩, fun Dl hD => ?_⟩
      refine lc_list (xs := [.ref r]) (fun i H' => (i = 0 ∧ H' = upd H1 Dl (.lst [])) ∨ (i = 1 ∧ ∃ p2, H1 p2 = none ∧ p2 ≠ Dl ∧ Ex H1 H' ∧ H' Dl = some (.lst [.ref p2]) ∧ H' p2 = some (.lst (ts.map vS)))) (.inl ⟨rfl, rfl⟩) (fun i H' _ p => ?_) (fun i x H' hi p => ?_) (fun H' p => ?_)
      · rcases p with ⟨_, rfl⟩ | ⟨_, p2, _, _, e2, _⟩
        · exact sq_of (Ex.new hD _ _ (e1 _ _ ha))
        · exact sq_of (e2 _ _ (e1 _ _ ha))
      · rcases p with ⟨rfl, rfl⟩ | ⟨rfl, _⟩
        · cases hi
          refine ⟨rfl, ?_⟩
          unfold tYes
          dsimp only
          rw [if_pos (rfl : true = true)]
          refine ⟨_, rfl, _, rfl, .inr (.inl ⟨by omega, r, ts, rfl, Ex.new hD _ _ (e1 _ _ hr0), hts, hz, fun p2 G hp2 eG hG => ?_⟩)⟩
          have hne : p2 ≠ Dl := fun z => by
            rw [z, upd_same] at hp2
            cases hp2
          have hGD : G Dl = some (.lst []) := eG _ _ upd_same
          refine ⟨[], hGD, by decide, Or.inr ⟨rfl, p2, ?_, hne, Ex.mut ((Ex.new hD).trans eG) hD, upd_same, ?_⟩⟩
          · rw [upd_ne hne] at hp2
            exact hp2
          · rw [upd_ne hne]
            exact hG
        · cases hi
      · rcases p with ⟨h0, _⟩ | ⟨_, p2, hp2, hne, e2, h2, h3⟩
        · exact absurd h0 (by simp)
        · exact k Dl p2 H' (fresh_back e1 hD) (fresh_back e1 hp2) (Ne.symm hne) (e1.trans e2) h2 h3

abbrev s_law_put : Stmt := topS 29
abbrev nm_law_put : List Str := ["_law_handed", "_law_some", "_law_row", "_law_other"]
theorem sc_law_put : FnScope nm_law_put ["_law_handed", "_law_some"] (defScope s_law_put) := ⟨rfl, rfl, rfl, by decide +kernel, rfl, by decide +kernel, by decide +kernel⟩
theorem ok_law_put {f : Addr} {fd : FuncData} (F : Fun K "_law_put" "_law_put" s_law_put f fd) (B : Bl mg) (c_law_deep : CalN P w K mg base 3 "_law_deep" ["_law_thing"] (sp_deep 3)) :
    FnOk P w K mg base (L2N.CX P w) 4 f fd ["_law_handed", "_law_some"] (sp_put) := by
  refine okXN F sc_law_put (fun vs H Q E h => ?_) (fun cdv A outer s H vs Q E hr h => ?_)
  · obtain ⟨h, m, r, o, xs, ys, rfl, hh, hr0, hm, ho, hro, hxs, hys, hyz, k⟩ := h
    first | rfl | (rw [List.length_cons, hl]; rfl)
  · obtain ⟨h, m, r, o, xs, ys, rfl, hh, hr0, hm, ho, hro, hxs, hys, hyz, k⟩ := h
    refine ⟨_, (pss_one (ps_for (passes_of rfl) rfl (pi_zip (by rfl) B.zip (pa_cons (pv 0) (pa_cons (pv 1) pa_nil))) (pg_tup rfl (pgs_cons (pg_name (i := 2) sc_law_put.nd rfl (.inl rfl)) (pgs_cons (pg_name (i := 3) sc_law_put.nd rfl (.inl rfl)) pgs_nil)))
      (pss_cons (ps_while (passes_of rfl) (pt_cmpR (op_neD hr.units) (pv 2) (pe_lst pa_nil) (nomark _)) (pss_one (ps_expr (pe_bm0 PySem.F.plainAttrs_list PySem.F.slot_list_pop PySem.F.type_list_pop mt_pop (pv 2)))))
      (pss_one (ps_expr (pe_bm PySem.F.plainAttrs_list PySem.F.slot_list_extend PySem.F.type_list_extend mt_extend (pv 2) (pa_cons (pe_calN c_law_deep (hr.mono (by decide)) (by rfl) (L2N.passes_call (L2N.takes_of rfl rfl rfl rfl) (fun _ _ _ _ h => h)) (pa_cons (pv 3) pa_nil)) pa_nil))))))), ?_⟩
    have nh : h ≠ r := ne_txt hr0 hh
    have nm : m ≠ r := ne_txt hr0 hm
    refine ⟨_, rfl, _, rfl, h, m, _, _, rfl, sq_of hh, sq_of hm, RZ.for_zipL (xs := [.ref r]) (ys := [.ref o]) rfl (fun i σ' H' => (i = 0 ∧ σ' = [some (.ref h), some (.ref m), none, none] ∧ H = H') ∨ (i = 1 ∧ Of r H (ys.map vS) H')) (.inl ⟨rfl, rfl, rfl⟩) (fun i σ' H' p => ?_) (fun i x y T σ' H' hx hy p hT => ?_) (fun σ' H' p => ?_)⟩
    · rcases p with ⟨_, _, rfl⟩ | ⟨_, p⟩
      · exact ⟨sq_of hh, sq_of hm⟩
      · exact ⟨sq_of (p.1 _ _ nh hh), sq_of (p.1 _ _ nm hm)⟩
    · rcases p with ⟨rfl, rfl, rfl⟩ | ⟨rfl, p⟩
      · cases hx
        cases hy
        refine ⟨T, _, rfl, st_of upd_same, rfl, _, _, rfl, _, _, rfl, rfl, ?_⟩
        refine q_while (fun n σ' G => σ' = [some (.ref h), some (.ref m), some (.ref r), some (.ref o)] ∧ n ≤ xs.length ∧ Of r H ((xs.take n).map vS) G) xs.length ⟨rfl, Nat.le_refl _, ?_⟩ (fun n σ' G hW => ?_)
        · rw [List.take_of_length_le (Nat.le_refl _)]
          exact Of.of (Ex.new hT) hr0
        · obtain ⟨rfl, hn, hO⟩ := hW
          have nil : ∀ G, EvL (tLst tNil) [some (V.ref h), some (.ref m), some (.ref r), some (.ref o)] G (([] : List (List Nat)).map vS) := fun G => el_lst ea_nil (by decide)
          refine ⟨!decide (xs.take n = []), et_test (ev_opL (ev_var rfl) (nil _) fun q G1 hq e1 => rv_neLS (K := K) (fun t ht => hxs t (List.mem_of_mem_take ht)) (fun t ht => nomatch ht) (sq_of (e1 _ _ hO.2)) (sq_of hq)), fun hb G1 e1 => ?_, fun hb G1 e1 => ?_⟩
          · have hn0 : n ≠ 0 := fun z => by
              rw [z] at hb
              exact absurd hb (by simp)
            have hl : (xs.take n).length = n := by rw [List.length_take]; omega
            refine ⟨fun σ' G => σ' = [some (.ref h), some (.ref m), some (.ref r), some (.ref o)] ∧ Of r H ((xs.take (n - 1)).map vS) G, fun σ2 G2 ⟨a1, a2⟩ => ⟨n - 1, by omega, a1, by omega, a2⟩, ?_⟩
            have hO1 := hO.ex e1
            have hlast : ((xs.take n).map vS)[((xs.take n).map vS).length - 1]? = some (vS (xs[n - 1]'(by omega))) := by
              rw [List.length_map, hl, List.getElem?_map, List.getElem?_take_of_lt (by omega), List.getElem?_eq_getElem (by omega)]
              rfl
            refine ⟨_, rfl, .inl ⟨rfl, _, sq_of hO1.2⟩, r, _, _, rfl, rfl, hO1.2, hlast, rfl, ?_⟩
            have ed : ((xs.take n).map vS).dropLast = (xs.take (n - 1)).map vS := by
              rw [← List.map_dropLast, List.dropLast_eq_take, hl, List.take_take, Nat.min_eq_left (by omega)]
            rw [ed]
            exact hO1.mut
          · have hn0 : n = 0 := by
              have : xs.take n = [] := by
                cases hq : decide (xs.take n = []) with
                | true => exact of_decide_eq_true hq
                | false => rw [hq] at hb; cases hb
              rcases Nat.eq_zero_or_pos n with z | z
              · exact z
              · have hl : (xs.take n).length = n := by rw [List.length_take]; omega
                rw [this] at hl
                exact hl.symm
            subst hn0
            have hO1 : Of r H [] G1 := hO.ex e1
            have ho1 := hO1.1 _ _ (Ne.symm hro) ho
            refine ⟨_, rfl, .inl ⟨rfl, _, sq_of hO1.2⟩, _, rfl, _, rfl, .inr (.inl ⟨by decide, o, ys, rfl, ho1, hys, hyz, fun p2 G2 hp2 e2 h2 => ⟨r, p2, _, _, rfl, rfl, e2 _ _ hO1.2, h2, ?_, .inr ⟨rfl, ?_⟩⟩⟩)⟩
            · rw [List.length_map]
              exact Nat.le_trans (by simpa using hyz) (by decide)
            · exact (hO1.ex e2).mut
      · cases hx
    · rcases p with ⟨z, _⟩ | ⟨_, p⟩
      · exact absurd z (by simp)
      · exact k H' p

abbrev s_missing_by : Stmt := topS 18
abbrev nm_missing_by : List Str := ["word", "letters", "letter", "found", "piece", "pairs", "pair", "before", "after", "ahead", "behind"]
theorem sc_missing_by : FnScope nm_missing_by ["word", "letters"] (defScope s_missing_by) := ⟨rfl, rfl, rfl, by decide +kernel, rfl, by decide +kernel, by decide +kernel⟩
theorem ok_missing_by {f : Addr} {fd : FuncData} (F : Fun K "missing_by" "missing_by" s_missing_by f fd) {T : List (Addr × Str)} {c_cd p_cd : Addr} (B : Bl mg) (c_around : CalN P w K mg base 1 "around" ["word"] (sp_around)) (hcd : fd.code = .ref c_cd) (TB : LamX.TabB base mg c_cd p_cd) (hmT : (p_cd, (("missing_by" : Str) ++ ".<locals>." ++ "<lambda>" : Str)) ∈ T) (huT : ∀ p ∈ T, p.1 = p_cd → p.2 = (("missing_by" : Str) ++ ".<locals>." ++ "<lambda>" : Str)) :
    FnOk P w K mg base (L2N.CX P w) 5 f fd ["word", "letters"] (sp_missby T) := by
  refine okXcN F sc_missing_by (fun vs H Q E h => ?_) (fun cdv A outer s H vs Q E hcv hr h => ?_)
  · obtain ⟨W, L, rfl, hW, hL, hLn, hT, k⟩ := h
    first | rfl | (rw [List.length_cons, hl]; rfl)
  · have hcode : cdv = .ref c_cd := hcv.symm.trans hcd
    subst hcode
    have hcode : (cxOf (L2N.CX P w) P w K mg base nm_missing_by "missing_by" (defScope s_missing_by) f (.ref c_cd) A outer s H E).env.code = .ref c_cd := rfl
    obtain ⟨W, L, rfl, hW, hL, hLn, hT, k⟩ := h
    refine ⟨_, (pss_cons (ps_setLc (i := 3) (own := [("letter", 2)]) (g := (gName 2)) rfl sc_missing_by.nd rfl rfl (sw_true rfl rfl rfl (by decide +kernel)) (pi_str (pv 1)) (blkOk_by (N := nm_missing_by) (sc := defScope s_missing_by) (by decide +kernel)) (fun _ _ _ _ _ => by exact (pg_name (i := 2) sc_missing_by.nd rfl (.inl rfl))) (fun _ _ _ _ _ => by exact (pts_one (pt_cmpR op_notin_str (pv 2) (pv 0) (by rfl)))) (fun _ _ _ _ _ => by exact (pv 2)))
      (pss_cons (ps_for (passes_of rfl) rfl (pi_items (pe_frzs (pe_calN c_around (hr.mono (by decide)) (by rfl) (L2N.passes_call (L2N.takes_of rfl rfl rfl rfl) (fun _ _ _ _ h => h)) (pa_cons (pv 0) pa_nil)))) (pg_tup rfl (pgs_cons (pg_name (i := 4) sc_missing_by.nd rfl (.inr rfl)) (pgs_cons (pg_name (i := 5) sc_missing_by.nd rfl (.inr rfl)) pgs_nil)))
      (pss_cons (ps_set (i := 7) sc_missing_by.nd rfl (.inl rfl) (pe_callB (cr_sortedSet rfl) (by rfl) B.sorted (by decide +kernel) (pa_cons (pe_callTy (call_setTx rfl) (by rfl) B.set_ (by decide +kernel) (pa_cons (pe_lc (own := [("pair", 6)]) (g := (gName 6)) rfl sc_missing_by.nd (pi_keys (pv 5)) (blkOk_by (N := nm_missing_by) (sc := defScope s_missing_by) (by decide +kernel)) (fun _ _ _ _ _ => by exact (pg_name (i := 6) sc_missing_by.nd rfl (.inl rfl))) (fun _ _ _ _ _ => by exact (pts_one (pt_cmpR op_ne (pe_ix (show IxR _ (rIxT K) from ix_tup) (pv 6) pe_int (fun _ _ => rfl)) pe_str (nomark _)))) (fun _ _ _ _ _ => by exact (pe_ix (show IxR _ (rIxT K) from ix_tup) (pv 6) pe_int (fun _ _ => rfl)))) pa_nil)) pa_nil)))
      (pss_cons (ps_set (i := 8) sc_missing_by.nd rfl (.inl rfl) (pe_callB (cr_sortedSet rfl) (by rfl) B.sorted (by decide +kernel) (pa_cons (pe_callTy (call_setTx rfl) (by rfl) B.set_ (by decide +kernel) (pa_cons (pe_lc (own := [("pair", 6)]) (g := (gName 6)) rfl sc_missing_by.nd (pi_keys (pv 5)) (blkOk_by (N := nm_missing_by) (sc := defScope s_missing_by) (by decide +kernel)) (fun _ _ _ _ _ => by exact (pg_name (i := 6) sc_missing_by.nd rfl (.inl rfl))) (fun _ _ _ _ _ => by exact (pts_one (pt_cmpR op_ne (pe_ix (show IxR _ (rIxT K) from ix_tup) (pv 6) pe_int (fun _ _ => rfl)) pe_str (nomark _)))) (fun _ _ _ _ _ => by exact (pe_ix (show IxR _ (rIxT K) from ix_tup) (pv 6) pe_int (fun _ _ => rfl)))) pa_nil)) pa_nil)))
      (pss_one (ps_for (passes_of rfl) rfl (pi_list (pv 7)) (pg_name (i := 9) sc_missing_by.nd rfl (.inr rfl))
      (pss_one (ps_expr (pe_bm PySem.F.plainAttrs_list PySem.F.slot_list_extend PySem.F.type_list_extend mt_extend (pv 3) (pa_cons (pe_lc (own := [("behind", 10)]) (g := (gName 10)) rfl sc_missing_by.nd (pi_list (pv 8)) (blkOk_by (N := nm_missing_by) (sc := defScope s_missing_by) (by decide +kernel)) (fun _ _ _ _ _ => by exact (pg_name (i := 10) sc_missing_by.nd rfl (.inl rfl))) (fun _ _ _ _ _ => by exact (pts_one (pt_cmp (pc_dnotin (hu_of hr) (pe_tup (pa_cons (pv 9) (pa_cons (pv 10) pa_nil))) (pv 5))))) (fun _ _ _ _ _ => by exact (pe_op op_add_str (pe_op op_add_str (pv 9) (pv 4)) (pv 10)))) pa_nil)))))))))
      (pss_one (ps_ret (pe_sortLam (k := 0) (T := T) (x := "text") (hr.mono (by decide)) (by rfl) B.sorted TB hcode hmT huT ⟨rfl, rfl, rfl, by decide +kernel, rfl, by decide +kernel, by decide +kernel⟩ (fun _ _ _ _ _ => by rfl) (fun _ _ _ _ _ => (pe_tup (pa_cons (pe_callB call_len_str (by rfl) B.len PySem.boot_len (pa_cons (pv 0) pa_nil)) (pa_cons (pv 0) pa_nil)))) (pv 3)))))), ?_⟩
    have hwl := hW.1
    have hll := hL.1
    refine q_asgL (xs := (baseM W L).map vS) ?_ fun pl H1 hpl e1 h1 => ?_
    · have e : (baseM W L).map vS = (L.filter fun c => !W.contains c).map fun c => vS [c] := by
        unfold baseM
        rw [List.map_map]
        rfl
      rw [e]
      exact el_lcS _ _ (ev_var rfl) (by omega) (fun x => rfl) (fun c H1 hc e1 => et_is (et_test (ev_op (ev_var rfl) (ev_var rfl) rv_nin)) (by rw [inF_one])) (fun c H1 hc e1 _ => ev_var rfl)
    refine q_forAr (K := K) (W := W) (i := 4) (j := 5) (ev_var rfl) hwl (fun es m σ' H' => ∃ y4 y5 y7 y8 y9, σ' = [some (vS W), some (vS L), none, some (.ref pl), y4, y5, none, y7, y8, y9, none] ∧ H' pl = some (.lst ((baseM W L ++ (es.take m).flatMap genE).map vS)) ∧ FzOk es H' ∧ es.length ≤ 20000 ∧ Ex H H') (fun es H2 har hlen hes e2 hfz => ⟨none, none, none, none, none, rfl, ?_, hfz, hlen, e1.trans e2⟩) (fun es o pf m e σ' H' har hlen hel hme hP hpf hpf0 => ?_) (fun es m σ' H' Tt hP hTt => ?_) (fun es σ' H' har hP => ?_)
    · show H2 pl = some (.lst ((baseM W L ++ []).map vS))
      rw [List.append_nil]
      exact e2 _ _ h1
    · obtain ⟨y4, y5, y7, y8, y9, rfl, hl, hfz, _, x0⟩ := hP
      have he : e ∈ es := List.mem_of_getElem? hme
      obtain ⟨oe, hoe⟩ := hfz e he
      have hp2 := prs_len hW har he
      have he1 : e.1.length ≤ 100 := by
        obtain ⟨p, b, e', _, _, q, _⟩ := (har.key e.1).mp (List.mem_map.mpr ⟨e, he, rfl⟩)
        rw [q, List.length_take, List.length_drop]
        omega
      have lp : ∀ (f : Pr → Bool), (e.2.2.filter f).length ≤ 2000 := fun f => Nat.le_trans (List.length_filter_le _ _) hp2
      refine q_asgL (xs := (befE e).map vS) (el_sset (K := K) (xs := (e.2.2.filter fun p => decide (p.1 ≠ [])).map (·.1)) ?_ (by rw [List.length_map]; exact lp _)) fun pb H2 hpb e2 h2 => ?_
      · rw [List.map_map]
        exact el_lcKT _ _ (ev_var rfl) hoe (by omega) (fun x => rfl) (fun p q H3 hp e3 hq => et_is (et_test (ev_op (ev_op (ev_var rfl) ev_c (rv_ixT (K := K) (st_of hq) rfl)) ev_c (rv_neS (b := [])))) (by rw [← decide_not])) (fun p q H3 hp e3 hq _ => ev_op (ev_var rfl) ev_c (rv_ixT (K := K) (st_of hq) rfl))
      refine q_asgL (xs := (aftE e).map vS) (el_sset (K := K) (xs := (e.2.2.filter fun p => decide (p.2 ≠ [])).map (·.2)) ?_ (by rw [List.length_map]; exact lp _)) fun pa H3 hpa e3 h3 => ?_
      · rw [List.map_map]
        exact el_lcKT _ _ (ev_var rfl) (e2 _ _ hoe) (by omega) (fun x => rfl) (fun p q H3 hp e3 hq => et_is (et_test (ev_op (ev_op (ev_var rfl) ev_c (rv_ixT (K := K) (st_of hq) rfl)) ev_c (rv_neS (b := [])))) (by rw [← decide_not])) (fun p q H3 hp e3 hq _ => ev_op (ev_var rfl) ev_c (rv_ixT (K := K) (st_of hq) rfl))
      have hpb1 : H1 pl ≠ none := by rw [h1]; simp
      have npb : pb ≠ pl := fun z => by rw [z, hl] at hpb; cases hpb
      have npa : pa ≠ pl := fun z => by rw [z, e2 _ _ hl] at hpa; cases hpa
      have npf : pf ≠ pl := fun z => by rw [z, h1] at hpf0; cases hpf0
      have ned : ∀ x ∈ es, x.2.1 ≠ pl := fun x hx z => by
        obtain ⟨o', q⟩ := hfz x hx
        rw [z, hl] at q
        cases q
      have x23 := e2.trans e3
      refine s_forLn (K := K) (j := 9) (xs := (befE e).map vS) (ev_var rfl) (sq_of (e3 _ _ h2)) (fun n σ' H' => ∃ y9, σ' = [some (vS W), some (vS L), none, some (.ref pl), some (vS e.1), some (.ref e.2.1), none, some (.ref pb), some (.ref pa), y9, none] ∧ H' pl = some (.lst ((baseM W L ++ (es.take m).flatMap genE ++ ((befE e).take n).flatMap (rowE e)).map vS)) ∧ FzOk es H' ∧ H' pb = some (.lst ((befE e).map vS)) ∧ H' pa = some (.lst ((aftE e).map vS)) ∧ H' pf = some (.frz o (.dK (keysE es))) ∧ Ex H H') (fun H4 e4 => ⟨_, rfl, ?_, (hfz.ex x23).ex e4, (e3.trans e4) _ _ h2, e4 _ _ h3, (x23.trans e4) _ _ hpf, (x0.trans x23).trans e4⟩) (fun n σ' H' _ hQ => ?_) (fun n x σ' H' hx hQ => ?_) (fun σ' H' hQ => ?_)
      · show H4 pl = some (.lst ((baseM W L ++ (es.take m).flatMap genE ++ []).map vS))
        rw [List.append_nil]
        exact (x23.trans e4) _ _ hl
      · obtain ⟨_, _, _, _, hb, _⟩ := hQ
        exact sq_of hb
      · obtain ⟨z9, rfl, hl', hfz', hb', ha', hpf', x'⟩ := hQ
        rw [List.getElem?_map] at hx
        obtain ⟨a, haa, rfl⟩ : ∃ a, (befE e)[n]? = some a ∧ x = vS a := by
          cases q : (befE e)[n]? with
          | none => rw [q] at hx; cases hx
          | some y => rw [q] at hx; exact ⟨y, rfl, (Option.some.inj hx).symm⟩
        obtain ⟨ca, rfl, _⟩ := (bef_mem har he).mp (List.mem_of_getElem? haa)
        obtain ⟨oe', hoe'⟩ := hfz' e he
        have hal := aft_len hW har he
        have hacc := acc_len (l := L) hW hll har hlen m
        have hrow : (((befE e).take n).flatMap (rowE e)).length ≤ 676 := by
          have g1 := flat_len (f := rowE e) (k := 26) (l := (befE e).take n) fun a _ => Nat.le_trans row_len hal
          have g2 : ((befE e).take n).length ≤ 26 := Nat.le_trans (by rw [List.length_take]; omega) (bef_len hW har he)
          have : ((befE e).take n).length * 26 ≤ 26 * 26 := Nat.mul_le_mul_right _ g2
          omega
        have hr1 : (rowE e [ca]).length ≤ 26 := Nat.le_trans row_len hal
        refine s_ext (K := K) (ys := (rowE e [ca]).map vS) hl' (ev_var rfl) ?_ (by rw [List.length_map, List.length_map, List.length_append]; omega) fun H4 e4 => ⟨_, rfl, ?_, fun x hx => ?_, ?_, ?_, ?_, Ex.mut (x'.trans e4) hpl⟩
        · have e0 : (rowE e [ca]).map vS = ((aftE e).filter fun c => !decide (([ca], c) ∈ e.2.2)).map fun c => vS ([ca] ++ e.1 ++ c) := by
            unfold rowE
            rw [List.map_map]
            rfl
          rw [e0]
          refine el_lcX _ _ (ev_var rfl) (sq_of ha') (by omega) (fun x => rfl) (fun c H5 hc e5 => et_B (ev_pnin (ev_var rfl) (ev_var rfl) (ev_var rfl) (e5 _ _ hoe'))) (fun c H5 hc e5 _ => ?_)
          obtain ⟨cc, rfl, _⟩ := (aft_mem har he).mp hc
          exact ev_op (ev_op (ev_var rfl) (ev_var rfl) (rv_addS (by simp; omega))) (ev_var rfl) (rv_addS (by simp; omega))
        · rw [upd_same, List.take_add_one, haa, List.flatMap_append, ← List.append_assoc, List.map_append]
          simp
        · obtain ⟨o', q⟩ := hfz' x hx
          exact ⟨o', by rw [upd_ne (ned x hx)]; exact e4 _ _ q⟩
        · rw [upd_ne npb]; exact e4 _ _ hb'
        · rw [upd_ne npa]; exact e4 _ _ ha'
        · rw [upd_ne npf]; exact e4 _ _ hpf'
      · obtain ⟨z9, rfl, hl', hfz', hb', ha', hpf', x'⟩ := hQ
        rw [List.length_map, List.take_length] at hl'
        refine ⟨⟨_, _, _, _, _, rfl, ?_, hfz', hlen, x'⟩, hpf'⟩
        rw [take_at hme, List.flatMap_append, ← List.append_assoc]
        show H' pl = some (.lst ((baseM W L ++ (es.take m).flatMap genE ++ (genE e ++ [])).map vS))
        rw [List.append_nil]
        exact hl'
    · obtain ⟨y4, y5, y7, y8, y9, rfl, hl, hfz, hlen, x0⟩ := hP
      exact ⟨y4, y5, y7, y8, y9, rfl, (Ex.new hTt) _ _ hl, hfz.ex (Ex.new hTt), hlen, x0.trans (Ex.new hTt)⟩
    · obtain ⟨y4, y5, y7, y8, y9, rfl, hl, hfz, hlen, x0⟩ := hP
      rw [List.take_length] at hl
      have ha := acc_len (l := L) hW hll har hlen es.length
      rw [List.take_length] at ha
      refine ⟨.ref pl, rfl, pl, baseM W L ++ es.flatMap genE, rfl, sq_of hl, acc_txt hW har, by omega, hT.ext x0, fun H2 eN tN => ?_⟩
      rw [gath_is hW hLn har]
      exact k H2 ((LamX.ExtN.of x0).trans eN) tN

abbrev s_missing : Stmt := topS 19
abbrev nm_missing : List Str := ["word", "letters"]
theorem sc_missing : FnScope nm_missing ["word", "letters"] (defScope s_missing) := ⟨rfl, rfl, rfl, by decide +kernel, rfl, by decide +kernel, by decide +kernel⟩
theorem ok_missing {f : Addr} {fd : FuncData} {a_BadLetters : Addr} {a_BadWord : Addr} (F : Fun K "missing" "missing" s_missing f fd) (B : Bl mg) (c_check_word : CalN P w K mg base 2 "check_word" ["word"] (sp_check a_BadWord)) (c_check_letters : CalN P w K mg base 3 "check_letters" ["letters", "word"] (sp_checkL a_BadLetters)) (c_missing_by : CalN P w K mg base 5 "missing_by" ["word", "letters"] (sp_missby T)) :
    FnOk P w K mg base (L2N.CX P w) 6 f fd ["word", "letters"] (sp_missing a_BadWord a_BadLetters T) := by
  refine okXN F sc_missing (fun vs H Q E h => ?_) (fun cdv A outer s H vs Q E hr h => ?_)
  · obtain ⟨v1, n1, v2, n2, rfl, hT1, hT2, k1, k2, k3⟩ := h
    first | rfl | (rw [List.length_cons, hl]; rfl)
  · obtain ⟨v1, n1, v2, n2, rfl, hT1, hT2, k1, k2, k3⟩ := h
    refine ⟨_, (pss_cons (ps_expr (pe_calN c_check_word (hr.mono (by decide)) (by rfl) (L2N.passes_call (L2N.takes_of rfl rfl rfl rfl) (fun _ _ _ _ h => h)) (pa_cons (pv 0) pa_nil)))
      (pss_cons (ps_expr (pe_calN c_check_letters (hr.mono (by decide)) (by rfl) (L2N.passes_call (L2N.takes_of rfl rfl rfl rfl) (fun _ _ _ _ h => h)) (pa_cons (pv 1) (pa_cons (pv 0) pa_nil))))
      (pss_one (ps_ret (pe_calN c_missing_by (hr.mono (by decide)) (by rfl) (L2N.passes_call (L2N.takes_of rfl rfl rfl rfl) (fun _ _ _ _ h => h)) (pa_cons (pv 0) (pa_cons (pv 1) pa_nil))))))), ?_⟩
    refine q_dropC (ea_cons (ev_var rfl) ea_nil) fun H1 e1 => ?_
    refine ⟨v1, n1, rfl, hT1.ex e1, fun h1 H2 e2 => ?_, fun h1 H2 e2 => k1 h1 H2 (e1.trans e2)⟩
    obtain ⟨W, rfl, hw⟩ := text_wd hT1 h1
    refine q_dropC (ea_cons (ev_var rfl) (ea_cons (ev_var rfl) ea_nil)) fun H3 e3 => ?_
    have x3 : Ex H H3 := (e1.trans e2).trans e3
    refine ⟨v2, n2, W, rfl, hT2.ex x3, hw, fun l hl ha ho H4 e4 => ?_, fun hb H4 e4 => k2 W rfl hw hb H4 (x3.trans e4)⟩
    subst hl
    obtain ⟨l', el, hlw, _, hr⟩ := areL_wd hT2 ha
    obtain rfl : l = l' := S_inj (V.str.inj el)
    obtain ⟨t0, kk⟩ := k3 W l rfl rfl hw ha ho
    have x4 : Ex H H4 := x3.trans e4
    refine s_retC (ea_cons (ev_var rfl) (ea_cons (ev_var rfl) ea_nil)) fun H5 e5 => ?_
    have x5 : Ex H H5 := x4.trans e5
    exact ⟨W, l, rfl, hw, hlw, ris_nd hr, t0.ext x5, fun H6 eN tN => kk H6 ((LamX.ExtN.of x5).trans eN) tN⟩

abbrev s_word_of : Stmt := topS 22
abbrev nm_word_of : List Str := ["letters", "some", "texts", "text", "known", "longest"]
theorem sc_word_of : FnScope nm_word_of ["letters", "some"] (defScope s_word_of) := ⟨rfl, rfl, rfl, by decide +kernel, rfl, by decide +kernel, by decide +kernel⟩
theorem ok_word_of {f : Addr} {fd : FuncData} {a_BadLetters : Addr} {a_NoWord : Addr} (F : Fun K "word_of" "word_of" s_word_of f fd) (B : Bl mg) (c_missing_by : CalN P w K mg base 5 "missing_by" ["word", "letters"] (sp_missby T)) (c_check_texts : CalN P w K mg base 3 "check_texts" ["letters", "some"] (sp_checkT a_BadLetters a_NoWord)) (c_longer_ones : CalN P w K mg base 1 "longer_ones" ["letters", "shorter", "known", "texts"] (sp_longer)) (g_MOST : ∃ u, mg "MOST" = some u ∧ RelV (.int 100) u) (e_NoWord : Er K mg "NoWord" (a_NoWord) bmE) :
    FnOk P w K mg base (L2N.CX P w) 6 f fd ["letters", "some"] (sp_wordof a_BadLetters a_NoWord T) := by
  obtain ⟨u_MOST, g_MOST, r_MOST⟩ := g_MOST
  refine okXN F sc_word_of (fun vs H Q E h => ?_) (fun cdv A outer s H vs Q E hr h => ?_)
  · obtain ⟨v, n, v2, n2, rfl, hT, hT2, hI, k1, k2, k3⟩ := h
    first | rfl | (rw [List.length_cons, hl]; rfl)
  · obtain ⟨v, n, v2, n2, rfl, hT, hT2, hI, k1, k2, k3⟩ := h
    refine ⟨_, (pss_cons (ps_expr (pe_calN c_check_texts (hr.mono (by decide)) (by rfl) (L2N.passes_call (L2N.takes_of rfl rfl rfl rfl) (fun _ _ _ _ h => h)) (pa_cons (pv 0) (pa_cons (pv 1) pa_nil))))
      (pss_cons (ps_set (i := 2) sc_word_of.nd rfl (.inl rfl) pe_dnewK)
      (pss_cons (ps_for (passes_of rfl) rfl (pi_list (pv 1)) (pg_name (i := 3) sc_word_of.nd rfl (.inl rfl))
      (pss_one (ps_dput (hu_of hr) (pv 2) (pv 3) pe_bl rfl)))
      (pss_cons (ps_set (i := 4) sc_word_of.nd rfl (.inl rfl) (pe_disp (pps_cons pe_str pe_bl pps_nil) (by rfl) (by rfl) (fun z => by cases z) (by decide)))
      (pss_cons (ps_set (i := 5) sc_word_of.nd rfl (.inl rfl) pe_str)
      (pss_cons (ps_while (passes_of rfl) (pt_cmpR op_gt (pe_callB call_lenD (by rfl) B.len PySem.boot_len (pa_cons (pv 4) pa_nil)) pe_int (nomark _)) (pss_cons (ps_set (i := 5) sc_word_of.nd rfl (.inl rfl) (pe_ix ix_list (pe_callB (cr_sortedDx rfl) (by rfl) B.sorted (by decide +kernel) (pa_cons (pv 4) pa_nil)) pe_int (fun _ _ => rfl)))
      (pss_cons (ps_if (PW.pt (pw_or (pt_cmpR op_gt (pe_callB call_len_str (by rfl) B.len PySem.boot_len (pa_cons (pv 5) pa_nil)) (pe_glob rfl g_MOST r_MOST) (nomark _)) (pw_or1 (pt_cmpR op_gt (pe_callB call_lenD (by rfl) B.len PySem.boot_len (pa_cons (pv 4) pa_nil)) (pe_op op_add (pe_glob rfl g_MOST r_MOST) pe_int) (nomark _))))) (pss_one (L2N.ps_raise rfl (L2N.takes_of rfl rfl rfl rfl) (L2N.pmk_own PySem.F.excBase_ValueError e_NoWord.x e_NoWord.g e_NoWord.k (raises_own e_NoWord.b e_NoWord.t) rfl))) pss_nil)
      (pss_one (ps_set (i := 4) sc_word_of.nd rfl (.inl rfl) (pe_calN c_longer_ones (hr.mono (by decide)) (by rfl) (L2N.passes_call (L2N.takes_of rfl rfl rfl rfl) (fun _ _ _ _ h => h)) (pa_cons (pv 0) (pa_cons (pe_callB (cr_sortedDx rfl) (by rfl) B.sorted (by decide +kernel) (pa_cons (pv 4) pa_nil)) (pa_cons (pv 4) (pa_cons (pv 2) pa_nil))))))))))
      (pss_cons (ps_if (pt_cmpR (op_neD hr.units) (pe_calN c_missing_by (hr.mono (by decide)) (by rfl) (L2N.passes_call (L2N.takes_of rfl rfl rfl rfl) (fun _ _ _ _ h => h)) (pa_cons (pv 5) (pa_cons (pv 0) pa_nil))) (pv 1) (nomark _)) (pss_one (L2N.ps_raise rfl (L2N.takes_of rfl rfl rfl rfl) (L2N.pmk_own PySem.F.excBase_ValueError e_NoWord.x e_NoWord.g e_NoWord.k (raises_own e_NoWord.b e_NoWord.t) rfl))) pss_nil)
      (pss_one (ps_ret (pv 5)))))))))), ?_⟩
    refine q_dropC (ea_cons (ev_var rfl) (ea_cons (ev_var rfl) ea_nil)) fun H1 e1 => ⟨v, n, v2, n2, rfl, hT.ex e1, hT2.ex e1, hI.ex hT2 e1, fun h H2 e2 => k1 h H2 (e1.trans e2), fun l hv ha hb H2 e2 => k2 l hv ha (fun g => hb (g.ex e1)) H2 (e1.trans e2), fun l hv ha hg H2 e2 => ?_⟩
    subst hv
    obtain ⟨a, xs, rfl, hxs, hall⟩ := hg.back hT2 e1
    obtain ⟨hxz, hxt⟩ := hI a xs rfl hxs
    obtain ⟨ys, rfl, hys⟩ := texts_of (l := l) fun x hx => List.all_eq_true.mp hall x hx
    rw [List.length_map] at hxz
    obtain ⟨t0, kq, ke⟩ := k3 l a ys rfl ha rfl hxs hys
    obtain ⟨hlw, hln⟩ := areL_is ha
    have hll := hlw.1
    have x2 : Ex H H2 := e1.trans e2
    refine q_asgDK fun pt H3 hpt e3 h3 => ?_
    have hptH : H pt = none := fresh_back x2 hpt
    refine q_forLn (K := K) (j := 3) (a := a) (xs := ys.map vS) (ev_var rfl) (sq_of ((x2.trans e3) _ _ hxs)) (fun m σ' H' => ∃ kt tk y3, σ' = [some (vS l), some (.ref a), some (.ref pt), y3, none, none] ∧ H' pt = some (.dK kt) ∧ keysAre kt tk ∧ tk.length ≤ m ∧ (∀ x, x ∈ tk ↔ x ∈ ys.take m) ∧ Ex H H')
      (fun H4 e4 => ⟨[], [], none, rfl, e4 _ _ h3, rfl, Nat.le_refl _, fun x => by simp, (x2.trans e3).trans e4⟩) (fun m σ' H' _ hP => ?_) (fun m x σ' H' hx hP => ?_) (fun σ' H' hP => ?_)
    · obtain ⟨_, _, _, _, _, _, _, _, x4⟩ := hP
      exact sq_of (x4 _ _ hxs)
    · obtain ⟨kt, tk, y3, rfl, h4, hk4, hz4, hm4, x4⟩ := hP
      rw [List.getElem?_map] at hx
      obtain ⟨t, ht, rfl⟩ : ∃ t, ys[m]? = some t ∧ x = vS t := by
        cases q : ys[m]? with
        | none => rw [q] at hx; cases hx
        | some y => rw [q] at hx; exact ⟨y, rfl, (Option.some.inj hx).symm⟩
      have hmz := (List.getElem?_eq_some_iff.mp ht).1
      refine s_putZ (kvs := kt) (k := Sum.inr (S t)) h4 (ev_var rfl) (ev_var rfl) ev_c (by rw [hk4.len]; omega) fun H5 e5 => ⟨_, addK tk t, _, rfl, upd_same, keys_put hk4, Nat.le_trans (addK_len _ _) (by omega), fun x => ?_, Ex.mut (x4.trans e5) hptH⟩
      rw [addK_mem, hm4, List.take_add_one, ht, List.mem_append]
      simp
    · obtain ⟨kt, tk, y3, rfl, h4, hk4, hz4, hm4, x4⟩ := hP
      rw [List.length_map, List.take_of_length_le (Nat.le_refl _)] at hm4
      refine q_asgD1 (k := []) (w := .bl true) ev_c ev_c (fun G _ p _ => ⟨ev_c, ev_c⟩) fun pk0 H5 hpk0 e5 h5 => ?_
      refine q_asg (v := vS []) ev_c fun H6 e6 => ?_
      have hR : ∃ R, R = loopF l ys 103 [[]] [] := ⟨_, rfl⟩
      obtain ⟨R, hR⟩ := hR
      refine q_while (fun m σ' H' => ∃ k kvs kn pk lon, σ' = [some (vS l), some (.ref a), some (.ref pt), y3, some (.ref pk), some (vS lon)] ∧ H' pk = some (.dK kvs) ∧ keysAre kvs kn ∧ OfK l k kn ∧ kn.length ≤ 10100 ∧ lon.length ≤ 100 ∧ (∀ c ∈ lon, c ∈ l) ∧ m + k = 103 ∧ k ≤ 101 ∧ loopF l ys m kn lon = R ∧ H' pt = some (.dK kt) ∧ Ex H H') 103
        ⟨0, _, [[]], pk0, [], rfl, e6 _ _ h5, rfl, OfK.zero, by decide, by decide, fun c hc => (by cases hc), rfl, by decide, hR.symm, (e5.trans e6) _ _ h4, (x4.trans e5).trans e6⟩ ?_
      rintro m _ H7 ⟨k, kvs, kn, pk, lon, rfl, h7, hk7, ok7, hz7, hl7, hc7, hmk, hk1, hR7, ht7, x7⟩
      refine ⟨decide ((kvs.length : Int) > 0), et_test (ev_op (ev_lenD (ev_var rfl) h7) ev_c rv_I0), fun hb H8 e8 => ?_, fun hb H8 e8 => ?_⟩
      · have hpos : 0 < kn.length := by
          have := of_decide_eq_true hb
          rw [hk7.len] at this
          omega
        obtain ⟨t, r, hs⟩ : ∃ t r, srt kn = t :: r := by
          cases q : srt kn with
          | nil =>
            have := srt_length kn
            rw [q] at this
            simp at this
            omega
          | cons t r => exact ⟨t, r, rfl⟩
        have htm : t ∈ kn := srt_mem.mp (by rw [hs]; exact List.mem_cons_self)
        have htl := ok7.len t htm
        refine ⟨fun σ2 H2 => ∃ m', m' < m ∧ ∃ k kvs kn pk lon, σ2 = [some (vS l), some (.ref a), some (.ref pt), y3, some (.ref pk), some (vS lon)] ∧ H2 pk = some (.dK kvs) ∧ keysAre kvs kn ∧ OfK l k kn ∧ kn.length ≤ 10100 ∧ lon.length ≤ 100 ∧ (∀ c ∈ lon, c ∈ l) ∧ m' + k = 103 ∧ k ≤ 101 ∧ loopF l ys m' kn lon = R ∧ H2 pt = some (.dK kt) ∧ Ex H H2, fun _ _ h => h, ?_⟩
        refine q_asg (v := vS t) (ev_opL1 (xs := (srt kn).map vS) (el_sortedD (ev_var rfl) (e8 _ _ h7) hk7 (by omega)) (fun _ _ => ev_c) (fun p H9 h9 _ => rv_ixL (K := K) (sq_of h9) (by rw [hs]; exact atI_nat (j := 0) rfl))) fun H9 e9 => ?_
        have x9 : Ex H H9 := (x7.trans e8).trans e9
        have h79 : H9 pk = some (.dK kvs) := (e8.trans e9) _ _ h7
        cases m with
        | zero => omega
        | succ m =>
          unfold loopF at hR7
          rw [hs] at hR7
          dsimp only at hR7
          refine q_when (b := t.length > 100 || kn.length > 101) (et_is (et_or (et_test (ev_op (ev_lenS (l := t) (ev_var rfl) (by omega)) ev_c rv_I0)) fun _ => et_test (ev_op (ev_lenD (ev_var rfl) h79) (ev_op ev_c ev_c rv_I0) rv_I0)) ?_) (fun hb H10 e10 => ?_) (fun hb H10 e10 => ?_)
          · rw [hk7.len]
            congr 1
            · exact decide_eq_decide.mpr (by omega)
            · exact decide_eq_decide.mpr (by omega)
          · rw [if_pos hb] at hR7
            refine ke ?_ H10 (NX.of (x9.trans e10))
            unfold wordF
            rw [← hR, ← hR7]
          · rw [if_neg (by rw [hb]; decide)] at hR7
            rw [Bool.or_eq_false_iff, decide_eq_false_iff_not, decide_eq_false_iff_not] at hb
            have h710 := e10 _ _ h79
            refine s_asgLong (sh := srt kn) (kn := kn) (tx := tk) (ev_var rfl) (el_sortedD (ev_var rfl) h710 hk7 (by omega)) (ev_var rfl) (ev_var rfl) hln hll (srt_nd ok7.nd) (by rw [srt_length]; omega) (fun x hx => by rw [ok7.len x (srt_mem.mp hx)]; omega) h710 hk7 (((e8.trans e9).trans e10) _ _ ht7) hk4 fun p kvs' H11 hp e11 h11 hk11 => ?_
            rw [longF_congr (fun _ => Iff.rfl) hm4] at hk11
            rw [← hs] at hR7
            exact ⟨m, by omega, k + 1, kvs', _, p, t, rfl, h11, hk11, ok7.next hln, Nat.le_trans longF_len (show (srt kn).length * l.length ≤ 101 * 100 from Nat.mul_le_mul (by rw [srt_length]; omega) hll), by omega, ok7.mem t htm, by omega, by omega, hR7, (((e8.trans e9).trans e10).trans e11) _ _ ht7, (x9.trans e10).trans e11⟩
      · have hkn : kn = [] := by
          have := of_decide_eq_false hb
          rw [hk7.len] at this
          exact List.length_eq_zero_iff.mp (by omega)
        subst hkn
        have x8 : Ex H H8 := x7.trans e8
        have hRl : R = some lon := by
          rw [← hR7]
          cases m with
          | zero => omega
          | succ m => rfl
        have hlw2 : Wd lon := ⟨hl7, fun c hc => hlw.2 c (hc7 c hc)⟩
        have hcy : ∀ y ∈ ys, Cps y := fun y hy c hc => azs_lt (hlw.2 c (hys y hy c hc))
        refine q_whenN (T := T) (b := !decide (missF lon l = ys)) (etn_test (evn_opL1 (xs := (missF lon l).map vS) (y := .ref a) (eln_call (EvA.toN fun G _ => ea_cons (ev_var rfl) (ea_cons (ev_var rfl) ea_nil)) (spln_missby hlw2 hlw hln (t0.ext x8))) (Ev.toN fun G _ => ev_var rfl) (fun p G hp n => rv_neLS (K := K) (miss_cps hlw2 hlw) hcy (sq_of hp) (sq_of (n.lst (x8 _ _ hxs)))))) (fun hb H9 n9 => ?_) (fun hb H9 n9 => ?_)
        · refine ke ?_ H9 ((NX.of x8).trans n9)
          unfold wordF
          rw [← hR, hRl]
          simpa using hb
        · refine s_ret (v := vS lon) (ev_var rfl) fun H10 e10 => kq lon ?_ H10 (((NX.of x8).trans n9).trans (NX.of e10))
          unfold wordF
          rw [← hR, hRl]
          simpa using hb

abbrev s_law_door_right : Stmt := topS 30
abbrev nm_law_door_right : List Str := ["_law_ask", "_law_lists", "_law_others", "_law_handed", "_law_fixed", "_law_told_lists", "_law_text", "_law_due", "_law_some", "_law_again"]
theorem sc_law_door_right : FnScope nm_law_door_right ["_law_ask", "_law_lists", "_law_others"] (defScope s_law_door_right) := ⟨rfl, rfl, rfl, by decide +kernel, rfl, by decide +kernel, by decide +kernel⟩
theorem ok_law_door_right {f : Addr} {fd : FuncData} {T : List (Addr × Str)} {spb : SpA} (F : Fun K "_law_door_right" "_law_door_right" s_law_door_right f fd) (B : Bl mg) (c_law_deep : CalN P w K mg base 3 "_law_deep" ["_law_thing"] (sp_deep 3)) (c_law_spoilt : CalN P w K mg base 2 "_law_spoilt" ["_law_found"] (sp_spoilt 2)) (c_law_put : CalN P w K mg base 4 "_law_put" ["_law_handed", "_law_some"] (sp_put)) (Lb : LamOk P w K mg base 8 spb) :
    FnG P w K mg base (L2N.CX P w) 9 f fd ["_law_ask", "_law_lists", "_law_others"] (sp_doorR T spb) := by
  refine okXcG F sc_law_door_right (fun vs H Q E h => ?_) (fun cdv A outer s H vs Q E hcv hgd hr h => ?_)
  · obtain ⟨fa, l1, l2, t1, t2, x1, x2, rfl, hL1, hL2, T1, T2, A1, A2, hT, k⟩ := h
    first | rfl | (rw [List.length_cons, hl]; rfl)
  · obtain ⟨fa, l1, l2, t1, t2, x1, x2, rfl, hL1, hL2, T1, T2, A1, A2, hT, k⟩ := h
    refine ⟨_, (pss_cons (ps_set (i := 3) sc_law_door_right.nd rfl (.inl rfl) (pe_calN c_law_deep (hr.mono (by decide)) (by rfl) (L2N.passes_call (L2N.takes_of rfl rfl rfl rfl) (fun _ _ _ _ h => h)) (pa_cons (pv 1) pa_nil)))
      (pss_cons (ps_asg (pe_askV (i := 0) Lb (hr.mono (by decide)) rfl (.inl rfl) passLN (pv 3)) (pg_tup rfl (pgs_cons (pg_name (i := 4) sc_law_door_right.nd rfl (.inl rfl)) (pgs_cons (pg_name (i := 5) sc_law_door_right.nd rfl (.inl rfl)) pgs_nil))))
      (pss_cons (ps_par (i := 6) (j := 7) (by rfl) sc_law_door_right.nd rfl rfl (by decide) rfl rfl (pa_cons (pe_callTy (call_strD hgd hr) (by rfl) B.str_ (by decide +kernel) (pa_cons (pv 4) pa_nil)) (pa_cons (pe_callTy (call_strD hgd hr) (by rfl) B.str_ (by decide +kernel) (pa_cons (pe_ix ix_tup (pe_askV (i := 0) Lb (hr.mono (by decide)) rfl (.inl rfl) passLN (pe_calN c_law_deep (hr.mono (by decide)) (by rfl) (L2N.passes_call (L2N.takes_of rfl rfl rfl rfl) (fun _ _ _ _ h => h)) (pa_cons (pv 2) pa_nil))) pe_int (fun _ _ => rfl)) pa_nil)) pa_nil)) (by rfl))
      (pss_cons (ps_if (pt_cmpR (op_neD hr.units) (pv 3) (pv 1) (nomark _)) (pss_one (ps_ret pe_bl)) pss_nil)
      (pss_cons (ps_expr (pe_calN c_law_spoilt (hr.mono (by decide)) (by rfl) (L2N.passes_call (L2N.takes_of rfl rfl rfl rfl) (fun _ _ _ _ h => h)) (pa_cons (pv 5) pa_nil)))
      (pss_cons (ps_if (PW.pt (pw_or (pt_cmpR op_ne (pe_callTy (call_strD hgd hr) (by rfl) B.str_ (by decide +kernel) (pa_cons (pe_ix ix_tup (pe_askV (i := 0) Lb (hr.mono (by decide)) rfl (.inl rfl) passLN (pv 3)) pe_int (fun _ _ => rfl)) pa_nil)) (pv 6) (nomark _)) (pw_or1 (pt_cmpR (op_neD hr.units) (pv 3) (pv 1) (nomark _))))) (pss_one (ps_ret pe_bl)) pss_nil)
      (pss_cons (ps_for (passes_of rfl) rfl (pi_tup (pe_tup (pa_cons (pe_tup (pa_cons (pv 2) (pa_cons (pv 7) pa_nil))) (pa_cons (pe_tup (pa_cons (pv 1) (pa_cons (pv 6) pa_nil))) pa_nil)))) (pg_tup rfl (pgs_cons (pg_name (i := 8) sc_law_door_right.nd rfl (.inl rfl)) (pgs_cons (pg_name (i := 9) sc_law_door_right.nd rfl (.inl rfl)) pgs_nil)))
      (pss_cons (ps_expr (pe_calN c_law_put (hr.mono (by decide)) (by rfl) (L2N.passes_call (L2N.takes_of rfl rfl rfl rfl) (fun _ _ _ _ h => h)) (pa_cons (pv 3) (pa_cons (pv 8) pa_nil))))
      (pss_one (ps_if (PW.pt (pw_or (pt_cmpR op_ne (pe_callTy (call_strD hgd hr) (by rfl) B.str_ (by decide +kernel) (pa_cons (pe_ix ix_tup (pe_askV (i := 0) Lb (hr.mono (by decide)) rfl (.inl rfl) passLN (pv 3)) pe_int (fun _ _ => rfl)) pa_nil)) (pv 9) (nomark _)) (pw_or1 (pt_cmpR (op_neD hr.units) (pv 3) (pv 8) (nomark _))))) (pss_one (ps_ret pe_bl)) pss_nil))))
      (pss_one (ps_ret pe_bl))))))))), ?_⟩
    obtain ⟨r1, hl1, hr1⟩ := hL1
    obtain ⟨r2, hl2, hr2⟩ := hL2
    have LH1 : LL H l1 t1 := ⟨r1, hl1, hr1⟩
    have LH2 : LL H l2 t2 := ⟨r2, hl2, hr2⟩
    refine ⟨_, rfl, _, rfl, .inr (.inr ⟨by decide, l1, r1, t1, rfl, hl1, hr1, T1.len, T1.sz, fun p p2 G hp hp2 hne eG hG hG2 => ?_⟩)⟩
    have np2 : NN T H p2 G := NN.of hp2 eG
    have n1 : NX T H G := NX.of eG
    have LG : LL G p t1 := ⟨p2, hG, hG2⟩
    refine q_ask2 (T := T) (K := K) (Pre := PreL t1) (evp_var rfl fun G' n => ⟨p, rfl, LG.nx n⟩) rfl (A1.nx n1) (n1.2 hT) fun a H1 nn1 ha => ?_
    have n2 : NX T H H1 := n1.trans nn1.nx
    refine q_parN (T := T) (ean_cons (Ev.toN fun G' n => ev_strV (K := K) (ev_var rfl) (n.lst ha) T1.okx) (ean_cons (evn_strL (K := K) (eln_ask (K := K) (Pre := PreL t2) (fun G' n Q q => ⟨_, rfl, _, rfl, .inr (.inr ⟨by decide, l2, r2, t2, rfl, (n2.trans n).lst hl2, (n2.trans n).lst hr2, T2.len, T2.sz, fun q1 q2 G2 _ _ _ e2 h1 h2 => q _ G2 (NX.of e2) ⟨q1, rfl, q2, h1, h2⟩⟩)⟩) rfl (A2.nx n2) (n2.2 hT)) T2.okx) ean_nil)) fun H2 m2 => ?_
    have n3 : NX T H H2 := n2.trans m2
    refine q_when (b := false) (et_test (ev_op (ev_var rfl) (ev_var rfl) (rv_neLL (K := K) (fun G' e => LG.nx ((nn1.nx.trans m2).trans (NX.of e))) (fun G' e => LH1.nx (n3.trans (NX.of e))) T1.ok))) (fun h => nomatch h) (fun _ H3 e3 => ?_)
    have haH3 := e3 _ _ (m2.lst ha)
    refine ⟨_, rfl, _, rfl, .inr ⟨by decide, a, x1, rfl, haH3, T1.fx, T1.okx.sz, fun G4 ys hO => ?_⟩⟩
    have n4 : NX T G G4 := Of.nx ((nn1.post m2).post (NX.of e3)) haH3 hO
    have nH4 := n1.trans n4
    refine q_whenN (T := T) (b := false) (etn_is (etn_or (a := false) (b := false) (etn_is (etn_test (evn_op (evn_strL (K := K) (eln_ask (K := K) (Pre := PreL t1) (evp_var rfl fun G' n => ⟨p, rfl, LG.nx (n4.trans n)⟩) rfl (A1.nx nH4) (nH4.2 hT)) T1.okx) (Ev.toN fun G _ => ev_var rfl) (fun G _ => rv_ne rfl))) (by rw [decide_eq_true rfl]; rfl)) (fun _ => etn_test (evn_op (x := .ref p) (y := .ref l1) (Ev.toN fun _ _ => ev_var rfl) (Ev.toN fun _ _ => ev_var rfl) (fun G' n => rv_neLL (K := K) (fun G2 e => LG.nx ((n4.trans n).trans (NX.of e))) (fun G2 e => LH1.nx ((nH4.trans n).trans (NX.of e))) T1.ok)))) rfl) (fun h => nomatch h) (fun _ H5 m5 => ?_)
    have n5 : NX T G H5 := n4.trans m5
    have g5p2 := n5.lst hG2
    have g5p := n5.lst hG
    have two : 2 ≤ sizeLine := by decide
    refine ⟨_, rfl, _, rfl, two, fun c1 hc1 => ⟨_, rfl, _, rfl, two, fun c2 hc2 => ⟨two, fun c3 hc3 => ⟨c3, rfl, ⟨_, st_of upd_same⟩, ?_⟩⟩⟩⟩
    have ex : Ex H5 (upd (upd (upd H5 c1 (.tup [.ref l2, .str (dL x2).shown])) c2 (.tup [.ref l1, .str (dL x1).shown])) c3 (.tup [.ref c1, .ref c2])) := ((Ex.new hc1).trans (Ex.new hc2)).trans (Ex.new hc3)
    have gc1 : upd (upd (upd H5 c1 (.tup [.ref l2, .str (dL x2).shown])) c2 (.tup [.ref l1, .str (dL x1).shown])) c3 (.tup [.ref c1, .ref c2]) c1 = some (.tup [.ref l2, .str (dL x2).shown]) := ((Ex.new hc2).trans (Ex.new hc3)) _ _ upd_same
    have gc2 : upd (upd (upd H5 c1 (.tup [.ref l2, .str (dL x2).shown])) c2 (.tup [.ref l1, .str (dL x1).shown])) c3 (.tup [.ref c1, .ref c2]) c2 = some (.tup [.ref l1, .str (dL x1).shown]) := (Ex.new hc3) _ _ upd_same
    have gc3 : upd (upd (upd H5 c1 (.tup [.ref l2, .str (dL x2).shown])) c2 (.tup [.ref l1, .str (dL x1).shown])) c3 (.tup [.ref c1, .ref c2]) c3 = some (.tup [.ref c1, .ref c2]) := upd_same
    generalize upd (upd (upd H5 c1 (.tup [.ref l2, .str (dL x2).shown])) c2 (.tup [.ref l1, .str (dL x1).shown])) c3 (.tup [.ref c1, .ref c2]) = Gx at ex gc1 gc2 gc3 ⊢
    have gxp2 := ex _ _ g5p2
    have gxp := ex _ _ g5p
    have np2x : NN T H p2 Gx := np2.post (n5.trans (NX.of ex))
    have nHx := np2x.nx
    have tne : ∀ {c : Addr} {ys : List V}, Gx c = some (.tup ys) → c ≠ p2 := fun h z => by
      rw [z, gxp2] at h
      cases h
    have turn : ∀ (l rr : Addr) (tc tn : List (List Nat)) (xn : List V) (y4 y5 y6 y7 : Option V) (G' : Hp) (D : Ends), H l = some (.lst [.ref rr]) → H rr = some (.lst (tn.map vS)) → (∀ t ∈ tc, Cps t) → Ts tn xn → AskG T spb (PreL tn) xn fa H → OfN T p2 Gx (tc.map vS) G' →
        (∀ G3, OfN T p2 Gx (tn.map vS) G3 → D.nx [some (.ref fa), some (.ref l1), some (.ref l2), some (.ref p), y4, y5, y6, y7, some (.ref l), some (.str (dL xn).shown)] G3) →
        tSeq (tDrop (tCall sp_put [] E0 (tCons (tVar 3) (tCons (tVar 8) tNil)))) (tIfS (tOr (tTest (tOp rNe (tCB (rStrD K) (tCons (tOp (rIxT K) (tAskV 0 spb (tVar 3)) (tC (.int 0))) tNil)) (tVar 9))) (tTest (tOp (rNeD K) (tVar 3) (tVar 8)))) (tRet (tC (.bl false))) tNext) D [some (.ref fa), some (.ref l1), some (.ref l2), some (.ref p), y4, y5, y6, y7, some (.ref l), some (.str (dL xn).shown)] G' := by
      intro l rr tc tn xn y4 y5 y6 y7 G' D hl hrr hcp Tn An o hk
      have nG := OfN.nx np2x o
      refine ⟨_, rfl, _, rfl, p, l, p2, rr, tc, tn, rfl, o.lst hne gxp, o.2.2, nG.lst hl, nG.lst hrr, (ne_of_none hrr hp2).symm, hcp, Tn.len, Tn.sz, fun G2 hO => ?_⟩
      have o2 := o.put hO
      have nG2 := OfN.nx np2x o2
      have L2p : LL G2 p tn := ⟨p2, o2.lst hne gxp, o2.2.2⟩
      have Ll : LL H l tn := ⟨rr, hl, hrr⟩
      exact s_ifN (T := T) (b := false) (etn_is (etn_or (a := false) (b := false) (etn_is (etn_test (evn_op (evn_strL (K := K) (eln_ask (K := K) (Pre := PreL tn) (evp_var rfl fun G' n => ⟨p, rfl, L2p.nx n⟩) rfl (An.nx nG2) (nG2.2 hT)) Tn.okx) (Ev.toN fun G _ => ev_var rfl) (fun G _ => rv_ne rfl))) (by rw [decide_eq_true rfl]; rfl)) (fun _ => etn_test (evn_op (x := .ref p) (y := .ref l) (Ev.toN fun _ _ => ev_var rfl) (Ev.toN fun _ _ => ev_var rfl) (fun G' n => rv_neLL (K := K) (fun G2 e => L2p.nx (n.trans (NX.of e))) (fun G2 e => Ll.nx ((nG2.trans n).trans (NX.of e))) Tn.ok)))) rfl) (fun h => nomatch h) (fun _ G3 m3 => hk G3 (o2.to m3))
    refine for_tup (fun i σ' G' => (∃ y8 y9, σ' = [some (.ref fa), some (.ref l1), some (.ref l2), some (.ref p), some (.ref a), some (.ref a), some (.str (dL x1).shown), some (.str (dL x2).shown), y8, y9]) ∧ OfN T p2 Gx ((if i = 1 then t2 else t1).map vS) G') ⟨⟨none, none, rfl⟩, OfN.of (NX.refl _) gxp2⟩ (fun i σ' G' _ q => st_of (q.2.tup (tne gc3) gc3)) (fun i x σ' G' hx q => ?_) (fun σ' G' q => ?_)
    · obtain ⟨⟨y8, y9, rfl⟩, o⟩ := q
      match i, hx, o with
      | 0, hx, o =>
        cases hx
        refine ⟨c1, _, rfl, st_of (o.tup (tne gc1) gc1), rfl, _, _, rfl, _, _, rfl, rfl, ?_⟩
        exact turn l2 r2 t1 t2 x2 _ _ _ _ G' _ hl2 hr2 T1.cps T2 A2 o fun G3 o3 => ⟨⟨_, _, rfl⟩, o3⟩
      | 1, hx, o =>
        cases hx
        refine ⟨c2, _, rfl, st_of (o.tup (tne gc2) gc2), rfl, _, _, rfl, _, _, rfl, rfl, ?_⟩
        exact turn l1 r1 t2 t1 x1 _ _ _ _ G' _ hl1 hr1 T2.cps T1 A1 o fun G3 o3 => ⟨⟨_, _, rfl⟩, o3⟩
      | n + 2, hx, o => cases hx
    · exact k G' (OfN.nx np2x q.2)

abbrev s_law_new_right : Stmt := topS 33
abbrev nm_law_new_right : List Str := ["_law_ask", "_law_words", "_law_word", "_law_fixed", "_law_found", "_law_text"]
theorem sc_law_new_right : FnScope nm_law_new_right ["_law_ask", "_law_words"] (defScope s_law_new_right) := ⟨rfl, rfl, rfl, by decide +kernel, rfl, by decide +kernel, by decide +kernel⟩
theorem ok_law_new_right {f : Addr} {fd : FuncData} {T : List (Addr × Str)} {spa : SpA} (F : Fun K "_law_new_right" "_law_new_right" s_law_new_right f fd) (B : Bl mg) (c_law_spoilt : CalN P w K mg base 2 "_law_spoilt" ["_law_found"] (sp_spoilt 2)) (Lm : LamOk P w K mg base 8 spa) :
    FnG P w K mg base (L2N.CX P w) 9 f fd ["_law_ask", "_law_words"] (sp_newR T spa) := by
  refine okXcG F sc_law_new_right (fun vs H Q E h => ?_) (fun cdv A outer s H vs Q E hcv hgd hr h => ?_)
  · obtain ⟨fa, ws, words, g, rfl, hws, hA, hok, hT, k⟩ := h
    first | rfl | (rw [List.length_cons, hl]; rfl)
  · obtain ⟨fa, ws, words, g, rfl, hws, hA, hok, hT, k⟩ := h
    refine ⟨_, (pss_cons (ps_for (passes_of rfl) rfl (pi_list (pv 1)) (pg_name (i := 2) sc_law_new_right.nd rfl (.inl rfl))
      (pss_cons (ps_asg (pe_askV (i := 0) Lm (hr.mono (by decide)) rfl (.inl rfl) passLN (pv 2)) (pg_tup rfl (pgs_cons (pg_name (i := 3) sc_law_new_right.nd rfl (.inl rfl)) (pgs_cons (pg_name (i := 4) sc_law_new_right.nd rfl (.inl rfl)) pgs_nil))))
      (pss_cons (ps_set (i := 5) sc_law_new_right.nd rfl (.inl rfl) (pe_callTy (call_strD hgd hr) (by rfl) B.str_ (by decide +kernel) (pa_cons (pv 3) pa_nil)))
      (pss_cons (ps_expr (pe_calN c_law_spoilt (hr.mono (by decide)) (by rfl) (L2N.passes_call (L2N.takes_of rfl rfl rfl rfl) (fun _ _ _ _ h => h)) (pa_cons (pv 4) pa_nil)))
      (pss_one (ps_if (pt_cmpR op_ne (pe_callTy (call_strD hgd hr) (by rfl) B.str_ (by decide +kernel) (pa_cons (pe_ix ix_tup (pe_askV (i := 0) Lm (hr.mono (by decide)) rfl (.inl rfl) passLN (pv 2)) pe_int (fun _ _ => rfl)) pa_nil)) (pv 5) (nomark _)) (pss_one (ps_ret pe_bl)) pss_nil))))))
      (pss_one (ps_ret pe_bl))), ?_⟩
    refine q_forLn (K := K) (j := 2) (a := ws) (xs := words.map vS) (ev_var rfl) (sq_of hws) (fun m σ' H' => (∃ y2 y3 y4 y5, σ' = [some (.ref fa), some (.ref ws), y2, y3, y4, y5]) ∧ NX T H H') (fun H2 e2 => ⟨⟨none, none, none, none, rfl⟩, NX.of e2⟩) (fun m σ' H' _ p => sq_of (p.2.lst hws)) (fun m x σ' H' hx p => ?_) (fun σ' H' p => ?_)
    · obtain ⟨⟨y2, y3, y4, y5, rfl⟩, n1⟩ := p
      rw [List.getElem?_map] at hx
      obtain ⟨l, hl, rfl⟩ : ∃ l, words[m]? = some l ∧ x = vS l := by
        cases q : words[m]? with
        | none => rw [q] at hx; cases hx
        | some y => rw [q] at hx; exact ⟨y, rfl, (Option.some.inj hx).symm⟩
      have hm := List.mem_of_getElem? hl
      have hx := okS_is (hok l hm).1
      refine q_ask2 (T := T) (K := K) (evp_var rfl fun _ _ => rfl) rfl ((hA l hm).nx n1) (n1.2 hT) fun a H1 nn1 ha => ?_
      refine q_asg (ev_strV (K := K) (ev_var rfl) ha hx) fun H2 e2 => ?_
      refine ⟨_, rfl, _, rfl, .inr ⟨by decide, a, g l, rfl, e2 _ _ ha, (hok l hm).2, hx.sz, fun G ys hO => ?_⟩⟩
      have nG := Of.nx (nn1.post (NX.of e2)) (e2 _ _ ha) hO
      have n2 := n1.trans nG
      refine s_ifN (T := T) (b := false) (etn_is (etn_test (evn_op (evn_strL (K := K) (eln_ask (K := K) (evp_var rfl fun _ _ => rfl) rfl ((hA l hm).nx n2) (n2.2 hT)) hx) (Ev.toN fun G _ => ev_var rfl) (fun G _ => rv_ne rfl))) (by rw [decide_eq_true rfl]; rfl)) (fun h => nomatch h) (fun _ H3 n3 => ⟨⟨_, _, _, _, rfl⟩, n2.trans n3⟩)
    · exact s_ret (v := .bl true) ev_c fun H3 e3 => k H3 (p.2.trans (NX.of e3))

abbrev s_law_doors_right : Stmt := topS 32
abbrev nm_law_doors_right : List Str := ["_law_asks", "_law_lists", "_law_others", "_law_ask"]
theorem sc_law_doors_right : FnScope nm_law_doors_right ["_law_asks", "_law_lists", "_law_others"] (defScope s_law_doors_right) := ⟨rfl, rfl, rfl, by decide +kernel, rfl, by decide +kernel, by decide +kernel⟩
theorem ok_law_doors_right {f : Addr} {fd : FuncData} {T : List (Addr × Str)} {spb : SpA} (F : Fun K "_law_doors_right" "_law_doors_right" s_law_doors_right f fd) (B : Bl mg) (c_law_door_right : CalG P w K mg base 9 "_law_door_right" ["_law_ask", "_law_lists", "_law_others"] (sp_doorR T spb)) :
    FnG P w K mg base (L2N.CX P w) 10 f fd ["_law_asks", "_law_lists", "_law_others"] (sp_doorsR T spb) := by
  refine okXcG F sc_law_doors_right (fun vs H Q E h => ?_) (fun cdv A outer s H vs Q E hcv hgd hr h => ?_)
  · obtain ⟨as, fa, l1, l2, t1, t2, x1, x2, rfl, has, hL1, hL2, T1, T2, A1, A2, hT, k⟩ := h
    first | rfl | (rw [List.length_cons, hl]; rfl)
  · obtain ⟨as, fa, l1, l2, t1, t2, x1, x2, rfl, has, hL1, hL2, T1, T2, A1, A2, hT, k⟩ := h
    refine ⟨_, (pss_one (ps_ret (pe_callB (cr_all rfl) (by rfl) B.all_ (by decide +kernel) (pa_cons (pe_lc (own := [("_law_ask", 3)]) (g := (gName 3)) rfl sc_law_doors_right.nd (pi_list (pv 0)) (blkOk_by (N := nm_law_doors_right) (sc := defScope s_law_doors_right) (by decide +kernel)) (fun _ _ _ _ _ => by exact (pg_name (i := 3) sc_law_doors_right.nd rfl (.inl rfl))) (fun _ _ _ _ _ => by exact pts_nil) (fun _ _ _ _ _ => by exact (pe_calG c_law_door_right hgd (hr.mono (by decide)) (by rfl) passLN (pa_cons (pv 3) (pa_cons (pv 1) (pa_cons (pv 2) pa_nil)))))) pa_nil)))), ?_⟩
    refine s_retN (T := T) (v := .bl true) (evn_is (evn_all (K := K) (bs := [true]) (eln_lcG (K := K) (fun _ => .bl true) (Ev.toN fun G _ => ev_var rfl) has (by show 1 ≤ 15000000; decide) (fun _ => rfl) fun x G hx n => ?_)) rfl) fun H1 n1 => k H1 n1
    rw [List.mem_singleton.mp hx]
    exact evn_call (EvA.toN fun G' _ => ea_cons (ev_var rfl) (ea_cons (ev_var rfl) (ea_cons (ev_var rfl) ea_nil))) fun G2 n2 Q q E => ⟨fa, l1, l2, t1, t2, x1, x2, rfl, hL1.nx (n.trans n2), hL2.nx (n.trans n2), T1, T2, A1.nx (n.trans n2), A2.nx (n.trans n2), (n.trans n2).2 hT, q⟩

abbrev s_law : Stmt := topS 34
abbrev nm_law : List Str := ["_law_script", "_law_one", "_law_two_here", "_law_by", "_law_word", "_law_asks", "_law_ask"]
theorem sc_law : FnScope nm_law ["_law_script"] (defScope s_law) := ⟨rfl, rfl, rfl, by decide +kernel, rfl, by decide +kernel, by decide +kernel⟩
abbrev ql_law : Str := ("law" : Str) ++ ".<locals>." ++ "<lambda>"
abbrev lk1 : Lk := lkOf s_law ql_law ((lstE (asgV ((forB ((defBody s_law).getD 1 noS)).getD 1 noS))).getD 0 noE)
abbrev lk2 : Lk := lkOf s_law ql_law ((lstE (asgV ((forB ((defBody s_law).getD 1 noS)).getD 1 noS))).getD 1 noE)
abbrev lk3 : Lk := lkOf s_law ql_law ((lstE ((callA (asgV ((defBody s_law).getD 2 noS))).getD 0 noE)).getD 0 noE)
theorem lam_1 {T : List (Addr × Str)} {a_BadWord a_BadLetters : Addr} (c_missing : CalN P w K mg base 6 "missing" ["word", "letters"] (sp_missing a_BadWord a_BadLetters T)) (c_law_two : CalN P w K mg base 1 "_law_two" ["_law_found"] sp_two) : LamOk P w K mg base 8 (spLam lk1 "_law_this" (tb1 a_BadWord a_BadLetters T)) :=
  lamOk_of (k := 7) ⟨rfl, rfl, rfl, by decide +kernel, rfl, by decide +kernel, by decide +kernel⟩ (fun _ _ _ _ => rfl) fun f c A outer s H hr => (pe_calN c_law_two (hr.mono (by decide)) (by rfl) passLN (pa_cons (pe_calN c_missing (hr.mono (by decide)) (by rfl) passLN (pa_cons (pv 0) (pa_cons pe_str pa_nil))) pa_nil))
theorem lam_2 {a_BadWord a_BadText : Addr} (c_places : CalN P w K mg base 3 "places" ["word", "text"] (sp_places a_BadWord a_BadText)) (c_law_two : CalN P w K mg base 1 "_law_two" ["_law_found"] sp_two) : LamOk P w K mg base 8 (spLam lk2 "_law_some" (tb2 a_BadWord a_BadText)) :=
  lamOk_of (k := 7) ⟨rfl, rfl, rfl, by decide +kernel, rfl, by decide +kernel, by decide +kernel⟩ (fun _ _ _ _ => rfl) fun f c A outer s H hr => (pe_calN c_law_two (hr.mono (by decide)) (by rfl) passLN (pa_cons (pe_calN c_places (hr.mono (by decide)) (by rfl) passLN (pa_cons (pv 0) (pa_cons pe_str pa_nil))) pa_nil))
theorem lam_3 {T : List (Addr × Str)} {a_BadLetters a_NoWord : Addr} (c_word_of : CalN P w K mg base 6 "word_of" ["letters", "some"] (sp_wordof a_BadLetters a_NoWord T)) (c_law_two : CalN P w K mg base 1 "_law_two" ["_law_found"] sp_two) : LamOk P w K mg base 8 (spLam lk3 "_law_some" (tb3 K a_BadLetters a_NoWord T)) :=
  lamOk_of (k := 7) ⟨rfl, rfl, rfl, by decide +kernel, rfl, by decide +kernel, by decide +kernel⟩ (fun _ _ _ _ => rfl) fun f c A outer s H hr => (pe_calN c_law_two (hr.mono (by decide)) (by rfl) passLN (pa_cons (pe_lst (pa_cons (pe_calN c_word_of (hr.mono (by decide)) (by rfl) passLN (pa_cons pe_str (pa_cons (pe_ix ix_list (pv 0) pe_int (fun _ _ => rfl)) pa_nil))) pa_nil)) pa_nil))
theorem ok_law {f : Addr} {fd : FuncData} {a_BadLetters : Addr} {a_BadText : Addr} {a_BadWord : Addr} {a_NoWord : Addr} (F : Fun K "law" "law" s_law f fd) {T : List (Addr × Str)} {c_cd p_cd : Addr} (B : Bl mg) (c_missing : CalN P w K mg base 6 "missing" ["word", "letters"] (sp_missing a_BadWord a_BadLetters T)) (c_law_cell_at : CalN P w K mg base 1 "_law_cell_at" ["_law_script", "_law_k"] (sp_cell K)) (c_law_number : CalN P w K mg base 2 "_law_number" ["_law_cell", "_law_k", "_law_limit"] (sp_number)) (c_law_doors_right : CalG P w K mg base 10 "_law_doors_right" ["_law_asks", "_law_lists", "_law_others"] (sp_doorsR T (spLam lk3 "_law_some" (tb3 K a_BadLetters a_NoWord T)))) (c_law_new_right : CalG P w K mg base 9 "_law_new_right" ["_law_ask", "_law_words"] (sp_newR T (spOr (spLam lk1 "_law_this" (tb1 a_BadWord a_BadLetters T)) (spLam lk2 "_law_some" (tb2 a_BadWord a_BadText))))) (hcd : fd.code = .ref c_cd) (TB : LamX.TabB base mg c_cd p_cd) (hmT : (p_cd, (("law" : Str) ++ ".<locals>." ++ "<lambda>" : Str)) ∈ T) (huT : ∀ p ∈ T, p.1 = p_cd → p.2 = (("law" : Str) ++ ".<locals>." ++ "<lambda>" : Str)) :
    FnG P w K mg base (L2N.CX P w) 14 f fd ["_law_script"] (sp_lawT K T) := by
  refine okXcG F sc_law (fun vs H Q E h => ?_) (fun cdv A outer s H vs Q E hcv hgd hr h => ?_)
  · obtain ⟨a, ns, rfl, hS, hn, hl, hT, k⟩ := h
    first | rfl | (rw [List.length_cons, hl]; rfl)
  · have hcode : cdv = .ref c_cd := hcv.symm.trans hcd
    subst hcode
    have hcode : (cxOf (L2N.CX P w) P w K mg base nm_law "law" (defScope s_law) f (.ref c_cd) A outer s H E).env.code = .ref c_cd := rfl
    obtain ⟨a, ns, rfl, hS, hn, hl, hT, k⟩ := h
    refine ⟨_, (pss_cons (ps_par (i := 1) (j := 2) (by rfl) sc_law.nd rfl rfl (by decide) rfl rfl (pa_cons (pe_calN c_missing (hr.mono (by decide)) (by rfl) (L2N.passes_call (L2N.takes_of rfl rfl rfl rfl) (fun _ _ _ _ h => h)) (pa_cons pe_str (pa_cons pe_str pa_nil))) (pa_cons (pe_calN c_missing (hr.mono (by decide)) (by rfl) (L2N.passes_call (L2N.takes_of rfl rfl rfl rfl) (fun _ _ _ _ h => h)) (pa_cons pe_str (pa_cons pe_str pa_nil))) pa_nil)) (by rfl))
      (pss_cons (ps_for (passes_of rfl) rfl (pi_range1 rfl B.range (pa_cons pe_int pa_nil)) (pg_name (i := 3) sc_law.nd rfl (.inl rfl))
      (pss_cons (ps_set (i := 4) sc_law.nd rfl (.inr rfl) (pe_ix ix_tup (pe_tup (pa_cons pe_str (pa_cons pe_str (pa_cons pe_str (pa_cons pe_str pa_nil))))) (pe_calN c_law_number (hr.mono (by decide)) (by rfl) (L2N.passes_call (L2N.takes_of rfl rfl rfl rfl) (fun _ _ _ _ h => h)) (pa_cons (pe_calN c_law_cell_at (hr.mono (by decide)) (by rfl) (L2N.passes_call (L2N.takes_of rfl rfl rfl rfl) (fun _ _ _ _ h => h)) (pa_cons (pv 0) (pa_cons (pv 3) pa_nil))) (pa_cons (pe_op op_add (pv 3) pe_int) (pa_cons pe_int pa_nil)))) (fun _ _ => rfl)))
      (pss_cons (ps_set (i := 5) sc_law.nd rfl (.inl rfl) (pe_lst (pa_cons (pe_lamV (T := T) TB hcode hmT huT (by decide +kernel)) (pa_cons (pe_lamV (T := T) TB hcode hmT huT (by decide +kernel)) pa_nil))))
      (pss_one (ps_if (pt_not (pt_val (pe_callB (cr_all rfl) (by rfl) B.all_ (by decide +kernel) (pa_cons (pe_lc (own := [("_law_ask", 6)]) (g := (gName 6)) rfl sc_law.nd (pi_list (pv 5)) (blkOk_by (N := nm_law) (sc := defScope s_law) (by decide +kernel)) (fun _ _ _ _ _ => by exact (pg_name (i := 6) sc_law.nd rfl (.inl rfl))) (fun _ _ _ _ _ => by exact pts_nil) (fun _ _ _ _ _ => by exact (pe_calG c_law_new_right hgd (hr.mono (by decide)) (by rfl) passLN (pa_cons (pv 6) (pa_cons (pe_lst (pa_cons (pv 4) (pa_cons pe_str pa_nil))) pa_nil))))) pa_nil)))) (pss_one (ps_ret pe_bl)) pss_nil)))))
      (pss_one (ps_ret (pe_calG c_law_doors_right hgd (hr.mono (by decide)) (by rfl) (L2N.passes_call (L2N.takes_of rfl rfl rfl rfl) (fun _ _ _ _ h => h)) (pa_cons (pe_lst (pa_cons (pe_lamV (T := T) TB hcode hmT huT (by decide +kernel)) pa_nil)) (pa_cons (pe_lst (pa_cons (pv 1) pa_nil)) (pa_cons (pe_lst (pa_cons (pv 2) pa_nil)) pa_nil)))))))), ?_⟩
    have hab : areL (vS [97, 98]) = true := by decide +kernel
    refine q_parLL (T := T) (xs := (missF abba [97, 98]).map vS) (ys := (missF abab [97, 98]).map vS) (eln_call (EvA.toN fun G _ => ea_cons ev_c (ea_cons ev_c ea_nil)) (spln_missing (W := abba) (isText_is (by decide +kernel)) hab (by decide +kernel) hT)) (fun G n => eln_call (EvA.toN fun G _ => ea_cons ev_c (ea_cons ev_c ea_nil)) (spln_missing (W := abab) (isText_is (by decide +kernel)) hab (by decide +kernel) (n.2 hT))) fun pa pb H1 n1 ha hb => ?_
    refine q_forR1 (n := 2) (j := 3) (ea_cons ev_c ea_nil) ⟨by decide, by decide⟩ (fun i σ' H' => (∃ y3 y4 y5 y6, σ' = [some (.ref a), some (.ref pa), some (.ref pb), y3, y4, y5, y6]) ∧ NX T H1 H') (fun H2 e2 => ⟨⟨_, _, _, _, rfl⟩, NX.of e2⟩) (fun i σ' H' hi p => ?_) (fun σ' H' p => ?_)
    · obtain ⟨⟨y3, y4, y5, y6, rfl⟩, n2⟩ := p
      refine q_asgQ (P := (· ∈ ws9.map vS)) (eq_ixU (K := K) (vs := ws9.map vS) (ea_cons ev_c (ea_cons ev_c (ea_cons ev_c (ea_cons ev_c ea_nil)))) (by decide) fun G eG => eq_call (ea_cons (ev_call (z := .int (cellAt ns i)) (ea_cons (ev_var rfl) (ea_cons (ev_var rfl) ea_nil)) fun G1 e1 Q q E => ⟨a, ns, i, rfl, ((n1.trans n2).trans (NX.of (eG.trans e1))).sq hS, q⟩) (ea_cons (ev_op (ev_var rfl) ev_c rv_I0) (ea_cons ev_c ea_nil))) fun G1 e1 Q q E => ⟨_, i + 1, _, rfl, cell_lim hl, by omega, by decide, fun r r0 r1 G2 e2 => q _ G2 ⟨r, rfl, r0, r1⟩ e2⟩) fun v H2 hv e2 => ?_
      obtain ⟨w, hw, rfl⟩ := List.mem_map.mp hv
      have t2 := (((n1.trans n2).trans (NX.of e2)).2 hT)
      have hwm : w ∈ abab :: ws9 := List.mem_cons_of_mem _ hw
      have wok : ∀ l ∈ [w, abab], l ∈ abab :: ws9 := fun l hl => by
        rcases List.mem_cons.mp hl with rfl | hl
        · exact hwm
        · rw [List.mem_singleton.mp hl]
          exact List.mem_cons_self
      have wab : Wd [97, 98] := isText_is (by decide +kernel)
      refine ⟨t2, fun f1 G1 m1 hf1 hl1 => ⟨m1.2 t2, fun f2 G2 m2 hf2 hl2 => ⟨by show 2 ≤ sizeLine; decide, fun p hp => ?_⟩⟩⟩
      have il1 : IsLam lk1 G1 f1 := hl1
      have il2 : IsLam lk2 G2 f2 := hl2
      have m23 : NX T G1 (upd G2 p (.lst [.ref f1, .ref f2])) := m2.trans (NX.of (Ex.new hp))
      have m3 := m1.trans m23
      have t3 := m3.2 t2
      have i1 := il1.keep (KeepE.ofN m23.1)
      have i2 := il2.keep (KeepE.ofN (NX.of (T := T) (Ex.new (o := .lst [.ref f1, .ref f2]) hp)).1)
      refine s_ifN (T := T) (b := false) (etn_is (etn_not (etn_B (evn_is (evn_all (K := K) (bs := [true, true]) (eln_lcG (K := K) (a := p) (es := [.ref f1, .ref f2]) (fun _ => .bl true) (Ev.toN fun G _ => ev_var rfl) upd_same (by show 2 ≤ 15000000; decide) (fun _ => rfl) fun x G hx n => ?_)) rfl))) rfl) (fun h => nomatch h) (fun _ G4 m4 => ?_)
      rotate_left
      · exact ⟨⟨_, _, _, _, rfl⟩, ((n2.trans (NX.of e2)).trans m3).trans m4⟩
      have lst : ∀ (σ : L2.St) (G : Hp), σ[4]? = some (some (vS w)) → EvLN T (tLst (tCons (tVar 4) (tCons (tC (.str "abab")) tNil))) σ G ([w, abab].map vS) := fun σ G h => EvL.toN fun G _ => el_lst (ea_cons (ev_var h) (ea_cons ev_c ea_nil)) (by show 2 ≤ 100000; decide)
      rcases List.mem_cons.mp hx with rfl | hx
      · exact evn_call2L (Ev.toN fun _ _ => ev_var rfl) (lst _ G rfl) fun ws G' n' hws G'' n'' Q q E => ⟨f1, ws, [w, abab], fun l => (missF l [97, 98]).map vS, rfl, n''.lst hws, fun l hl => (ask1 (i1.keep (KeepE.ofN ((n.trans n').trans n'').1)) (isText_is (ws9_ok l (wok l hl)).1) (ws9_ok l (wok l hl)).2.1).inl, fun l hl => ⟨(ws9_ok l (wok l hl)).2.2.1, flat_txt fun t ht => Nat.le_trans (miss_txt (isText_is (ws9_ok l (wok l hl)).1) wab t ht) (by decide)⟩, ((n.trans n').trans n'').2 t3, q⟩
      · rw [List.mem_singleton.mp hx]
        exact evn_call2L (Ev.toN fun _ _ => ev_var rfl) (lst _ G rfl) fun ws G' n' hws G'' n'' Q q E => ⟨f2, ws, [w, abab], fun l => (placesF l [97, 98]).map vN, rfl, n''.lst hws, fun l hl => (ask2 (i2.keep (KeepE.ofN ((n.trans n').trans n'').1)) (isText_is (ws9_ok l (wok l hl)).1)).inr, fun l hl => ⟨(ws9_ok l (wok l hl)).2.2.2, flat_num⟩, ((n.trans n').trans n'').2 t3, q⟩
    · obtain ⟨⟨y3, y4, y5, y6, rfl⟩, n2⟩ := p
      have one : 1 ≤ sizeLine := by decide
      have tH := (n1.trans n2).2 hT
      refine ⟨tH, fun f1 G1 m1 hf1 hl1 => ⟨one, fun p hp => ⟨_, rfl, one, fun q1 hq1 => ⟨_, rfl, one, fun q2 hq2 => ?_⟩⟩⟩⟩
      have il3 : IsLam lk3 G1 f1 := hl1
      have e1 := Ex.new (o := .lst [.ref f1]) hp
      have e2 := Ex.new (o := .lst [.ref pa]) hq1
      have e3 := Ex.new (o := .lst [.ref pb]) hq2
      have ex := (e1.trans e2).trans e3
      have i3 := il3.keep (KeepE.ofN (NX.of (T := T) ex).1)
      have nn : NX T H1 _ := (n2.trans m1).trans (NX.of ex)
      exact ⟨p, f1, q1, q2, _, _, _, _, rfl, (e2.trans e3) _ _ upd_same, ⟨pa, e3 _ _ upd_same, nn.lst ha⟩, ⟨pb, upd_same, nn.lst hb⟩, ts_abba, ts_abab, ask3 i3 tx_abba wd_abba, ask3 i3 tx_abab wd_abab, (m1.trans (NX.of ex)).2 tH, fun H2 _ => k H2⟩

abbrev qn_missing_by : Str := ("missing_by" : Str) ++ ".<locals>." ++ "<lambda>"
abbrev qn_law : Str := ("law" : Str) ++ ".<locals>." ++ "<lambda>"
theorem all_mk {fa : Addr} {a_BadLetters : Addr} {a_BadText : Addr} {a_BadWord : Addr} {a_NoWord : Addr} {c_missing_by : Addr} {p_missing_by : Addr} {c_law : Addr} {p_law : Addr} (hfa : mg "law" = some (.ref fa)) (B : Bl mg) (d_is_text : Dn K mg "is_text" s_is_text) (d_places_of : Dn K mg "places_of" s_places_of) (d_around : Dn K mg "around" s_around) (d_longer_ones : Dn K mg "longer_ones" s_longer_ones) (d_law_cell_at : Dn K mg "_law_cell_at" s_law_cell_at) (d_law_draw : Dn K mg "_law_draw" s_law_draw) (d_law_two : Dn K mg "_law_two" s_law_two) (d_check_word : Dn K mg "check_word" s_check_word) (d_check_text : Dn K mg "check_text" s_check_text) (d_are_letters : Dn K mg "are_letters" s_are_letters) (d_law_number : Dn K mg "_law_number" s_law_number) (d_law_spoilt : Dn K mg "_law_spoilt" s_law_spoilt) (d_check_letters : Dn K mg "check_letters" s_check_letters) (d_places : Dn K mg "places" s_places) (d_check_texts : Dn K mg "check_texts" s_check_texts) (d_law_deep : Dn K mg "_law_deep" s_law_deep) (d_law_put : Dn K mg "_law_put" s_law_put) (d_missing_by : DnC K mg "missing_by" s_missing_by c_missing_by) (d_missing : Dn K mg "missing" s_missing) (d_word_of : Dn K mg "word_of" s_word_of) (d_law_door_right : Dn K mg "_law_door_right" s_law_door_right) (d_law_new_right : Dn K mg "_law_new_right" s_law_new_right) (d_law_doors_right : Dn K mg "_law_doors_right" s_law_doors_right) (d_law : DnC K mg "law" s_law c_law) (hp : p_missing_by ≠ p_law) (g_LETTERS : ∃ u, mg "LETTERS" = some u ∧ RelV (.str (S azs)) u) (g_MOST : ∃ u, mg "MOST" = some u ∧ RelV (.int 100) u) (e_BadLetters : Er K mg "BadLetters" (a_BadLetters) bmE) (e_BadText : Er K mg "BadText" (a_BadText) bmE) (e_BadWord : Er K mg "BadWord" (a_BadWord) bmE) (e_NoWord : Er K mg "NoWord" (a_NoWord) bmE) :
    ∃ fd : FuncData, (∀ (s : Shared) (u : Value), BindsTo s fd ⟨[u], []⟩ [("_law_script", u)]) ∧ ∀ base : Heap, LamX.TabB base mg c_missing_by p_missing_by → LamX.TabB base mg c_law p_law → FnG P w K mg base (L2N.CX P w) 14 fa fd ["_law_script"] (sp_lawT K [(p_missing_by, qn_missing_by), (p_law, qn_law)]) := by
  obtain ⟨f, fd, g, F, hcl⟩ := d_law.ex
  have e := hfa.symm.trans g
  cases e
  obtain ⟨oc, od, kV, doc, pm, an, cdv, ct, osl, rfl, lk, hcd⟩ := F.ex
  refine ⟨PySem.W.fnOf "law" "law" (defArgs s_law) (defBody s_law) (defScope s_law) .none kV doc pm an cdv ct, fun s v => .of_eq rfl, fun base TB_missing_by TB_law => ?_⟩
  have hm_missing_by := hm_two1 (P := p_missing_by) (q := qn_missing_by) (P2 := p_law) (q2 := qn_law)
  have hu_missing_by := hu_two1 (P := p_missing_by) (q := qn_missing_by) (P2 := p_law) (q2 := qn_law) hp
  have hm_law := hm_two2 (P := p_missing_by) (q := qn_missing_by) (P2 := p_law) (q2 := qn_law)
  have hu_law := hu_two2 (P := p_missing_by) (q := qn_missing_by) (P2 := p_law) (q2 := qn_law) hp
  have c_is_text : CalN P w K mg base 1 "is_text" ["thing"] (sp_is_text) := calN_mk d_is_text (fun f fd F => ok_is_text F B g_LETTERS g_MOST) (fun _ _ _ _ _ _ us hl => match us, hl with | [_], _ => rfl)
  have c_places_of : CalN P w K mg base 1 "places_of" ["word", "text"] (sp_places_of) := calN_mk d_places_of (fun f fd F => ok_places_of F B) (fun _ _ _ _ _ _ us hl => match us, hl with | [_, _], _ => rfl)
  have c_around : CalN P w K mg base 1 "around" ["word"] (sp_around) := calN_mk d_around (fun f fd F => ok_around F B) (fun _ _ _ _ _ _ us hl => match us, hl with | [_], _ => rfl)
  have c_longer_ones : CalN P w K mg base 1 "longer_ones" ["letters", "shorter", "known", "texts"] (sp_longer) := calN_mk d_longer_ones (fun f fd F => ok_longer_ones F B) (fun _ _ _ _ _ _ us hl => match us, hl with | [_, _, _, _], _ => rfl)
  have c_law_cell_at : CalN P w K mg base 1 "_law_cell_at" ["_law_script", "_law_k"] (sp_cell K) := calN_mk d_law_cell_at (fun f fd F => ok_law_cell_at F B) (fun _ _ _ _ _ _ us hl => match us, hl with | [_, _], _ => rfl)
  have c_law_draw : CalN P w K mg base 1 "_law_draw" ["_law_cell", "_law_k", "_law_most"] (sp_draw) := calN_mk d_law_draw (fun f fd F => ok_law_draw F B) (fun _ _ _ _ _ _ us hl => match us, hl with | [_, _, _], _ => rfl)
  have c_law_two : CalN P w K mg base 1 "_law_two" ["_law_found"] (sp_two) := calN_mk d_law_two (fun f fd F => ok_law_two F B) (fun _ _ _ _ _ _ us hl => match us, hl with | [_], _ => rfl)
  have c_check_word : CalN P w K mg base 2 "check_word" ["word"] (sp_check a_BadWord) := calN_mk d_check_word (fun f fd F => ok_check_word F B c_is_text e_BadWord) (fun _ _ _ _ _ _ us hl => match us, hl with | [_], _ => rfl)
  have c_check_text : CalN P w K mg base 2 "check_text" ["text"] (sp_check a_BadText) := calN_mk d_check_text (fun f fd F => ok_check_text F B c_is_text e_BadText) (fun _ _ _ _ _ _ us hl => match us, hl with | [_], _ => rfl)
  have c_are_letters : CalN P w K mg base 2 "are_letters" ["thing"] (sp_are) := calN_mk d_are_letters (fun f fd F => ok_are_letters F B c_is_text) (fun _ _ _ _ _ _ us hl => match us, hl with | [_], _ => rfl)
  have c_law_number : CalN P w K mg base 2 "_law_number" ["_law_cell", "_law_k", "_law_limit"] (sp_number) := calN_mk d_law_number (fun f fd F => ok_law_number F B c_law_draw) (fun _ _ _ _ _ _ us hl => match us, hl with | [_, _, _], _ => rfl)
  have c_law_spoilt : CalN P w K mg base 0 "_law_spoilt" ["_law_found"] (sp_spoilt 0) := calN_mk d_law_spoilt (fun f fd F => fnOk_never spoilt_never) (fun _ _ _ _ _ _ us hl => match us, hl with | [_], _ => rfl)
  have c_law_spoilt : CalN P w K mg base 1 "_law_spoilt" ["_law_found"] (sp_spoilt 1) := calN_mk d_law_spoilt (fun f fd F => ok_law_spoilt F B c_law_spoilt) (fun _ _ _ _ _ _ us hl => match us, hl with | [_], _ => rfl)
  have c_law_spoilt : CalN P w K mg base 2 "_law_spoilt" ["_law_found"] (sp_spoilt 2) := calN_mk d_law_spoilt (fun f fd F => ok_law_spoilt F B c_law_spoilt) (fun _ _ _ _ _ _ us hl => match us, hl with | [_], _ => rfl)
  have c_check_letters : CalN P w K mg base 3 "check_letters" ["letters", "word"] (sp_checkL a_BadLetters) := calN_mk d_check_letters (fun f fd F => ok_check_letters F B c_are_letters e_BadLetters) (fun _ _ _ _ _ _ us hl => match us, hl with | [_, _], _ => rfl)
  have c_places : CalN P w K mg base 3 "places" ["word", "text"] (sp_places a_BadWord a_BadText) := calN_mk d_places (fun f fd F => ok_places F B c_check_word c_check_text c_places_of) (fun _ _ _ _ _ _ us hl => match us, hl with | [_, _], _ => rfl)
  have c_check_texts : CalN P w K mg base 3 "check_texts" ["letters", "some"] (sp_checkT a_BadLetters a_NoWord) := calN_mk d_check_texts (fun f fd F => ok_check_texts F B c_are_letters e_BadLetters e_NoWord) (fun _ _ _ _ _ _ us hl => match us, hl with | [_, _], _ => rfl)
  have c_law_deep : CalN P w K mg base 0 "_law_deep" ["_law_thing"] (sp_deep 0) := calN_mk d_law_deep (fun f fd F => fnOk_never deep_never) (fun _ _ _ _ _ _ us hl => match us, hl with | [_], _ => rfl)
  have c_law_deep : CalN P w K mg base 1 "_law_deep" ["_law_thing"] (sp_deep 1) := calN_mk d_law_deep (fun f fd F => ok_law_deep F B c_law_deep) (fun _ _ _ _ _ _ us hl => match us, hl with | [_], _ => rfl)
  have c_law_deep : CalN P w K mg base 2 "_law_deep" ["_law_thing"] (sp_deep 2) := calN_mk d_law_deep (fun f fd F => ok_law_deep F B c_law_deep) (fun _ _ _ _ _ _ us hl => match us, hl with | [_], _ => rfl)
  have c_law_deep : CalN P w K mg base 3 "_law_deep" ["_law_thing"] (sp_deep 3) := calN_mk d_law_deep (fun f fd F => ok_law_deep F B c_law_deep) (fun _ _ _ _ _ _ us hl => match us, hl with | [_], _ => rfl)
  have c_law_put : CalN P w K mg base 4 "_law_put" ["_law_handed", "_law_some"] (sp_put) := calN_mk d_law_put (fun f fd F => ok_law_put F B c_law_deep) (fun _ _ _ _ _ _ us hl => match us, hl with | [_, _], _ => rfl)
  have c_missing_by : CalN P w K mg base 5 "missing_by" ["word", "letters"] (sp_missby [(p_missing_by, qn_missing_by), (p_law, qn_law)]) := calcN_mk d_missing_by (fun f fd F hcd => ok_missing_by F B c_around hcd TB_missing_by hm_missing_by hu_missing_by) (fun _ _ _ _ _ _ us hl => match us, hl with | [_, _], _ => rfl)
  have c_missing : CalN P w K mg base 6 "missing" ["word", "letters"] (sp_missing a_BadWord a_BadLetters [(p_missing_by, qn_missing_by), (p_law, qn_law)]) := calN_mk d_missing (fun f fd F => ok_missing F B c_check_word c_check_letters c_missing_by) (fun _ _ _ _ _ _ us hl => match us, hl with | [_, _], _ => rfl)
  have c_word_of : CalN P w K mg base 6 "word_of" ["letters", "some"] (sp_wordof a_BadLetters a_NoWord [(p_missing_by, qn_missing_by), (p_law, qn_law)]) := calN_mk d_word_of (fun f fd F => ok_word_of F B c_missing_by c_check_texts c_longer_ones g_MOST e_NoWord) (fun _ _ _ _ _ _ us hl => match us, hl with | [_, _], _ => rfl)
  have Lb := lam_3 (T := [(p_missing_by, qn_missing_by), (p_law, qn_law)]) c_word_of c_law_two
  have c_law_door_right : CalG P w K mg base 9 "_law_door_right" ["_law_ask", "_law_lists", "_law_others"] (sp_doorR [(p_missing_by, qn_missing_by), (p_law, qn_law)] (spLam lk3 "_law_some" (tb3 K a_BadLetters a_NoWord [(p_missing_by, qn_missing_by), (p_law, qn_law)]))) := calG_mk d_law_door_right (fun f fd F => ok_law_door_right F B c_law_deep c_law_spoilt c_law_put Lb) (fun _ _ _ _ _ _ us hl => match us, hl with | [_, _, _], _ => rfl)
  have Lm := LamOk.or (lam_1 (T := [(p_missing_by, qn_missing_by), (p_law, qn_law)]) c_missing c_law_two) (lam_2 c_places c_law_two)
  have c_law_new_right : CalG P w K mg base 9 "_law_new_right" ["_law_ask", "_law_words"] (sp_newR [(p_missing_by, qn_missing_by), (p_law, qn_law)] (spOr (spLam lk1 "_law_this" (tb1 a_BadWord a_BadLetters [(p_missing_by, qn_missing_by), (p_law, qn_law)])) (spLam lk2 "_law_some" (tb2 a_BadWord a_BadText)))) := calG_mk d_law_new_right (fun f fd F => ok_law_new_right F B c_law_spoilt Lm) (fun _ _ _ _ _ _ us hl => match us, hl with | [_, _], _ => rfl)
  have c_law_doors_right : CalG P w K mg base 10 "_law_doors_right" ["_law_asks", "_law_lists", "_law_others"] (sp_doorsR [(p_missing_by, qn_missing_by), (p_law, qn_law)] (spLam lk3 "_law_some" (tb3 K a_BadLetters a_NoWord [(p_missing_by, qn_missing_by), (p_law, qn_law)]))) := calG_mk d_law_doors_right (fun f fd F => ok_law_doors_right F B c_law_door_right) (fun _ _ _ _ _ _ us hl => match us, hl with | [_, _, _], _ => rfl)
  exact ok_law F B c_missing c_law_cell_at c_law_number c_law_doors_right c_law_new_right hcl TB_law hm_law hu_law
end
end WP
open PySem PySem.W PyProof.Rows
set_option maxHeartbeats 0 in
theorem PySem.Challenge.cw_wordpieces_k09_whole_anew_holds : PySem.Challenge.rw_wordpieces_k09_whole_anew.Holds := by
  w_on; o_law; k_head; (case hw => w_witness2)
  k_fill
  refine WP.walk_ofG (l := PySem.Challenge.rw_wordpieces_k09_whole_anew) (n := 63) (k := 14) (x := "_law_script") (CX := fun w => L2N.CX PySem.Challenge.rw_wordpieces_k09_whole_anew.prog w) rfl (by decide) rfl ⟨rfl, by decide, by decide⟩ (fun w h Y => PySem.W.km_in_of Y) ?F (fun _ _ _ _ _ h => WP.cx_noN h)
  case F =>
    intro w mg fa h Y KX G hmg tb
    have B : WP.Bl mg := by
      constructor <;> (refine PySem.W.mg_none_of KX G ?_; k_is)
    obtain ⟨c_missing_by, p_missing_by, c_law, p_law, dt_missing_by, n_missing_by, dt_law, n_law, hp⟩ : ∃ c_missing_by p_missing_by c_law p_law : Addr, (WP.DnC (WP.KOf KX) mg "missing_by" WP.s_missing_by c_missing_by ∧ PySem.W.tabIn (WP.KOf KX) "missing_by" = some (c_missing_by, p_missing_by)) ∧ (WP.KOf KX).lookup p_missing_by = none ∧ (WP.DnC (WP.KOf KX) mg "law" WP.s_law c_law ∧ PySem.W.tabIn (WP.KOf KX) "law" = some (c_law, p_law)) ∧ (WP.KOf KX).lookup p_law = none ∧ p_missing_by ≠ p_law := by
      dsimp only [WP.KOf]
      refine' ⟨_, _, _, _, WP.dnt_mk KX G ?a0 ?l0 ?c0 ?k0 ?m0 ?v0, ?n0, WP.dnt_mk KX G ?a1 ?l1 ?c1 ?k1 ?m1 ?v1, ?n1, ?h⟩
      (case a0 => k_is); (case l0 => k_is); (case c0 => k_is); (case k0 => k_is); (case m0 => k_is); (case v0 => rfl); (case n0 => first | kernel_rfl | rfl)
      (case a1 => k_is); (case l1 => k_is); (case c1 => k_is); (case k1 => k_is); (case m1 => k_is); (case v1 => rfl); (case n1 => first | kernel_rfl | rfl)
      (case h => decide)
    have d_missing_by := dt_missing_by.1
    have tb_missing_by := tb "missing_by" _ _ (by decide +kernel) dt_missing_by.2
    have d_law := dt_law.1
    have tb_law := tb "law" _ _ (by decide +kernel) dt_law.2
    have d_is_text : WP.Dn (WP.KOf KX) mg "is_text" WP.s_is_text := by
      dsimp only [WP.KOf]
      refine' WP.dn_mk KX G ?a ?l ?c ?k
      (case a => k_is); (case l => k_is); (case c => k_is); (case k => k_is)
    have d_places_of : WP.Dn (WP.KOf KX) mg "places_of" WP.s_places_of := by
      dsimp only [WP.KOf]
      refine' WP.dn_mk KX G ?a ?l ?c ?k
      (case a => k_is); (case l => k_is); (case c => k_is); (case k => k_is)
    have d_around : WP.Dn (WP.KOf KX) mg "around" WP.s_around := by
      dsimp only [WP.KOf]
      refine' WP.dn_mk KX G ?a ?l ?c ?k
      (case a => k_is); (case l => k_is); (case c => k_is); (case k => k_is)
    have d_longer_ones : WP.Dn (WP.KOf KX) mg "longer_ones" WP.s_longer_ones := by
      dsimp only [WP.KOf]
      refine' WP.dn_mk KX G ?a ?l ?c ?k
      (case a => k_is); (case l => k_is); (case c => k_is); (case k => k_is)
    have d_law_cell_at : WP.Dn (WP.KOf KX) mg "_law_cell_at" WP.s_law_cell_at := by
      dsimp only [WP.KOf]
      refine' WP.dn_mk KX G ?a ?l ?c ?k
      (case a => k_is); (case l => k_is); (case c => k_is); (case k => k_is)
    have d_law_draw : WP.Dn (WP.KOf KX) mg "_law_draw" WP.s_law_draw := by
      dsimp only [WP.KOf]
      refine' WP.dn_mk KX G ?a ?l ?c ?k
      (case a => k_is); (case l => k_is); (case c => k_is); (case k => k_is)
    have d_law_two : WP.Dn (WP.KOf KX) mg "_law_two" WP.s_law_two := by
      dsimp only [WP.KOf]
      refine' WP.dn_mk KX G ?a ?l ?c ?k
      (case a => k_is); (case l => k_is); (case c => k_is); (case k => k_is)
    have d_check_word : WP.Dn (WP.KOf KX) mg "check_word" WP.s_check_word := by
      dsimp only [WP.KOf]
      refine' WP.dn_mk KX G ?a ?l ?c ?k
      (case a => k_is); (case l => k_is); (case c => k_is); (case k => k_is)
    have d_check_text : WP.Dn (WP.KOf KX) mg "check_text" WP.s_check_text := by
      dsimp only [WP.KOf]
      refine' WP.dn_mk KX G ?a ?l ?c ?k
      (case a => k_is); (case l => k_is); (case c => k_is); (case k => k_is)
    have d_are_letters : WP.Dn (WP.KOf KX) mg "are_letters" WP.s_are_letters := by
      dsimp only [WP.KOf]
      refine' WP.dn_mk KX G ?a ?l ?c ?k
      (case a => k_is); (case l => k_is); (case c => k_is); (case k => k_is)
    have d_law_number : WP.Dn (WP.KOf KX) mg "_law_number" WP.s_law_number := by
      dsimp only [WP.KOf]
      refine' WP.dn_mk KX G ?a ?l ?c ?k
      (case a => k_is); (case l => k_is); (case c => k_is); (case k => k_is)
    have d_law_spoilt : WP.Dn (WP.KOf KX) mg "_law_spoilt" WP.s_law_spoilt := by
      dsimp only [WP.KOf]
      refine' WP.dn_mk KX G ?a ?l ?c ?k
      (case a => k_is); (case l => k_is); (case c => k_is); (case k => k_is)
    have d_check_letters : WP.Dn (WP.KOf KX) mg "check_letters" WP.s_check_letters := by
      dsimp only [WP.KOf]
      refine' WP.dn_mk KX G ?a ?l ?c ?k
      (case a => k_is); (case l => k_is); (case c => k_is); (case k => k_is)
    have d_places : WP.Dn (WP.KOf KX) mg "places" WP.s_places := by
      dsimp only [WP.KOf]
      refine' WP.dn_mk KX G ?a ?l ?c ?k
      (case a => k_is); (case l => k_is); (case c => k_is); (case k => k_is)
    have d_check_texts : WP.Dn (WP.KOf KX) mg "check_texts" WP.s_check_texts := by
      dsimp only [WP.KOf]
      refine' WP.dn_mk KX G ?a ?l ?c ?k
      (case a => k_is); (case l => k_is); (case c => k_is); (case k => k_is)
    have d_law_deep : WP.Dn (WP.KOf KX) mg "_law_deep" WP.s_law_deep := by
      dsimp only [WP.KOf]
      refine' WP.dn_mk KX G ?a ?l ?c ?k
      (case a => k_is); (case l => k_is); (case c => k_is); (case k => k_is)
    have d_law_put : WP.Dn (WP.KOf KX) mg "_law_put" WP.s_law_put := by
      dsimp only [WP.KOf]
      refine' WP.dn_mk KX G ?a ?l ?c ?k
      (case a => k_is); (case l => k_is); (case c => k_is); (case k => k_is)
    have d_missing : WP.Dn (WP.KOf KX) mg "missing" WP.s_missing := by
      dsimp only [WP.KOf]
      refine' WP.dn_mk KX G ?a ?l ?c ?k
      (case a => k_is); (case l => k_is); (case c => k_is); (case k => k_is)
    have d_word_of : WP.Dn (WP.KOf KX) mg "word_of" WP.s_word_of := by
      dsimp only [WP.KOf]
      refine' WP.dn_mk KX G ?a ?l ?c ?k
      (case a => k_is); (case l => k_is); (case c => k_is); (case k => k_is)
    have d_law_door_right : WP.Dn (WP.KOf KX) mg "_law_door_right" WP.s_law_door_right := by
      dsimp only [WP.KOf]
      refine' WP.dn_mk KX G ?a ?l ?c ?k
      (case a => k_is); (case l => k_is); (case c => k_is); (case k => k_is)
    have d_law_new_right : WP.Dn (WP.KOf KX) mg "_law_new_right" WP.s_law_new_right := by
      dsimp only [WP.KOf]
      refine' WP.dn_mk KX G ?a ?l ?c ?k
      (case a => k_is); (case l => k_is); (case c => k_is); (case k => k_is)
    have d_law_doors_right : WP.Dn (WP.KOf KX) mg "_law_doors_right" WP.s_law_doors_right := by
      dsimp only [WP.KOf]
      refine' WP.dn_mk KX G ?a ?l ?c ?k
      (case a => k_is); (case l => k_is); (case c => k_is); (case k => k_is)
    have g_LETTERS : ∃ u, mg "LETTERS" = some u ∧ L2.RelV (.str (SX.S WP.azs)) u := by
      refine' WP.gs_mk KX G ?a
      (case a => k_is)
    have g_MOST : ∃ u, mg "MOST" = some u ∧ L2.RelV (.int 100) u := by
      refine' WP.gi_mk KX G ?a
      (case a => k_is)
    obtain ⟨a_BadLetters, a_BadText, a_BadWord, a_NoWord, e_BadLetters, e_BadText, e_BadWord, e_NoWord⟩ : ∃ C_BadLetters C_BadText C_BadWord C_NoWord, WP.Er (WP.KOf KX) mg "BadLetters" C_BadLetters WP.bmE ∧ WP.Er (WP.KOf KX) mg "BadText" C_BadText WP.bmE ∧ WP.Er (WP.KOf KX) mg "BadWord" C_BadWord WP.bmE ∧ WP.Er (WP.KOf KX) mg "NoWord" C_NoWord WP.bmE := by
      dsimp only [WP.KOf]
      refine' ⟨_, _, _, _, WP.er_mk KX G ?aBadLetters ?xBadLetters ?kBadLetters ?bBadLetters ?tBadLetters, WP.er_mk KX G ?aBadText ?xBadText ?kBadText ?bBadText ?tBadText, WP.er_mk KX G ?aBadWord ?xBadWord ?kBadWord ?bBadWord ?tBadWord, WP.er_mk KX G ?aNoWord ?xNoWord ?kNoWord ?bNoWord ?tNoWord⟩
      (case aBadLetters => first | k_is | k_exc | rfl); (case xBadLetters => first | k_is | k_exc | rfl); (case kBadLetters => first | k_is | k_exc | rfl); (case bBadLetters => first | k_is | k_exc | rfl); (case tBadLetters => first | k_is | k_exc | rfl)
      (case aBadText => first | k_is | k_exc | rfl); (case xBadText => first | k_is | k_exc | rfl); (case kBadText => first | k_is | k_exc | rfl); (case bBadText => first | k_is | k_exc | rfl); (case tBadText => first | k_is | k_exc | rfl)
      (case aBadWord => first | k_is | k_exc | rfl); (case xBadWord => first | k_is | k_exc | rfl); (case kBadWord => first | k_is | k_exc | rfl); (case bBadWord => first | k_is | k_exc | rfl); (case tBadWord => first | k_is | k_exc | rfl)
      (case aNoWord => first | k_is | k_exc | rfl); (case xNoWord => first | k_is | k_exc | rfl); (case kNoWord => first | k_is | k_exc | rfl); (case bNoWord => first | k_is | k_exc | rfl); (case tNoWord => first | k_is | k_exc | rfl)
    obtain ⟨fd, h1, h2⟩ := WP.all_mk (P := PySem.Challenge.rw_wordpieces_k09_whole_anew.prog) (w := w) hmg B d_is_text d_places_of d_around d_longer_ones d_law_cell_at d_law_draw d_law_two d_check_word d_check_text d_are_letters d_law_number d_law_spoilt d_check_letters d_places d_check_texts d_law_deep d_law_put d_missing_by d_missing d_word_of d_law_door_right d_law_new_right d_law_doors_right d_law hp g_LETTERS g_MOST e_BadLetters e_BadText e_BadWord e_NoWord
    refine ⟨fd, [(c_missing_by, p_missing_by), (c_law, p_law)], WP.sp_lawT _ [(p_missing_by, WP.qn_missing_by), (p_law, WP.qn_law)], ?_, ?_, ?_, h1, fun H a ns hl hb ht hS => ⟨a, ns, rfl, hS, hl, fun z hz => WP.Lim.of_bits (hb z hz), WP.tabs_two (ht (c_missing_by, p_missing_by) (by simp)) (ht (c_law, p_law) (by simp)), fun _ => rfl⟩, fun base _ _ ht => h2 base (ht (c_missing_by, p_missing_by) (by simp)) (ht (c_law, p_law) (by simp))⟩
    · intro p hp
      simp only [List.mem_cons, List.not_mem_nil, or_false] at hp
      rcases hp with rfl | rfl
      · exact tb_missing_by.2
      · exact tb_law.2
    · intro p hp
      simp only [List.mem_cons, List.not_mem_nil, or_false] at hp
      rcases hp with rfl | rfl
      · exact n_missing_by
      · exact n_law
    · intro p hp
      simp only [List.mem_cons, List.not_mem_nil, or_false] at hp
      rcases hp with rfl | rfl
      · exact tb_missing_by.1
      · exact tb_law.1
