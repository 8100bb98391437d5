import PyProof.Rows.All
import Wide.All
import OpenK.AllK
import Wide.FinOn
import HandS.ForMost
import HandS.Codes
import HandS.Defaults
import HandS.IsInst
import HandS.SetFor
import HandS.TupAny
import PySem.Challenge.RW_slotwraps_k90_whole_slots_that_are_retir
set_option Elab.async false
set_option linter.all false
set_option maxRecDepth 100000
set_option maxHeartbeats 4000000

namespace Sw
open PySem L2

/-! ### readings, step by step -/
section
variable {K : PySem.W.Frag} {D : Ends} {σ : St} {H H1 : Hp} {Q : VK} {QA : List V → Hp → Prop} {QB : Bool → Hp → Prop} {QS : St → Hp → Prop} {t u : TS} {ta tb tc : TE} {tt tt' : TT} {tA : TA} {r r' : R2} {i j : Nat} {x y v : V}
theorem r_seq (h : t { D with nx := fun σ H => u D σ H } σ H) : tSeq t u D σ H := h
theorem r_cut (Mid : St → Hp → Prop) (h : t { D with nx := Mid } σ H) (h2 : ∀ σ' H', Mid σ' H' → u D σ' H') : C8.tCut t u D σ H := ⟨Mid, h, h2⟩
theorem r_asg {g : TG} (h : ta σ H fun x H1 => g x σ H1 fun σ2 H2 => D.nx σ2 H2) : tAsg ta g D σ H := h
theorem r_gname (h : QS (σ.set i (some v)) H) : gName i v σ H QS := h
theorem r_drop (h : ta σ H fun _ H1 => D.nx σ H1) : tDrop ta D σ H := h
theorem r_ret (h : ta σ H fun v H1 => D.rt v H1) : tRet ta D σ H := h
theorem r_retN (h : D.rt .non H) : tRetN D σ H := h
theorem r_next (h : D.nx σ H) : tNext D σ H := h
theorem r_break (h : D.bk σ H) : tBreak D σ H := h
theorem r_cont (h : D.ct σ H) : tCont D σ H := h
theorem r_ifS (h : tt σ H fun b H1 => if b = true then t D σ H1 else u D σ H1) : tIfS tt t u D σ H := h
theorem r_var (hv : σ[i]? = some (some v)) (h : Q v H) : tVar i σ H Q := ⟨v, hv, h⟩
theorem r_c (h : Q v H) : tC v σ H Q := h
theorem r_op (h : ta σ H fun x H1 => tb σ H1 fun y H2 => r x y H2 Q) : tOp r ta tb σ H Q := h
theorem r_un {r : V → Hp → VK → Prop} (h : ta σ H fun x H1 => r x H1 Q) : tUn r ta σ H Q := h
theorem r_rU {g : Int → V} {a : Int} (h : Q (g a) H) : rU g (.int a) H Q := ⟨_, rfl, h⟩
theorem r_rI0 {g : Int → Int → V} {a b : Int} (h : Q (g a b) H) : rI0 g (.int a) (.int b) H Q := ⟨_, _, rfl, rfl, h⟩
theorem r_rI {C : Int → Int → Prop} {g : Int → Int → V} {a b : Int} (hc : C a b) (h : Q (g a b) H) : rI C g (.int a) (.int b) H Q := ⟨_, _, rfl, rfl, hc, h⟩
theorem r_test (h : ta σ H fun x H' => ∃ k, x = .bl k ∧ QB k H') : tTest ta σ H QB := h
theorem r_B (h : ta σ H fun x H' => ∃ k, x = .bl k ∧ QB k H') : tB ta σ H QB := h
theorem r_k {b : Bool} (h : QB b H) : ∃ k, V.bl b = V.bl k ∧ QB k H := ⟨b, rfl, h⟩
theorem r_eqi {a b : Int} (h : Q (.bl (decide (a = b))) H) : rEq (.int a) (.int b) H Q := ⟨rfl, by
  have e : decide (V.int a = V.int b) = decide (a = b) := by
    by_cases c : a = b
    · subst c; simp
    · rw [decide_eq_false c]; exact decide_eq_false fun q => c (V.int.inj q)
  rw [e]; exact h⟩
theorem r_nei {a b : Int} (h : Q (.bl (!decide (a = b))) H) : rNe (.int a) (.int b) H Q := ⟨rfl, by
  have e : decide (V.int a = V.int b) = decide (a = b) := by
    by_cases c : a = b
    · subst c; simp
    · rw [decide_eq_false c]; exact decide_eq_false fun q => c (V.int.inj q)
  rw [e]; exact h⟩
theorem r_eqs {a b : Str} (h : Q (.bl (decide (a = b))) H) : rEq (.str a) (.str b) H Q := ⟨rfl, by
  have e : decide (V.str a = V.str b) = decide (a = b) := by
    by_cases c : a = b
    · subst c; simp
    · rw [decide_eq_false c]; exact decide_eq_false fun q => c (V.str.inj q)
  rw [e]; exact h⟩
theorem r_chain (h : ta σ H fun x H1 => tb σ H1 fun y H2 => r x y H2 fun z H3 => ∃ k, z = .bl k ∧ (if k = true then tc σ H3 fun w' H4 => r' y w' H4 Q else Q (.bl false) H3)) : tChain r r' ta tb tc σ H Q := h
theorem r_and (h : tt σ H fun c H1 => if c = true then tt' σ H1 QB else QB false H1) : tAnd tt tt' σ H QB := h
theorem r_or (h : tt σ H fun c H1 => if c = true then QB true H1 else tt' σ H1 QB) : tOr tt tt' σ H QB := h
theorem r_not (h : tt σ H fun c H1 => QB (!c) H1) : tNot tt σ H QB := h
theorem r_andV (h : ta σ H fun x H1 => ∃ c, x = .bl c ∧ if c = true then tb σ H1 Q else Q (.bl false) H1) : tAndV ta tb σ H Q := h
theorem r_orV (h : ta σ H fun x H1 => ∃ c, x = .bl c ∧ if c = true then Q (.bl true) H1 else tb σ H1 Q) : tOrV ta tb σ H Q := h
theorem r_notV (h : ta σ H fun x H1 => ∃ c, x = .bl c ∧ Q (.bl (!c)) H1) : tNotV ta σ H Q := h
theorem r_k2 {b : Bool} {F : Bool → Prop} (h : F b) : ∃ k, V.bl b = V.bl k ∧ F k := ⟨b, rfl, h⟩
theorem r_ifE (h : tt σ H fun c H1 => if c = true then ta σ H1 Q else tb σ H1 Q) : tIf tt ta tb σ H Q := h
theorem r_nil (h : QA [] H) : tNil σ H QA := h
theorem r_cons (h : ta σ H fun x H1 => tA σ H1 fun xs H2 => QA (x :: xs) H2) : tCons ta tA σ H QA := h
theorem r_tup (h : tA σ H fun xs H1 => xs.length ≤ sizeLine ∧ ∀ p, H1 p = none → Q (.ref p) (upd H1 p (.tup xs))) : tTup tA σ H Q := h
theorem r_lst (h : tA σ H fun xs H1 => xs.length ≤ sizeLine ∧ ∀ p, H1 p = none → Q (.ref p) (upd H1 p (.lst xs))) : tLst tA σ H Q := h
theorem r_call {sp : Sp} {dvs : List V} {E : XK} (h : tA σ H fun vs H1 => sp (vs ++ dvs) H1 Q E) : tCall sp dvs E tA σ H Q := h
theorem r_callN {n m : Nat} {sp : Sp} {gV : List V → List V → List V} {E : XK} {tk : TA} (h : tA σ H fun vs H1 => tk σ H1 fun zs H2 => vs.length = n ∧ zs.length = m ∧ sp (gV vs zs) H2 Q E) : tCallN n m sp gV E tA tk σ H Q := h
theorem r_CB {r : List V → Hp → VK → Prop} (h : tA σ H fun vs H1 => r vs H1 Q) : tCB r tA σ H Q := h
theorem r_BM {T : String} {r : V → List V → Hp → VK → Prop} (h : ta σ H fun x H1 => tyV K T x H1 ∧ tA σ H1 fun xs H2 => r x xs H2 Q) : tBM K T r ta tA σ H Q := h
theorem r_BM0 {T : String} {r : V → List V → Hp → VK → Prop} (h : ta σ H fun x H1 => tyV K T x H1 ∧ r x [] H1 Q) : tBM0 K T r ta σ H Q := h
theorem r_fld {a C dx : Addr} {fs : List (Str × V)} {f : Str} (ho : H a = some (.ins C dx fs)) (c : Cls K C) (n : NoAttr K C f) (l : fs.lookup f = some v) (h : Q v H) (he : ta σ H fun x H1 => x = .ref a ∧ H1 = H) : tFld K (fun σ H Q => Q (.ref a) H) f σ H Q := ⟨a, C, dx, fs, v, rfl, ho, c, n, l, h⟩
theorem r_fldE {f : Str} (h : ta σ H fun x H1 => ∃ a C dx fs v, x = .ref a ∧ H1 a = some (.ins C dx fs) ∧ Cls K C ∧ NoAttr K C f ∧ fs.lookup f = some v ∧ Q v H1) : tFld K ta f σ H Q := h
theorem r_sl {r : V → Option Int → Option Int → Hp → VK → Prop} {te : TE} {tl th : TO} (h : te σ H fun x H1 => tl σ H1 fun lo H2 => th σ H2 fun hi H3 => r x lo hi H3 Q) : tSl r te tl th σ H Q := h
theorem r_part {Qp : Option Int → Hp → Prop} (h : ta σ H fun x H1 => ∃ i, x = .int i ∧ Qp (some i) H1) : tPart ta σ H Qp := h
theorem r_noPart {Qp : Option Int → Hp → Prop} (h : Qp none H) : tNoPart σ H Qp := h
theorem r_exi {a : Int} {F : Int → Prop} (h : F a) : ∃ i, V.int a = .int i ∧ F i := ⟨a, rfl, h⟩
theorem r_slL {a : Addr} {xs : List V} {lo hi : Option Int} (hs : SqL K H a xs) (h : ∀ p, H p = none → Q (.ref p) (upd H p (.lst (cutV xs lo hi)))) : rSlL K (.ref a) lo hi H Q := ⟨a, xs, rfl, hs, h⟩
theorem r_ixl {p : Addr} {xs : List V} {a : Int} (h1 : SqL K H p xs) (h2 : atI xs a = some v) (h : Q v H) : rIxL K (.ref p) (.int a) H Q := ⟨_, _, _, _, rfl, rfl, h1, h2, h⟩
theorem r_ixt {p : Addr} {xs : List V} {a : Int} (h1 : SqT K H p xs) (h2 : atI xs a = some v) (h : Q v H) : rIxT K (.ref p) (.int a) H Q := ⟨_, _, _, _, rfl, rfl, h1, h2, h⟩
theorem r_gsub {s : TSet} (h : ta σ H fun o H1 => tb σ H1 fun i H2 => s o i v H2 fun H3 => QS σ H3) : gSub ta tb s v σ H QS := h
theorem r_setl {p : Addr} {xs : List V} {a : Int} {j : Nat} {QH : Hp → Prop} (h1 : H p = some (.lst xs)) (h2 : ixN xs.length a = some j) (h : QH (upd H p (.lst (xs.set j v)))) : rSetL (.ref p) (.int a) v H QH := ⟨_, _, _, _, rfl, rfl, h1, h2, h⟩
theorem r_par (h : tA σ H fun vs H1 => ∃ v w, vs = [v, w] ∧ D.nx ((σ.set i (some v)).set j (some w)) H1) : tPar i j tA D σ H := h
theorem r_par2 {F : V → V → Prop} (h : F x y) : ∃ v w, [x, y] = [v, w] ∧ F v w := ⟨x, y, rfl, h⟩
theorem r_gtup {n : Nat} {t : TGs} {p : Addr} {xs : List V} (h1 : SqT K H p xs) (h2 : xs.length = n) (h : t xs σ H QS) : gTup K n t (.ref p) σ H QS := ⟨_, _, rfl, h1, h2, h⟩
theorem r_gcons {t : TG} {u : TGs} {vs : List V} (h : t v σ H fun σ' H' => u vs σ' H' QS) : gCons t u (v :: vs) σ H QS := ⟨_, _, rfl, h⟩
theorem r_gnil (h : QS σ H) : gNil [] σ H QS := ⟨rfl, h⟩
theorem small_sz {n : Nat} (h : n ≤ 1000) : n ≤ sizeLine := Nat.le_trans h (by decide)
theorem r_new {n : Nat} {F : Prop} (hn : n ≤ 1000) (h : F) : n ≤ sizeLine ∧ F := ⟨small_sz hn, h⟩
theorem flat_rep (n : Nat) (v : V) : (List.replicate n [v]).flatten = List.replicate n v := by
  induction n with
  | zero => rfl
  | succ n ih => rw [List.replicate_succ, List.flatten_cons, ih, List.replicate_succ]; rfl
theorem r_rep1 {l : Addr} {n : Nat} (h1 : H l = some (.lst [v])) (hn : n ≤ 1000) (h : ∀ p, H p = none → Q (.ref p) (upd H p (.lst (List.replicate n v)))) : rRep (.ref l) (.int n) H Q := by
  refine ⟨_, _, _, rfl, rfl, h1, by omega, by omega, small_sz (by simp; exact hn), fun p hp => ?_⟩
  rw [Int.toNat_natCast, flat_rep]; exact h p hp
theorem r_popAt {l : Addr} {xs : List V} {a : Int} {j : Nat} {y : V} (h1 : H l = some (.lst xs)) (b1 : -(2 ^ 63) ≤ a) (b2 : a < 2 ^ 63) (h2 : seqIndex? a xs.length = some j) (h3 : xs[j]? = some y) (h : Q y (upd H l (.lst (xs.eraseIdx j)))) : rPopAt (.ref l) [.int a] H Q :=
  ⟨_, _, _, _, _, rfl, rfl, h1, b1, b2, h2, h3, h⟩
theorem tyl {l : Addr} {xs : List V} (h1 : H l = some (.lst xs)) : tyV K "list" (.ref l) H := .inl ⟨rfl, _, SqL.of h1⟩
theorem map_eraseIdx {α β : Type} (f : α → β) : ∀ (l : List α) (j : Nat), (l.map f).eraseIdx j = (l.eraseIdx j).map f
  | [], j => by cases j <;> rfl
  | a :: r, 0 => rfl
  | a :: r, j + 1 => by
    show f a :: (r.map f).eraseIdx j = f a :: (r.eraseIdx j).map f
    rw [map_eraseIdx f r j]
theorem r_sum {l : Addr} {ns : List Int} (h1 : SqL K H l (ns.map V.int)) (h : Q (.int ns.sum) H) : rSum K [.ref l] H Q := ⟨_, _, rfl, h1, h⟩
theorem seqIx_nat {j n : Nat} (h : j < n) : seqIndex? (j : Int) n = some j := by
  unfold seqIndex?
  have e : (if (j : Int) < 0 then (j : Int) + n else j) = j := if_neg (by omega)
  have e2 : (decide (0 ≤ (j : Int)) && decide ((j : Int) < n)) = true := by simp; omega
  simp only [e, e2, if_true, Int.toNat_natCast]
theorem seqIx_last {n : Nat} (h : 0 < n) : seqIndex? (-1) n = some (n - 1) := by
  unfold seqIndex?
  have e : (if (-1 : Int) < 0 then (-1 : Int) + n else -1) = ((n - 1 : Nat) : Int) := by rw [if_pos (by decide)]; omega
  have e2 : (decide (0 ≤ ((n - 1 : Nat) : Int)) && decide (((n - 1 : Nat) : Int) < n)) = true := by simp; omega
  simp only [e, e2, if_true, Int.toNat_natCast]
theorem if_d {p A B : Prop} [Decidable p] (h1 : p → A) (h2 : ¬ p → B) : if decide p = true then A else B := by
  by_cases h : p
  · rw [decide_eq_true h, if_pos rfl]; exact h1 h
  · rw [decide_eq_false h, if_neg Bool.false_ne_true]; exact h2 h
theorem if_nd {p A B : Prop} [Decidable p] (h1 : ¬ p → A) (h2 : p → B) : if (!decide p) = true then A else B := by
  by_cases h : p
  · rw [decide_eq_true h]; exact iteF (h2 h)
  · rw [decide_eq_false h]; exact iteT (h1 h)
theorem if_b {b : Bool} {A B : Prop} (h1 : b = true → A) (h2 : b = false → B) : if b = true then A else B := by
  cases b with
  | true => exact iteT (h1 rfl)
  | false => exact iteF (h2 rfl)
theorem if_T {b : Bool} {A B : Prop} (h : b = true) (h1 : A) : if b = true then A else B := by rw [if_pos h]; exact h1
theorem if_F {b : Bool} {A B : Prop} (h : b = false) (h1 : B) : if b = true then A else B := by rw [h]; exact iteF h1
end
theorem CMul.l {i j : Int} (h1 : -(2 ^ 64) < i) (h2 : i < 2 ^ 64) : CMul i j := .inl ⟨h1, h2⟩
theorem CMul.r {i j : Int} (h1 : -(2 ^ 64) < j) (h2 : j < 2 ^ 64) : CMul i j := .inr ⟨h1, h2⟩
/-- all but s is kept -/
def Kp (s : Addr) (H H' : Hp) : Prop := ∀ b o, b ≠ s → H b = some o → H' b = some o
theorem Kp.refl {s : Addr} (H : Hp) : Kp s H H := fun _ _ _ h => h
theorem Kp.trans {s : Addr} {H H1 H2 : Hp} (a : Kp s H H1) (b : Kp s H1 H2) : Kp s H H2 := fun c o n h => b c o n (a c o n h)
theorem Kp.upd {s p : Addr} {H H1 : Hp} {o : HO} (a : Kp s H H1) (h : H1 p = none) : Kp s H (L2.upd H1 p o) := fun c u n e => by rw [upd_ne (ne_of_none (a c u n e) h)]; exact a c u n e
theorem Kp.own {s p : Addr} {H H1 : Hp} {o : HO} (a : Kp s H H1) (h : H p = none) : Kp s H (L2.upd H1 p o) := fun c u n e => by rw [upd_ne (ne_of_none e h)]; exact a c u n e
theorem Kp.at {s : Addr} {H H1 : Hp} {o : HO} (a : Kp s H H1) : Kp s H (L2.upd H1 s o) := fun c u n e => by rw [upd_ne n]; exact a c u n e
theorem Kp.seq {s a : Addr} {H H' : Hp} {xs : List V} (e : Kp s H H') (n : a ≠ s) (h : SqL K H a xs) : SqL K H' a xs := by
  rcases h with (h | ⟨o, h⟩) | h
  · exact .inl (.inl (e _ _ n h))
  · exact .inl (.inr ⟨o, e _ _ n h⟩)
  · exact .inr h
theorem Kp.set {s a : Addr} {H H' : Hp} {xs : List V} (e : Kp s H H') (n : a ≠ s) (h : SqT K H a xs) : SqT K H' a xs := by
  rcases h with (h | ⟨o, h⟩) | h
  · exact .inl (.inl (e _ _ n h))
  · exact .inl (.inr ⟨o, e _ _ n h⟩)
  · exact .inr h
theorem _root_.L2.Same.kp {s : Addr} {H H' : Hp} (e : Same H H') : Kp s H H' := fun _ _ _ h => e _ _ h
/-- a global whose value is a tuple of the module -/
def tGT (K : PySem.W.Frag) (xs : List V) : TE := fun _ H Q => ∀ a, SqT K H a xs → Q (.ref a) H
theorem pe_gt {X : Cx} {x : Str} {xs : List V} {pos : Pos} (hg : Gl X x) (h : ∃ a, X.mg x = some (.ref a) ∧ ∀ H, SqT X.K H a xs) (hd : (x == ("__debug__" : Str)) = false := by decide) : PE X (.Name x pos) (tGT X.K xs) := by
  obtain ⟨a, e, ht⟩ := h
  exact ⟨fun pins s σ H Q I q => (pe_glob (v := .ref a) hg e rfl hd).run pins s σ H Q I (q a (ht H))⟩
/-- a global whose value is an int -/
theorem pe_gk {X : Cx} {x : Str} {i : Int} {pos : Pos} (hg : Gl X x) (h : ∃ t, X.mg x = some (.int i t)) (hd : (x == ("__debug__" : Str)) = false := by decide) : PE X (.Name x pos) (tC (.int i)) := by
  obtain ⟨t, e⟩ := h
  exact pe_glob hg e ⟨t, rfl⟩ hd
/-- a built-in class as a value -/
theorem pe_ty {X : Cx} {x : Str} {n : String} {pos : Pos} (hg : Gl X x) (hm : X.mg x = none) (hv : bootBuiltins x = some (.type n)) (hn : x ≠ "__name__" := by decide) (hd : (x == ("__debug__" : Str)) = false := by decide) : PE X (.Name x pos) (tC (.ty n)) := pe_bltn hg hm hv rfl hn hd
/-- a value whose kind is known -/
inductive Kn (K : PySem.W.Frag) (H : Hp) : V → String → Prop
  | non : Kn K H .non "NoneType"
  | bl (b : Bool) : Kn K H (.bl b) "bool"
  | int (i : Int) : Kn K H (.int i) "int"
  | str (x : Str) : Kn K H (.str x) "str"
  | lst {a : Addr} {xs : List V} (e : H a = some (.lst xs)) : Kn K H (.ref a) "list"
  | tup {a : Addr} {xs : List V} (e : H a = some (.tup xs)) : Kn K H (.ref a) "tuple"
  | dK {a : Addr} {kvs : List (Key × V)} (e : H a = some (.dK kvs)) : Kn K H (.ref a) "dict"
theorem Kn.ty {K : PySem.W.Frag} {H : Hp} {v : V} {n : String} (k : Kn K H v n) : TyX K H v (.type n) := by
  cases k with
  | non => exact .base .non
  | bl b => exact .base (.bl b)
  | int i => exact .base (.int i)
  | str x => exact .base (.str x)
  | lst e => exact .base (.lst e)
  | tup e => exact .base (.tup e)
  | dK e => exact .base (.dK e)
theorem Kn.ext {K : PySem.W.Frag} {H H' : Hp} {v : V} {n : String} (k : Kn K H v n) (e : ∀ a o, H a = some o → H' a = some o) : Kn K H' v n := by
  cases k with
  | non => exact .non
  | bl b => exact .bl b
  | int i => exact .int i
  | str x => exact .str x
  | lst h => exact .lst (e _ _ h)
  | tup h => exact .tup (e _ _ h)
  | dK h => exact .dK (e _ _ h)
theorem r_isi {K : PySem.W.Frag} {H : Hp} {Q : VK} {v : V} {n m : String} {b : Bool} (k : Kn K H v n) (e : kitB n m = some b) (h : Q (.bl b) H) : rIsi K [v, .ty m] H Q := ⟨_, _, _, _, _, rfl, .ty m, k.ty, kit_ty e, h⟩
theorem r_inT {K : PySem.W.Frag} {H : Hp} {Q : VK} {v : V} {p : Addr} {xs : List V} (hs : SqT K H p xs) (h1 : flatV v = true) (h2 : xs.all flatV = true) (h : Q (.bl (inV v xs)) H) : rIn K false v (.ref p) H Q := ⟨p, xs, rfl, .inr hs, h1, h2, h⟩
theorem r_inL {K : PySem.W.Frag} {H : Hp} {Q : VK} {v : V} {p : Addr} {xs : List V} (hs : SqL K H p xs) (h1 : flatV v = true) (h2 : xs.all flatV = true) (h : Q (.bl (inV v xs)) H) : rIn K false v (.ref p) H Q := ⟨p, xs, rfl, .inl hs, h1, h2, h⟩
theorem r_ninL {K : PySem.W.Frag} {H : Hp} {Q : VK} {v : V} {p : Addr} {xs : List V} (hs : SqL K H p xs) (h1 : flatV v = true) (h2 : xs.all flatV = true) (h : Q (.bl (!inV v xs)) H) : rIn K true v (.ref p) H Q := ⟨p, xs, rfl, .inl hs, h1, h2, h⟩
theorem dpall_ints {K : PySem.W.Frag} {H : Hp} : ∀ ns : List Int, DpAll K H (ns.map V.int) (ns.map PyData.int)
  | [] => .nil
  | i :: r => .cons (.int i) (dpall_ints r)
theorem eqvAll_ints : ∀ ns ms : List Int, PyData.eqvAll (ns.map PyData.int) (ms.map PyData.int) = decide (ns = ms)
  | [], [] => rfl
  | [], _ :: _ => rfl
  | _ :: _, [] => rfl
  | a :: r, b :: t => by
    show (PyData.eqv (.int a) (.int b) && PyData.eqvAll (r.map PyData.int) (t.map PyData.int)) = _
    rw [eqvAll_ints r t]
    show ((a == b) && decide (r = t)) = _
    by_cases h : a = b <;> simp [h]
theorem eqv_ints (ns ms : List Int) : PyData.eqv (.list (ns.map PyData.int)) (.list (ms.map PyData.int)) = decide (ns = ms) := by
  rw [← eqvAll_ints]
  simp only [PyData.eqv]
theorem canLay_ints : ∀ ns : List Int, PyData.canLayAll0 (ns.map PyData.int) = true
  | [] => rfl
  | a :: r => by
    have ih := canLay_ints r
    simp [PyData.canLayAll0, PyData.canLay0, ih]
theorem depth_ints : ∀ ns : List Int, PyData.depthAll (ns.map PyData.int) = 0
  | [] => rfl
  | a :: r => by
    have ih := depth_ints r
    simp [PyData.depthAll, PyData.depth, ih]
theorem shaped_ints (ns : List Int) : SeqAt.shaped (.list (ns.map PyData.int)) = true := by
  have h1 := canLay_ints ns
  have h2 := depth_ints ns
  simp [SeqAt.shaped, PyData.canLay0, PyData.depth, h1, h2]
theorem r_neI {K : PySem.W.Frag} {H : Hp} {Q : VK} {p q : Addr} {ns ms : List Int} (h1 : SqL K H p (ns.map V.int)) (h2 : SqL K H q (ms.map V.int)) (h : Q (.bl (!decide (ns = ms))) H) : rNeD K (.ref p) (.ref q) H Q :=
  ⟨_, _, .lst h1 (dpall_ints ns), .lst h2 (dpall_ints ms), shaped_ints _, shaped_ints _, by rw [eqv_ints]; exact h⟩
theorem r_eqI {K : PySem.W.Frag} {H : Hp} {Q : VK} {p q : Addr} {ns ms : List Int} (h1 : SqL K H p (ns.map V.int)) (h2 : SqL K H q (ms.map V.int)) (h : Q (.bl (decide (ns = ms))) H) : rEqD K (.ref p) (.ref q) H Q :=
  ⟨_, _, .lst h1 (dpall_ints ns), .lst h2 (dpall_ints ms), shaped_ints _, shaped_ints _, by rw [eqv_ints]; exact h⟩
theorem flat_ints (ns : List Int) : (ns.map V.int).all flatV = true := by simp [flatV]
theorem inV_ints (i : Int) (ns : List Int) : inV (.int i) (ns.map V.int) = decide (i ∈ ns) := by
  induction ns with
  | nil => rfl
  | cons a r ih =>
    show (eqV (.int a) (.int i) || inV (.int i) (r.map V.int)) = _
    rw [ih]
    show ((a == i) || decide (i ∈ r)) = _
    by_cases h : a = i
    · subst h; simp
    · have h' : ¬ i = a := fun e => h e.symm
      simp [h, h']
theorem _root_.L2.Same.upd {p : Addr} {H H1 : Hp} {o : HO} (a : Same H H1) (h : H1 p = none) : Same H (L2.upd H1 p o) := fun c u e => by rw [upd_ne (ne_of_none (a c u e) h)]; exact a c u e
def rIsN : R2 := fun x y H Q => y = .non ∧ Q (.bl (decide (x = .non))) H
def rNotN : R2 := fun x y H Q => y = .non ∧ Q (.bl (!decide (x = .non))) H
theorem o_isN {X : Cx} : OpR X (compareOp .Is) rIsN := op_isN
theorem o_notN {X : Cx} : OpR X (compareOp .IsNot) rNotN := op_notN
theorem r_isNi {H : Hp} {Q : VK} {i : Int} (h : Q (.bl false) H) : rIsN (.int i) .non H Q := ⟨rfl, h⟩
theorem r_isNn {H : Hp} {Q : VK} (h : Q (.bl true) H) : rIsN .non .non H Q := ⟨rfl, h⟩
theorem r_isNr {H : Hp} {Q : VK} {a : Addr} (h : Q (.bl false) H) : rIsN (.ref a) .non H Q := ⟨rfl, h⟩
theorem r_notNi {H : Hp} {Q : VK} {i : Int} (h : Q (.bl true) H) : rNotN (.int i) .non H Q := ⟨rfl, h⟩
theorem r_notNn {H : Hp} {Q : VK} (h : Q (.bl false) H) : rNotN .non .non H Q := ⟨rfl, h⟩
theorem r_notNr {H : Hp} {Q : VK} {a : Addr} (h : Q (.bl true) H) : rNotN (.ref a) .non H Q := ⟨rfl, h⟩
theorem r_cat {H : Hp} {Q : VK} {l b : Addr} {xs zs : List V} (h1 : H l = some (.lst xs)) (h2 : H b = some (.lst zs)) (hn : xs.length + zs.length ≤ 1000) (h : ∀ p, H p = none → Q (.ref p) (upd H p (.lst (xs ++ zs)))) : rCat (.ref l) (.ref b) H Q :=
  ⟨_, _, _, _, rfl, rfl, h1, h2, Nat.le_trans hn (by decide), h⟩
theorem cut_ints (ns : List Int) (lo hi : Option Int) : ∃ ms : List Int, cutV (ns.map V.int) lo hi = ms.map V.int ∧ ms.length ≤ ns.length := by
  unfold cutV
  refine ⟨(ns.drop _).take _, by rw [List.map_take, List.map_drop], ?_⟩
  rw [List.length_take, List.length_drop]
  omega
theorem _root_.L2.Same.off {p : Addr} {H H1 H2 : Hp} (e : Same H H1) (h : H p = none) (k : Kp p H1 H2) : Same H H2 := fun b o q => k b o (ne_of_none q h) (e b o q)
theorem _root_.L2.Same.own {p : Addr} {H H1 : Hp} {o : HO} (e : Same H H1) (h : H p = none) : Same H (L2.upd H1 p o) := fun b u q => by rw [upd_ne (ne_of_none q h)]; exact e b u q
/-! ### loops -/
/-- a for loop over what J tells -/
def Loop (J : It) (g : TG) (tb : TS) (D : Ends) (σ : St) (H : Hp) : Prop := tFor (fun _ H R => R J H) g tb D σ H
/-- a comprehension over what J tells -/
def LcLoop (J : It) (g : TG) (tt : TT) (te : TE) (vs : List Nat) (σ : St) (H : Hp) (Q : VK) : Prop := tLc (fun _ H R => R J H) g tt te vs σ H Q
section
variable {K : PySem.W.Frag} {D : Ends} {σ : St} {H : Hp} {Q : VK} {g : TG} {tb : TS} {tt : TT} {te : TE} {wi : TI} {vs : List Nat} {tA : TA}
theorem r_for (h : wi σ H fun J H1 => Loop J g tb D σ H1) : tFor wi g tb D σ H := h
theorem r_lc (h : wi σ H fun J H1 => LcLoop J g tt te vs σ H1 Q) : tLc wi g tt te vs σ H Q := h
theorem r_iR1 {R : It → Hp → Prop} (h : tA σ H fun xs H1 => ∃ j : Int, xs = [.int j] ∧ -(2 ^ 62) ≤ j ∧ j < 2 ^ 62 ∧ R (Itr 0 j.toNat) H1) : iRng1 tA σ H R := h
theorem r_iR2 {R : It → Hp → Prop} (h : tA σ H fun xs H1 => ∃ i j : Int, xs = [.int i, .int j] ∧ (-(2 ^ 62) ≤ i ∧ i < 2 ^ 62 ∧ -(2 ^ 62) ≤ j ∧ j < 2 ^ 62) ∧ R (Itr i (j - i).toNat) H1) : iRng2 tA σ H R := h
theorem r_iL {R : It → Hp → Prop} (h : te σ H fun x H1 => ∃ a, x = .ref a ∧ (∃ xs, SqL K H1 a xs) ∧ R (Itl K a) H1) : iList K te σ H R := h
theorem r_iT {R : It → Hp → Prop} (h : te σ H fun x H1 => ∃ a, x = .ref a ∧ (∃ xs, SqT K H1 a xs) ∧ R (Itt K a) H1) : iTup K te σ H R := h
theorem rng1L {a : Int} (n : Nat) (e : a = n) (hb : n < 2 ^ 62) (h : Loop (Itr 0 n) g tb D σ H) : ∃ j : Int, [V.int a] = [.int j] ∧ -(2 ^ 62) ≤ j ∧ j < 2 ^ 62 ∧ Loop (Itr 0 j.toNat) g tb D σ H := by
  subst e
  exact ⟨_, rfl, by omega, by omega, by rw [Int.toNat_natCast]; exact h⟩
theorem rng2L {a b : Int} (n : Nat) (e : b = a + n) (h1 : -(2 ^ 62) ≤ a) (h2 : a + n < 2 ^ 62) (h : Loop (Itr a n) g tb D σ H) : ∃ i j : Int, [V.int a, V.int b] = [.int i, .int j] ∧ (-(2 ^ 62) ≤ i ∧ i < 2 ^ 62 ∧ -(2 ^ 62) ≤ j ∧ j < 2 ^ 62) ∧ Loop (Itr i (j - i).toNat) g tb D σ H := by
  subst e
  refine ⟨_, _, rfl, by omega, ?_⟩
  rw [show (a + (n : Int) - a).toNat = n by omega]; exact h
theorem overLL {a : Addr} {xs : List V} (hs : SqL K H a xs) (h : Loop (Itl K a) g tb D σ H) : ∃ b, V.ref a = .ref b ∧ (∃ ys, SqL K H b ys) ∧ Loop (Itl K b) g tb D σ H := ⟨a, rfl, ⟨xs, hs⟩, h⟩
theorem overTL {a : Addr} {xs : List V} (hs : SqT K H a xs) (h : Loop (Itt K a) g tb D σ H) : ∃ b, V.ref a = .ref b ∧ (∃ ys, SqT K H b ys) ∧ Loop (Itt K b) g tb D σ H := ⟨a, rfl, ⟨xs, hs⟩, h⟩
theorem rng1C {a : Int} (n : Nat) (e : a = n) (hb : n < 2 ^ 62) (h : LcLoop (Itr 0 n) g tt te vs σ H Q) : ∃ j : Int, [V.int a] = [.int j] ∧ -(2 ^ 62) ≤ j ∧ j < 2 ^ 62 ∧ LcLoop (Itr 0 j.toNat) g tt te vs σ H Q := by
  subst e
  exact ⟨_, rfl, by omega, by omega, by rw [Int.toNat_natCast]; exact h⟩
theorem rng2C {a b : Int} (n : Nat) (e : b = a + n) (h1 : -(2 ^ 62) ≤ a) (h2 : a + n < 2 ^ 62) (h : LcLoop (Itr a n) g tt te vs σ H Q) : ∃ i j : Int, [V.int a, V.int b] = [.int i, .int j] ∧ (-(2 ^ 62) ≤ i ∧ i < 2 ^ 62 ∧ -(2 ^ 62) ≤ j ∧ j < 2 ^ 62) ∧ LcLoop (Itr i (j - i).toNat) g tt te vs σ H Q := by
  subst e
  refine ⟨_, _, rfl, by omega, ?_⟩
  rw [show (a + (n : Int) - a).toNat = n by omega]; exact h
theorem overLC {a : Addr} {xs : List V} (hs : SqL K H a xs) (h : LcLoop (Itl K a) g tt te vs σ H Q) : ∃ b, V.ref a = .ref b ∧ (∃ ys, SqL K H b ys) ∧ LcLoop (Itl K b) g tt te vs σ H Q := ⟨a, rfl, ⟨xs, hs⟩, h⟩
theorem overTC {a : Addr} {xs : List V} (hs : SqT K H a xs) (h : LcLoop (Itt K a) g tt te vs σ H Q) : ∃ b, V.ref a = .ref b ∧ (∃ ys, SqT K H b ys) ∧ LcLoop (Itt K b) g tt te vs σ H Q := ⟨a, rfl, ⟨xs, hs⟩, h⟩
theorem loop_range {n : Nat} (Pv : Nat → St → Hp → Prop) (h0 : Pv 0 σ H) (hs : ∀ (i : Nat) σ H, i < n → Pv i σ H → g (.int i) σ H fun σ2 H2 => tb { D with nx := Pv (i + 1), ct := Pv (i + 1), bk := D.nx } σ2 H2)
    (hd : ∀ σ H, Pv n σ H → D.nx σ H) : Loop (Itr 0 n) g tb D σ H :=
  for_range (lo := 0) Pv h0 (fun i σ H hi p => by rw [Int.zero_add]; exact hs i σ H hi p) hd
theorem loop_list {a : Addr} {xs : List V} (Pv : Nat → St → Hp → Prop) (h0 : Pv 0 σ H) (hl : ∀ i σ H, i ≤ xs.length → Pv i σ H → SqL K H a xs)
    (hs : ∀ (i : Nat) x σ H, xs[i]? = some x → Pv i σ H → g x σ H fun σ2 H2 => tb { D with nx := Pv (i + 1), ct := Pv (i + 1), bk := D.nx } σ2 H2) (hd : ∀ σ H, Pv xs.length σ H → D.nx σ H) : Loop (Itl K a) g tb D σ H :=
  for_list Pv h0 hl hs hd
theorem loop_tup {a : Addr} {xs : List V} (Pv : Nat → St → Hp → Prop) (h0 : Pv 0 σ H) (hl : ∀ i σ H, i ≤ xs.length → Pv i σ H → SqT K H a xs)
    (hs : ∀ (i : Nat) x σ H, xs[i]? = some x → Pv i σ H → g x σ H fun σ2 H2 => tb { D with nx := Pv (i + 1), ct := Pv (i + 1), bk := D.nx } σ2 H2) (hd : ∀ σ H, Pv xs.length σ H → D.nx σ H) : Loop (Itt K a) g tb D σ H :=
  for_tup Pv h0 hl hs hd
theorem filt_more {α : Type} (f : Nat → Bool) (v : Nat → α) (i : Nat) : ((List.range (i + 1)).filter f).map v = if f i then ((List.range i).filter f).map v ++ [v i] else ((List.range i).filter f).map v := by
  rw [List.range_succ, List.filter_append, List.map_append]
  by_cases h : f i = true <;> simp [h]
/-- a comprehension over range(n) whose test and item change nothing -/
theorem lc_pureR {n : Nat} (f : Nat → Bool) (v : Nat → V) (hn : n ≤ 1000000)
    (hs : ∀ D acc (i : Nat) (N : Hp → Prop), H D = none → i < n → acc.length < sizeLine → (f i = true → N (upd H D (.lst (acc ++ [v i])))) → (f i = false → N (upd H D (.lst acc))) →
      g (.int i) (wipe σ vs) (upd H D (.lst acc)) fun σ2 H2 => wipe σ2 vs = wipe σ vs ∧ tt σ2 H2 fun b H3 => if b = true then te σ2 H3 fun y H4 => ∃ a, H4 D = some (.lst a) ∧ a.length < sizeLine ∧ N (upd H4 D (.lst (a ++ [y]))) else N H3)
    (hd : ∀ D, H D = none → Q (.ref D) (upd H D (.lst (((List.range n).filter f).map v)))) : LcLoop (Itr 0 n) g tt te vs σ H Q := by
  intro D hD
  refine lc_range (lo := 0) (n := n) (fun i H' => H' = upd H D (.lst (((List.range i).filter f).map v))) rfl (fun i H' hi e => ?_) (fun H' e => ?_)
  · subst e
    rw [Int.zero_add]
    refine hs D _ i _ hD hi ?_ (fun h => ?_) (fun h => ?_)
    · have := List.length_filter_le f (List.range i)
      rw [List.length_map]
      rw [List.length_range] at this
      exact Nat.lt_of_le_of_lt (Nat.le_trans this (Nat.le_trans (Nat.le_of_lt hi) hn)) (by decide)
    · rw [filt_more, if_pos h]
    · rw [filt_more, if_neg (by rw [h]; exact Bool.false_ne_true)]
  · subst e
    exact hd D hD
theorem filtL_more {xs : List V} {i : Nat} {x : V} (f : V → Bool) (v : V → V) (h : xs[i]? = some x) : ((xs.take (i + 1)).filter f).map v = if f x then ((xs.take i).filter f).map v ++ [v x] else ((xs.take i).filter f).map v := by
  rw [List.take_succ, h, List.filter_append, List.map_append]
  by_cases c : f x = true <;> simp [c]
/-- the same over a list -/
theorem lc_pureL {a : Addr} {xs : List V} (f : V → Bool) (v : V → V) (hx : SqL K H a xs) (hn : xs.length ≤ 1000000)
    (hs : ∀ D acc (i : Nat) x (N : Hp → Prop), H D = none → xs[i]? = some x → acc.length < sizeLine → (f x = true → N (upd H D (.lst (acc ++ [v x])))) → (f x = false → N (upd H D (.lst acc))) →
      g x (wipe σ vs) (upd H D (.lst acc)) fun σ2 H2 => wipe σ2 vs = wipe σ vs ∧ tt σ2 H2 fun b H3 => if b = true then te σ2 H3 fun y H4 => ∃ a, H4 D = some (.lst a) ∧ a.length < sizeLine ∧ N (upd H4 D (.lst (a ++ [y]))) else N H3)
    (hd : ∀ D, H D = none → Q (.ref D) (upd H D (.lst ((xs.filter f).map v)))) : LcLoop (Itl K a) g tt te vs σ H Q := by
  intro D hD
  refine lc_list (K := K) (a := a) (xs := xs) (fun i H' => H' = upd H D (.lst (((xs.take i).filter f).map v))) rfl (fun i H' _ e => ?_) (fun i x H' hi e => ?_) (fun H' e => ?_)
  · subst e
    exact Same.seq (Same.upd (Same.refl H) hD) hx
  · subst e
    refine hs D _ i x _ hD hi ?_ (fun h => ?_) (fun h => ?_)
    · have h1 := List.length_filter_le f (xs.take i)
      rw [List.length_map]
      rw [List.length_take] at h1
      exact Nat.lt_of_le_of_lt (Nat.le_trans h1 (Nat.le_trans (Nat.min_le_right _ _) hn)) (by decide)
    · rw [filtL_more f v hi, if_pos h]
    · rw [filtL_more f v hi, if_neg (by rw [h]; exact Bool.false_ne_true)]
  · subst e
    rw [List.take_length]
    exact hd D hD
theorem r_wipe {σ' : St} {F : Prop} (e : wipe σ' vs = wipe σ vs) (h : F) : wipe σ' vs = wipe σ vs ∧ F := ⟨e, h⟩
theorem r_kept {D : Addr} {acc : List V} {y : V} {N : Hp → Prop} (hl : acc.length < sizeLine) (h : N (upd H D (.lst (acc ++ [y])))) : ∃ a, upd H D (.lst acc) D = some (.lst a) ∧ a.length < sizeLine ∧ N (upd (upd H D (.lst acc)) D (.lst (a ++ [y]))) := ⟨acc, upd_same, hl, by rw [upd_upd]; exact h⟩
end
/-! rules over the written part, by its name (within a comprehension's block too) -/
section
variable {X : Cx} {K : PySem.W.Frag}
theorem ixL (h : X.K = K := by rfl) : IxR X (rIxL K) := h ▸ ix_list
theorem ixT (h : X.K = K := by rfl) : IxR X (rIxT K) := h ▸ ix_tup
theorem inK (h : X.K = K := by rfl) : OpR X (compareOp .In) (rIn K false) := h ▸ op_in_seq
theorem ninK (h : X.K = K := by rfl) : OpR X (compareOp .NotIn) (rIn K true) := h ▸ op_notIn_seq
theorem eqK (hu : X.A.units + 64 < cLine) (h : X.K = K := by rfl) : OpR X (compareOp .Eq) (rEqD K) := h ▸ op_eqD hu
theorem neK (hu : X.A.units + 64 < cLine) (h : X.K = K := by rfl) : OpR X (compareOp .NotEq) (rNeD K) := h ▸ op_neD hu
theorem slK (h : X.K = K := by rfl) : SlR X (rSlL K) := h ▸ sl_list
theorem isiK (h : X.K = K := by rfl) : CallR X (.builtin "isinstance") (rIsi K) := h ▸ call_isi
theorem sumK (hc : X.calm = true) (h : X.K = K := by rfl) : CallR X (.builtin "sum") (rSum K) := h ▸ cr_sum hc
theorem allK (hc : X.calm = true) (h : X.K = K := by rfl) : CallR X (.builtin "all") (rAll K) := h ▸ cr_all hc
end
/-! built-in calls by named readings -/
def rIntC : List V → Hp → VK → Prop := fun xs H Q => (∃ i, xs = [.int i] ∧ Q (.int i) H) ∨ ∃ k, xs = [.bl k] ∧ Q (.int (if k then 1 else 0)) H
theorem c_int {X : Cx} : CallR X (.type "int") rIntC := call_int1
def rLenC (K : PySem.W.Frag) : List V → Hp → VK → Prop := fun xs H Q => ∃ x n, xs = [x] ∧ LenV K x H n ∧ Q (.int n) H
theorem c_len {X : Cx} {K : PySem.W.Frag} (h : X.K = K := by rfl) : CallR X (.builtin "len") (rLenC K) := h ▸ call_len
def rListC (K : PySem.W.Frag) : List V → Hp → VK → Prop := fun xs H Q => ∃ p ys, xs = [.ref p] ∧ (SqL K H p ys ∨ SqT K H p ys) ∧ ∀ l, H l = none → Q (.ref l) (upd H l (.lst ys))
theorem c_list {X : Cx} {K : PySem.W.Frag} (h : X.K = K := by rfl) : CallR X (.type "list") (rListC K) := h ▸ call_list_of
def rTupC (K : PySem.W.Frag) : List V → Hp → VK → Prop := fun xs H Q => ∃ p ys, xs = [.ref p] ∧ ((SqL K H p ys ∧ ∀ l, H l = none → Q (.ref l) (upd H l (.tup ys))) ∨ (SqT K H p ys ∧ Q (.ref p) H))
theorem c_tuple {X : Cx} {K : PySem.W.Frag} (h : X.K = K := by rfl) : CallR X (.type "tuple") (rTupC K) := h ▸ call_tuple_of
def rMax2 : List V → Hp → VK → Prop := fun xs H Q => ∃ i j, xs = [.int i, .int j] ∧ Q (.int (if j > i then j else i)) H
theorem c_max2 {X : Cx} (hc : X.calm = true) : CallR X (.builtin "max") rMax2 := call_max2 hc
def rMin2 : List V → Hp → VK → Prop := fun xs H Q => ∃ i j, xs = [.int i, .int j] ∧ Q (.int (if j < i then j else i)) H
theorem c_min2 {X : Cx} (hc : X.calm = true) : CallR X (.builtin "min") rMin2 := call_min2 hc
section
variable {K : PySem.W.Frag} {H : Hp} {Q : VK} {v : V} {p l : Addr} {xs : List V}
theorem r_int {a : Int} (h : Q (.int a) H) : rIntC [V.int a] H Q := .inl ⟨a, rfl, h⟩
theorem r_intb {b : Bool} (h : Q (.int (if b then 1 else 0)) H) : rIntC [V.bl b] H Q := .inr ⟨b, rfl, h⟩
theorem r_lenl (hs : SqL K H p xs) (h : Q (.int xs.length) H) : rLenC K [.ref p] H Q := ⟨_, _, rfl, .inl ⟨_, hs, rfl⟩, h⟩
theorem r_lent (hs : SqT K H p xs) (h : Q (.int xs.length) H) : rLenC K [.ref p] H Q := ⟨_, _, rfl, .inr ⟨_, hs, rfl⟩, h⟩
theorem r_listl (hs : SqL K H p xs) (h : ∀ l, H l = none → Q (.ref l) (upd H l (.lst xs))) : rListC K [.ref p] H Q := ⟨_, _, rfl, .inl hs, h⟩
theorem r_listt (hs : SqT K H p xs) (h : ∀ l, H l = none → Q (.ref l) (upd H l (.lst xs))) : rListC K [.ref p] H Q := ⟨_, _, rfl, .inr hs, h⟩
theorem r_tupl (hs : SqL K H p xs) (h : ∀ l, H l = none → Q (.ref l) (upd H l (.tup xs))) : rTupC K [.ref p] H Q := ⟨_, _, rfl, .inl ⟨hs, h⟩⟩
theorem r_tupt (hs : SqT K H p xs) (h : Q (.ref p) H) : rTupC K [.ref p] H Q := ⟨_, _, rfl, .inr ⟨hs, h⟩⟩
theorem r_max2 {a b : Int} (h : Q (.int (max a b)) H) : rMax2 [.int a, .int b] H Q := ⟨_, _, rfl, by
  have e : (if b > a then b else a) = max a b := by split <;> omega
  rw [e]; exact h⟩
theorem r_min2 {a b : Int} (h : Q (.int (min a b)) H) : rMin2 [.int a, .int b] H Q := ⟨_, _, rfl, by
  have e : (if b < a then b else a) = min a b := by split <;> omega
  rw [e]; exact h⟩
theorem r_append (h1 : H l = some (.lst xs)) (h2 : xs.length < sizeLine) (h : Q .non (upd H l (.lst (xs ++ [v])))) : rAppend (.ref l) [v] H Q := ⟨_, _, _, rfl, rfl, h1, h2, h⟩
theorem r_tyl {F : Prop} (h1 : H l = some (.lst xs)) (h : F) : tyV K "list" (.ref l) H ∧ F := ⟨tyl h1, h⟩
end
local macro_rules | `(tactic| walk_at "ne") => `(tactic| first | assumption | (apply Ne.symm; assumption) | grind)
local macro_rules | `(tactic| walk_at "hp") => `(tactic| first | assumption | exact upd_same | ((refine (upd_ne ?_).trans ?_) <;> first | walk_at "ne" | walk_at "hp"))
local macro_rules | `(tactic| walk_at "si") => `(tactic| first | decide | assumption | omega | exact CMul.l (by omega) (by omega) | exact CMul.r (by omega) (by omega) | exact ⟨by omega, by omega⟩)
local macro_rules | `(tactic| walk_at "rd1") => `(tactic| first
  | (with_reducible refine r_seq ?_) | (with_reducible refine r_asg ?_) | (with_reducible refine r_gname ?_) | (with_reducible refine r_drop ?_) | (with_reducible refine r_ret ?_) | (with_reducible refine r_retN ?_) | (with_reducible refine r_next ?_)
  | (with_reducible refine r_ifS ?_) | (with_reducible refine r_c ?_) | (with_reducible refine r_op ?_) | (with_reducible refine r_un ?_) | (with_reducible refine r_rU ?_) | (with_reducible refine r_rI0 ?_)
  | (with_reducible refine r_test ?_) | (with_reducible refine r_B ?_) | (with_reducible refine r_k ?_) | (with_reducible refine r_eqi ?_) | (with_reducible refine r_nei ?_) | (with_reducible refine r_eqs ?_) | (with_reducible refine r_chain ?_)
  | (with_reducible refine r_and ?_) | (with_reducible refine r_or ?_) | (with_reducible refine r_not ?_) | (with_reducible refine r_andV ?_) | (with_reducible refine r_orV ?_) | (with_reducible refine r_notV ?_) | (with_reducible refine r_k2 ?_) | (with_reducible refine r_ifE ?_)
  | (with_reducible refine r_nil ?_) | (with_reducible refine r_cons ?_) | (with_reducible refine r_tup ?_) | (with_reducible refine r_lst ?_) | (with_reducible refine r_call ?_) | (with_reducible refine r_callN ?_) | (with_reducible refine r_CB ?_)
  | (with_reducible refine r_BM ?_) | (with_reducible refine r_BM0 ?_) | (with_reducible refine r_fldE ?_) | (with_reducible refine r_gsub ?_) | (with_reducible refine r_par ?_) | (with_reducible refine r_par2 ?_) | (with_reducible refine r_int ?_) | (with_reducible refine r_intb ?_) | (with_reducible refine r_isNi ?_) | (with_reducible refine r_isNn ?_) | (with_reducible refine r_isNr ?_) | (with_reducible refine r_notNi ?_) | (with_reducible refine r_notNn ?_) | (with_reducible refine r_notNr ?_) | (with_reducible refine r_max2 ?_) | (with_reducible refine r_min2 ?_)
  | (with_reducible refine r_wipe (by with_unfolding_all rfl) ?_)
  | (with_reducible refine r_for ?_) | (with_reducible refine r_lc ?_) | (with_reducible refine r_iR1 ?_) | (with_reducible refine r_iR2 ?_) | (with_reducible refine r_iL ?_) | (with_reducible refine r_iT ?_)
  | (with_reducible refine r_sl ?_) | (with_reducible refine r_part ?_) | (with_reducible refine r_noPart ?_) | (with_reducible refine r_exi ?_)
  | (with_reducible refine r_gcons ?_) | (with_reducible refine r_gnil ?_)
  | ((with_reducible refine r_new ?_ ?_); (focus first | exact Nat.le_of_ble_eq_true rfl | (simp; omega)))
  | ((with_reducible show gTup _ _ _ _ _ _ _); refine r_gtup (SqT.of (by walk_at "hp")) (by rfl) ?_)
  | (with_reducible refine iteT ?_) | (with_reducible refine iteF ?_)
  | ((with_reducible show tVar _ _ _ _); refine r_var rfl ?_)
  | (with_reducible refine if_F (b := !true) rfl ?_) | (with_reducible refine if_T (b := !false) rfl ?_)
  | ((with_reducible show rIsi _ _ _ _); first | (refine r_isi (b := true) (by first | assumption | exact .non | exact .bl _ | exact .int _ | exact .str _ | exact .lst (by walk_at "hp") | exact .tup (by walk_at "hp") | exact .dK (by walk_at "hp")) (by decide +kernel) ?_) | (refine r_isi (b := false) (by first | assumption | exact .non | exact .bl _ | exact .int _ | exact .str _ | exact .lst (by walk_at "hp") | exact .tup (by walk_at "hp") | exact .dK (by walk_at "hp")) (by decide +kernel) ?_))
  | ((with_reducible refine r_rI ?_ ?_); (focus walk_at "si"))
  | ((with_reducible show rIxL _ _ _ _ _); refine r_ixl (SqL.of (by walk_at "hp")) (by rfl) ?_)
  | ((with_reducible show tyV _ "list" _ _ ∧ _); refine r_tyl (by walk_at "hp") ?_)
  | ((with_reducible show rSetL _ _ _ _ _); refine r_setl (by walk_at "hp") (by rfl) ?_)
  | (with_reducible refine if_T (decide_eq_true ?_) ?_; (focus first | assumption | omega))
  | (with_reducible refine if_F (decide_eq_false ?_) ?_; (focus first | assumption | omega)))
local macro_rules | `(tactic| walk_at "rd") => `(tactic| repeat walk_at "rd1")
local macro_rules | `(tactic| walk_at "go") => `(tactic| (dsimp only [cxOf, L2.start, List.map, List.length, List.replicate, List.cons_append, List.nil_append, Nat.sub, Nat.reduceSub, Nat.reduceAdd]))

/-! ### the law's draws -/
/-- a source of choices stands at s -/
def Src (H : Hp) (s : Addr) : Prop := ∃ a b c : Int, H s = some (.lst [.int a, .int b, .int c])
theorem Src.kp {H H' : Hp} {s t : Addr} (h : Src H s) (k : Kp t H H') (n : s ≠ t) : Src H' s := by
  obtain ⟨a, b, c, h⟩ := h
  exact ⟨a, b, c, k _ _ n h⟩
theorem Src.upd {H : Hp} {s p : Addr} {o : HO} (h : Src H s) (n : H p = none) : Src (upd H p o) s := by
  obtain ⟨a, b, c, h⟩ := h
  exact ⟨a, b, c, by rw [upd_ne (ne_of_none h n)]; exact h⟩
/-- the source alone is changed -/
def Off (s : Addr) (H H' : Hp) : Prop := ∀ b, b ≠ s → H' b = H b
theorem Off.kp {s : Addr} {H H' : Hp} (h : Off s H H') : Kp s H H' := fun b o n e => (h b n).trans e
theorem Off.none {s b : Addr} {H H' : Hp} (h : Off s H H') (hs : Src H s) (n : H b = none) : H' b = none := by
  obtain ⟨_, _, _, hs⟩ := hs
  rw [h b (by rintro rfl; rw [n] at hs; cases hs)]; exact n
def spNext : Sp := fun vs H Q _ => ∃ (s : Addr) (m : Int), vs = [.ref s, .int m] ∧ Src H s ∧ 0 < m ∧ m < 1073741824 ∧ ∀ (r : Int) (H' : Hp), 0 ≤ r → r < m → Src H' s → Off s H H' → Q (.int r) H'

/-! ### the rules' module -/
def isInt : V → Bool
  | .int _ => true
  | _ => false
def inBnd (lo hi : Int) : V → Bool
  | .int i => decide (lo ≤ i) && decide (i ≤ hi)
  | _ => false
inductive Rl | last | first | lowest | least
  deriving DecidableEq
def Rl.s : Rl → Str
  | .last => "last"
  | .first => "first"
  | .lowest => "lowest"
  | .least => "least"
def isRl : V → Bool
  | .str x => inV (.str x) [.str "last", .str "first", .str "lowest", .str "least"]
  | _ => false
def spIsInt (K : PySem.W.Frag) : Sp := fun vs H Q _ => ∃ (v : V) (T : String), vs = [v] ∧ Kn K H v T ∧ Q (.bl (isInt v)) H
def spBetween (K : PySem.W.Frag) : Sp := fun vs H Q _ => ∃ (v : V) (T : String) (lo hi : Int), vs = [v, .int lo, .int hi] ∧ Kn K H v T ∧ Q (.bl (inBnd lo hi v)) H
def spIsRule (K : PySem.W.Frag) : Sp := fun vs H Q _ => ∃ (v : V) (T : String), vs = [v] ∧ Kn K H v T ∧ Q (.bl (isRl v)) H
/-- valid arguments -/
structure Args (n l g : Int) : Prop where
  n1 : 1 ≤ n
  n2 : n ≤ 64
  l1 : 1 ≤ l
  l2 : l ≤ n
  g1 : 1 ≤ g
  g2 : g ≤ 1000000000
def spCheck : Sp := fun vs H Q _ => ∃ (n l g : Int) (r : Rl), vs = [.int n, .int l, .int g, .str r.s] ∧ Args n l g ∧ Q .non H
def spFull : Sp := fun vs H Q _ => ∃ (n l g : Int), vs = [.int n, .int l, .int g] ∧ 1 ≤ g ∧ g ≤ 1000000000 ∧ Q (.int (g * (n - l + 1) + l)) H
def hor (n l g : Int) : Rl → Int
  | .last => g + 1
  | .lowest => g + 1
  | _ => g * (n - l + 1) + l
def spHorizon : Sp := fun vs H Q _ => ∃ (n l g : Int) (r : Rl), vs = [.int n, .int l, .int g, .str r.s] ∧ Args n l g ∧ ∀ H', Same H H' → Q (.int (hor n l g r)) H'
def spRetired : Sp := fun vs H Q _ => ∃ (n l g : Int), vs = [.int n, .int l, .int g] ∧ Args n l g ∧ Q (.int (g * (n - l + 1) + l - 1)) H

/-! ### sums of counts -/
theorem sum_setI : ∀ {l : List Int} {j : Nat} {z : Int} (y : Int), l[j]? = some z → (l.set j y).sum = l.sum + (y - z)
  | [], j, z, y, h => by simp at h
  | a :: r, 0, z, y, h => by
    have e : a = z := Option.some.inj h
    subst e
    simp only [List.set_cons_zero, List.sum_cons]; omega
  | a :: r, j + 1, z, y, h => by
    have ih := sum_setI (l := r) (j := j) (z := z) y h
    simp only [List.set_cons_succ, List.sum_cons, ih]; omega
theorem sum_leI : ∀ {l m : List Int}, l.length = m.length → (∀ (i : Nat) a b, l[i]? = some a → m[i]? = some b → a ≤ b) → l.sum ≤ m.sum
  | [], [], _, _ => by simp
  | [], _ :: _, h, _ => by simp at h
  | _ :: _, [], h, _ => by simp at h
  | a :: l, b :: m, h, k => by
    have h1 := k 0 a b rfl rfl
    have h2 := sum_leI (l := l) (m := m) (by simpa using h) fun i x y e1 e2 => k (i + 1) x y e1 e2
    simp only [List.sum_cons]; omega
theorem sum_rep (n : Nat) (G : Int) : (List.replicate n G).sum = n * G := by
  induction n with
  | zero => simp
  | succ n ih => rw [List.replicate_succ, List.sum_cons, ih, Int.natCast_succ, Int.add_mul]; omega
/-- 1 for the places in al, G for the others -/
def ones (n : Nat) (G : Int) (al : List Int) : List Int := (List.range n).map fun (y : Nat) => if (y : Int) ∈ al then 1 else G
theorem ones_len (n : Nat) (G : Int) (al : List Int) : (ones n G al).length = n := by simp [ones]
theorem ones_at {n : Nat} {G : Int} {al : List Int} {y : Nat} (h : y < n) : (ones n G al)[y]? = some (if (y : Int) ∈ al then 1 else G) := by
  simp [ones, h]
theorem ones_sum {n : Nat} {G : Int} : ∀ {al : List Int}, al.Nodup → (∀ x ∈ al, 0 ≤ x ∧ x < n) → (ones n G al).sum = al.length + (n - al.length) * G
  | [], _, _ => by
    have e : ones n G [] = List.replicate n G := by
      apply List.ext_getElem?
      intro i
      by_cases h : i < n
      · rw [ones_at h]; simp [h]
      · simp [ones, h]
    rw [e, sum_rep]; simp
  | a :: r, hn, hr => by
    obtain ⟨h1, h2⟩ := List.nodup_cons.mp hn
    have ih := ones_sum (G := G) h2 fun x hx => hr x (List.mem_cons_of_mem _ hx)
    obtain ⟨a0, a1⟩ := hr a List.mem_cons_self
    obtain ⟨b, rfl⟩ : ∃ b : Nat, a = (b : Int) := ⟨a.toNat, by omega⟩
    have hb : b < n := by omega
    have e : ones n G ((b : Int) :: r) = (ones n G r).set b 1 := by
      apply List.ext_getElem?
      intro i
      by_cases h : i < n
      · rw [ones_at h]
        by_cases hi : b = i
        · subst hi
          rw [List.getElem?_set_self (by rw [ones_len]; exact h)]
          simp
        · rw [List.getElem?_set_ne hi, ones_at h]
          have hi' : ¬ (i : Int) = (b : Int) := by omega
          simp [hi']
      · rw [List.getElem?_eq_none (by rw [ones_len]; omega), List.getElem?_eq_none (by rw [List.length_set, ones_len]; omega)]
    have hz : (ones n G r)[b]? = some G := by rw [ones_at hb, if_neg h1]
    rw [e, sum_setI 1 hz, ih, List.length_cons, Int.natCast_succ]
    have e2 : ((n : Int) - r.length) * G = (n - (r.length + 1)) * G + G := by
      rw [show ((n : Int) - r.length) = (n - (r.length + 1)) + 1 by omega, Int.add_mul]; omega
    rw [e2]; omega

/-! ### the caller of the law: counts cs, live ones al, i takes so far -/
structure St9 (n L : Nat) (G : Int) (keep : Bool) (i : Nat) (cs al : List Int) : Prop where
  len : cs.length = n
  sum : cs.sum = i
  ub : ∀ (y : Nat) c, cs[y]? = some c → 0 ≤ c ∧ c ≤ G
  nd : al.Nodup
  rng : ∀ x ∈ al, 0 ≤ x ∧ x < n
  one : ∀ (y : Nat) c, (y : Int) ∈ al → cs[y]? = some c → 1 ≤ c
  lenA : al.length ≤ L
  kl : keep = true → al.length = min i L
  k1 : keep = true → ∀ (j y : Nat) c, al[j]? = some (y : Int) → j + 1 < L → cs[y]? = some c → c = 1
  k0 : keep = true → i < L → ∀ (y : Nat) c, ¬ (y : Int) ∈ al → cs[y]? = some c → c = 0
/-- behind the give -/
structure Md9 (n L : Nat) (G : Int) (keep : Bool) (i : Nat) (cs al : List Int) : Prop where
  len : cs.length = n
  sum : cs.sum = i
  ub : ∀ (y : Nat) c, cs[y]? = some c → 0 ≤ c ∧ c ≤ G
  nd : al.Nodup
  rng : ∀ x ∈ al, 0 ≤ x ∧ x < n
  one : ∀ (y : Nat) c, (y : Int) ∈ al → cs[y]? = some c → 1 ≤ c
  lenA : al.length + 1 ≤ L
  kl : keep = true → al.length = min i (L - 1)
  k1 : keep = true → ∀ (y : Nat) c, (y : Int) ∈ al → cs[y]? = some c → c = 1
  k0 : keep = true → i < L → ∀ (y : Nat) c, ¬ (y : Int) ∈ al → cs[y]? = some c → c = 0
theorem St9.start {n L : Nat} {G : Int} {keep : Bool} (hG : 1 ≤ G) : St9 n L G keep 0 (List.replicate n 0) [] := by
  have z : ∀ (y : Nat) (c : Int), (List.replicate n (0 : Int))[y]? = some c → c = 0 := fun y c h => (List.mem_replicate.mp (List.mem_of_getElem? h)).2
  refine ⟨by simp, by rw [sum_rep]; simp, fun y c h => ?_, List.nodup_nil, fun x h => (nomatch h), fun y c h => (nomatch h), Nat.zero_le _, fun _ => by simp, fun _ j y c h => by simp at h, fun _ _ y c _ h => z y c h⟩
  rw [z y c h]; omega
theorem mem_eraseIdx_nd {al : List Int} {k : Nat} (hk : k < al.length) (nd : al.Nodup) {x : Int} : x ∈ al.eraseIdx k → x ∈ al := fun h => (List.eraseIdx_sublist al k).subset h
theorem St9.pop {n L : Nat} {G : Int} {i k : Nat} {cs al : List Int} (s : St9 n L G false i cs al) (hk : k < al.length) : Md9 n L G false i cs (al.eraseIdx k) := by
  have hl : (al.eraseIdx k).length = al.length - 1 := by rw [List.length_eraseIdx]; simp [hk]
  have hs := s.lenA
  exact ⟨s.len, s.sum, s.ub, s.nd.sublist (List.eraseIdx_sublist al k), fun x h => s.rng x ((List.eraseIdx_sublist al k).subset h), fun y c h => s.one y c ((List.eraseIdx_sublist al k).subset h), by omega,
    (fun q => nomatch q), (fun q => nomatch q), (fun q => nomatch q)⟩
theorem St9.popLast {n L : Nat} {G : Int} {i : Nat} {cs al : List Int} (s : St9 n L G true i cs al) (hL : al.length = L) (h1 : 1 ≤ L) : Md9 n L G true i cs (al.eraseIdx (al.length - 1)) := by
  have hl : (al.eraseIdx (al.length - 1)).length = al.length - 1 := by rw [List.length_eraseIdx]; simp; omega
  have hkl := s.kl rfl
  refine ⟨s.len, s.sum, s.ub, s.nd.sublist (List.eraseIdx_sublist _ _), fun x h => s.rng x ((List.eraseIdx_sublist _ _).subset h), fun y c h => s.one y c ((List.eraseIdx_sublist _ _).subset h), by omega,
    fun _ => by omega, fun _ y c h hc => ?_, fun _ hi => by omega⟩
  obtain ⟨j, hj⟩ := List.mem_iff_getElem?.mp h
  have hj2 : j < al.length - 1 := by
    have := (List.getElem?_eq_some_iff.mp hj).1
    omega
  rw [List.getElem?_eraseIdx_of_lt hj2] at hj
  exact s.k1 rfl j y c hj (by omega) hc
theorem St9.stay {n L : Nat} {G : Int} {keep : Bool} {i : Nat} {cs al : List Int} (s : St9 n L G keep i cs al) (hL : ¬ al.length = L) (hp : keep = true → al.length = min i L) : Md9 n L G keep i cs al := by
  have hs := s.lenA
  refine ⟨s.len, s.sum, s.ub, s.nd, s.rng, s.one, by omega, fun q => by have := s.kl q; omega, fun q y c h hc => ?_, s.k0⟩
  obtain ⟨j, hj⟩ := List.mem_iff_getElem?.mp h
  have hj2 := (List.getElem?_eq_some_iff.mp hj).1
  exact s.k1 q j y c hj (by omega) hc
theorem Md9.take {n L : Nat} {G : Int} {keep : Bool} {i v : Nat} {cs al : List Int} {z : Int} (s : Md9 n L G keep i cs al) (hv : ¬ (v : Int) ∈ al) (hz : cs[v]? = some z) (hG : z < G) : St9 n L G keep (i + 1) (cs.set v (z + 1)) (al ++ [(v : Int)]) := by
  have hs := s.lenA
  have hvl := (List.getElem?_eq_some_iff.mp hz).1
  have at_ : ∀ (y : Nat) c, (cs.set v (z + 1))[y]? = some c → (y = v ∧ c = z + 1) ∨ (y ≠ v ∧ cs[y]? = some c) := fun y c h => by
    by_cases e : v = y
    · subst e
      rw [List.getElem?_set_self hvl] at h
      exact .inl ⟨rfl, (Option.some.inj h).symm⟩
    · rw [List.getElem?_set_ne e] at h
      exact .inr ⟨fun q => e q.symm, h⟩
  have z0 := s.ub v z hz
  refine ⟨by rw [List.length_set]; exact s.len, by rw [sum_setI _ hz, s.sum]; omega, fun y c h => ?_, ?_, fun x h => ?_, fun y c h hc => ?_, by rw [List.length_append, List.length_singleton]; omega, fun q => ?_, fun q j y c h hj hc => ?_, fun q hi y c h hc => ?_⟩
  · rcases at_ y c h with ⟨_, e⟩ | ⟨_, e⟩
    · omega
    · exact s.ub y c e
  · refine List.nodup_append.mpr ⟨s.nd, by simp, fun a ha b hb => ?_⟩
    rw [List.mem_singleton.mp hb]
    rintro rfl
    exact hv ha
  · rcases List.mem_append.mp h with h | h
    · exact s.rng x h
    · rw [List.mem_singleton.mp h, ← s.len]; omega
  · rcases at_ y c hc with ⟨_, e⟩ | ⟨ne, e⟩
    · omega
    · rcases List.mem_append.mp h with h | h
      · exact s.one y c h e
      · have := List.mem_singleton.mp h; omega
  · have := s.kl q
    rw [List.length_append, List.length_singleton]; omega
  · have hkl := s.kl q
    by_cases hjl : j < al.length
    · rw [List.getElem?_append_left hjl] at h
      have hm : (y : Int) ∈ al := List.mem_of_getElem? h
      rcases at_ y c hc with ⟨e, _⟩ | ⟨_, e⟩
      · rw [e] at hm; exact absurd hm hv
      · exact s.k1 q y c hm e
    · have hj3 : j < (al ++ [(v : Int)]).length := (List.getElem?_eq_some_iff.mp h).1
      rw [List.length_append, List.length_singleton] at hj3
      have hj2 : j = al.length := by omega
      subst hj2
      rw [List.getElem?_append_right (Nat.le_refl _), Nat.sub_self] at h
      have e : (v : Int) = (y : Int) := Option.some.inj h
      have e' : v = y := by omega
      subst e'
      have z00 := s.k0 q (by omega) v z hv hz
      rcases at_ v c hc with ⟨_, e⟩ | ⟨ne, _⟩
      · omega
      · exact absurd rfl ne
  · have hv' : y ≠ v := fun e => h (by rw [e]; simp)
    rcases at_ y c hc with ⟨e, _⟩ | ⟨_, e⟩
    · exact absurd e hv'
    · exact s.k0 q (by omega) y c (fun hm => h (List.mem_append_left _ hm)) e
theorem Md9.ones_le {n L : Nat} {G : Int} {keep : Bool} {i : Nat} {cs al : List Int} (s : Md9 n L G keep i cs al) (hr : ∀ (y : Nat) c, ¬ (y : Int) ∈ al → cs[y]? = some c → G ≤ c) : (al.length : Int) + (n - al.length) * G ≤ i := by
  rw [← s.sum, ← ones_sum s.nd s.rng]
  refine sum_leI (by rw [ones_len, s.len]) fun y a b h1 h2 => ?_
  have hy : y < n := by rw [← s.len]; exact (List.getElem?_eq_some_iff.mp h2).1
  rw [ones_at hy] at h1
  by_cases hm : (y : Int) ∈ al
  · rw [if_pos hm] at h1
    have := s.one y b hm h2
    have := Option.some.inj h1
    omega
  · rw [if_neg hm] at h1
    have := hr y b hm h2
    have := Option.some.inj h1
    omega
/-- refused: at least that many takes -/
theorem Md9.refused {n L : Nat} {G : Int} {keep : Bool} {i : Nat} {cs al : List Int} (s : Md9 n L G keep i cs al) (hG : 1 ≤ G) (hL : L ≤ n) (hr : ∀ (y : Nat) c, ¬ (y : Int) ∈ al → cs[y]? = some c → G ≤ c) : G * (n - L + 1) + L - 1 ≤ (i : Int) := by
  have h := s.ones_le hr
  have hs := s.lenA
  obtain ⟨d, hd⟩ : ∃ d : Nat, al.length + 1 + d = L := ⟨L - (al.length + 1), by omega⟩
  have e : ((n : Int) - al.length) * G = G * (n - L + 1) + d * G := by
    rw [show ((n : Int) - al.length) = (n - L + 1) + d by omega, Int.add_mul, Int.mul_comm G]
  have h2 : (d : Int) ≤ d * G := by
    have := Int.mul_le_mul_of_nonneg_left hG (Int.natCast_nonneg d)
    omega
  omega
/-- the caller that keeps its objects: exactly that many -/
theorem Md9.exact {n L : Nat} {G : Int} {i : Nat} {cs al : List Int} (s : Md9 n L G true i cs al) (hG : 1 ≤ G) (h1 : 1 ≤ L) (hL : L ≤ n) (hr : ∀ (y : Nat) c, ¬ (y : Int) ∈ al → cs[y]? = some c → G ≤ c) : G * (n - L + 1) + L - 1 = (i : Int) := by
  have h := s.ones_le hr
  have hkl := s.kl rfl
  have hle : (i : Int) ≤ al.length + (n - al.length) * G := by
    rw [← s.sum, ← ones_sum (G := G) s.nd s.rng]
    refine sum_leI (by rw [ones_len, s.len]) fun y a b h1 h2 => ?_
    have hy : y < n := by rw [← s.len]; exact (List.getElem?_eq_some_iff.mp h1).1
    rw [ones_at hy] at h2
    by_cases hm : (y : Int) ∈ al
    · rw [if_pos hm] at h2
      have := s.k1 rfl y a hm h1
      have := Option.some.inj h2
      omega
    · rw [if_neg hm] at h2
      have := (s.ub y a h1).2
      have := Option.some.inj h2
      omega
  by_cases hi : i < L - 1
  · have e : al.length = i := by omega
    rw [e] at h
    have : 0 < ((n : Int) - i) * G := Int.mul_pos (by omega) (by omega)
    omega
  · have e : al.length = L - 1 := by omega
    have e1 : (al.length : Int) = (L : Int) - 1 := by omega
    rw [e1] at h hle
    have e2 : ((n : Int) - (L - 1)) * G = G * (n - L + 1) := by rw [show ((n : Int) - (L - 1)) = n - L + 1 by omega, Int.mul_comm]
    rw [e2] at h hle
    omega
theorem St9.bound {n L : Nat} {G : Int} {keep : Bool} {i : Nat} {cs al : List Int} (s : St9 n L G keep i cs al) : (i : Int) ≤ n * G := by
  rw [← s.sum, ← sum_rep]
  refine sum_leI (by rw [List.length_replicate, s.len]) fun y a b h1 h2 => ?_
  rw [(List.mem_replicate.mp (List.mem_of_getElem? h2)).2]
  exact (s.ub y a h1).2

def topS (i : Nat) : Stmt := PySem.Challenge.pw_slotwraps_k90_whole_slots_that_are_retir.main.body.getD i (.Pass ⟨0, 0, 0, 0⟩)
abbrev s_is_integer : Stmt := topS 5
abbrev s_is_between : Stmt := topS 6
abbrev s_is_rule : Stmt := topS 7
abbrev s_check_map : Stmt := topS 11
abbrev s_full_horizon : Stmt := topS 13
abbrev s_horizon : Stmt := topS 14
abbrev s_retired : Stmt := topS 15
abbrev s__law_cell_at : Stmt := topS 17
abbrev s__law_source_of : Stmt := topS 18
abbrev s__law_next : Stmt := topS 19
abbrev s__law_one : Stmt := topS 20
abbrev s__law_refused_at : Stmt := topS 21
abbrev s_law : Stmt := topS 22
theorem sc_is_integer : FnScope ["value"] ["value"] (defScope s_is_integer) := ⟨rfl, rfl, rfl, by decide +kernel, rfl, by decide +kernel, by decide +kernel⟩
theorem sc_is_between : FnScope ["value", "low", "high"] ["value", "low", "high"] (defScope s_is_between) := ⟨rfl, rfl, rfl, by decide +kernel, rfl, by decide +kernel, by decide +kernel⟩
theorem sc_is_rule : FnScope ["value"] ["value"] (defScope s_is_rule) := ⟨rfl, rfl, rfl, by decide +kernel, rfl, by decide +kernel, by decide +kernel⟩
theorem sc_check_map : FnScope ["n", "limit", "generations", "rule"] ["n", "limit", "generations", "rule"] (defScope s_check_map) := ⟨rfl, rfl, rfl, by decide +kernel, rfl, by decide +kernel, by decide +kernel⟩
theorem sc_full_horizon : FnScope ["n", "limit", "generations"] ["n", "limit", "generations"] (defScope s_full_horizon) := ⟨rfl, rfl, rfl, by decide +kernel, rfl, by decide +kernel, by decide +kernel⟩
theorem sc_horizon : FnScope ["n", "limit", "generations", "rule"] ["n", "limit", "generations", "rule"] (defScope s_horizon) := ⟨rfl, rfl, rfl, by decide +kernel, rfl, by decide +kernel, by decide +kernel⟩
theorem sc_retired : FnScope ["n", "limit", "generations"] ["n", "limit", "generations"] (defScope s_retired) := ⟨rfl, rfl, rfl, by decide +kernel, rfl, by decide +kernel, by decide +kernel⟩
theorem sc__law_cell_at : FnScope ["_law_script", "_law_k"] ["_law_script", "_law_k"] (defScope s__law_cell_at) := ⟨rfl, rfl, rfl, by decide +kernel, rfl, by decide +kernel, by decide +kernel⟩
theorem sc__law_source_of : FnScope ["_law_cell"] ["_law_cell"] (defScope s__law_source_of) := ⟨rfl, rfl, rfl, by decide +kernel, rfl, by decide +kernel, by decide +kernel⟩
theorem sc__law_next : FnScope ["_law_source", "_law_many", "_law_found", "_law_prime", "_law_number"] ["_law_source", "_law_many"] (defScope s__law_next) := ⟨rfl, rfl, rfl, by decide +kernel, rfl, by decide +kernel, by decide +kernel⟩
theorem sc__law_one : FnScope ["_law_source", "_law_some"] ["_law_source", "_law_some"] (defScope s__law_one) := ⟨rfl, rfl, rfl, by decide +kernel, rfl, by decide +kernel, by decide +kernel⟩
theorem sc__law_refused_at : FnScope ["_law_source", "_law_n", "_law_limit", "_law_generations", "_law_is_keeping", "_law_counts", "_law_alive", "_law_k", "_law_slot", "_law_free"] ["_law_source", "_law_n", "_law_limit", "_law_generations", "_law_is_keeping"] (defScope s__law_refused_at) := ⟨rfl, rfl, rfl, by decide +kernel, rfl, by decide +kernel, by decide +kernel⟩
theorem sc_law : FnScope ["_law_script", "_law_cell", "_law_source", "_law_k", "_law_n", "_law_generations", "_law_limit", "_law_number", "_law_found"] ["_law_script"] (defScope s_law) := ⟨rfl, rfl, rfl, by decide +kernel, rfl, by decide +kernel, by decide +kernel⟩
structure Txt (K : PySem.W.Frag) (mg : Str → Option Value) where
  z_bool : mg "bool" = none
  z_int : mg "int" = none
  z_isinstance : mg "isinstance" = none
  z_len : mg "len" = none
  z_range : mg "range" = none
  z_str : mg "str" = none
  z_sum : mg "sum" = none
  g_MOST_SLOTS : ∃ t, mg "MOST_SLOTS" = some (.int 64 t)
  g_MOST_GENERATIONS : ∃ t, mg "MOST_GENERATIONS" = some (.int 1000000000 t)
  g_RULES : ∃ a, mg "RULES" = some (.ref a) ∧ ∀ H, SqT K H a [.str "last", .str "first", .str "lowest", .str "least"]
  f_is_integer : Addr
  fd_is_integer : FuncData
  F_is_integer : Fun K "is_integer" "is_integer" s_is_integer f_is_integer fd_is_integer
  m_is_integer : mg "is_integer" = some (.ref f_is_integer)
  b_is_integer : Binds K fd_is_integer ["value"] []
  f_is_between : Addr
  fd_is_between : FuncData
  F_is_between : Fun K "is_between" "is_between" s_is_between f_is_between fd_is_between
  m_is_between : mg "is_between" = some (.ref f_is_between)
  kb_is_between : KBn K fd_is_between ["value", "low", "high"] 1 ["low", "high"] (fun us ws => us ++ ws) (fun vs zs => vs ++ zs)
  f_is_rule : Addr
  fd_is_rule : FuncData
  F_is_rule : Fun K "is_rule" "is_rule" s_is_rule f_is_rule fd_is_rule
  m_is_rule : mg "is_rule" = some (.ref f_is_rule)
  b_is_rule : Binds K fd_is_rule ["value"] []
  f_check_map : Addr
  fd_check_map : FuncData
  F_check_map : Fun K "check_map" "check_map" s_check_map f_check_map fd_check_map
  m_check_map : mg "check_map" = some (.ref f_check_map)
  b_check_map : Binds K fd_check_map ["n", "limit", "generations", "rule"] []
  f_full_horizon : Addr
  fd_full_horizon : FuncData
  F_full_horizon : Fun K "full_horizon" "full_horizon" s_full_horizon f_full_horizon fd_full_horizon
  m_full_horizon : mg "full_horizon" = some (.ref f_full_horizon)
  b_full_horizon : Binds K fd_full_horizon ["n", "limit", "generations"] []
  f_horizon : Addr
  fd_horizon : FuncData
  F_horizon : Fun K "horizon" "horizon" s_horizon f_horizon fd_horizon
  m_horizon : mg "horizon" = some (.ref f_horizon)
  b_horizon : Binds K fd_horizon ["n", "limit", "generations", "rule"] []
  f_retired : Addr
  fd_retired : FuncData
  F_retired : Fun K "retired" "retired" s_retired f_retired fd_retired
  m_retired : mg "retired" = some (.ref f_retired)
  b_retired : Binds K fd_retired ["n", "limit", "generations"] []
  f__law_cell_at : Addr
  fd__law_cell_at : FuncData
  F__law_cell_at : Fun K "_law_cell_at" "_law_cell_at" s__law_cell_at f__law_cell_at fd__law_cell_at
  m__law_cell_at : mg "_law_cell_at" = some (.ref f__law_cell_at)
  b__law_cell_at : Binds K fd__law_cell_at ["_law_script", "_law_k"] []
  f__law_source_of : Addr
  fd__law_source_of : FuncData
  F__law_source_of : Fun K "_law_source_of" "_law_source_of" s__law_source_of f__law_source_of fd__law_source_of
  m__law_source_of : mg "_law_source_of" = some (.ref f__law_source_of)
  b__law_source_of : Binds K fd__law_source_of ["_law_cell"] []
  f__law_next : Addr
  fd__law_next : FuncData
  F__law_next : Fun K "_law_next" "_law_next" s__law_next f__law_next fd__law_next
  m__law_next : mg "_law_next" = some (.ref f__law_next)
  b__law_next : Binds K fd__law_next ["_law_source", "_law_many"] []
  f__law_one : Addr
  fd__law_one : FuncData
  F__law_one : Fun K "_law_one" "_law_one" s__law_one f__law_one fd__law_one
  m__law_one : mg "_law_one" = some (.ref f__law_one)
  b__law_one : Binds K fd__law_one ["_law_source", "_law_some"] []
  f__law_refused_at : Addr
  fd__law_refused_at : FuncData
  F__law_refused_at : Fun K "_law_refused_at" "_law_refused_at" s__law_refused_at f__law_refused_at fd__law_refused_at
  m__law_refused_at : mg "_law_refused_at" = some (.ref f__law_refused_at)
  b__law_refused_at : Binds K fd__law_refused_at ["_law_source", "_law_n", "_law_limit", "_law_generations", "_law_is_keeping"] []
  f_law : Addr
  fd_law : FuncData
  F_law : Fun K "law" "law" s_law f_law fd_law
  m_law : mg "law" = some (.ref f_law)
  b_law : Binds K fd_law ["_law_script"] []
section
variable {P : Program} {w : World} {K : PySem.W.Frag} {mg : Str → Option Value} {base : Heap}
theorem ok_is_integer (T : Txt K mg) : FnOk P w K mg base CX0 1 T.f_is_integer T.fd_is_integer ["value"] (spIsInt K) := by
  refine T.F_is_integer.ok sc_is_integer (fun vs H Q E h => ?_) (fun cdv A outer s H vs Q E hr h => ?_)
  · obtain ⟨v, t, rfl, _⟩ := h; rfl
  · obtain ⟨v, t, rfl, kn, k⟩ := h
    refine ⟨_, (pss_one (ps_ret (pe_and (pe_callB (isiK (K := K)) (by rfl) T.z_isinstance (by decide +kernel) (pa_cons (pv 0) (pa_cons (pe_ty (n := "int") (by rfl) T.z_int (by decide +kernel)) pa_nil))) (pe_one (pe_not (pe_callB (isiK (K := K)) (by rfl) T.z_isinstance (by decide +kernel) (pa_cons (pv 0) (pa_cons (pe_ty (n := "bool") (by rfl) T.z_bool (by decide +kernel)) pa_nil)))))))), ?_⟩
    walk_at "go"
    cases kn <;> (walk_at "rd"; exact k)

theorem ok_is_between (T : Txt K mg) : FnOk P w K mg base CX0 2 T.f_is_between T.fd_is_between ["value", "low", "high"] (spBetween K) := by
  refine T.F_is_between.ok sc_is_between (fun vs H Q E h => ?_) (fun cdv A outer s H vs Q E hr h => ?_)
  · obtain ⟨v, t, lo, hi, rfl, _⟩ := h; rfl
  · obtain ⟨v, t, lo, hi, rfl, kn, k⟩ := h
    refine ⟨_, (pss_one (ps_ret (pe_and (pe_call (ok_is_integer T) (hr.mono (by decide)) rfl T.m_is_integer T.F_is_integer.kp T.b_is_integer .nil pass0 (pa_cons (pv 0) pa_nil)) (pe_one (pe_chain op_le op_le (pv 1) (pv 0) (pv 2)))))), ?_⟩
    walk_at "go"
    walk_at "rd"
    refine ⟨v, t, rfl, kn, ?_⟩
    cases v with
    | int i =>
      refine ⟨_, rfl, if_T (b := isInt (.int i)) rfl ?_⟩
      walk_at "rd"
      by_cases h1 : lo ≤ i
      · refine if_T (decide_eq_true h1) ?_
        walk_at "rd"
        have e : inBnd lo hi (.int i) = decide (i ≤ hi) := by simp [inBnd, h1]
        rw [e] at k
        exact k
      · refine if_F (decide_eq_false h1) ?_
        have e : inBnd lo hi (.int i) = false := by simp [inBnd, h1]
        rw [e] at k
        exact k
    | _ => exact ⟨_, rfl, if_F (b := isInt _) rfl k⟩

theorem ok_is_rule (T : Txt K mg) : FnOk P w K mg base CX0 1 T.f_is_rule T.fd_is_rule ["value"] (spIsRule K) := by
  refine T.F_is_rule.ok sc_is_rule (fun vs H Q E h => ?_) (fun cdv A outer s H vs Q E hr h => ?_)
  · obtain ⟨v, t, rfl, _⟩ := h; rfl
  · obtain ⟨v, t, rfl, kn, k⟩ := h
    refine ⟨_, (pss_one (ps_ret (pe_and (pe_callB (isiK (K := K)) (by rfl) T.z_isinstance (by decide +kernel) (pa_cons (pv 0) (pa_cons (pe_ty (n := "str") (by rfl) T.z_str (by decide +kernel)) pa_nil))) (pe_one (pe_cmpR (inK (K := K)) (pv 0) (pe_gt rfl T.g_RULES) (by rfl)))))), ?_⟩
    walk_at "go"
    cases kn with
    | str x =>
      walk_at "rd"
      intro a ha
      exact r_inT ha rfl (by decide) k
    | _ => walk_at "rd"; exact k

theorem inBnd_of {lo hi i : Int} (h1 : lo ≤ i) (h2 : i ≤ hi) : inBnd lo hi (.int i) = true := by simp [inBnd, h1, h2]
theorem isRl_s (r : Rl) : isRl (.str r.s) = true := by cases r <;> decide +kernel
theorem ok_check_map (T : Txt K mg) : FnOk P w K mg base CX0 3 T.f_check_map T.fd_check_map ["n", "limit", "generations", "rule"] spCheck := by
  refine T.F_check_map.ok sc_check_map (fun vs H Q E h => ?_) (fun cdv A outer s H vs Q E hr h => ?_)
  · obtain ⟨n, l, g, r, rfl, _⟩ := h; rfl
  · obtain ⟨n, l, g, r, rfl, ⟨h1, h2, h3, h4, h5, h6⟩, k⟩ := h
    refine ⟨_, (pss_cons (ps_if (pt_not (pt_val (pe_callN (ok_is_between T) (hr.mono (by decide)) rfl T.m_is_between T.F_is_between.kp T.kb_is_between pass0 (pa_cons (pv 0) pa_nil) (pk_cons pe_int (pk_cons (pe_gk rfl T.g_MOST_SLOTS) pk_nil))))) (pss_one ps_never) pss_nil)
  (pss_cons (ps_if (pt_not (pt_val (pe_callN (ok_is_between T) (hr.mono (by decide)) rfl T.m_is_between T.F_is_between.kp T.kb_is_between pass0 (pa_cons (pv 1) pa_nil) (pk_cons pe_int (pk_cons (pv 0) pk_nil))))) (pss_one ps_never) pss_nil)
  (pss_cons (ps_if (pt_not (pt_val (pe_callN (ok_is_between T) (hr.mono (by decide)) rfl T.m_is_between T.F_is_between.kp T.kb_is_between pass0 (pa_cons (pv 2) pa_nil) (pk_cons pe_int (pk_cons (pe_gk rfl T.g_MOST_GENERATIONS) pk_nil))))) (pss_one ps_never) pss_nil)
  (pss_one (ps_if (pt_not (pt_val (pe_call (ok_is_rule T) (hr.mono (by decide)) rfl T.m_is_rule T.F_is_rule.kp T.b_is_rule .nil pass0 (pa_cons (pv 3) pa_nil)))) (pss_one ps_never) pss_nil))))), ?_⟩
    walk_at "go"
    walk_at "rd"
    refine ⟨rfl, rfl, _, _, _, _, rfl, .int n, ?_⟩
    rw [inBnd_of h1 h2]
    walk_at "rd"
    refine ⟨rfl, rfl, _, _, _, _, rfl, .int l, ?_⟩
    rw [inBnd_of h3 h4]
    walk_at "rd"
    refine ⟨rfl, rfl, _, _, _, _, rfl, .int g, ?_⟩
    rw [inBnd_of h5 h6]
    walk_at "rd"
    refine ⟨_, _, rfl, .str _, ?_⟩
    rw [isRl_s]
    walk_at "rd"
    exact k

theorem ok_full_horizon (T : Txt K mg) : FnOk P w K mg base CX0 1 T.f_full_horizon T.fd_full_horizon ["n", "limit", "generations"] spFull := by
  refine T.F_full_horizon.ok sc_full_horizon (fun vs H Q E h => ?_) (fun cdv A outer s H vs Q E hr h => ?_)
  · obtain ⟨n, l, g, rfl, _⟩ := h; rfl
  · obtain ⟨n, l, g, rfl, h1, h2, k⟩ := h
    refine ⟨_, (pss_one (ps_ret (pe_op op_add (pe_op op_mul (pv 2) (pe_op op_add (pe_op op_sub (pv 0) (pv 1)) pe_int)) (pv 1)))), ?_⟩
    walk_at "go"
    walk_at "rd"
    exact k

theorem ok_horizon (T : Txt K mg) : FnOk P w K mg base CX0 4 T.f_horizon T.fd_horizon ["n", "limit", "generations", "rule"] spHorizon := by
  refine T.F_horizon.ok sc_horizon (fun vs H Q E h => ?_) (fun cdv A outer s H vs Q E hr h => ?_)
  · obtain ⟨n, l, g, r, rfl, _⟩ := h; rfl
  · obtain ⟨n, l, g, r, rfl, ha, k⟩ := h
    have h1 := ha.g1
    have h2 := ha.g2
    refine ⟨_, (pss_cons (ps_expr (pe_call (ok_check_map T) (hr.mono (by decide)) rfl T.m_check_map T.F_check_map.kp T.b_check_map .nil pass0 (pa_cons (pv 0) (pa_cons (pv 1) (pa_cons (pv 2) (pa_cons (pv 3) pa_nil))))))
  (pss_cons (ps_if (pt_cmpR (inK (K := K)) (pv 3) (pe_tup (pa_cons pe_str (pa_cons pe_str pa_nil))) (by rfl)) (pss_one (ps_ret (pe_op op_add (pv 2) pe_int))) pss_nil)
  (pss_one (ps_ret (pe_call (ok_full_horizon T) (hr.mono (by decide)) rfl T.m_full_horizon T.F_full_horizon.kp T.b_full_horizon .nil pass0 (pa_cons (pv 0) (pa_cons (pv 1) (pa_cons (pv 2) pa_nil)))))))), ?_⟩
    walk_at "go"
    walk_at "rd"
    refine ⟨n, l, g, r, rfl, ha, ?_⟩
    walk_at "rd"
    intro p hp
    have s1 : Same H (upd H p (.tup [V.str "last", V.str "lowest"])) := Same.upd (Same.refl H) hp
    refine r_inT (SqT.of upd_same) rfl (by decide) ?_
    cases r with
    | last => refine ⟨_, rfl, if_T (by decide +kernel) ?_⟩; walk_at "rd"; exact k _ s1
    | lowest => refine ⟨_, rfl, if_T (by decide +kernel) ?_⟩; walk_at "rd"; exact k _ s1
    | first => refine ⟨_, rfl, if_F (by decide +kernel) ?_⟩; walk_at "rd"; refine ⟨n, l, g, rfl, h1, h2, ?_⟩; walk_at "rd"; exact k _ s1
    | least => refine ⟨_, rfl, if_F (by decide +kernel) ?_⟩; walk_at "rd"; refine ⟨n, l, g, rfl, h1, h2, ?_⟩; walk_at "rd"; exact k _ s1

theorem ok_retired (T : Txt K mg) : FnOk P w K mg base CX0 4 T.f_retired T.fd_retired ["n", "limit", "generations"] spRetired := by
  refine T.F_retired.ok sc_retired (fun vs H Q E h => ?_) (fun cdv A outer s H vs Q E hr h => ?_)
  · obtain ⟨n, l, g, rfl, _⟩ := h; rfl
  · obtain ⟨n, l, g, rfl, ha, k⟩ := h
    refine ⟨_, (pss_cons (ps_expr (pe_call (ok_check_map T) (hr.mono (by decide)) rfl T.m_check_map T.F_check_map.kp T.b_check_map .nil pass0 (pa_cons (pv 0) (pa_cons (pv 1) (pa_cons (pv 2) (pa_cons pe_str pa_nil))))))
  (pss_one (ps_ret (pe_op op_sub (pe_call (ok_full_horizon T) (hr.mono (by decide)) rfl T.m_full_horizon T.F_full_horizon.kp T.b_full_horizon .nil pass0 (pa_cons (pv 0) (pa_cons (pv 1) (pa_cons (pv 2) pa_nil)))) pe_int)))), ?_⟩
    walk_at "go"
    walk_at "rd"
    refine ⟨n, l, g, .first, rfl, ha, ?_⟩
    walk_at "rd"
    refine ⟨n, l, g, rfl, ha.g1, ha.g2, ?_⟩
    walk_at "rd"
    exact k

def spCell (K : PySem.W.Frag) : Sp := fun vs H Q _ => ∃ (a : Addr) (ns : List Int) (i : Nat), vs = [.ref a, .int i] ∧ SqL K H a (ns.map V.int) ∧ ∀ z : Int, Q (.int z) H
theorem ok__law_cell_at (T : Txt K mg) : FnOk P w K mg base CX0 1 T.f__law_cell_at T.fd__law_cell_at ["_law_script", "_law_k"] (spCell K) := by
  refine T.F__law_cell_at.ok sc__law_cell_at (fun vs H Q E h => ?_) (fun cdv A outer s H vs Q E hr h => ?_)
  · obtain ⟨a, ns, i, rfl, _⟩ := h; rfl
  · obtain ⟨a, ns, i, rfl, hl, k⟩ := h
    refine ⟨_, (pss_cons (ps_if (pt_cmpR op_lt (pv 1) (pe_callB (c_len (K := K)) (by rfl) T.z_len (by decide +kernel) (pa_cons (pv 0) pa_nil)) (nomark _)) (pss_one (ps_ret (pe_ix (ixL (K := K)) (pv 0) (pv 1) (fun _ _ => rfl)))) pss_nil)
  (pss_one (ps_ret pe_int))), ?_⟩
    walk_at "go"
    walk_at "rd"
    refine r_lenl hl ?_
    walk_at "rd"
    refine if_d (fun c0 => ?_) (fun c0 => ?_)
    · walk_at "rd"
      rw [List.length_map] at c0
      have hi : i < ns.length := by omega
      refine r_ixl hl (atI_nat (v := V.int ns[i]) (by simp [hi])) ?_
      exact k _
    · walk_at "rd"
      exact k _

def spSource : Sp := fun vs H Q _ => ∃ c : Int, vs = [.int c] ∧ ∀ (p : Addr) (H' : Hp), H p = none → Src H' p → Same H H' → Q (.ref p) H'
theorem ok__law_source_of (T : Txt K mg) : FnOk P w K mg base CX0 1 T.f__law_source_of T.fd__law_source_of ["_law_cell"] spSource := by
  refine T.F__law_source_of.ok sc__law_source_of (fun vs H Q E h => ?_) (fun cdv A outer s H vs Q E hr h => ?_)
  · obtain ⟨c, rfl, _⟩ := h; rfl
  · obtain ⟨c, rfl, k⟩ := h
    refine ⟨_, (pss_cons (ps_set (i := 0) sc__law_source_of.nd rfl (Or.inl rfl) (pe_ifExp (pt_cmpR op_ge (pv 0) pe_int (nomark _)) (pv 0) (pe_op op_sub (pe_op op_sub pe_int (pe_op op_mul pe_int (pv 0))) pe_int)))
  (pss_one (ps_ret (pe_lst (pa_cons (pe_op op_mul (pv 0) (pe_callTy c_int (by rfl) T.z_int (by decide +kernel) (pa_cons (pe_cmpR op_ge (pv 0) (pe_op op_pow pe_int pe_int) (nomark _)) pa_nil))) (pa_cons (pe_op op_mod (pe_callTy c_int (by rfl) T.z_int (by decide +kernel) (pa_cons (pv 0) pa_nil)) pe_int) (pa_cons pe_int pa_nil))))))), ?_⟩
    walk_at "go"
    walk_at "rd"
    refine if_d (fun c0 => ?_) (fun c0 => ?_)
    · walk_at "rd"
      exact fun p hp => k p _ hp ⟨_, _, _, upd_same⟩ (Same.upd (Same.refl H) hp)
    · walk_at "rd"
      exact fun p hp => k p _ hp ⟨_, _, _, upd_same⟩ (Same.upd (Same.refl H) hp)

theorem ok__law_next (T : Txt K mg) : FnOk P w K mg base CX0 1 T.f__law_next T.fd__law_next ["_law_source", "_law_many"] spNext := by
  refine T.F__law_next.ok sc__law_next (fun vs H Q E h => ?_) (fun cdv A outer s H vs Q E hr h => ?_)
  · obtain ⟨s, m, rfl, _⟩ := h; rfl
  · obtain ⟨s, m, rfl, ⟨a, b, c, hs⟩, h0, h1, k⟩ := h
    refine ⟨_, (pss_cons (ps_if (pt_cmpR op_gt (pe_ix (ixL (K := K)) (pv 0) pe_int (fun _ _ => rfl)) pe_int (nomark _)) (pss_cons (ps_set (i := 2) sc__law_next.nd rfl (Or.inl rfl) (pe_op op_mod (pe_callTy c_int (by rfl) T.z_int (by decide +kernel) (pa_cons (pe_ix (ixL (K := K)) (pv 0) pe_int (fun _ _ => rfl)) pa_nil)) (pv 1)))
  (pss_cons (ps_asg (pe_op op_fdiv (pe_ix (ixL (K := K)) (pv 0) pe_int (fun _ _ => rfl)) (pv 1)) (pg_sub (pv 0) pe_int set_list))
  (pss_one (ps_ret (pv 2))))) pss_nil)
  (pss_cons (ps_asg (pe_op op_add (pe_ix (ixL (K := K)) (pv 0) pe_int (fun _ _ => rfl)) pe_int) (pg_sub (pv 0) pe_int set_list))
  (pss_cons (ps_set (i := 3) sc__law_next.nd rfl (Or.inl rfl) pe_int)
  (pss_cons (ps_set (i := 4) sc__law_next.nd rfl (Or.inl rfl) (pe_op op_mod (pe_callTy c_int (by rfl) T.z_int (by decide +kernel) (pa_cons (pe_op op_add (pe_op op_add (pe_ix (ixL (K := K)) (pv 0) pe_int (fun _ _ => rfl)) (pe_op op_mul pe_int (pe_ix (ixL (K := K)) (pv 0) pe_int (fun _ _ => rfl)))) pe_int) pa_nil)) (pv 3)))
  (pss_cons (ps_set (i := 4) sc__law_next.nd rfl (Or.inl rfl) (pe_op op_mod (pe_callTy c_int (by rfl) T.z_int (by decide +kernel) (pa_cons (pe_op op_mul (pv 4) pe_int) pa_nil)) (pv 3)))
  (pss_cons (ps_set (i := 4) sc__law_next.nd rfl (Or.inl rfl) (pe_op op_mod (pe_callTy c_int (by rfl) T.z_int (by decide +kernel) (pa_cons (pe_op op_mul (pv 4) (pe_op op_add (pe_op op_fdiv (pv 4) pe_int) pe_int)) pa_nil)) (pv 3)))
  (pss_cons (ps_set (i := 4) sc__law_next.nd rfl (Or.inl rfl) (pe_op op_mod (pe_callTy c_int (by rfl) T.z_int (by decide +kernel) (pa_cons (pe_op op_mul (pv 4) (pe_op op_add (pe_op op_fdiv (pv 4) pe_int) pe_int)) pa_nil)) pe_int))
  (pss_one (ps_ret (pe_op op_mod (pe_callTy c_int (by rfl) T.z_int (by decide +kernel) (pa_cons (pe_op op_fdiv (pv 4) pe_int) pa_nil)) (pv 1))))))))))), ?_⟩
    walk_at "go"
    walk_at "rd"
    refine if_d (fun c0 => ?_) (fun c0 => ?_)
    · walk_at "rd"
      exact k _ _ (Int.emod_nonneg _ (by omega)) (Int.emod_lt_of_pos _ h0) ⟨_, _, _, upd_same⟩ fun b hb => upd_ne hb
    · walk_at "rd"
      exact k _ _ (Int.emod_nonneg _ (by omega)) (Int.emod_lt_of_pos _ h0) ⟨_, _, _, upd_same⟩ fun b hb => upd_ne hb

def spOne (K : PySem.W.Frag) : Sp := fun vs H Q _ => ∃ (s l : Addr) (xs : List V), vs = [.ref s, .ref l] ∧ Src H s ∧ l ≠ s ∧ SqL K H l xs ∧ 0 < xs.length ∧ xs.length < 1073741824 ∧ ∀ (v : V) (H' : Hp), v ∈ xs → Src H' s → Off s H H' → Q v H'
theorem ok__law_one (T : Txt K mg) : FnOk P w K mg base CX0 2 T.f__law_one T.fd__law_one ["_law_source", "_law_some"] (spOne K) := by
  refine T.F__law_one.ok sc__law_one (fun vs H Q E h => ?_) (fun cdv A outer s H vs Q E hr h => ?_)
  · obtain ⟨s, l, xs, rfl, _⟩ := h; rfl
  · obtain ⟨s, l, xs, rfl, hs, hn, hl, h0, h1, k⟩ := h
    refine ⟨_, (pss_one (ps_ret (pe_ix (ixL (K := K)) (pv 1) (pe_call (ok__law_next T) (hr.mono (by decide)) rfl T.m__law_next T.F__law_next.kp T.b__law_next .nil pass0 (pa_cons (pv 0) (pa_cons (pe_callB (c_len (K := K)) (by rfl) T.z_len (by decide +kernel) (pa_cons (pv 1) pa_nil)) pa_nil))) (fun _ _ => rfl)))), ?_⟩
    walk_at "go"
    walk_at "rd"
    refine r_lenl hl ?_
    walk_at "rd"
    refine ⟨s, _, rfl, hs, by omega, by omega, fun r H' r0 r1 hs' off => ?_⟩
    obtain ⟨j, rfl⟩ : ∃ j : Nat, r = (j : Int) := ⟨r.toNat, by omega⟩
    have hj : j < xs.length := by omega
    refine r_ixl (off.kp.seq hn hl) (atI_nat (List.getElem?_eq_getElem hj)) ?_
    exact k _ _ (List.getElem_mem hj) hs' off

def spRef : Sp := fun vs H Q _ => ∃ (s : Addr) (n L : Nat) (G : Int) (kp : Bool), vs = [.ref s, .int n, .int L, .int G, .bl kp] ∧ Src H s ∧ 1 ≤ n ∧ n ≤ 6 ∧ 1 ≤ L ∧ L ≤ n ∧ 1 ≤ G ∧ G ≤ 5 ∧
  ∀ (r : Int) (H' : Hp), Src H' s → Kp s H H' → G * (n - L + 1) + L - 1 ≤ r → (kp = true → G * (n - L + 1) + L - 1 = r) → Q (.int r) H'
theorem ok__law_refused_at (T : Txt K mg) : FnOk P w K mg base CX0 3 T.f__law_refused_at T.fd__law_refused_at ["_law_source", "_law_n", "_law_limit", "_law_generations", "_law_is_keeping"] spRef := by
  refine T.F__law_refused_at.ok sc__law_refused_at (fun vs H Q E h => ?_) (fun cdv A outer s H vs Q E hr h => ?_)
  · obtain ⟨s, n, L, G, kp, rfl, _⟩ := h; rfl
  · obtain ⟨s, n, L, G, kp, rfl, hs, n1, n2, L1, L2, G1, G2, k⟩ := h
    refine ⟨_, (pss_cons (ps_asg (pe_tup (pa_cons (pe_op op_rep (pe_lst (pa_cons pe_int pa_nil)) (pv 1)) (pa_cons (pe_lst pa_nil) pa_nil))) (pg_tup rfl (pgs_cons (pg_name (i := 5) sc__law_refused_at.nd rfl (Or.inr rfl)) (pgs_cons (pg_name (i := 6) sc__law_refused_at.nd rfl (Or.inr rfl)) pgs_nil))))
  (pss_cons (ps_for PassesOwn.never rfl (pi_range1 (by rfl) T.z_range (pa_cons (pe_op op_add (pe_op op_mul (pe_op op_mul pe_int (pv 1)) (pv 3)) pe_int) pa_nil)) (pg_name (i := 7) sc__law_refused_at.nd rfl (Or.inl rfl)) (C8.pss_cut (ps_if (pt_cmpR op_eq (pe_callB (c_len (K := K)) (by rfl) T.z_len (by decide +kernel) (pa_cons (pv 6) pa_nil)) (pv 2) (nomark _)) (pss_one (ps_expr (pe_bm PySem.F.plainAttrs_list PySem.F.slot_list_pop PySem.F.type_list_pop mt_popAt (pv 6) (pa_cons (pe_ifExp (pt_val (pv 4)) (pe_un un_neg pe_int) (pe_call (ok__law_next T) (hr.mono (by decide)) rfl T.m__law_next T.F__law_next.kp T.b__law_next .nil pass0 (pa_cons (pv 0) (pa_cons (pv 2) pa_nil)))) pa_nil)))) (pss_one (ps_if (PW.pt (pw_and (pt_not (pt_val (pv 4))) (pw_and (pt_cmpR (neK hr.units (K := K)) (pv 6) (pe_lst pa_nil) (nomark _)) (pw_and1 (pt_cmpR op_eq (pe_call (ok__law_next T) (hr.mono (by decide)) rfl T.m__law_next T.F__law_next.kp T.b__law_next .nil pass0 (pa_cons (pv 0) (pa_cons pe_int pa_nil))) pe_int (nomark _)))))) (pss_one (ps_expr (pe_bm PySem.F.plainAttrs_list PySem.F.slot_list_pop PySem.F.type_list_pop mt_popAt (pv 6) (pa_cons (pe_call (ok__law_next T) (hr.mono (by decide)) rfl T.m__law_next T.F__law_next.kp T.b__law_next .nil pass0 (pa_cons (pv 0) (pa_cons (pe_callB (c_len (K := K)) (by rfl) T.z_len (by decide +kernel) (pa_cons (pv 6) pa_nil)) pa_nil))) pa_nil)))) pss_nil)))
  (pss_cons (ps_setLc (i := 9) (own := [("_law_slot", 8)]) (g := gName 8) rfl sc__law_refused_at.nd rfl rfl (sw_true rfl rfl rfl (by decide +kernel)) (pi_range1 (by rfl) T.z_range (pa_cons (pv 1) pa_nil)) (blkOk_by (own := [("_law_slot", 8)]) (N := ["_law_source", "_law_n", "_law_limit", "_law_generations", "_law_is_keeping", "_law_counts", "_law_alive", "_law_k", "_law_slot", "_law_free"]) (sc := defScope s__law_refused_at) (by decide +kernel)) (fun _ _ _ _ _ => (pg_name (i := 8) sc__law_refused_at.nd rfl (Or.inl rfl))) (fun _ _ _ _ _ => (pts_one (PW.pt (pw_and (pt_cmpR (ninK (K := K)) (pv 8) (pv 6) (by rfl)) (pw_and1 (pt_cmpR op_lt (pe_ix (ixL (K := K)) (pv 5) (pv 8) (fun _ _ => rfl)) (pv 3) (nomark _))))))) (fun _ _ _ _ _ => (pv 8)))
  (pss_cons (ps_if (pt_cmpR (eqK hr.units (K := K)) (pv 9) (pe_lst pa_nil) (nomark _)) (pss_one (ps_ret (pe_callB (sumK rfl (K := K)) (by rfl) T.z_sum (by decide +kernel) (pa_cons (pv 5) pa_nil)))) pss_nil)
  (pss_cons (ps_set (i := 8) sc__law_refused_at.nd rfl (Or.inl rfl) (pe_call (ok__law_one T) (hr.mono (by decide)) rfl T.m__law_one T.F__law_one.kp T.b__law_one .nil pass0 (pa_cons (pv 0) (pa_cons (pv 9) pa_nil))))
  (pss_cons (ps_asg (pe_op op_add (pe_ix (ixL (K := K)) (pv 5) (pv 8) (fun _ _ => rfl)) pe_int) (pg_sub (pv 5) (pv 8) set_list))
  (pss_one (ps_expr (pe_bm PySem.F.plainAttrs_list PySem.F.slot_list_append PySem.F.type_list_append mt_append (pv 6) (pa_cons (pv 8) pa_nil))))))))))
  (pss_one (ps_ret pe_non)))), ?_⟩
    walk_at "go"
    walk_at "rd"
    intro p1 hp1
    walk_at "rd"
    refine r_rep1 upd_same (by omega) fun lc hlc => ?_
    walk_at "rd"
    intro la hla
    walk_at "rd"
    intro p4 hp4
    walk_at "rd"
    have c1 : CMul 4 (n : Int) := CMul.l (by omega) (by omega)
    have nG0 : 0 ≤ (n : Int) * G := Int.mul_nonneg (by omega) (by omega)
    have nG : (n : Int) * G ≤ 30 := Int.le_trans (Int.mul_le_mul (show (n : Int) ≤ 6 by omega) G2 (by omega) (by omega)) (by decide)
    have e4 : 4 * (n : Int) * G = 4 * (n * G) := Int.mul_assoc _ _ _
    -- where they stand
    have lcp : lc ≠ p1 := fun e => by rw [e, upd_same] at hlc; cases hlc
    have hlc0 : H lc = none := by rw [upd_ne lcp] at hlc; exact hlc
    have lac : la ≠ lc := fun e => by rw [e, upd_same] at hla; cases hla
    have hla1 : upd H p1 (HO.lst [V.int 0]) la = none := by rw [upd_ne lac] at hla; exact hla
    have lap : la ≠ p1 := fun e => by rw [e, upd_same] at hla1; cases hla1
    have hla0 : H la = none := by rw [upd_ne lap] at hla1; exact hla1
    have p4a : p4 ≠ la := fun e => by rw [e, upd_same] at hp4; cases hp4
    have p4c : p4 ≠ lc := fun e => by rw [upd_ne p4a, e, upd_same] at hp4; cases hp4
    obtain ⟨sa, sb, sc, hs0⟩ := id hs
    have sp1 : s ≠ p1 := ne_of_none hs0 hp1
    have slc : s ≠ lc := ne_of_none hs0 hlc0
    have sla : s ≠ la := ne_of_none hs0 hla0
    have sp4 : s ≠ p4 := fun e => by rw [← e, upd_ne sla, upd_ne slc, upd_ne sp1, hs0] at hp4; cases hp4
    refine rng1L (4 * (n * G) + 9).toNat (by rw [e4]; omega) (by omega) ?_
    refine loop_range (fun i σ H' => ∃ (cs al : List Int) (v7 v8 v9 : Option V), σ = [some (.ref s), some (.int n), some (.int L), some (.int G), some (.bl kp), some (.ref lc), some (.ref la), v7, v8, v9] ∧ Src H' s ∧ Kp s H H' ∧
      H' lc = some (.lst (cs.map V.int)) ∧ H' la = some (.lst (al.map V.int)) ∧ St9 n L G kp i cs al) ?_ ?_ ?_
    · refine ⟨List.replicate n 0, [], none, none, none, rfl, ?_, ?_, ?_, ?_, St9.start G1⟩
      · exact ⟨sa, sb, sc, by rw [upd_ne sp4, upd_ne sla, upd_ne slc, upd_ne sp1]; exact hs0⟩
      · exact Kp.upd (Kp.own (Kp.own (Kp.own (Kp.refl H) hp1) hlc0) hla0) hp4
      · rw [upd_ne p4c.symm, upd_ne lac.symm, upd_same, List.map_replicate]
      · rw [upd_ne p4a.symm, upd_same]; rfl
    · rintro i σ H1 hi ⟨cs, al, v7, v8, v9, rfl, hs1, kp1, hc, ha, S⟩
      refine r_cut (fun σ H' => ∃ (al : List Int), σ = [some (.ref s), some (.int n), some (.int L), some (.int G), some (.bl kp), some (.ref lc), some (.ref la), some (.int i), v8, v9] ∧ Src H' s ∧ Kp s H H' ∧
        H' lc = some (.lst (cs.map V.int)) ∧ H' la = some (.lst (al.map V.int)) ∧ Md9 n L G kp i cs al) ?_ ?_
      · -- the give
        have hl := S.lenA
        walk_at "rd"
        refine r_lenl (SqL.of ha) ?_
        walk_at "rd"
        rw [List.length_map]
        have popped : ∀ (j : Nat) H2, j < al.length → H2 la = some (.lst (al.map V.int)) → H2 lc = some (.lst (cs.map V.int)) → Src H2 s → Kp s H H2 → Md9 n L G kp i cs (al.eraseIdx j) →
            ∃ (al' : List Int), Src (upd H2 la (.lst ((al.map V.int).eraseIdx j))) s ∧ Kp s H (upd H2 la (.lst ((al.map V.int).eraseIdx j))) ∧
              upd H2 la (.lst ((al.map V.int).eraseIdx j)) lc = some (.lst (cs.map V.int)) ∧ upd H2 la (.lst ((al.map V.int).eraseIdx j)) la = some (.lst (al'.map V.int)) ∧ Md9 n L G kp i cs al' := fun j H2 hj q1 q2 q3 q4 q5 => by
          refine ⟨al.eraseIdx j, ?_, Kp.own q4 hla0, by rw [upd_ne lac.symm]; exact q2, by rw [upd_same, map_eraseIdx], q5⟩
          obtain ⟨a, b, c, z⟩ := q3
          exact ⟨a, b, c, by rw [upd_ne sla]; exact z⟩
        refine if_d (fun c0 => ?_) (fun c0 => ?_)
        · have c0' : al.length = L := by omega
          walk_at "rd"
          cases kp with
          | true =>
            walk_at "rd"
            refine r_popAt ha (by decide) (by decide) (by rw [List.length_map]; exact seqIx_last (by omega)) (y := V.int al[al.length - 1]) (by simp) ?_
            obtain ⟨al', q⟩ := popped _ H1 (by omega) ha hc hs1 kp1 (S.popLast c0' (by omega))
            exact ⟨al', rfl, q⟩
          | false =>
            walk_at "rd"
            refine ⟨s, L, rfl, hs1, by omega, by omega, fun r H2 r0 r1 hs2 off => ?_⟩
            walk_at "rd"
            obtain ⟨j, rfl⟩ : ∃ j : Nat, r = (j : Int) := ⟨r.toNat, by omega⟩
            have hj : j < al.length := by omega
            have a2 : H2 la = some (.lst (al.map V.int)) := (off la sla.symm).trans ha
            refine r_popAt a2 (by omega) (by omega) (by rw [List.length_map]; exact seqIx_nat hj) (y := V.int al[j]) (by simp [hj]) ?_
            obtain ⟨al', q⟩ := popped j H2 hj a2 ((off lc slc.symm).trans hc) hs2 (kp1.trans off.kp) (S.pop hj)
            exact ⟨al', rfl, q⟩
        · have c0' : ¬ al.length = L := by omega
          have stay : ∀ H2, H2 la = some (.lst (al.map V.int)) → H2 lc = some (.lst (cs.map V.int)) → Src H2 s → Kp s H H2 → ∃ (al' : List Int), Src H2 s ∧ Kp s H H2 ∧ H2 lc = some (.lst (cs.map V.int)) ∧ H2 la = some (.lst (al'.map V.int)) ∧ Md9 n L G kp i cs al' :=
            fun H2 q1 q2 q3 q4 => ⟨al, q3, q4, q2, q1, S.stay c0' S.kl⟩
          walk_at "rd"
          cases kp with
          | true =>
            walk_at "rd"
            obtain ⟨al', q⟩ := stay H1 ha hc hs1 kp1
            exact ⟨al', rfl, q⟩
          | false =>
            walk_at "rd"
            intro q hq
            have nq : la ≠ q := ne_of_none ha hq
            refine r_neI (SqL.of ((upd_ne nq).trans ha)) (ms := []) (SqL.of upd_same) ?_
            walk_at "rd"
            have hsq : Src (upd H1 q (.lst [])) s := hs1.upd hq
            have kpq : Kp s H (upd H1 q (.lst [])) := Kp.upd kp1 hq
            have haq : upd H1 q (.lst []) la = some (.lst (al.map V.int)) := (upd_ne nq).trans ha
            have hcq : upd H1 q (.lst []) lc = some (.lst (cs.map V.int)) := (upd_ne (ne_of_none hc hq)).trans hc
            refine if_nd (fun ne => ?_) (fun e => ?_)
            · walk_at "rd"
              refine ⟨s, 3, rfl, hsq, by omega, by omega, fun r H2 r0 r1 hs2 off => ?_⟩
              have a2 := (off la sla.symm).trans haq
              have c2 := (off lc slc.symm).trans hcq
              walk_at "rd"
              refine if_d (fun e0 => ?_) (fun e0 => ?_)
              · walk_at "rd"
                refine r_lenl (SqL.of a2) ?_
                walk_at "rd"
                have l0 : 0 < al.length := List.length_pos_iff.mpr ne
                refine ⟨s, (al.map V.int).length, rfl, hs2, by rw [List.length_map]; omega, by rw [List.length_map]; omega, fun r H3 r0 r1 hs3 off3 => ?_⟩
                walk_at "rd"
                rw [List.length_map] at r1
                obtain ⟨j, rfl⟩ : ∃ j : Nat, r = (j : Int) := ⟨r.toNat, by omega⟩
                have hj : j < al.length := by omega
                have a3 := (off3 la sla.symm).trans a2
                have c3 := (off3 lc slc.symm).trans c2
                refine r_popAt a3 (by omega) (by omega) (by rw [List.length_map]; exact seqIx_nat hj) (y := V.int al[j]) (by simp [hj]) ?_
                obtain ⟨al', q⟩ := popped j H3 hj a3 c3 hs3 ((kpq.trans off.kp).trans off3.kp) (S.pop hj)
                exact ⟨al', rfl, q⟩
              · walk_at "rd"
                obtain ⟨al', q⟩ := stay H2 a2 c2 hs2 (kpq.trans off.kp)
                exact ⟨al', rfl, q⟩
            · walk_at "rd"
              obtain ⟨al', q⟩ := stay _ haq hcq hsq kpq
              exact ⟨al', rfl, q⟩
      · rintro σ' H2 ⟨al, rfl, hs2, kp2, hc2, ha2, M⟩
        walk_at "rd"
        refine rng1C n rfl (by omega) ?_
        refine lc_pureR (fun y => !decide ((y : Int) ∈ al) && decide (cs.getD y 0 < G)) (fun y => V.int y) (by omega) ?_ ?_
        · intro D acc j N hD hj hl ht hf
          have nD : la ≠ D := ne_of_none ha2 hD
          have nD2 : lc ≠ D := ne_of_none hc2 hD
          have hjc : j < cs.length := by rw [M.len]; exact hj
          walk_at "rd"
          refine r_ninL (SqL.of ((upd_ne nD).trans ha2)) rfl (flat_ints _) ?_
          rw [inV_ints]
          walk_at "rd"
          refine if_nd (fun m1 => ?_) (fun m1 => ?_)
          · walk_at "rd"
            refine r_ixl (SqL.of ((upd_ne nD2).trans hc2)) (atI_nat (v := V.int cs[j]) (by simp [hjc])) ?_
            walk_at "rd"
            have ec : cs.getD j 0 = cs[j] := by simp [hjc]
            refine if_d (fun m2 => ?_) (fun m2 => ?_)
            · walk_at "rd"
              exact r_kept hl (ht (by simp only [ec]; simp [m1, m2]))
            · walk_at "rd"
              exact hf (by simp only [ec]; simp [m2])
          · walk_at "rd"
            exact hf (by simp [m1])
        · intro D hD
          walk_at "rd"
          intro q hq
          have nD : la ≠ D := ne_of_none ha2 hD
          have nD2 : lc ≠ D := ne_of_none hc2 hD
          have nqD : D ≠ q := fun e => by rw [← e, upd_same] at hq; cases hq
          have hq0 : H2 q = none := by rw [upd_ne nqD.symm] at hq; exact hq
          have nq : la ≠ q := ne_of_none ha2 hq0
          have nq2 : lc ≠ q := ne_of_none hc2 hq0
          obtain ⟨fr, efr⟩ : ∃ fr, fr = (List.range n).filter fun (y : Nat) => !decide ((y : Int) ∈ al) && decide (cs.getD y 0 < G) := ⟨_, rfl⟩
          have emap : fr.map (fun (y : Nat) => V.int (y : Int)) = (fr.map fun (y : Nat) => (y : Int)).map V.int := by rw [List.map_map]; rfl
          rw [← efr, emap] at hq ⊢
          refine r_eqI (SqL.of ((upd_ne nqD).trans upd_same)) (ms := []) (SqL.of upd_same) ?_
          have kpD : Kp s H (upd H2 D (.lst ((fr.map fun (y : Nat) => (y : Int)).map V.int))) := Kp.upd kp2 hD
          have srcD : Src (upd H2 D (.lst ((fr.map fun (y : Nat) => (y : Int)).map V.int))) s := hs2.upd hD
          have kpq : Kp s H (upd (upd H2 D (.lst ((fr.map fun (y : Nat) => (y : Int)).map V.int))) q (.lst [])) := Kp.upd kpD hq
          have srcq : Src (upd (upd H2 D (.lst ((fr.map fun (y : Nat) => (y : Int)).map V.int))) q (.lst [])) s := srcD.upd hq
          have cq : upd (upd H2 D (.lst ((fr.map fun (y : Nat) => (y : Int)).map V.int))) q (.lst []) lc = some (.lst (cs.map V.int)) := by rw [upd_ne nq2, upd_ne nD2]; exact hc2
          have aq : upd (upd H2 D (.lst ((fr.map fun (y : Nat) => (y : Int)).map V.int))) q (.lst []) la = some (.lst (al.map V.int)) := by rw [upd_ne nq, upd_ne nD]; exact ha2
          have mem_fr : ∀ y : Nat, y ∈ fr ↔ y < n ∧ ¬ (y : Int) ∈ al ∧ cs.getD y 0 < G := fun y => by
            rw [efr, List.mem_filter, List.mem_range]
            simp
          walk_at "rd"
          refine if_d (fun e0 => ?_) (fun e0 => ?_)
          · -- refused
            have e1 : fr = [] := List.map_eq_nil_iff.mp e0
            have hno : ∀ (y : Nat) c, ¬ (y : Int) ∈ al → cs[y]? = some c → G ≤ c := fun y c hm hcy => by
              have hy : y < n := by rw [← M.len]; exact (List.getElem?_eq_some_iff.mp hcy).1
              have h1 : ¬ y ∈ fr := by rw [e1]; simp
              rw [mem_fr] at h1
              have h2 : cs.getD y 0 = c := by rw [List.getD_eq_getElem?_getD, hcy]; rfl
              rw [h2] at h1
              exact Int.not_lt.mp fun z => h1 ⟨hy, hm, z⟩
            walk_at "rd"
            refine r_sum (SqL.of cq) ?_
            walk_at "rd"
            rw [M.sum]
            refine k _ _ srcq kpq (M.refused G1 L2 hno) fun hk => ?_
            subst hk
            exact M.exact G1 L1 L2 hno
          · walk_at "rd"
            have fr0 : 0 < fr.length := by
              cases fr with
              | nil => exact absurd rfl e0
              | cons a r => simp
            have frn : fr.length ≤ n := by
              have h := List.length_filter_le (fun (y : Nat) => !decide ((y : Int) ∈ al) && decide (cs.getD y 0 < G)) (List.range n)
              rw [← efr, List.length_range] at h
              exact h
            have sD : s ≠ D := by
              obtain ⟨a, b, c, z⟩ := hs2
              exact ne_of_none z hD
            refine ⟨s, D, _, rfl, srcq, sD.symm, SqL.of ((upd_ne nqD).trans upd_same), by simpa using fr0, by simp; omega, fun v H3 hv hs3 off => ?_⟩
            obtain ⟨y, hy, rfl⟩ : ∃ y : Nat, y ∈ fr ∧ v = V.int (y : Int) := by
              rw [List.map_map] at hv
              obtain ⟨y, h1, h2⟩ := List.mem_map.mp hv
              exact ⟨y, h1, h2.symm⟩
            obtain ⟨y1, y2, y3⟩ := (mem_fr y).mp hy
            have hyc : y < cs.length := by rw [M.len]; exact y1
            have ec : cs.getD y 0 = cs[y] := by simp [hyc]
            rw [ec] at y3
            have c3 := (off lc slc.symm).trans cq
            have a3 := (off la sla.symm).trans aq
            walk_at "rd"
            refine r_ixl (SqL.of c3) (atI_nat (v := V.int cs[y]) (by simp [hyc])) ?_
            walk_at "rd"
            refine r_setl c3 (j := y) (by unfold ixN; simp [hyc]) ?_
            walk_at "rd"
            refine r_append ((upd_ne lac).trans a3) (by rw [List.length_map]; have := M.lenA; exact Nat.lt_of_le_of_lt (show al.length ≤ 6 by omega) (by decide)) ?_
            have S' := M.take y2 (List.getElem?_eq_getElem hyc) y3
            refine ⟨cs.set y (cs[y] + 1), al ++ [(y : Int)], _, _, _, rfl, ?_, ?_, ?_, ?_, S'⟩
            · obtain ⟨a, b, c, z⟩ := hs3
              exact ⟨a, b, c, by rw [upd_ne sla, upd_ne slc]; exact z⟩
            · exact Kp.own (Kp.own (kpq.trans off.kp) hlc0) hla0
            · rw [upd_ne lac.symm, upd_same, List.map_set]
            · rw [upd_same, List.map_append]; rfl
    · rintro σ H1 ⟨cs, al, v7, v8, v9, rfl, hs1, kp1, hc, ha, S⟩
      have := S.bound
      omega

def spLaw (K : PySem.W.Frag) : Sp := fun vs H Q _ => ∃ (a : Addr) (ns : List Int), vs = [.ref a] ∧ SqL K H a (ns.map V.int) ∧ ns.length ≤ 63 ∧ ∀ H', Q (.bl true) H'
theorem ok_law (T : Txt K mg) : FnOk P w K mg base CX0 5 T.f_law T.fd_law ["_law_script"] (spLaw K) := by
  refine T.F_law.ok sc_law (fun vs H Q E h => ?_) (fun cdv A outer s H vs Q E hr h => ?_)
  · obtain ⟨a, ns, rfl, _⟩ := h; rfl
  · obtain ⟨a, ns, rfl, hS, hlen, k⟩ := h
    refine ⟨_, (pss_cons (ps_for PassesOwn.never rfl (pi_list (pe_op op_cat (pe_lst (pa_cons (pe_call (ok__law_cell_at T) (hr.mono (by decide)) rfl T.m__law_cell_at T.F__law_cell_at.kp T.b__law_cell_at .nil pass0 (pa_cons (pv 0) (pa_cons pe_int pa_nil))) pa_nil)) (pe_slice (slK (K := K)) (pv 0) (po_some pe_int) (po_some pe_int)))) (pg_name (i := 1) sc_law.nd rfl (Or.inl rfl)) (pss_cons (ps_set (i := 2) sc_law.nd rfl (Or.inl rfl) (pe_call (ok__law_source_of T) (hr.mono (by decide)) rfl T.m__law_source_of T.F__law_source_of.kp T.b__law_source_of .nil pass0 (pa_cons (pv 1) pa_nil)))
  (pss_one (ps_for PassesOwn.never rfl (pi_range1 (by rfl) T.z_range (pa_cons pe_int pa_nil)) (pg_name (i := 3) sc_law.nd rfl (Or.inl rfl)) (pss_cons (ps_par (i := 4) (j := 5) (by rfl) sc_law.nd rfl rfl (by decide) rfl rfl (pa_cons (pe_op op_add pe_int (pe_call (ok__law_next T) (hr.mono (by decide)) rfl T.m__law_next T.F__law_next.kp T.b__law_next .nil pass0 (pa_cons (pv 2) (pa_cons pe_int pa_nil)))) (pa_cons (pe_op op_add pe_int (pe_call (ok__law_next T) (hr.mono (by decide)) rfl T.m__law_next T.F__law_next.kp T.b__law_next .nil pass0 (pa_cons (pv 2) (pa_cons pe_int pa_nil)))) pa_nil)) (by rfl))
  (pss_cons (ps_set (i := 6) sc_law.nd rfl (Or.inl rfl) (pe_op op_add pe_int (pe_call (ok__law_next T) (hr.mono (by decide)) rfl T.m__law_next T.F__law_next.kp T.b__law_next .nil pass0 (pa_cons (pv 2) (pa_cons (pv 4) pa_nil)))))
  (pss_cons (ps_set (i := 7) sc_law.nd rfl (Or.inl rfl) (pe_call (ok_retired T) (hr.mono (by decide)) rfl T.m_retired T.F_retired.kp T.b_retired .nil pass0 (pa_cons (pv 4) (pa_cons (pv 6) (pa_cons (pv 5) pa_nil)))))
  (pss_cons (ps_if (pt_cmpR op_ne (pv 7) (pe_op op_sub (pe_call (ok_horizon T) (hr.mono (by decide)) rfl T.m_horizon T.F_horizon.kp T.b_horizon .nil pass0 (pa_cons (pv 4) (pa_cons (pv 6) (pa_cons (pv 5) (pa_cons pe_str pa_nil))))) pe_int) (nomark _)) (pss_one (ps_ret pe_bl)) pss_nil)
  (pss_cons (ps_if (pt_cmpR op_ne (pe_call (ok__law_refused_at T) (hr.mono (by decide)) rfl T.m__law_refused_at T.F__law_refused_at.kp T.b__law_refused_at .nil pass0 (pa_cons (pv 2) (pa_cons (pv 4) (pa_cons (pv 6) (pa_cons (pv 5) (pa_cons pe_bl pa_nil)))))) (pv 7) (nomark _)) (pss_one (ps_ret pe_bl)) pss_nil)
  (pss_cons (ps_set (i := 8) sc_law.nd rfl (Or.inl rfl) (pe_call (ok__law_refused_at T) (hr.mono (by decide)) rfl T.m__law_refused_at T.F__law_refused_at.kp T.b__law_refused_at .nil pass0 (pa_cons (pv 2) (pa_cons (pv 4) (pa_cons (pv 6) (pa_cons (pv 5) (pa_cons pe_bl pa_nil)))))))
  (pss_one (ps_if (PW.pt (pw_or (pt_cmpR o_isN (pv 8) pe_non (nomark _)) (pw_or1 (pt_cmpR op_lt (pv 8) (pv 7) (nomark _))))) (pss_one (ps_ret pe_bl)) pss_nil))))))))))))
  (pss_one (ps_ret pe_bl))), ?_⟩
    walk_at "go"
    walk_at "rd"
    refine ⟨a, ns, 0, rfl, hS, fun z => ?_⟩
    walk_at "rd"
    intro p1 hp1
    walk_at "rd"
    refine r_slL (Same.seq (Same.upd (Same.refl H) hp1) hS) fun p2 hp2 => ?_
    have n12 : p1 ≠ p2 := fun e => by rw [← e, upd_same] at hp2; cases hp2
    obtain ⟨ms, ems, hms⟩ := cut_ints ns (some 1) (some 4)
    refine r_cat ((upd_ne n12).trans upd_same) upd_same (by rw [ems]; simp; omega) fun l hl => ?_
    rw [ems]
    walk_at "rd"
    refine overLL (SqL.of upd_same) ?_
    generalize hH0 : upd (upd (upd H p1 (HO.lst [V.int z])) p2 (HO.lst (ms.map V.int))) l (HO.lst ([V.int z] ++ ms.map V.int)) = H0
    have hl0 : H0 l = some (.lst ((z :: ms).map V.int)) := by rw [← hH0, upd_same]; rfl
    refine loop_list (xs := (z :: ms).map V.int) (fun i σ H' => ∃ v1 v2 v3 v4 v5 v6 v7 v8 : Option V, σ = [some (.ref a), v1, v2, v3, v4, v5, v6, v7, v8] ∧ Same H0 H') ⟨_, _, _, _, _, _, _, _, rfl, Same.refl H0⟩ (fun i σ H' _ ⟨_, _, _, _, _, _, _, _, _, e⟩ => e.seq (SqL.of hl0)) ?_ ?_
    · rintro i x σ H1 hx ⟨v1, v2, v3, v4, v5, v6, v7, v8, rfl, s1⟩
      obtain ⟨c, rfl⟩ : ∃ c, x = V.int c := by
        rw [List.getElem?_map] at hx
        cases e : (z :: ms)[i]? with
        | none => rw [e] at hx; cases hx
        | some c => rw [e] at hx; exact ⟨c, (Option.some.inj hx).symm⟩
      walk_at "rd"
      refine ⟨c, rfl, fun p H2 hp src2 s2 => ?_⟩
      walk_at "rd"
      refine rng1L 3 rfl (by omega) ?_
      have hp0 : H0 p = none := s1.free hp
      refine loop_range (fun j σ H' => ∃ v3 v4 v5 v6 v7 v8 : Option V, σ = [some (.ref a), some (.int c), some (.ref p), v3, v4, v5, v6, v7, v8] ∧ Same H0 H' ∧ Src H' p) ⟨_, _, _, _, _, _, rfl, s1.trans s2, src2⟩ ?_ ?_
      · rintro j σ H3 hj ⟨v3, v4, v5, v6, v7, v8, rfl, s3, src3⟩
        walk_at "rd"
        refine ⟨p, 6, rfl, src3, by omega, by omega, fun n H4 n0 n1 src4 off4 => ?_⟩
        walk_at "rd"
        refine ⟨p, 5, rfl, src4, by omega, by omega, fun g H5 g0 g1 src5 off5 => ?_⟩
        walk_at "rd"
        refine ⟨p, 1 + n, rfl, src5, by omega, by omega, fun l' H6 l0 l1 src6 off6 => ?_⟩
        walk_at "rd"
        have ar : Args (1 + n) (1 + l') (1 + g) := ⟨by omega, by omega, by omega, by omega, by omega, by omega⟩
        obtain ⟨N, eN⟩ : ∃ N : Nat, 1 + n = (N : Int) := ⟨(1 + n).toNat, by omega⟩
        obtain ⟨L, eL⟩ : ∃ L : Nat, 1 + l' = (L : Int) := ⟨(1 + l').toNat, by omega⟩
        refine ⟨_, _, _, rfl, ar, ?_⟩
        walk_at "rd"
        refine ⟨_, _, _, .first, rfl, ar, fun H7 s7 => ?_⟩
        walk_at "rd"
        refine if_F (by simp [hor]) ?_
        walk_at "rd"
        have k06 : Kp p H3 H6 := (off4.kp.trans off5.kp).trans off6.kp
        have src7 : Src H7 p := by
          obtain ⟨x, y, z, q⟩ := src6
          exact ⟨x, y, z, s7 _ _ q⟩
        refine ⟨p, N, L, 1 + g, true, by rw [eN, eL]; rfl, src7, by omega, by omega, by omega, by omega, by omega, by omega, fun r1 H8 src8 kp8 _ ex => ?_⟩
        walk_at "rd"
        refine if_F (by rw [eN, eL, ← ex rfl]; simp) ?_
        walk_at "rd"
        refine ⟨p, N, L, 1 + g, false, by rw [eN, eL]; rfl, src8, by omega, by omega, by omega, by omega, by omega, by omega, fun r2 H9 src9 kp9 ge _ => ?_⟩
        walk_at "rd"
        refine if_F (decide_eq_false (by rw [eN, eL]; omega)) ?_
        walk_at "rd"
        exact ⟨_, _, _, _, _, _, rfl, (((s3.off hp0 k06).trans s7).off hp0 kp8).off hp0 kp9, src9⟩
      · rintro σ H3 ⟨v3, v4, v5, v6, v7, v8, rfl, s3, src3⟩
        exact ⟨_, _, _, _, _, _, _, _, rfl, s3⟩
    · rintro σ H1 ⟨v1, v2, v3, v4, v5, v6, v7, v8, rfl, s1⟩
      walk_at "rd"
      exact k _

end
theorem all_mk {l : PySem.W.OpenLaw} {w : World} {K : PySem.W.Frag} {h : Heap} {mg : Str → Option Value}
  {t_MOST_SLOTS : Tok}
  {t_MOST_GENERATIONS : Tok}
  {r_RULES : Addr} {dd_RULES : Option Addr} {nn_RULES : Nat} {sl_RULES : Array (Option Value)} {u0_RULES : Tok} {u1_RULES : Tok} {u2_RULES : Tok} {u3_RULES : Tok}
  {f_is_integer : Addr} {od_is_integer an_is_integer : Option Addr} {sl_is_integer : Array (Option Value)} {oc_is_integer kV_is_integer dc_is_integer pm_is_integer cd_is_integer ct_is_integer : Value}
  {f_is_between : Addr} {od_is_between an_is_between : Option Addr} {sl_is_between : Array (Option Value)} {oc_is_between kV_is_between dc_is_between pm_is_between cd_is_between ct_is_between : Value}
  {f_is_rule : Addr} {od_is_rule an_is_rule : Option Addr} {sl_is_rule : Array (Option Value)} {oc_is_rule kV_is_rule dc_is_rule pm_is_rule cd_is_rule ct_is_rule : Value}
  {f_check_map : Addr} {od_check_map an_check_map : Option Addr} {sl_check_map : Array (Option Value)} {oc_check_map kV_check_map dc_check_map pm_check_map cd_check_map ct_check_map : Value}
  {f_full_horizon : Addr} {od_full_horizon an_full_horizon : Option Addr} {sl_full_horizon : Array (Option Value)} {oc_full_horizon kV_full_horizon dc_full_horizon pm_full_horizon cd_full_horizon ct_full_horizon : Value}
  {f_horizon : Addr} {od_horizon an_horizon : Option Addr} {sl_horizon : Array (Option Value)} {oc_horizon kV_horizon dc_horizon pm_horizon cd_horizon ct_horizon : Value}
  {f_retired : Addr} {od_retired an_retired : Option Addr} {sl_retired : Array (Option Value)} {oc_retired kV_retired dc_retired pm_retired cd_retired ct_retired : Value}
  {f__law_cell_at : Addr} {od__law_cell_at an__law_cell_at : Option Addr} {sl__law_cell_at : Array (Option Value)} {oc__law_cell_at kV__law_cell_at dc__law_cell_at pm__law_cell_at cd__law_cell_at ct__law_cell_at : Value}
  {f__law_source_of : Addr} {od__law_source_of an__law_source_of : Option Addr} {sl__law_source_of : Array (Option Value)} {oc__law_source_of kV__law_source_of dc__law_source_of pm__law_source_of cd__law_source_of ct__law_source_of : Value}
  {f__law_next : Addr} {od__law_next an__law_next : Option Addr} {sl__law_next : Array (Option Value)} {oc__law_next kV__law_next dc__law_next pm__law_next cd__law_next ct__law_next : Value}
  {f__law_one : Addr} {od__law_one an__law_one : Option Addr} {sl__law_one : Array (Option Value)} {oc__law_one kV__law_one dc__law_one pm__law_one cd__law_one ct__law_one : Value}
  {f__law_refused_at : Addr} {od__law_refused_at an__law_refused_at : Option Addr} {sl__law_refused_at : Array (Option Value)} {oc__law_refused_at kV__law_refused_at dc__law_refused_at pm__law_refused_at cd__law_refused_at ct__law_refused_at : Value}
  {f_law : Addr} {od_law an_law : Option Addr} {sl_law : Array (Option Value)} {oc_law kV_law dc_law pm_law cd_law ct_law : Value}
  {fa : Addr}
  (X : K.In h) (G : h.Ns mainGlobals mg) (hfa : mg "law" = some (.ref fa))
  (hz_bool : PySem.W.nsIn K mainGlobals "bool" = some none)
  (hz_int : PySem.W.nsIn K mainGlobals "int" = some none)
  (hz_isinstance : PySem.W.nsIn K mainGlobals "isinstance" = some none)
  (hz_len : PySem.W.nsIn K mainGlobals "len" = some none)
  (hz_range : PySem.W.nsIn K mainGlobals "range" = some none)
  (hz_str : PySem.W.nsIn K mainGlobals "str" = some none)
  (hz_sum : PySem.W.nsIn K mainGlobals "sum" = some none)
  (hg_MOST_SLOTS : PySem.W.nsIn K mainGlobals "MOST_SLOTS" = some (some (.int 64 t_MOST_SLOTS)))
  (hg_MOST_GENERATIONS : PySem.W.nsIn K mainGlobals "MOST_GENERATIONS" = some (some (.int 1000000000 t_MOST_GENERATIONS)))
  (hg_RULES : PySem.W.nsIn K mainGlobals "RULES" = some (some (.ref r_RULES)))
  (hl_RULES : K.lookup r_RULES = some ⟨.type "tuple", dd_RULES, .seq #[.str "last" u0_RULES, .str "first" u1_RULES, .str "lowest" u2_RULES, .str "least" u3_RULES] nn_RULES, sl_RULES⟩)
  (a_is_integer : PySem.W.nsIn K mainGlobals "is_integer" = some (some (.ref f_is_integer)))
  (l_is_integer : K.lookup f_is_integer = some ⟨oc_is_integer, od_is_integer, .func (PySem.W.fnOf "is_integer" "is_integer" (defArgs s_is_integer) (defBody s_is_integer) (defScope s_is_integer) .none kV_is_integer dc_is_integer pm_is_integer an_is_integer cd_is_integer ct_is_integer), sl_is_integer⟩)
  (c_is_integer : PySem.W.codeIn K cd_is_integer "is_integer" = true)
  (k_is_integer : PySem.W.keepIn K (.ref f_is_integer) = true)
  (a_is_between : PySem.W.nsIn K mainGlobals "is_between" = some (some (.ref f_is_between)))
  (l_is_between : K.lookup f_is_between = some ⟨oc_is_between, od_is_between, .func (PySem.W.fnOf "is_between" "is_between" (defArgs s_is_between) (defBody s_is_between) (defScope s_is_between) .none kV_is_between dc_is_between pm_is_between an_is_between cd_is_between ct_is_between), sl_is_between⟩)
  (c_is_between : PySem.W.codeIn K cd_is_between "is_between" = true)
  (k_is_between : PySem.W.keepIn K (.ref f_is_between) = true)
  (a_is_rule : PySem.W.nsIn K mainGlobals "is_rule" = some (some (.ref f_is_rule)))
  (l_is_rule : K.lookup f_is_rule = some ⟨oc_is_rule, od_is_rule, .func (PySem.W.fnOf "is_rule" "is_rule" (defArgs s_is_rule) (defBody s_is_rule) (defScope s_is_rule) .none kV_is_rule dc_is_rule pm_is_rule an_is_rule cd_is_rule ct_is_rule), sl_is_rule⟩)
  (c_is_rule : PySem.W.codeIn K cd_is_rule "is_rule" = true)
  (k_is_rule : PySem.W.keepIn K (.ref f_is_rule) = true)
  (a_check_map : PySem.W.nsIn K mainGlobals "check_map" = some (some (.ref f_check_map)))
  (l_check_map : K.lookup f_check_map = some ⟨oc_check_map, od_check_map, .func (PySem.W.fnOf "check_map" "check_map" (defArgs s_check_map) (defBody s_check_map) (defScope s_check_map) .none kV_check_map dc_check_map pm_check_map an_check_map cd_check_map ct_check_map), sl_check_map⟩)
  (c_check_map : PySem.W.codeIn K cd_check_map "check_map" = true)
  (k_check_map : PySem.W.keepIn K (.ref f_check_map) = true)
  (a_full_horizon : PySem.W.nsIn K mainGlobals "full_horizon" = some (some (.ref f_full_horizon)))
  (l_full_horizon : K.lookup f_full_horizon = some ⟨oc_full_horizon, od_full_horizon, .func (PySem.W.fnOf "full_horizon" "full_horizon" (defArgs s_full_horizon) (defBody s_full_horizon) (defScope s_full_horizon) .none kV_full_horizon dc_full_horizon pm_full_horizon an_full_horizon cd_full_horizon ct_full_horizon), sl_full_horizon⟩)
  (c_full_horizon : PySem.W.codeIn K cd_full_horizon "full_horizon" = true)
  (k_full_horizon : PySem.W.keepIn K (.ref f_full_horizon) = true)
  (a_horizon : PySem.W.nsIn K mainGlobals "horizon" = some (some (.ref f_horizon)))
  (l_horizon : K.lookup f_horizon = some ⟨oc_horizon, od_horizon, .func (PySem.W.fnOf "horizon" "horizon" (defArgs s_horizon) (defBody s_horizon) (defScope s_horizon) .none kV_horizon dc_horizon pm_horizon an_horizon cd_horizon ct_horizon), sl_horizon⟩)
  (c_horizon : PySem.W.codeIn K cd_horizon "horizon" = true)
  (k_horizon : PySem.W.keepIn K (.ref f_horizon) = true)
  (a_retired : PySem.W.nsIn K mainGlobals "retired" = some (some (.ref f_retired)))
  (l_retired : K.lookup f_retired = some ⟨oc_retired, od_retired, .func (PySem.W.fnOf "retired" "retired" (defArgs s_retired) (defBody s_retired) (defScope s_retired) .none kV_retired dc_retired pm_retired an_retired cd_retired ct_retired), sl_retired⟩)
  (c_retired : PySem.W.codeIn K cd_retired "retired" = true)
  (k_retired : PySem.W.keepIn K (.ref f_retired) = true)
  (a__law_cell_at : PySem.W.nsIn K mainGlobals "_law_cell_at" = some (some (.ref f__law_cell_at)))
  (l__law_cell_at : K.lookup f__law_cell_at = some ⟨oc__law_cell_at, od__law_cell_at, .func (PySem.W.fnOf "_law_cell_at" "_law_cell_at" (defArgs s__law_cell_at) (defBody s__law_cell_at) (defScope s__law_cell_at) .none kV__law_cell_at dc__law_cell_at pm__law_cell_at an__law_cell_at cd__law_cell_at ct__law_cell_at), sl__law_cell_at⟩)
  (c__law_cell_at : PySem.W.codeIn K cd__law_cell_at "_law_cell_at" = true)
  (k__law_cell_at : PySem.W.keepIn K (.ref f__law_cell_at) = true)
  (a__law_source_of : PySem.W.nsIn K mainGlobals "_law_source_of" = some (some (.ref f__law_source_of)))
  (l__law_source_of : K.lookup f__law_source_of = some ⟨oc__law_source_of, od__law_source_of, .func (PySem.W.fnOf "_law_source_of" "_law_source_of" (defArgs s__law_source_of) (defBody s__law_source_of) (defScope s__law_source_of) .none kV__law_source_of dc__law_source_of pm__law_source_of an__law_source_of cd__law_source_of ct__law_source_of), sl__law_source_of⟩)
  (c__law_source_of : PySem.W.codeIn K cd__law_source_of "_law_source_of" = true)
  (k__law_source_of : PySem.W.keepIn K (.ref f__law_source_of) = true)
  (a__law_next : PySem.W.nsIn K mainGlobals "_law_next" = some (some (.ref f__law_next)))
  (l__law_next : K.lookup f__law_next = some ⟨oc__law_next, od__law_next, .func (PySem.W.fnOf "_law_next" "_law_next" (defArgs s__law_next) (defBody s__law_next) (defScope s__law_next) .none kV__law_next dc__law_next pm__law_next an__law_next cd__law_next ct__law_next), sl__law_next⟩)
  (c__law_next : PySem.W.codeIn K cd__law_next "_law_next" = true)
  (k__law_next : PySem.W.keepIn K (.ref f__law_next) = true)
  (a__law_one : PySem.W.nsIn K mainGlobals "_law_one" = some (some (.ref f__law_one)))
  (l__law_one : K.lookup f__law_one = some ⟨oc__law_one, od__law_one, .func (PySem.W.fnOf "_law_one" "_law_one" (defArgs s__law_one) (defBody s__law_one) (defScope s__law_one) .none kV__law_one dc__law_one pm__law_one an__law_one cd__law_one ct__law_one), sl__law_one⟩)
  (c__law_one : PySem.W.codeIn K cd__law_one "_law_one" = true)
  (k__law_one : PySem.W.keepIn K (.ref f__law_one) = true)
  (a__law_refused_at : PySem.W.nsIn K mainGlobals "_law_refused_at" = some (some (.ref f__law_refused_at)))
  (l__law_refused_at : K.lookup f__law_refused_at = some ⟨oc__law_refused_at, od__law_refused_at, .func (PySem.W.fnOf "_law_refused_at" "_law_refused_at" (defArgs s__law_refused_at) (defBody s__law_refused_at) (defScope s__law_refused_at) .none kV__law_refused_at dc__law_refused_at pm__law_refused_at an__law_refused_at cd__law_refused_at ct__law_refused_at), sl__law_refused_at⟩)
  (c__law_refused_at : PySem.W.codeIn K cd__law_refused_at "_law_refused_at" = true)
  (k__law_refused_at : PySem.W.keepIn K (.ref f__law_refused_at) = true)
  (a_law : PySem.W.nsIn K mainGlobals "law" = some (some (.ref f_law)))
  (l_law : K.lookup f_law = some ⟨oc_law, od_law, .func (PySem.W.fnOf "law" "law" (defArgs s_law) (defBody s_law) (defScope s_law) .none kV_law dc_law pm_law an_law cd_law ct_law), sl_law⟩)
  (c_law : PySem.W.codeIn K cd_law "law" = true)
  (k_law : PySem.W.keepIn K (.ref f_law) = true)
  : ∃ fd : FuncData, (∀ (s : Shared) (v : Value), BindsTo s fd ⟨[v], []⟩ [("_law_script", v)]) ∧ ∀ base : Heap, K.In base → base.Ns mainGlobals mg → FnOk l.prog w K mg base CX0 5 fa fd ["_law_script"] (spLaw K) := by
  have e := hfa.symm.trans (PySem.W.mg_of X G a_law)
  cases e
  let T : Txt K mg := {
    z_bool := PySem.W.mg_none_of X G hz_bool
    z_int := PySem.W.mg_none_of X G hz_int
    z_isinstance := PySem.W.mg_none_of X G hz_isinstance
    z_len := PySem.W.mg_none_of X G hz_len
    z_range := PySem.W.mg_none_of X G hz_range
    z_str := PySem.W.mg_none_of X G hz_str
    z_sum := PySem.W.mg_none_of X G hz_sum
    g_MOST_SLOTS := ⟨_, PySem.W.mg_of X G hg_MOST_SLOTS⟩
    g_MOST_GENERATIONS := ⟨_, PySem.W.mg_of X G hg_MOST_GENERATIONS⟩
    g_RULES := ⟨_, PySem.W.mg_of X G hg_RULES, fun H => .inr ⟨_, _, _, hl_RULES, rfl, rfl, (by show 4 ≤ sizeLine; decide), .cons ⟨_, rfl⟩ (.cons ⟨_, rfl⟩ (.cons ⟨_, rfl⟩ (.cons ⟨_, rfl⟩ (.nil))))⟩⟩
    f_is_integer := f_is_integer
    fd_is_integer := _
    F_is_integer := fun_mk (st := s_is_integer) l_is_integer c_is_integer k_is_integer
    m_is_integer := PySem.W.mg_of X G a_is_integer
    b_is_integer := (fun_mk (st := s_is_integer) l_is_integer c_is_integer k_is_integer).binds (ps := ["value"]) fun _ _ _ _ _ _ us hl => match us, hl with | [_], _ => rfl
    f_is_between := f_is_between
    fd_is_between := _
    F_is_between := fun_mk (st := s_is_between) l_is_between c_is_between k_is_between
    m_is_between := PySem.W.mg_of X G a_is_between
    kb_is_between := ⟨fun s us ws _ h1 h2 => match us, ws, h1, h2 with | [_], [_, _], _, _ => .of_eq rfl, fun r1 r2 => r1.append r2⟩
    f_is_rule := f_is_rule
    fd_is_rule := _
    F_is_rule := fun_mk (st := s_is_rule) l_is_rule c_is_rule k_is_rule
    m_is_rule := PySem.W.mg_of X G a_is_rule
    b_is_rule := (fun_mk (st := s_is_rule) l_is_rule c_is_rule k_is_rule).binds (ps := ["value"]) fun _ _ _ _ _ _ us hl => match us, hl with | [_], _ => rfl
    f_check_map := f_check_map
    fd_check_map := _
    F_check_map := fun_mk (st := s_check_map) l_check_map c_check_map k_check_map
    m_check_map := PySem.W.mg_of X G a_check_map
    b_check_map := (fun_mk (st := s_check_map) l_check_map c_check_map k_check_map).binds (ps := ["n", "limit", "generations", "rule"]) fun _ _ _ _ _ _ us hl => match us, hl with | [_, _, _, _], _ => rfl
    f_full_horizon := f_full_horizon
    fd_full_horizon := _
    F_full_horizon := fun_mk (st := s_full_horizon) l_full_horizon c_full_horizon k_full_horizon
    m_full_horizon := PySem.W.mg_of X G a_full_horizon
    b_full_horizon := (fun_mk (st := s_full_horizon) l_full_horizon c_full_horizon k_full_horizon).binds (ps := ["n", "limit", "generations"]) fun _ _ _ _ _ _ us hl => match us, hl with | [_, _, _], _ => rfl
    f_horizon := f_horizon
    fd_horizon := _
    F_horizon := fun_mk (st := s_horizon) l_horizon c_horizon k_horizon
    m_horizon := PySem.W.mg_of X G a_horizon
    b_horizon := (fun_mk (st := s_horizon) l_horizon c_horizon k_horizon).binds (ps := ["n", "limit", "generations", "rule"]) fun _ _ _ _ _ _ us hl => match us, hl with | [_, _, _, _], _ => rfl
    f_retired := f_retired
    fd_retired := _
    F_retired := fun_mk (st := s_retired) l_retired c_retired k_retired
    m_retired := PySem.W.mg_of X G a_retired
    b_retired := (fun_mk (st := s_retired) l_retired c_retired k_retired).binds (ps := ["n", "limit", "generations"]) fun _ _ _ _ _ _ us hl => match us, hl with | [_, _, _], _ => rfl
    f__law_cell_at := f__law_cell_at
    fd__law_cell_at := _
    F__law_cell_at := fun_mk (st := s__law_cell_at) l__law_cell_at c__law_cell_at k__law_cell_at
    m__law_cell_at := PySem.W.mg_of X G a__law_cell_at
    b__law_cell_at := (fun_mk (st := s__law_cell_at) l__law_cell_at c__law_cell_at k__law_cell_at).binds (ps := ["_law_script", "_law_k"]) fun _ _ _ _ _ _ us hl => match us, hl with | [_, _], _ => rfl
    f__law_source_of := f__law_source_of
    fd__law_source_of := _
    F__law_source_of := fun_mk (st := s__law_source_of) l__law_source_of c__law_source_of k__law_source_of
    m__law_source_of := PySem.W.mg_of X G a__law_source_of
    b__law_source_of := (fun_mk (st := s__law_source_of) l__law_source_of c__law_source_of k__law_source_of).binds (ps := ["_law_cell"]) fun _ _ _ _ _ _ us hl => match us, hl with | [_], _ => rfl
    f__law_next := f__law_next
    fd__law_next := _
    F__law_next := fun_mk (st := s__law_next) l__law_next c__law_next k__law_next
    m__law_next := PySem.W.mg_of X G a__law_next
    b__law_next := (fun_mk (st := s__law_next) l__law_next c__law_next k__law_next).binds (ps := ["_law_source", "_law_many"]) fun _ _ _ _ _ _ us hl => match us, hl with | [_, _], _ => rfl
    f__law_one := f__law_one
    fd__law_one := _
    F__law_one := fun_mk (st := s__law_one) l__law_one c__law_one k__law_one
    m__law_one := PySem.W.mg_of X G a__law_one
    b__law_one := (fun_mk (st := s__law_one) l__law_one c__law_one k__law_one).binds (ps := ["_law_source", "_law_some"]) fun _ _ _ _ _ _ us hl => match us, hl with | [_, _], _ => rfl
    f__law_refused_at := f__law_refused_at
    fd__law_refused_at := _
    F__law_refused_at := fun_mk (st := s__law_refused_at) l__law_refused_at c__law_refused_at k__law_refused_at
    m__law_refused_at := PySem.W.mg_of X G a__law_refused_at
    b__law_refused_at := (fun_mk (st := s__law_refused_at) l__law_refused_at c__law_refused_at k__law_refused_at).binds (ps := ["_law_source", "_law_n", "_law_limit", "_law_generations", "_law_is_keeping"]) fun _ _ _ _ _ _ us hl => match us, hl with | [_, _, _, _, _], _ => rfl
    f_law := f_law
    fd_law := _
    F_law := fun_mk (st := s_law) l_law c_law k_law
    m_law := PySem.W.mg_of X G a_law
    b_law := (fun_mk (st := s_law) l_law c_law k_law).binds (ps := ["_law_script"]) fun _ _ _ _ _ _ us hl => match us, hl with | [_], _ => rfl
  }
  exact ⟨T.fd_law, fun s v => .of_eq rfl, fun base _ _ => ok_law T⟩
theorem walk {l : PySem.W.OpenLaw} {q : Program} {loose : List Str} {XP : (Str → Option Value) → Heap → Prop} {YP : World → Heap → Prop} {d : DefRec} {K : Params → PySem.W.Frag} (hn : l.most = some 63) (hdf : d.params.defaults = [])
    (hY : ∀ (w : World) (h : Heap), YP w h → (K w.params).In h)
    (F : ∀ (w : World) (mg : Str → Option Value) (fa : Addr) (h : Heap), (K w.params).In h → h.Ns mainGlobals mg → mg d.name = some (.ref fa) →
      ∃ fd : FuncData, (∀ (s : Shared) (u : Value), BindsTo s fd ⟨[u], []⟩ [("_law_script", u)]) ∧ ∀ base : Heap, (K w.params).In base → base.Ns mainGlobals mg → FnOk l.prog w (K w.params) mg base CX0 5 fa fd ["_law_script"] (spLaw (K w.params))) :
    PySem.W.WalkO q loose XP YP l.row.toRowW d [] (fun f vs => PySem.call f vs) :=
  L2.walk_of (n := 63) (k := 5) (x := "_law_script") (CX := fun _ => CX0) (sp := fun w => spLaw (K w.params)) hn (by decide) hdf ⟨rfl, by decide, by decide⟩ hY F (fun _ _ a ns hl _ hS => ⟨a, ns, rfl, hS, hl, fun _ => rfl⟩) fun _ _ _ _ _ z => z
end Sw

open PySem PySem.W PyProof.Rows in
set_option maxRecDepth 100000 in
set_option maxHeartbeats 0 in
theorem PySem.Challenge.cw_slotwraps_k90_whole_slots_that_are_retir_holds : PySem.Challenge.rw_slotwraps_k90_whole_slots_that_are_retir.Holds := by
  w_on; o_law; k_head; (case hw => w_witness2)
  k_fill
  refine Sw.walk (l := PySem.Challenge.rw_slotwraps_k90_whole_slots_that_are_retir) rfl rfl (fun w h Y => PySem.W.kIn_of Y) ?F
  case F =>
    intro w mg fa h KX G hmg
    refine' Sw.all_mk KX G hmg ?hz_bool ?hz_int ?hz_isinstance ?hz_len ?hz_range ?hz_str ?hz_sum ?hg_MOST_SLOTS ?hg_MOST_GENERATIONS ?hg_RULES ?hl_RULES ?a_is_integer ?l_is_integer ?c_is_integer ?k_is_integer ?a_is_between ?l_is_between ?c_is_between ?k_is_between ?a_is_rule ?l_is_rule ?c_is_rule ?k_is_rule ?a_check_map ?l_check_map ?c_check_map ?k_check_map ?a_full_horizon ?l_full_horizon ?c_full_horizon ?k_full_horizon ?a_horizon ?l_horizon ?c_horizon ?k_horizon ?a_retired ?l_retired ?c_retired ?k_retired ?a__law_cell_at ?l__law_cell_at ?c__law_cell_at ?k__law_cell_at ?a__law_source_of ?l__law_source_of ?c__law_source_of ?k__law_source_of ?a__law_next ?l__law_next ?c__law_next ?k__law_next ?a__law_one ?l__law_one ?c__law_one ?k__law_one ?a__law_refused_at ?l__law_refused_at ?c__law_refused_at ?k__law_refused_at ?a_law ?l_law ?c_law ?k_law
    (case hz_bool => k_is)
    (case hz_int => k_is)
    (case hz_isinstance => k_is)
    (case hz_len => k_is)
    (case hz_range => k_is)
    (case hz_str => k_is)
    (case hz_sum => k_is)
    (case hg_MOST_SLOTS => k_is)
    (case hg_MOST_GENERATIONS => k_is)
    (case hg_RULES => k_is)
    (case hl_RULES => k_is)
    (case a_is_integer => k_is)
    (case l_is_integer => k_is)
    (case c_is_integer => k_is)
    (case k_is_integer => k_is)
    (case a_is_between => k_is)
    (case l_is_between => k_is)
    (case c_is_between => k_is)
    (case k_is_between => k_is)
    (case a_is_rule => k_is)
    (case l_is_rule => k_is)
    (case c_is_rule => k_is)
    (case k_is_rule => k_is)
    (case a_check_map => k_is)
    (case l_check_map => k_is)
    (case c_check_map => k_is)
    (case k_check_map => k_is)
    (case a_full_horizon => k_is)
    (case l_full_horizon => k_is)
    (case c_full_horizon => k_is)
    (case k_full_horizon => k_is)
    (case a_horizon => k_is)
    (case l_horizon => k_is)
    (case c_horizon => k_is)
    (case k_horizon => k_is)
    (case a_retired => k_is)
    (case l_retired => k_is)
    (case c_retired => k_is)
    (case k_retired => k_is)
    (case a__law_cell_at => k_is)
    (case l__law_cell_at => k_is)
    (case c__law_cell_at => k_is)
    (case k__law_cell_at => k_is)
    (case a__law_source_of => k_is)
    (case l__law_source_of => k_is)
    (case c__law_source_of => k_is)
    (case k__law_source_of => k_is)
    (case a__law_next => k_is)
    (case l__law_next => k_is)
    (case c__law_next => k_is)
    (case k__law_next => k_is)
    (case a__law_one => k_is)
    (case l__law_one => k_is)
    (case c__law_one => k_is)
    (case k__law_one => k_is)
    (case a__law_refused_at => k_is)
    (case l__law_refused_at => k_is)
    (case c__law_refused_at => k_is)
    (case k__law_refused_at => k_is)
    (case a_law => k_is)
    (case l_law => k_is)
    (case c_law => k_is)
    (case k_law => k_is)
#print axioms PySem.Challenge.cw_slotwraps_k90_whole_slots_that_are_retir_holds
