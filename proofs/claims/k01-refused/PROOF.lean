import PyProof.Rows.All
import Wide.All
import OpenK.AllK
import Wide.FinOn
import HandS.ForMost
import HandS.IsInst
import HandS.Steps
import HandS.Codes
import HandS.SetFor
import HandS.Zip
import KE.DatumOrd
import PyProof.SeqIndex
import HandS.Deep
import HandS.Set
import HandS.Strs
import PyProof.Rows.SortShellAny
import HandS.Conv
import HandS.TupAny
import KE.KDictDisplayH
import KE.KExcIs
import HandS.ExcInit
import HandS.ExcOwn
import HandS.ExcField
import HandS.HotCalls
import HandS.WordsExc
import HandS.ExcIs
import HandS.Nested
import HandS.EndTab
import HandS.Wide
import KE.KNestM
import KE.KExcMake
import PySem.Challenge.RW_clockhand_k01_refused
set_option Elab.async false
set_option linter.all false
set_option maxRecDepth 100000
set_option maxHeartbeats 4000000

namespace Cw
open PySem L2
/-! heaps -/
def Fr (W : List Addr) (H H' : Hp) : Prop := (∀ b o, H b = some o → b ∉ W → H' b = some o) ∧ ∀ b, H' b = none → H b = none
theorem Fr.refl {W : List Addr} {H : Hp} : Fr W H H := ⟨fun _ _ h _ => h, fun _ h => h⟩
theorem Fr.get {W : List Addr} {H H' : Hp} {b : Addr} {o : HO} (a : Fr W H H') (h : H b = some o) (hw : b ∉ W) : H' b = some o := a.1 b o h hw
theorem Fr.get0 {H H' : Hp} {b : Addr} {o : HO} (a : Fr [] H H') (h : H b = some o) : H' b = some o := a.1 b o h (by simp)
theorem Fr.free {W : List Addr} {H H' : Hp} {b : Addr} (a : Fr W H H') (h : H' b = none) : H b = none := a.2 b h
theorem Fr.comp {W W1 : List Addr} {H H1 H2 : Hp} (a : Fr W H H1) (b : Fr W1 H1 H2) (h : ∀ p ∈ W1, p ∈ W ∨ H p = none) : Fr W H H2 :=
  ⟨fun c o e hc => b.1 c o (a.1 c o e hc) (fun m => (h c m).elim hc fun n => by rw [n] at e; cases e), fun c e => a.2 c (b.2 c e)⟩
theorem Fr.trans {W : List Addr} {H H1 H2 : Hp} (a : Fr W H H1) (b : Fr W H1 H2) : Fr W H H2 := a.comp b fun p m => .inl m
theorem Fr.more {W : List Addr} {H H1 H2 : Hp} (a : Fr W H H1) (b : Fr [] H1 H2) : Fr W H H2 := a.comp b fun p m => absurd m (by simp)
theorem Fr.mono {W W' : List Addr} {H H' : Hp} (a : Fr W H H') (h : ∀ p ∈ W, p ∈ W') : Fr W' H H' := ⟨fun b o e hb => a.1 b o e fun m => hb (h b m), a.2⟩
theorem Fr.of0 {W : List Addr} {H H' : Hp} (a : Fr [] H H') : Fr W H H' := a.mono fun p m => absurd m (by simp)
theorem upd_none {H : Hp} {p b : Addr} {o : HO} (h : upd H p o b = none) : H b = none := by
  unfold upd at h
  split at h
  · cases h
  · exact h
theorem Fr.new {W : List Addr} {H : Hp} {p : Addr} {o : HO} (hp : H p = none) : Fr W H (upd H p o) :=
  ⟨fun b u e _ => by rw [upd_ne (ne_of_none e hp)]; exact e, fun b e => upd_none e⟩
theorem Fr.at {W : List Addr} {H : Hp} {p : Addr} {o : HO} (hp : p ∈ W) : Fr W H (upd H p o) :=
  ⟨fun b u e hb => by
    rw [upd_ne (fun z => hb (by rw [z]; exact hp))]
    exact e, fun b e => upd_none e⟩
/-- an object that is new beside H is changed -/
theorem Fr.loc {W : List Addr} {H0 H : Hp} {p : Addr} {o : HO} (a : Fr W H0 H) (n : H0 p = none) : Fr W H0 (upd H p o) :=
  a.comp (Fr.at (W := [p]) (List.mem_singleton.mpr rfl)) fun q m => .inr (by rw [List.mem_singleton.mp m]; exact n)
theorem Fr.seqL {K : PySem.W.Frag} {H H' : Hp} {a : Addr} {xs : List V} (e : Fr [] H H') (h : SqL K H a xs) : SqL K H' a xs := by
  rcases h with (h | ⟨o, h⟩) | h
  · exact .inl (.inl (e.get0 h))
  · exact .inl (.inr ⟨o, e.get0 h⟩)
  · exact .inr h
theorem Fr.seqT {K : PySem.W.Frag} {H H' : Hp} {a : Addr} {xs : List V} (e : Fr [] H H') (h : SqT K H a xs) : SqT K H' a xs := by
  rcases h with (h | ⟨o, h⟩) | h
  · exact .inl (.inl (e.get0 h))
  · exact .inl (.inr ⟨o, e.get0 h⟩)
  · exact .inr h
/-! a statement's heap, made a letter -/
theorem genS {F : Hp → Prop} {H : Hp} {p : Addr} {o : HO} (hp : H p = none) (h : ∀ H2, Fr [] H H2 → H2 p = some o → F H2) : F (upd H p o) := h _ (Fr.new hp) upd_same
theorem genM {F : Hp → Prop} {H : Hp} {p : Addr} {o : HO} (h : ∀ H2, Fr [p] H H2 → H2 p = some o → F H2) : F (upd H p o) := h _ (Fr.at (List.mem_singleton.mpr rfl)) upd_same
theorem at_ne {H : Hp} {p b : Addr} {o u : HO} (hb : b ≠ p) (h : H b = some u) : upd H p o b = some u := (upd_ne hb).trans h
theorem ne_n {H : Hp} {a b : Addr} {o : HO} (h' : H b = none) (h : H a = some o) : a ≠ b := ne_of_none h h'
theorem ne_n' {H : Hp} {a b : Addr} {o : HO} (h' : H b = none) (h : H a = some o) : b ≠ a := fun e => ne_of_none h h' e.symm
theorem ne_s {a b : Addr} (h : a ≠ b) : b ≠ a := fun e => h e.symm

/-! steps -/
section
variable {σ : L2.St} {H : Hp} {Q : VK} {i : Nat} {v x y : V} {ta tb tc te tx : TE} {K : PySem.W.Frag} {nx : L2.St → Hp → Prop} {rt : VK} {bk ct : L2.St → Hp → Prop} {t u : TS} {c d : TT} {QB : Bool → Hp → Prop}
theorem w_var (h : σ[i]? = some (some v)) (q : Q v H) : tVar i σ H Q := ⟨v, h, q⟩
theorem w_c (q : Q v H) : tC v σ H Q := q
theorem w_op {r : R2} (h : ta σ H fun x H1 => tb σ H1 fun y H2 => r x y H2 Q) : tOp r ta tb σ H Q := h
theorem w_un {r : V → Hp → VK → Prop} (h : ta σ H fun x H1 => r x H1 Q) : tUn r ta σ H Q := h
theorem w_cb {r : List V → Hp → VK → Prop} {tt : TA} (h : tt σ H fun vs H1 => r vs H1 Q) : tCB r tt σ H Q := h
theorem w_nil {QA : List V → Hp → Prop} (h : QA [] H) : tNil σ H QA := h
theorem w_cons {QA : List V → Hp → Prop} {tr : TA} (h : ta σ H fun x H1 => tr σ H1 fun xs H2 => QA (x :: xs) H2) : tCons ta tr σ H QA := h
theorem w_I0 {g : Int → Int → V} {i j : Int} (h : Q (g i j) H) : rI0 g (.int i) (.int j) H Q := ⟨i, j, rfl, rfl, h⟩
theorem w_I {C : Int → Int → Prop} {g : Int → Int → V} {i j : Int} (hc : C i j) (h : Q (g i j) H) : rI C g (.int i) (.int j) H Q := ⟨i, j, rfl, rfl, hc, h⟩
theorem w_U {g : Int → V} {i : Int} (h : Q (g i) H) : rU g (.int i) H Q := ⟨i, rfl, h⟩
theorem w_eqI {i j : Int} (h : Q (.bl (decide (i = j))) H) : rEq (.int i) (.int j) H Q := ⟨rfl, by
  have e : decide (V.int i = V.int j) = decide (i = j) := by simp
  rw [e]; exact h⟩
theorem w_neI {i j : Int} (h : Q (.bl (!decide (i = j))) H) : rNe (.int i) (.int j) H Q := ⟨rfl, by
  have e : decide (V.int i = V.int j) = decide (i = j) := by simp
  rw [e]; exact h⟩
theorem w_eqS {i j : Str} (h : Q (.bl (decide (i = j))) H) : rEq (.str i) (.str j) H Q := ⟨rfl, by
  have e : decide (V.str i = V.str j) = decide (i = j) := by simp
  rw [e]; exact h⟩
theorem w_eqB {i j : Bool} (h : Q (.bl (decide (i = j))) H) : rEq (.bl i) (.bl j) H Q := ⟨rfl, by
  have e : decide (V.bl i = V.bl j) = decide (i = j) := by simp
  rw [e]; exact h⟩
theorem w_neB {i j : Bool} (h : Q (.bl (!decide (i = j))) H) : rNe (.bl i) (.bl j) H Q := ⟨rfl, by
  have e : decide (V.bl i = V.bl j) = decide (i = j) := by simp
  rw [e]; exact h⟩
theorem w_ixL {p : Addr} {xs : List V} {i : Int} (h : SqL K H p xs) (ha : atI xs i = some v) (q : Q v H) : rIxL K (.ref p) (.int i) H Q := ⟨p, xs, i, v, rfl, rfl, h, ha, q⟩
theorem w_ixT {p : Addr} {xs : List V} {i : Int} (h : SqT K H p xs) (ha : atI xs i = some v) (q : Q v H) : rIxT K (.ref p) (.int i) H Q := ⟨p, xs, i, v, rfl, rfl, h, ha, q⟩
theorem w_test (h : te σ H fun x H' => ∃ k, x = .bl k ∧ QB k H') : tTest te σ H QB := h
theorem w_B (h : te σ H fun x H' => ∃ k, x = .bl k ∧ QB k H') : tB te σ H QB := h
theorem w_isbl {b : Bool} {PB : Bool → Prop} (h : PB b) : ∃ k, V.bl b = .bl k ∧ PB k := ⟨b, rfl, h⟩
theorem w_and (h : c σ H fun b H1 => if b = true then d σ H1 QB else QB false H1) : tAnd c d σ H QB := h
theorem w_or (h : c σ H fun b H1 => if b = true then QB true H1 else d σ H1 QB) : tOr c d σ H QB := h
theorem w_not (h : c σ H fun b H1 => QB (!b) H1) : tNot c σ H QB := h
theorem w_notV (h : ta σ H fun x H1 => ∃ c, x = .bl c ∧ Q (.bl (!c)) H1) : tNotV ta σ H Q := h
theorem w_andV (h : ta σ H fun x H1 => ∃ c, x = .bl c ∧ if c = true then tb σ H1 Q else Q (.bl false) H1) : tAndV ta tb σ H Q := h
theorem w_orV (h : ta σ H fun x H1 => ∃ c, x = .bl c ∧ if c = true then Q (.bl true) H1 else tb σ H1 Q) : tOrV ta tb σ H Q := h
theorem w_if (h : c σ H fun b H1 => if b = true then ta σ H1 Q else tb σ H1 Q) : tIf c ta tb σ H Q := h
theorem w_isN (h : Q (.bl (decide (x = .non))) H) : rIsN x .non H Q := ⟨rfl, h⟩
theorem w_notN (h : Q (.bl (!decide (x = .non))) H) : rNotN x .non H Q := ⟨rfl, h⟩
theorem w_lst {tt : TA} (h : tt σ H fun xs H1 => xs.length ≤ sizeLine ∧ ∀ p, H1 p = none → Q (.ref p) (upd H1 p (.lst xs))) : tLst tt σ H Q := h
theorem w_tup {tt : TA} (h : tt σ H fun xs H1 => xs.length ≤ sizeLine ∧ ∀ p, H1 p = none → Q (.ref p) (upd H1 p (.tup xs))) : tTup tt σ H Q := h
theorem w_chain {r r' : R2} (h : ta σ H fun x H1 => tb σ H1 fun y H2 => r x y H2 fun z H3 => ∃ k, z = .bl k ∧ if k = true then tc σ H3 fun w H4 => r' y w H4 Q else Q (.bl false) H3) : tChain r r' ta tb tc σ H Q := h
theorem w_len {p : Addr} {xs : List V} (h : SqL K H p xs ∨ SqT K H p xs) (q : Q (.int xs.length) H) : (fun (vs : List V) (H : Hp) (Q : VK) => ∃ p ys, vs = [.ref p] ∧ (SqL K H p ys ∨ SqT K H p ys) ∧ Q (.int ys.length) H) [.ref p] H Q := ⟨p, xs, rfl, h, q⟩
theorem w_call {sp : Sp} {dvs : List V} {E : XK} {tt : TA} (h : tt σ H fun vs H1 => sp (vs ++ dvs) H1 Q E) : tCall sp dvs E tt σ H Q := h
theorem w_call0 {sp : Sp} {E : XK} {tt : TA} (h : tt σ H fun vs H1 => sp (vs ++ []) H1 Q E) : tCall sp [] E tt σ H Q := h
/-! statements -/
theorem w_seq (h : t ⟨u ⟨nx, rt, bk, ct⟩, rt, bk, ct⟩ σ H) : tSeq t u ⟨nx, rt, bk, ct⟩ σ H := h
theorem w_cut (Mid : L2.St → Hp → Prop) (h1 : t ⟨Mid, rt, bk, ct⟩ σ H) (h2 : ∀ σ H, Mid σ H → u ⟨nx, rt, bk, ct⟩ σ H) : C8.tCut t u ⟨nx, rt, bk, ct⟩ σ H := ⟨Mid, h1, h2⟩
theorem w_next (h : nx σ H) : tNext ⟨nx, rt, bk, ct⟩ σ H := h
theorem w_brk (h : bk σ H) : tBreak ⟨nx, rt, bk, ct⟩ σ H := h
theorem w_cont (h : ct σ H) : tCont ⟨nx, rt, bk, ct⟩ σ H := h
theorem w_asg {g : TG} (h : te σ H fun x H1 => g x σ H1 nx) : tAsg te g ⟨nx, rt, bk, ct⟩ σ H := h
theorem w_gn {N : L2.St → Hp → Prop} (h : N (σ.set i (some v)) H) : gName i v σ H N := h
theorem w_drop (h : te σ H fun _ H1 => nx σ H1) : tDrop te ⟨nx, rt, bk, ct⟩ σ H := h
theorem w_ret (h : te σ H rt) : tRet te ⟨nx, rt, bk, ct⟩ σ H := h
theorem w_ifS (h : c σ H fun b H1 => if b = true then t ⟨nx, rt, bk, ct⟩ σ H1 else u ⟨nx, rt, bk, ct⟩ σ H1) : tIfS c t u ⟨nx, rt, bk, ct⟩ σ H := h
theorem w_sub {to ti : TE} {ts : TSet} {N : L2.St → Hp → Prop} (h : to σ H fun o H1 => ti σ H1 fun i H2 => ts o i v H2 fun H3 => N σ H3) : gSub to ti ts v σ H N := h
theorem ite_d {p : Prop} {inst : Decidable p} {A B : Prop} (h1 : p → A) (h2 : ¬ p → B) : if decide p = true then A else B := by
  by_cases h : p
  · rw [if_pos (decide_eq_true h)]; exact h1 h
  · rw [if_neg (by simp [h])]; exact h2 h
theorem ite_nd {p : Prop} {inst : Decidable p} {A B : Prop} (h1 : ¬ p → A) (h2 : p → B) : if (!decide p) = true then A else B := by
  by_cases h : p
  · rw [if_neg (by simp [h])]; exact h2 h
  · rw [if_pos (by simp [h])]; exact h1 h
theorem ite_b {b : Bool} {A B : Prop} (h1 : b = true → A) (h2 : b = false → B) : if b = true then A else B := by
  cases b
  · exact h2 rfl
  · exact h1 rfl
theorem w_iList {tl : TE} {R : It → Hp → Prop} (h : tl σ H fun x H1 => ∃ a, x = V.ref a ∧ (∃ xs, SqL K H1 a xs) ∧ R (Itl K a) H1) : iList K tl σ H R := h
theorem f_list {g : TG} {tb : TS} {a : Addr} (xs : List V) (Pv : Nat → L2.St → Hp → Prop) (h0 : Pv 0 σ H) (hl : ∀ i σ H, i ≤ xs.length → Pv i σ H → SqL K H a xs)
    (hs : ∀ i x σ H, xs[i]? = some x → Pv i σ H → g x σ H fun σ2 H2 => tb ⟨Pv (i + 1), rt, nx, Pv (i + 1)⟩ σ2 H2) (hd : ∀ σ H, Pv xs.length σ H → nx σ H) :
    ∃ b, V.ref a = V.ref b ∧ (∃ xs, SqL K H b xs) ∧ ∃ W : Nat → Nat → L2.St → Hp → Prop, (∃ m, W 0 m σ H) ∧ ∀ i m σ H, W i m σ H →
      ((Itl K b).stop i H ∧ nx σ H) ∨ ((Itl K b).go i H ∧ ∃ N : L2.St → Hp → Prop, (∀ σ' H', N σ' H' → ∃ m', m' < m ∧ W (i + 1) m' σ' H') ∧ ∀ x H', (Itl K b).yld i H x H' → g x σ H' fun σ2 H2 => tb ⟨N, rt, nx, N⟩ σ2 H2) :=
  ⟨a, rfl, ⟨xs, hl 0 σ H (Nat.zero_le _) h0⟩, for_list (D := ⟨nx, rt, fun _ _ => False, fun _ _ => False⟩) (K := K) (a := a) (xs := xs) Pv h0 hl hs hd⟩
theorem w_iRng1 {tt : TA} {R : It → Hp → Prop} (h : tt σ H fun vs H1 => ∃ j : Int, vs = [.int j] ∧ -(2 ^ 62) ≤ j ∧ j < 2 ^ 62 ∧ R (Itr 0 j.toNat) H1) : iRng1 tt σ H R := h
theorem w_iRng2 {tt : TA} {R : It → Hp → Prop} (h : tt σ H fun vs H1 => ∃ i j : Int, vs = [.int i, .int j] ∧ (-(2 ^ 62) ≤ i ∧ i < 2 ^ 62 ∧ -(2 ^ 62) ≤ j ∧ j < 2 ^ 62) ∧ R (Itr i (j - i).toNat) H1) : iRng2 tt σ H R := h
/-- for over range(n) -/
theorem f_rng1 {g : TG} {tb : TS} {j : Int} (hj : j < 2 ^ 62) (h0' : 0 ≤ j) (Pv : Nat → L2.St → Hp → Prop) (h0 : Pv 0 σ H)
    (hs : ∀ (i : Nat) σ H, (i : Int) < j → Pv i σ H → g (.int (i : Int)) σ H fun σ2 H2 => tb ⟨Pv (i + 1), rt, nx, Pv (i + 1)⟩ σ2 H2) (hd : ∀ σ H, Pv j.toNat σ H → nx σ H) :
    ∃ k : Int, [V.int j] = [V.int k] ∧ -(2 ^ 62) ≤ k ∧ k < 2 ^ 62 ∧ ∃ W : Nat → Nat → L2.St → Hp → Prop, (∃ m, W 0 m σ H) ∧ ∀ i m σ H, W i m σ H →
      ((Itr 0 k.toNat).stop i H ∧ nx σ H) ∨ ((Itr 0 k.toNat).go i H ∧ ∃ N : L2.St → Hp → Prop, (∀ σ' H', N σ' H' → ∃ m', m' < m ∧ W (i + 1) m' σ' H') ∧ ∀ x H', (Itr 0 k.toNat).yld i H x H' → g x σ H' fun σ2 H2 => tb ⟨N, rt, nx, N⟩ σ2 H2) := by
  refine ⟨j, rfl, by omega, hj, for_range (D := ⟨nx, rt, fun _ _ => False, fun _ _ => False⟩) (lo := 0) (n := j.toNat) Pv h0 (fun i σ H hi p => ?_) hd⟩
  have e : (0 : Int) + (i : Int) = (i : Int) := Int.zero_add _
  rw [e]
  exact hs i σ H (by omega) p
theorem f_rng2 {g : TG} {tb : TS} {lo hi : Int} (h1 : -(2 ^ 62) ≤ lo) (h2 : lo < 2 ^ 62) (h3 : -(2 ^ 62) ≤ hi) (h4 : hi < 2 ^ 62) (Pv : Nat → L2.St → Hp → Prop) (h0 : Pv 0 σ H)
    (hs : ∀ (i : Nat) σ H, lo + (i : Int) < hi → Pv i σ H → g (.int (lo + (i : Int))) σ H fun σ2 H2 => tb ⟨Pv (i + 1), rt, nx, Pv (i + 1)⟩ σ2 H2) (hd : ∀ σ H, Pv (hi - lo).toNat σ H → nx σ H) :
    ∃ i j : Int, [V.int lo, V.int hi] = [.int i, .int j] ∧ (-(2 ^ 62) ≤ i ∧ i < 2 ^ 62 ∧ -(2 ^ 62) ≤ j ∧ j < 2 ^ 62) ∧ ∃ W : Nat → Nat → L2.St → Hp → Prop, (∃ m, W 0 m σ H) ∧ ∀ k m σ H, W k m σ H →
      ((Itr i (j - i).toNat).stop k H ∧ nx σ H) ∨ ((Itr i (j - i).toNat).go k H ∧ ∃ N : L2.St → Hp → Prop, (∀ σ' H', N σ' H' → ∃ m', m' < m ∧ W (k + 1) m' σ' H') ∧ ∀ x H', (Itr i (j - i).toNat).yld k H x H' → g x σ H' fun σ2 H2 => tb ⟨N, rt, nx, N⟩ σ2 H2) := by
  refine ⟨lo, hi, rfl, ⟨h1, h2, h3, h4⟩, for_range (D := ⟨nx, rt, fun _ _ => False, fun _ _ => False⟩) (lo := lo) (n := (hi - lo).toNat) Pv h0 (fun i σ H hi' p => ?_) hd⟩
  exact hs i σ H (by omega) p
theorem w_for {wi : TI} {g : TG} {tb : TS} (h : wi σ H fun J H1 => ∃ W : Nat → Nat → L2.St → Hp → Prop, (∃ m, W 0 m σ H1) ∧ ∀ i m σ H, W i m σ H →
  (J.stop i H ∧ nx σ H) ∨ (J.go i H ∧ ∃ N : L2.St → Hp → Prop, (∀ σ' H', N σ' H' → ∃ m', m' < m ∧ W (i + 1) m' σ' H') ∧ ∀ x H', J.yld i H x H' → g x σ H' fun σ2 H2 => tb ⟨N, rt, nx, N⟩ σ2 H2)) : tFor wi g tb ⟨nx, rt, bk, ct⟩ σ H := h

/-! more steps -/
theorem w_bm {T : String} {r : V → List V → Hp → VK → Prop} {to : TE} {tt : TA} (h : to σ H fun x H1 => tyV K T x H1 ∧ tt σ H1 fun xs H2 => r x xs H2 Q) : tBM K T r to tt σ H Q := h
theorem w_bm0 {T : String} {r : V → List V → Hp → VK → Prop} {to : TE} (h : to σ H fun x H1 => tyV K T x H1 ∧ r x [] H1 Q) : tBM0 K T r to σ H Q := h
theorem w_tyL {p : Addr} {xs : List V} {B : Prop} (h : SqL K H p xs) (q : B) : tyV K "list" (.ref p) H ∧ B := ⟨.inl ⟨rfl, _, h⟩, q⟩
theorem w_append {l : Addr} {xs : List V} {y : V} (h : H l = some (.lst xs)) (hz : xs.length < sizeLine) (q : Q .non (upd H l (.lst (xs ++ [y])))) : rAppend (.ref l) [y] H Q := ⟨l, xs, y, rfl, rfl, h, hz, q⟩
theorem w_setL {p : Addr} {xs ys : List V} {k : Int} {j : Nat} {N : Hp → Prop} (h : H p = some (.lst xs)) (hj : ixN xs.length k = some j) (e : xs.set j v = ys) (q : N (upd H p (.lst ys))) : rSetL (.ref p) (.int k) v H N := ⟨p, xs, k, j, rfl, rfl, h, hj, by rw [e]; exact q⟩
theorem w_cat {a b : Addr} {xs ys : List V} (h1 : H a = some (.lst xs)) (h2 : H b = some (.lst ys)) (hz : xs.length + ys.length ≤ sizeLine) (q : ∀ p, H p = none → Q (.ref p) (upd H p (.lst (xs ++ ys)))) : rCat (.ref a) (.ref b) H Q :=
  ⟨a, b, xs, ys, rfl, rfl, h1, h2, hz, q⟩
theorem w_inL {p : Addr} {xs : List V} {b : Bool} (h : SqL K H p xs) (hx : flatV x = true) (ha : xs.all flatV = true) (e : inV x xs = b) (q : Q (.bl b) H) : rIn K false x (.ref p) H Q := ⟨p, xs, rfl, .inl h, hx, ha, by rw [e]; exact q⟩
theorem w_niL {p : Addr} {xs : List V} {b : Bool} (h : SqL K H p xs) (hx : flatV x = true) (ha : xs.all flatV = true) (e : (!inV x xs) = b) (q : Q (.bl b) H) : rIn K true x (.ref p) H Q := ⟨p, xs, rfl, .inl h, hx, ha, by rw [if_pos rfl, e]; exact q⟩
def rLen (K : PySem.W.Frag) : List V → Hp → VK → Prop := fun xs H Q => ∃ p ys, xs = [.ref p] ∧ (SqL K H p ys ∨ SqT K H p ys) ∧ Q (.int ys.length) H
theorem cr_len {X : Cx} : CallR X (.builtin "len") (rLen X.K) := call_len_seq
theorem w_lenL {p : Addr} {xs : List V} (h : SqL K H p xs) (q : Q (.int xs.length) H) : rLen K [.ref p] H Q := ⟨p, xs, rfl, .inl h, q⟩
theorem w_lenT {p : Addr} {xs : List V} (h : SqT K H p xs) (q : Q (.int xs.length) H) : rLen K [.ref p] H Q := ⟨p, xs, rfl, .inr h, q⟩
def rInt1 : List V → Hp → VK → Prop := fun xs H Q => (∃ i, xs = [.int i] ∧ Q (.int i) H) ∨ ∃ k, xs = [.bl k] ∧ Q (.int (if k then 1 else 0)) H
theorem cr_int {X : Cx} : CallR X (.type "int") rInt1 := call_int1
theorem w_intB {b : Bool} (q : Q (.int (if b then 1 else 0)) H) : rInt1 [.bl b] H Q := .inr ⟨b, rfl, q⟩
theorem w_intI {i : Int} (q : Q (.int i) H) : rInt1 [.int i] H Q := .inl ⟨i, rfl, q⟩
def rMin2 : List V → Hp → VK → Prop := fun xs H Q => ∃ i j, xs = [.int i, .int j] ∧ Q (.int (if j < i then j else i)) H
theorem cr_min2 {X : Cx} (hc : X.calm = true) : CallR X (.builtin "min") rMin2 := call_min2 hc
theorem w_min2 {i j : Int} (q : Q (.int (if j < i then j else i)) H) : rMin2 [.int i, .int j] H Q := ⟨i, j, rfl, q⟩
def rList (K : PySem.W.Frag) : List V → Hp → VK → Prop := fun xs H Q => ∃ p ys, xs = [.ref p] ∧ (SqL K H p ys ∨ SqT K H p ys) ∧ ∀ l, H l = none → Q (.ref l) (upd H l (.lst ys))
theorem cr_list {X : Cx} : CallR X (.type "list") (rList X.K) := call_list_of
theorem w_listL {p : Addr} {xs : List V} (h : SqL K H p xs) (q : ∀ l, H l = none → Q (.ref l) (upd H l (.lst xs))) : rList K [.ref p] H Q := ⟨p, xs, rfl, .inl h, q⟩
/-- a new object's place: its size, then any free address -/
theorem w_new {n : Nat} {P : Addr → Prop} (hz : n ≤ sizeLine) (h : ∀ p, P p) : n ≤ sizeLine ∧ ∀ p, P p := ⟨hz, h⟩
theorem sz_le {n : Nat} (h : n ≤ 100000) : n ≤ sizeLine := Nat.le_trans h (by decide)
theorem sz_lt {n : Nat} (h : n < 100000) : n < sizeLine := Nat.lt_of_lt_of_le h (by decide)
theorem ite_dT {p : Prop} {inst : Decidable p} {A B : Prop} (hp : p) (h1 : A) : if decide p = true then A else B := by rw [if_pos (decide_eq_true hp)]; exact h1
theorem ite_dF {p : Prop} {inst : Decidable p} {A B : Prop} (hp : ¬ p) (h1 : B) : if decide p = true then A else B := by rw [if_neg (by simp [hp])]; exact h1
theorem ite_nT {p : Prop} {inst : Decidable p} {A B : Prop} (hp : ¬ p) (h1 : A) : if (!decide p) = true then A else B := by rw [if_pos (by simp [hp])]; exact h1
theorem ite_nF {p : Prop} {inst : Decidable p} {A B : Prop} (hp : p) (h1 : B) : if (!decide p) = true then A else B := by rw [if_neg (by simp [hp])]; exact h1
end
/-! deep data -/
theorem dp_ints {K : PySem.W.Frag} {H : Hp} : ∀ ns : List Int, DpAll K H (ns.map V.int) (ns.map PyData.int)
  | [] => .nil
  | n :: r => .cons (.int n) (dp_ints r)
theorem lay_ints : ∀ ns : List Int, PyData.canLayAll0 (ns.map PyData.int) = true
  | [] => rfl
  | n :: r => by simp [PyData.canLayAll0, PyData.canLay0, lay_ints r]
theorem depth_ints : ∀ ns : List Int, PyData.depthAll (ns.map PyData.int) ≤ 1
  | [] => by simp [PyData.depthAll]
  | n :: r => by
    have h := depth_ints r
    simp [PyData.depthAll, PyData.depth]
    omega
theorem shaped_ints (ns : List Int) : SeqAt.shaped (.list (ns.map PyData.int)) = true := by
  have h := depth_ints ns
  simp [SeqAt.shaped, PyData.canLay0, lay_ints, PyData.depth]
  omega
theorem eqv_ints : ∀ ns ms : List Int, PyData.eqvAll (ns.map PyData.int) (ms.map PyData.int) = decide (ns = ms)
  | [], [] => by simp [PyData.eqvAll]
  | [], _ :: _ => by simp [PyData.eqvAll]
  | _ :: _, [] => by simp [PyData.eqvAll]
  | n :: r, m :: t => by
    have h := eqv_ints r t
    simp only [List.map_cons, PyData.eqvAll, PyData.eqv, h, List.cons.injEq]
    by_cases e : n = m <;> simp [e]
section
variable {σ : L2.St} {H : Hp} {Q : VK} {K : PySem.W.Frag}
theorem w_eqDI {p q : Addr} {ns ms : List Int} (h1 : SqL K H p (ns.map V.int)) (h2 : SqL K H q (ms.map V.int)) (hq : Q (.bl (decide (ns = ms))) H) : rEqD K (.ref p) (.ref q) H Q :=
  ⟨.list (ns.map PyData.int), .list (ms.map PyData.int), .lst h1 (dp_ints ns), .lst h2 (dp_ints ms), shaped_ints ns, shaped_ints ms, by
    show Q (.bl (PyData.eqv (.list _) (.list _))) H
    simp only [PyData.eqv, eqv_ints]; exact hq⟩
theorem w_neDI {p q : Addr} {ns ms : List Int} (h1 : SqL K H p (ns.map V.int)) (h2 : SqL K H q (ms.map V.int)) (hq : Q (.bl (!decide (ns = ms))) H) : rNeD K (.ref p) (.ref q) H Q :=
  ⟨.list (ns.map PyData.int), .list (ms.map PyData.int), .lst h1 (dp_ints ns), .lst h2 (dp_ints ms), shaped_ints ns, shaped_ints ms, by
    show Q (.bl (!PyData.eqv (.list _) (.list _))) H
    simp only [PyData.eqv, eqv_ints]; exact hq⟩
end
theorem map_nil_of {H : Hp} {p : Addr} (h : H p = some (.lst [])) : H p = some (.lst (([] : List Int).map V.int)) := h
end Cw
namespace Cw
open PySem L2
theorem int_at {ns : List Int} {i : Nat} {x : V} (h : (ns.map V.int)[i]? = some x) : ∃ z, ns[i]? = some z ∧ x = V.int z := by
  rw [List.getElem?_map] at h
  cases e : ns[i]? with
  | none => rw [e] at h; cases h
  | some z => rw [e] at h; exact ⟨z, rfl, (Option.some.inj h).symm⟩
/-- the law's box: a list of the script's rest and the number that goes on -/
def Box (H : Hp) (b q : Addr) : Prop := ∃ (z : Int) (ms : List Int), H b = some (.lst [.ref q, .int z]) ∧ H q = some (.lst (ms.map V.int)) ∧ 0 ≤ z ∧ z < 2147483647 ∧ ms.length ≤ 63
theorem Box.ne {H : Hp} {b q : Addr} (h : Box H b q) : b ≠ q := by
  obtain ⟨z, ms, h1, h2, _⟩ := h
  intro e
  subst e
  rw [h1] at h2
  cases ms with
  | nil => simp at h2
  | cons m r => simp at h2
theorem Box.keep {W : List Addr} {H H' : Hp} {b q : Addr} (h : Box H b q) (f : Fr W H H') (nb : b ∉ W) (nq : q ∉ W) : Box H' b q := by
  obtain ⟨z, ms, h1, h2, r⟩ := h
  exact ⟨z, ms, f.get h1 nb, f.get h2 nq, r⟩
theorem Box.keep0 {H H' : Hp} {b q : Addr} (h : Box H b q) (f : Fr [] H H') : Box H' b q := h.keep f (by simp) (by simp)
theorem sq_new {K : PySem.W.Frag} {H : Hp} {p a : Addr} {o : HO} {xs : List V} (h : SqL K H a xs) (hp : H p = none) : SqL K (upd H p o) a xs := Fr.seqL (Fr.new hp) h
theorem st_new {K : PySem.W.Frag} {H : Hp} {p a : Addr} {o : HO} {xs : List V} (h : SqT K H a xs) (hp : H p = none) : SqT K (upd H p o) a xs := Fr.seqT (Fr.new hp) h
theorem cmul_l {i j : Int} (h1 : -18446744073709551616 < i) (h2 : i < 18446744073709551616) : CMul i j := .inl ⟨by omega, by omega⟩
theorem cmul_r {i j : Int} (h1 : -18446744073709551616 < j) (h2 : j < 18446744073709551616) : CMul i j := .inr ⟨by omega, by omega⟩
theorem cdiv_ {i j : Int} (h1 : 0 < j) (h2 : j < 1073741824) : CDiv i j := ⟨h1, h2⟩
theorem cpos_ {j : Int} (h1 : 0 < j) : 0 < j := h1
theorem w_pop0 {H : Hp} {Q : VK} {l : Addr} {y : V} {xs : List V} (h : H l = some (.lst (y :: xs))) (hz : xs.length < 1000000) (q : Q y (upd H l (.lst xs))) : rPopAt (.ref l) [.int 0] H Q := by
  refine ⟨l, y :: xs, 0, 0, y, rfl, rfl, h, by decide, by decide, ?_, rfl, q⟩
  unfold seqIndex?
  simp
theorem atI_0 {x : V} {xs : List V} : atI (x :: xs) 0 = some x := atI_nat (j := 0) rfl
theorem ixN_nat {n j : Nat} (h : j < n) : ixN n (j : Int) = some j := by
  unfold ixN
  rw [if_pos (by omega), if_pos (by omega)]
  simp
theorem ixN_0 {x : V} {xs : List V} : ixN (x :: xs).length 0 = some 0 := ixN_nat (j := 0) (Nat.succ_pos _)
theorem mod_in {z n : Int} (h : 0 < n) : 0 ≤ z % n ∧ z % n < n := ⟨Int.emod_nonneg _ (by omega), Int.emod_lt_of_pos _ h⟩
theorem ixN_1 {x y : V} {xs : List V} : ixN (x :: y :: xs).length 1 = some 1 := ixN_nat (j := 1) (Nat.succ_lt_succ (Nat.succ_pos _))
theorem ints_at {ns : List Int} {r : Int} (h0 : 0 ≤ r) (h1 : r < ns.length) : ∃ v, atI (ns.map V.int) r = some (.int v) ∧ v ∈ ns := by
  obtain ⟨j, rfl⟩ : ∃ j : Nat, r = (j : Int) := ⟨r.toNat, by omega⟩
  have hj : j < ns.length := by omega
  exact ⟨ns[j], atI_nat (by rw [List.getElem?_map, List.getElem?_eq_getElem hj]; rfl), List.getElem_mem hj⟩
theorem atI_neg1 {xs : List V} {v : V} (h : xs.getLast? = some v) : atI xs (-1) = some v := by
  obtain ⟨ys, rfl⟩ := List.getLast?_eq_some_iff.mp h
  exact atI_last ys v
theorem ints_last {ns : List Int} (h : ns ≠ []) : ∃ v, atI (ns.map V.int) (-1) = some (.int v) ∧ v ∈ ns := by
  refine ⟨ns.getLast h, atI_neg1 ?_, List.getLast_mem h⟩
  rw [List.getLast?_map, List.getLast?_eq_some_getLast h]
  rfl
theorem Fr.ne_mem {W : List Addr} {H H' : Hp} {p b : Addr} {o : HO} (_ : Fr W H H') (h : H b = some o) (hp : H p = none) : p ≠ b := fun e => by
  subst e
  rw [h] at hp
  cases hp
theorem Box.free {H : Hp} {b q p : Addr} (h : Box H b q) (hp : H p = none) : p ∉ [b, q] := by
  obtain ⟨z, ms, h1, h2, _⟩ := h
  simp only [List.mem_cons, List.not_mem_nil, or_false, not_or]
  exact ⟨fun e => ne_of_none h1 hp e.symm, fun e => ne_of_none h2 hp e.symm⟩
theorem w_eqD0 {K : PySem.W.Frag} {H : Hp} {Q : VK} {p q : Addr} {ns : List Int} (h1 : SqL K H p (ns.map V.int)) (h2 : SqL K H q []) (hq : Q (.bl (decide (ns = []))) H) : rEqD K (.ref p) (.ref q) H Q := w_eqDI (ms := []) h1 h2 hq
theorem w_neD0 {K : PySem.W.Frag} {H : Hp} {Q : VK} {p q : Addr} {ns : List Int} (h1 : SqL K H p (ns.map V.int)) (h2 : SqL K H q []) (hq : Q (.bl (!decide (ns = []))) H) : rNeD K (.ref p) (.ref q) H Q := w_neDI (ms := []) h1 h2 hq
theorem dpall_len {K : PySem.W.Frag} {H : Hp} : ∀ {xs : List V} {ds : List PyData}, DpAll K H xs ds → xs.length = ds.length
  | _, _, .nil => rfl
  | _, _, .cons _ t => congrArg (· + 1) (dpall_len t)
theorem dpall_get {K : PySem.W.Frag} {H : Hp} : ∀ {xs : List V} {ds : List PyData} {i : Nat} {d : PyData}, DpAll K H xs ds → ds[i]? = some d → ∃ x, xs[i]? = some x ∧ Dp K H x d
  | _, _, 0, _, .cons a _, h => by
    simp at h
    subst h
    exact ⟨_, rfl, a⟩
  | _, _, i + 1, _, .cons _ t, h => by
    obtain ⟨x, h1, h2⟩ := dpall_get (i := i) t (by simpa using h)
    exact ⟨x, by simpa using h1, h2⟩
  | _, _, _, _, .nil, h => by simp at h
theorem ty_L {K : PySem.W.Frag} {H : Hp} {a : Addr} {xs : List V} (h : SqL K H a xs) : TyX K H (.ref a) (.type "list") := by
  rcases h with (h | ⟨o, h⟩) | ⟨o, its, n, h, c, _⟩
  · exact .base (.lst h)
  · exact .base (.frz h)
  · exact .kList h c
theorem ty_T {K : PySem.W.Frag} {H : Hp} {a : Addr} {xs : List V} (h : SqT K H a xs) : TyX K H (.ref a) (.type "tuple") := by
  rcases h with (h | ⟨o, h⟩) | ⟨o, its, n, h, c, _⟩
  · exact .base (.tup h)
  · exact .fTuple h
  · exact .kTuple h c
theorem w_isi {K : PySem.W.Frag} {H : Hp} {Q : VK} {x : V} {t c : String} {b : Bool} (ht : TyX K H x (.type t)) (h : kitB t c = some b) (q : Q (.bl b) H) : rIsi K [x, .ty c] H Q := ⟨x, .ty c, .type t, .type c, b, rfl, .ty c, ht, kit_ty h, q⟩
theorem w_ixQL {K : PySem.W.Frag} {H : Hp} {Q : VK} {v : V} {p : Addr} {xs : List V} {i : Int} (h : SqL K H p xs) (ha : atI xs i = some v) (q : Q v H) : rIx K (.ref p) (.int i) H Q := .inl (w_ixL h ha q)
theorem w_ixQT {K : PySem.W.Frag} {H : Hp} {Q : VK} {v : V} {p : Addr} {xs : List V} {i : Int} (h : SqT K H p xs) (ha : atI xs i = some v) (q : Q v H) : rIx K (.ref p) (.int i) H Q := .inr (.inl (w_ixT h ha q))
/-- data of at most so deep lists and tuples -/
def fits : Nat → PyData → Prop
  | 0, d => match d with
    | .list _ | .tuple _ | .dict _ => False
    | _ => True
  | k + 1, d => match d with
    | .list ds | .tuple ds => ds.length ≤ 100000 ∧ ∀ x ∈ ds, fits k x
    | .dict _ => False
    | _ => True
theorem Fr.dp {K : PySem.W.Frag} {H H' : Hp} (f : Fr [] H H') : ∀ (d : PyData) (v : V), Dp K H v d → Dp K H' v d := fun d v h =>
  Dp.rec (motive_1 := fun v d _ => Dp K H' v d) (motive_2 := fun vs ds _ => DpAll K H' vs ds) .non .bl .int .str (fun h _ ih => .lst (f.seqL h) ih) (fun h _ ih => .tup (f.seqT h) ih) .nil (fun _ _ a b => .cons a b) h
theorem kb_NoneType_bool : kitB "NoneType" "bool" = some false := by decide +kernel
theorem kb_NoneType_int : kitB "NoneType" "int" = some false := by decide +kernel
theorem kb_NoneType_str : kitB "NoneType" "str" = some false := by decide +kernel
theorem kb_NoneType_tuple : kitB "NoneType" "tuple" = some false := by decide +kernel
theorem kb_NoneType_list : kitB "NoneType" "list" = some false := by decide +kernel
theorem kb_bool_bool : kitB "bool" "bool" = some true := by decide +kernel
theorem kb_bool_int : kitB "bool" "int" = some true := by decide +kernel
theorem kb_bool_str : kitB "bool" "str" = some false := by decide +kernel
theorem kb_bool_tuple : kitB "bool" "tuple" = some false := by decide +kernel
theorem kb_bool_list : kitB "bool" "list" = some false := by decide +kernel
theorem kb_int_bool : kitB "int" "bool" = some false := by decide +kernel
theorem kb_int_int : kitB "int" "int" = some true := by decide +kernel
theorem kb_int_str : kitB "int" "str" = some false := by decide +kernel
theorem kb_int_tuple : kitB "int" "tuple" = some false := by decide +kernel
theorem kb_int_list : kitB "int" "list" = some false := by decide +kernel
theorem kb_str_bool : kitB "str" "bool" = some false := by decide +kernel
theorem kb_str_int : kitB "str" "int" = some false := by decide +kernel
theorem kb_str_str : kitB "str" "str" = some true := by decide +kernel
theorem kb_str_tuple : kitB "str" "tuple" = some false := by decide +kernel
theorem kb_str_list : kitB "str" "list" = some false := by decide +kernel
theorem kb_list_bool : kitB "list" "bool" = some false := by decide +kernel
theorem kb_list_int : kitB "list" "int" = some false := by decide +kernel
theorem kb_list_str : kitB "list" "str" = some false := by decide +kernel
theorem kb_list_tuple : kitB "list" "tuple" = some false := by decide +kernel
theorem kb_list_list : kitB "list" "list" = some true := by decide +kernel
theorem kb_tuple_bool : kitB "tuple" "bool" = some false := by decide +kernel
theorem kb_tuple_int : kitB "tuple" "int" = some false := by decide +kernel
theorem kb_tuple_str : kitB "tuple" "str" = some false := by decide +kernel
theorem kb_tuple_tuple : kitB "tuple" "tuple" = some true := by decide +kernel
theorem kb_tuple_list : kitB "tuple" "list" = some false := by decide +kernel
theorem ite_nf {A B : Prop} (h : A) : if (!false) = true then A else B := h
theorem ite_nt {A B : Prop} (h : B) : if (!true) = true then A else B := h
/-! more loops; comprehensions -/
section
variable {σ : L2.St} {H : Hp} {Q : VK} {K : PySem.W.Frag} {nx : L2.St → Hp → Prop} {rt : VK}
theorem w_gTup {a : Addr} {xs : List V} {n : Nat} {t : TGs} {N : L2.St → Hp → Prop} (h : SqT K H a xs) (hl : xs.length = n) (q : t xs σ H N) : gTup K n t (.ref a) σ H N := ⟨a, xs, rfl, h, hl, q⟩
theorem w_gCons {t : TG} {u : TGs} {v : V} {r : List V} {N : L2.St → Hp → Prop} (q : t v σ H fun σ' H' => u r σ' H' N) : gCons t u (v :: r) σ H N := ⟨v, r, rfl, q⟩
theorem w_gNil {N : L2.St → Hp → Prop} (q : N σ H) : gNil [] σ H N := ⟨rfl, q⟩
theorem w_yes {QB : Bool → Hp → Prop} (q : QB true H) : tYes σ H QB := q
theorem w_wipe {s s' : L2.St} {vs : List Nat} {B : Prop} (e : wipe s vs = wipe s' vs) (q : B) : wipe s vs = wipe s' vs ∧ B := ⟨e, q⟩
theorem w_iEnum {tt : TA} {R : It → Hp → Prop} (h : tt σ H fun vs H1 => ∃ a xs, vs = [.ref a] ∧ SqL K H1 a xs ∧ R (Ite K a) H1) : iEnum K tt σ H R := h
theorem f_enum {g : TG} {tb : TS} {a : Addr} (xs : List V) (hq : SqL K H a xs) (Pv : Nat → L2.St → Hp → Prop) (h0 : Pv 0 σ H) (hl : ∀ i σ H, i ≤ xs.length → Pv i σ H → SqL K H a xs)
    (hs : ∀ (i : Nat) x T σ H, xs[i]? = some x → Pv i σ H → H T = none → g (.ref T) σ (upd H T (.tup [.int (i : Int), x])) fun σ2 H2 => tb ⟨Pv (i + 1), rt, nx, Pv (i + 1)⟩ σ2 H2) (hd : ∀ σ H, Pv xs.length σ H → nx σ H) :
    ∃ b ys, [V.ref a] = [.ref b] ∧ SqL K H b ys ∧ ∃ W : Nat → Nat → L2.St → Hp → Prop, (∃ m, W 0 m σ H) ∧ ∀ i m σ H, W i m σ H →
      ((Ite K b).stop i H ∧ nx σ H) ∨ ((Ite K b).go i H ∧ ∃ N : L2.St → Hp → Prop, (∀ σ' H', N σ' H' → ∃ m', m' < m ∧ W (i + 1) m' σ' H') ∧ ∀ x H', (Ite K b).yld i H x H' → g x σ H' fun σ2 H2 => tb ⟨N, rt, nx, N⟩ σ2 H2) := by
  refine ⟨a, xs, rfl, hq, fun i m σ H => m = xs.length - i ∧ i ≤ xs.length ∧ Pv i σ H, ⟨xs.length, by simp, Nat.zero_le _, h0⟩, ?_⟩
  rintro i m σ H ⟨rfl, hi, p⟩
  have q := hl i σ H hi p
  by_cases hlt : i < xs.length
  · refine .inr ⟨⟨xs, xs[i], q, by simp [hlt]⟩, Pv (i + 1), fun σ' H' p' => ⟨xs.length - (i + 1), by omega, rfl, hlt, p'⟩, fun x H' y => ?_⟩
    obtain ⟨T, z, rfl, hT, rfl, hx⟩ := y
    exact hs i z T σ H (hx xs q) p hT
  · have e : i = xs.length := by omega
    subst e
    exact .inl ⟨⟨xs, q, Nat.le_refl _⟩, hd σ H p⟩
/-- a comprehension's list so far, at D -/
def LcI (Pv : Addr → Nat → List V → Hp → Prop) (D : Addr) (i : Nat) (H : Hp) : Prop := ∃ acc, Pv D i acc H ∧ H D = some (.lst acc) ∧ acc.length ≤ i
theorem lc_end {Pv : Addr → Nat → List V → Hp → Prop} {D : Addr} {i : Nat} {acc : List V} {y : V} (h : H D = some (.lst acc)) (hl : acc.length ≤ i) (hi : i < 99999) (p : Pv D (i + 1) (acc ++ [y]) (upd H D (.lst (acc ++ [y])))) :
    ∃ acc, H D = some (.lst acc) ∧ acc.length < sizeLine ∧ LcI Pv D (i + 1) (upd H D (.lst (acc ++ [y]))) := ⟨acc, h, sz_lt (by omega), acc ++ [y], p, upd_same, by simp; omega⟩
theorem l_list {g : TG} {tt : TT} {te : TE} {vs : List Nat} {Qd : Addr → Hp → Prop} {a : Addr} (xs : List V) (hq : SqL K H a xs) (Pv : Addr → Nat → List V → Hp → Prop) (h0 : ∀ D, H D = none → Pv D 0 [] (upd H D (.lst [])))
    (hl : ∀ D i acc H', H D = none → Pv D i acc H' → H' D = some (.lst acc) → SqL K H' a xs)
    (hs : ∀ D (i : Nat) x acc H', H D = none → xs[i]? = some x → Pv D i acc H' → H' D = some (.lst acc) → acc.length ≤ i → g x (wipe σ vs) H' fun σ2 H2 => wipe σ2 vs = wipe σ vs ∧ tt σ2 H2 fun b H3 =>
      if b = true then te σ2 H3 fun y H4 => ∃ acc, H4 D = some (.lst acc) ∧ acc.length < sizeLine ∧ LcI Pv D (i + 1) (upd H4 D (.lst (acc ++ [y]))) else LcI Pv D (i + 1) H3)
    (hd : ∀ D acc H', H D = none → Pv D xs.length acc H' → H' D = some (.lst acc) → acc.length ≤ xs.length → Qd D H') :
    ∃ b, V.ref a = V.ref b ∧ (∃ xs, SqL K H b xs) ∧ ∀ D, H D = none → ∃ W : Nat → Nat → Hp → Prop, (∃ m, W 0 m (upd H D (.lst []))) ∧ ∀ i m H, W i m H →
      ((Itl K b).stop i H ∧ Qd D H) ∨ ((Itl K b).go i H ∧ ∃ Nx : Hp → Prop, (∀ H', Nx H' → ∃ m', m' < m ∧ W (i + 1) m' H') ∧ ∀ x H', (Itl K b).yld i H x H' → g x (wipe σ vs) H' fun σ2 H2 => wipe σ2 vs = wipe σ vs ∧ tt σ2 H2 fun b H3 =>
        if b = true then te σ2 H3 fun y H4 => ∃ acc, H4 D = some (.lst acc) ∧ acc.length < sizeLine ∧ Nx (upd H4 D (.lst (acc ++ [y]))) else Nx H3) := by
  refine ⟨a, rfl, ⟨xs, hq⟩, fun D hD => lc_list (K := K) (a := a) (xs := xs) (LcI Pv D) ⟨[], h0 D hD, upd_same, Nat.le_refl _⟩ (fun i H' _ ⟨acc, p, e, _⟩ => hl D i acc H' hD p e) (fun i x H' hx ⟨acc, p, e, l⟩ => hs D i x acc H' hD hx p e l) (fun H' ⟨acc, p, e, l⟩ => hd D acc H' hD p e l)⟩
theorem l_rng1 {g : TG} {tt : TT} {te : TE} {vs : List Nat} {Qd : Addr → Hp → Prop} {j : Int} (hj : j < 2 ^ 62) (h0' : 0 ≤ j) (Pv : Addr → Nat → List V → Hp → Prop) (h0 : ∀ D, H D = none → Pv D 0 [] (upd H D (.lst [])))
    (hs : ∀ D (i : Nat) acc H', H D = none → (i : Int) < j → Pv D i acc H' → H' D = some (.lst acc) → acc.length ≤ i → g (.int (i : Int)) (wipe σ vs) H' fun σ2 H2 => wipe σ2 vs = wipe σ vs ∧ tt σ2 H2 fun b H3 =>
      if b = true then te σ2 H3 fun y H4 => ∃ acc, H4 D = some (.lst acc) ∧ acc.length < sizeLine ∧ LcI Pv D (i + 1) (upd H4 D (.lst (acc ++ [y]))) else LcI Pv D (i + 1) H3)
    (hd : ∀ D acc H', H D = none → Pv D j.toNat acc H' → H' D = some (.lst acc) → acc.length ≤ j.toNat → Qd D H') :
    ∃ k : Int, [V.int j] = [V.int k] ∧ -(2 ^ 62) ≤ k ∧ k < 2 ^ 62 ∧ ∀ D, H D = none → ∃ W : Nat → Nat → Hp → Prop, (∃ m, W 0 m (upd H D (.lst []))) ∧ ∀ i m H, W i m H →
      ((Itr 0 k.toNat).stop i H ∧ Qd D H) ∨ ((Itr 0 k.toNat).go i H ∧ ∃ Nx : Hp → Prop, (∀ H', Nx H' → ∃ m', m' < m ∧ W (i + 1) m' H') ∧ ∀ x H', (Itr 0 k.toNat).yld i H x H' → g x (wipe σ vs) H' fun σ2 H2 => wipe σ2 vs = wipe σ vs ∧ tt σ2 H2 fun b H3 =>
        if b = true then te σ2 H3 fun y H4 => ∃ acc, H4 D = some (.lst acc) ∧ acc.length < sizeLine ∧ Nx (upd H4 D (.lst (acc ++ [y]))) else Nx H3) := by
  refine ⟨j, rfl, by omega, hj, fun D hD => lc_range (lo := 0) (n := j.toNat) (LcI Pv D) ⟨[], h0 D hD, upd_same, Nat.le_refl _⟩ (fun i H' hi ⟨acc, p, e, l⟩ => ?_) (fun H' ⟨acc, p, e, l⟩ => hd D acc H' hD p e l)⟩
  have e0 : (0 : Int) + (i : Int) = (i : Int) := Int.zero_add _
  rw [e0]
  exact hs D i acc H' hD (by omega) p e l
theorem l_rng2 {g : TG} {tt : TT} {te : TE} {vs : List Nat} {Qd : Addr → Hp → Prop} {lo hi : Int} (h1 : -(2 ^ 62) ≤ lo) (h2 : lo < 2 ^ 62) (h3 : -(2 ^ 62) ≤ hi) (h4 : hi < 2 ^ 62) (Pv : Addr → Nat → List V → Hp → Prop) (h0 : ∀ D, H D = none → Pv D 0 [] (upd H D (.lst [])))
    (hs : ∀ D (i : Nat) acc H', H D = none → lo + (i : Int) < hi → Pv D i acc H' → H' D = some (.lst acc) → acc.length ≤ i → g (.int (lo + (i : Int))) (wipe σ vs) H' fun σ2 H2 => wipe σ2 vs = wipe σ vs ∧ tt σ2 H2 fun b H3 =>
      if b = true then te σ2 H3 fun y H4 => ∃ acc, H4 D = some (.lst acc) ∧ acc.length < sizeLine ∧ LcI Pv D (i + 1) (upd H4 D (.lst (acc ++ [y]))) else LcI Pv D (i + 1) H3)
    (hd : ∀ D acc H', H D = none → Pv D (hi - lo).toNat acc H' → H' D = some (.lst acc) → acc.length ≤ (hi - lo).toNat → Qd D H') :
    ∃ i j : Int, [V.int lo, V.int hi] = [.int i, .int j] ∧ (-(2 ^ 62) ≤ i ∧ i < 2 ^ 62 ∧ -(2 ^ 62) ≤ j ∧ j < 2 ^ 62) ∧ ∀ D, H D = none → ∃ W : Nat → Nat → Hp → Prop, (∃ m, W 0 m (upd H D (.lst []))) ∧ ∀ k m H, W k m H →
      ((Itr i (j - i).toNat).stop k H ∧ Qd D H) ∨ ((Itr i (j - i).toNat).go k H ∧ ∃ Nx : Hp → Prop, (∀ H', Nx H' → ∃ m', m' < m ∧ W (k + 1) m' H') ∧ ∀ x H', (Itr i (j - i).toNat).yld k H x H' → g x (wipe σ vs) H' fun σ2 H2 => wipe σ2 vs = wipe σ vs ∧ tt σ2 H2 fun b H3 =>
        if b = true then te σ2 H3 fun y H4 => ∃ acc, H4 D = some (.lst acc) ∧ acc.length < sizeLine ∧ Nx (upd H4 D (.lst (acc ++ [y]))) else Nx H3) := by
  refine ⟨lo, hi, rfl, ⟨h1, h2, h3, h4⟩, fun D hD => lc_range (lo := lo) (n := (hi - lo).toNat) (LcI Pv D) ⟨[], h0 D hD, upd_same, Nat.le_refl _⟩ (fun i H' hi' ⟨acc, p, e, l⟩ => ?_) (fun H' ⟨acc, p, e, l⟩ => hd D acc H' hD p e l)⟩
  exact hs D i acc H' hD (by omega) p e l
theorem l_enum {g : TG} {tt : TT} {te : TE} {vs : List Nat} {Qd : Addr → Hp → Prop} {a : Addr} (xs : List V) (hq : SqL K H a xs) (Pv : Addr → Nat → List V → Hp → Prop) (h0 : ∀ D, H D = none → Pv D 0 [] (upd H D (.lst [])))
    (hl : ∀ D i acc H', H D = none → Pv D i acc H' → H' D = some (.lst acc) → SqL K H' a xs)
    (hs : ∀ D (i : Nat) x T acc H', H D = none → xs[i]? = some x → Pv D i acc H' → H' D = some (.lst acc) → acc.length ≤ i → H' T = none → g (.ref T) (wipe σ vs) (upd H' T (.tup [.int (i : Int), x])) fun σ2 H2 => wipe σ2 vs = wipe σ vs ∧ tt σ2 H2 fun b H3 =>
      if b = true then te σ2 H3 fun y H4 => ∃ acc, H4 D = some (.lst acc) ∧ acc.length < sizeLine ∧ LcI Pv D (i + 1) (upd H4 D (.lst (acc ++ [y]))) else LcI Pv D (i + 1) H3)
    (hd : ∀ D acc H', H D = none → Pv D xs.length acc H' → H' D = some (.lst acc) → acc.length ≤ xs.length → Qd D H') :
    ∃ b ys, [V.ref a] = [V.ref b] ∧ SqL K H b ys ∧ ∀ D, H D = none → ∃ W : Nat → Nat → Hp → Prop, (∃ m, W 0 m (upd H D (.lst []))) ∧ ∀ i m H, W i m H →
      ((Ite K b).stop i H ∧ Qd D H) ∨ ((Ite K b).go i H ∧ ∃ Nx : Hp → Prop, (∀ H', Nx H' → ∃ m', m' < m ∧ W (i + 1) m' H') ∧ ∀ x H', (Ite K b).yld i H x H' → g x (wipe σ vs) H' fun σ2 H2 => wipe σ2 vs = wipe σ vs ∧ tt σ2 H2 fun b H3 =>
        if b = true then te σ2 H3 fun y H4 => ∃ acc, H4 D = some (.lst acc) ∧ acc.length < sizeLine ∧ Nx (upd H4 D (.lst (acc ++ [y]))) else Nx H3) := by
  refine ⟨a, xs, rfl, hq, fun D hD => ⟨fun i m H' => m = xs.length - i ∧ i ≤ xs.length ∧ LcI Pv D i H', ⟨xs.length, by simp, Nat.zero_le _, [], h0 D hD, upd_same, Nat.le_refl _⟩, ?_⟩⟩
  rintro i m H' ⟨rfl, hi, acc, p, e, l⟩
  have q := hl D i acc H' hD p e
  by_cases hlt : i < xs.length
  · refine .inr ⟨⟨xs, xs[i], q, by simp [hlt]⟩, LcI Pv D (i + 1), fun H2 p' => ⟨xs.length - (i + 1), by omega, rfl, hlt, p'⟩, fun x H2 y => ?_⟩
    obtain ⟨T, z, rfl, hT, rfl, hx⟩ := y
    exact hs D i z T acc H' hD (hx xs q) p e l hT
  · have e' : i = xs.length := by omega
    subst e'
    exact .inl ⟨⟨xs, q, Nat.le_refl _⟩, hd D acc H' hD p e l⟩
theorem w_lc {wi : TI} {g : TG} {tt : TT} {te : TE} {vs : List Nat} (h : wi σ H fun J H1 => ∀ D, H1 D = none → ∃ W : Nat → Nat → Hp → Prop, (∃ m, W 0 m (upd H1 D (.lst []))) ∧ ∀ i m H, W i m H →
  (J.stop i H ∧ Q (.ref D) H) ∨ (J.go i H ∧ ∃ Nx : Hp → Prop, (∀ H', Nx H' → ∃ m', m' < m ∧ W (i + 1) m' H') ∧ ∀ x H', J.yld i H x H' → g x (wipe σ vs) H' fun σ2 H2 => wipe σ2 vs = wipe σ vs ∧ tt σ2 H2 fun b H3 =>
    if b = true then te σ2 H3 fun y H4 => ∃ acc, H4 D = some (.lst acc) ∧ acc.length < sizeLine ∧ Nx (upd H4 D (.lst (acc ++ [y]))) else Nx H3)) : tLc wi g tt te vs σ H Q := h
end
theorem take_snoc {α : Type} {xs : List α} {i : Nat} {x : α} (h : xs[i]? = some x) : xs.take (i + 1) = xs.take i ++ [x] := by
  obtain ⟨hi, rfl⟩ := List.getElem?_eq_some_iff.mp h
  rw [List.take_succ, List.getElem?_eq_getElem hi]
  rfl
theorem dpall_snoc {K : PySem.W.Frag} {H : Hp} {v : V} {d : PyData} (h : Dp K H v d) : ∀ {xs : List V} {ds : List PyData}, DpAll K H xs ds → DpAll K H (xs ++ [v]) (ds ++ [d])
  | _, _, .nil => .cons h .nil
  | _, _, .cons a t => .cons a (dpall_snoc h t)
theorem Fr.dpa {K : PySem.W.Frag} {H H' : Hp} (f : Fr [] H H') : ∀ {vs : List V} {ds : List PyData}, DpAll K H vs ds → DpAll K H' vs ds
  | _, _, .nil => .nil
  | _, _, .cons a t => .cons (f.dp _ _ a) (Fr.dpa f t)
theorem f_while {c : TT} {tb : TS} {σ : L2.St} {H : Hp} {nx : L2.St → Hp → Prop} {rt : VK} {bk ct : L2.St → Hp → Prop} (W : Nat → L2.St → Hp → Prop) (m : Nat) (h0 : W m σ H)
    (hs : ∀ m σ H, W m σ H → c σ H fun b H1 => if b = true then ∃ N : L2.St → Hp → Prop, (∀ σ' H', N σ' H' → ∃ m', m' < m ∧ W m' σ' H') ∧ tb ⟨N, rt, nx, N⟩ σ H1 else nx σ H1) : tWhile c tb ⟨nx, rt, bk, ct⟩ σ H := ⟨W, ⟨m, h0⟩, hs⟩
theorem w_turn {tb : TS} {σ : L2.St} {H : Hp} {nx : L2.St → Hp → Prop} {rt : VK} {m : Nat} {W : Nat → L2.St → Hp → Prop} (h : tb ⟨fun σ' H' => ∃ m', m' < m ∧ W m' σ' H', rt, nx, fun σ' H' => ∃ m', m' < m ∧ W m' σ' H'⟩ σ H) :
    ∃ N : L2.St → Hp → Prop, (∀ σ' H', N σ' H' → ∃ m', m' < m ∧ W m' σ' H') ∧ tb ⟨N, rt, nx, N⟩ σ H := ⟨_, fun _ _ h => h, h⟩
/-! data made new beside H: it stays whatever of H's objects is changed -/
def Nw (K : PySem.W.Frag) (H H' : Hp) (v : V) (d : PyData) : Prop := ∀ W H'', (∀ w ∈ W, H w ≠ none) → Fr W H' H'' → Dp K H'' v d
def NwA (K : PySem.W.Frag) (H H' : Hp) (xs : List V) (ds : List PyData) : Prop := ∀ W H'', (∀ w ∈ W, H w ≠ none) → Fr W H' H'' → DpAll K H'' xs ds
section
variable {K : PySem.W.Frag} {H H' H2 H0 : Hp} {v : V} {d : PyData} {xs : List V} {ds : List PyData} {W : List Addr} {t : Addr}
theorem Nw.now (h : Nw K H H' v d) : Dp K H' v d := h [] H' (by simp) .refl
theorem NwA.now (h : NwA K H H' xs ds) : DpAll K H' xs ds := h [] H' (by simp) .refl
theorem Nw.tup (ht : H t = none) (h : H' t = some (.tup xs)) (ha : NwA K H H' xs ds) : Nw K H H' (.ref t) (.tuple ds) := fun W H'' hw f => .tup (SqT.of (f.get h fun m => hw t m ht)) (ha W H'' hw f)
theorem Nw.lst (ht : H t = none) (h : H' t = some (.lst xs)) (ha : NwA K H H' xs ds) : Nw K H H' (.ref t) (.list ds) := fun W H'' hw f => .lst (SqL.of (f.get h fun m => hw t m ht)) (ha W H'' hw f)
theorem NwA.nil : NwA K H H' [] [] := fun _ _ _ _ => .nil
theorem NwA.cons (h : Nw K H H' v d) (ha : NwA K H H' xs ds) : NwA K H H' (v :: xs) (d :: ds) := fun W H'' hw f => .cons (h W H'' hw f) (ha W H'' hw f)
theorem NwA.snoc (ha : NwA K H H' xs ds) (h : Nw K H H' v d) : NwA K H H' (xs ++ [v]) (ds ++ [d]) := fun W H'' hw f => dpall_snoc (h W H'' hw f) (ha W H'' hw f)
theorem Nw.step (h : Nw K H H' v d) (hw : ∀ w ∈ W, H w ≠ none) (f : Fr W H' H2) : Nw K H H2 v d := fun W2 H'' hw2 f2 =>
  h (W ++ W2) H'' (fun w m => (List.mem_append.mp m).elim (hw w) (hw2 w)) ((f.mono fun w m => List.mem_append_left _ m).trans (f2.mono fun w m => List.mem_append_right _ m))
theorem NwA.step (h : NwA K H H' xs ds) (hw : ∀ w ∈ W, H w ≠ none) (f : Fr W H' H2) : NwA K H H2 xs ds := fun W2 H'' hw2 f2 =>
  h (W ++ W2) H'' (fun w m => (List.mem_append.mp m).elim (hw w) (hw2 w)) ((f.mono fun w m => List.mem_append_left _ m).trans (f2.mono fun w m => List.mem_append_right _ m))
theorem Nw.base (h : Nw K H H' v d) (f : Fr W H0 H) : Nw K H0 H' v d := fun W2 H'' hw f2 => h W2 H'' (fun w m e => hw w m (f.2 w e)) f2
theorem NwA.base (h : NwA K H H' xs ds) (f : Fr W H0 H) : NwA K H0 H' xs ds := fun W2 H'' hw f2 => h W2 H'' (fun w m e => hw w m (f.2 w e)) f2
theorem Nw.int (i : Int) : Nw K H H' (.int i) (.int i) := fun _ _ _ _ => .int i
theorem Nw.bl (b : Bool) : Nw K H H' (.bl b) (.bool b) := fun _ _ _ _ => .bl b
theorem Nw.non : Nw K H H' .non .none := fun _ _ _ _ => .non
theorem NwA.ints (ns : List Int) : NwA K H H' (ns.map V.int) (ns.map PyData.int) := fun _ _ _ _ => dp_ints ns
end
theorem ne_of_some {H : Hp} {p : Addr} {o : HO} (h : H p = some o) : H p ≠ none := fun e => by rw [e] at h; cases h
/-! rules with the written part told by name (in a comprehension's block the context is a bound one) -/
section
variable {X : Cx} (K : PySem.W.Frag) (h : X.K = K)
include h
theorem kIxL : IxR X (rIxL K) := h ▸ ix_list
theorem kIxT : IxR X (rIxT K) := h ▸ ix_tup
theorem kIxQ : IxR X (rIx K) := h ▸ ix_seq
theorem kIn : OpR X (compareOp .In) (rIn K false) := h ▸ op_in_seq
theorem kNi : OpR X (compareOp .NotIn) (rIn K true) := h ▸ op_notIn_seq
theorem kEqD (hu : X.A.units + 64 < cLine) : OpR X (compareOp .Eq) (rEqD K) := h ▸ op_eqD hu
theorem kNeD (hu : X.A.units + 64 < cLine) : OpR X (compareOp .NotEq) (rNeD K) := h ▸ op_neD hu
theorem kLen : CallR X (.builtin "len") (rLen K) := h ▸ cr_len
theorem kList : CallR X (.type "list") (rList K) := h ▸ cr_list
theorem kSlL : SlR X (rSlL K) := h ▸ sl_list
theorem kSlT : SlR X (rSlT K) := h ▸ sl_tup
theorem kIsi : CallR X (.builtin "isinstance") (rIsi K) := h ▸ call_isi
theorem kIndex : MtR X "list.index" (rIndex K) := h ▸ mt_index
end
theorem kBM {X : Cx} {K : PySem.W.Frag} {e : Expr} {T : String} {r : V → List V → Hp → VK → Prop} {to : TE} {t : TA} (h : X.K = K) (p : PE X e (tBM X.K T r to t)) : PE X e (tBM K T r to t) := h ▸ p
theorem kBM0 {X : Cx} {K : PySem.W.Frag} {e : Expr} {T : String} {r : V → List V → Hp → VK → Prop} {to : TE} (h : X.K = K) (p : PE X e (tBM0 X.K T r to)) : PE X e (tBM0 K T r to) := h ▸ p
theorem kFld {X : Cx} {K : PySem.W.Frag} {e : Expr} {f : Str} {ta : TE} (h : X.K = K) (p : PE X e (tFld X.K ta f)) : PE X e (tFld K ta f) := h ▸ p
theorem kTup {X : Cx} {K : PySem.W.Frag} {e : Expr} {n : Nat} {t : TGs} (h : X.K = K) (p : PG X e (gTup X.K n t)) : PG X e (gTup K n t) := h ▸ p
theorem kIL {X : Cx} {K : PySem.W.Frag} {e l : Expr} {t : TE} (h : X.K = K) (p : PI X e l (iList X.K t)) : PI X e l (iList K t) := h ▸ p
theorem kIT {X : Cx} {K : PySem.W.Frag} {e l : Expr} {t : TE} (h : X.K = K) (p : PI X e l (iTup X.K t)) : PI X e l (iTup K t) := h ▸ p
theorem kIE {X : Cx} {K : PySem.W.Frag} {e l : Expr} {t : TA} (h : X.K = K) (p : PI X e l (iEnum X.K t)) : PI X e l (iEnum K t) := h ▸ p
end Cw

namespace Cw
open PySem L2
/-! the hand's dial, in plain words -/
def oV : Option Int → V
  | none => .non
  | some i => .int i
structure Dl where
  here : List (Option Int)
  seen : List Bool
  hand : Nat
  lacks : Nat
def Dl.new (n : Nat) : Dl := ⟨List.replicate n none, List.replicate n false, 0, 0⟩
def spin (n : Nat) : Nat → List Bool → Nat → List Bool × Nat × List Nat
  | 0, s, h => (s, h, [])
  | k + 1, s, h => if s[h]? = some true then ((spin n k (s.set h false) ((h + 1) % n)).1, (spin n k (s.set h false) ((h + 1) % n)).2.1, h :: (spin n k (s.set h false) ((h + 1) % n)).2.2) else (s, h, [])
def Dl.spin (d : Dl) : List Bool × Nat × List Nat := Cw.spin d.here.length (d.seen.count true) d.seen d.hand
structure Tl where
  lack : Bool
  gone : Option Int
  passed : List Nat
def Dl.ask (d : Dl) (x : Int) : Dl × Tl :=
  if some x ∈ d.here then ({ d with seen := d.seen.set (d.here.idxOf (some x)) true }, ⟨false, none, []⟩)
  else (⟨d.here.set d.spin.2.1 (some x), d.spin.1.set d.spin.2.1 true, (d.spin.2.1 + 1) % d.here.length, d.lacks + 1⟩, ⟨true, (d.here[d.spin.2.1]?).join, d.spin.2.2⟩)
structure Dl.Wf (d : Dl) (n : Nat) : Prop where
  n0 : 0 < n
  n8 : n ≤ 8
  hl : d.here.length = n
  sl : d.seen.length = n
  hd : d.hand < n
  mark : ∀ i : Nat, d.seen[i]? = some true → ∃ x : Int, d.here[i]? = some (some x)
theorem spin_stop {n : Nat} {s : List Bool} {h : Nat} (e : ¬ s[h]? = some true) : ∀ k, spin n k s h = (s, h, [])
  | 0 => rfl
  | k + 1 => by unfold spin; rw [if_neg e]
theorem count_off {s : List Bool} {h : Nat} (e : s[h]? = some true) : s.count true = (s.set h false).count true + 1 := by
  obtain ⟨hl, e'⟩ := List.getElem?_eq_some_iff.mp e
  have hp : 0 < s.count true := List.count_pos_iff.mpr (e' ▸ List.getElem_mem hl)
  rw [List.count_set hl, e']
  simp
  omega
theorem spin_go {n : Nat} {s : List Bool} {h : Nat} (e : s[h]? = some true) : spin n (s.count true) s h =
    ((spin n ((s.set h false).count true) (s.set h false) ((h + 1) % n)).1, (spin n ((s.set h false).count true) (s.set h false) ((h + 1) % n)).2.1, h :: (spin n ((s.set h false).count true) (s.set h false) ((h + 1) % n)).2.2) := by
  rw [count_off e]
  show (if s[h]? = some true then _ else _) = _
  rw [if_pos e]
theorem spin_facts {n : Nat} (n0 : 0 < n) : ∀ (k : Nat) (s : List Bool) (h : Nat), s.count true ≤ k → s.length = n → h < n →
    (spin n k s h).1.length = n ∧ (spin n k s h).2.1 < n ∧ (¬ (spin n k s h).1[(spin n k s h).2.1]? = some true) ∧ (∀ i : Nat, (spin n k s h).1[i]? = some true → s[i]? = some true)
  | 0, s, h, hk, hl, hh => by
    refine ⟨hl, hh, ?_, fun i e => e⟩
    intro e
    have e' : s[h]? = some true := e
    have := count_off e'
    omega
  | k + 1, s, h, hk, hl, hh => by
    by_cases e : s[h]? = some true
    · have hc := count_off e
      have ih := spin_facts n0 k (s.set h false) ((h + 1) % n) (by omega) (by rw [List.length_set]; exact hl) (Nat.mod_lt _ n0)
      have q : spin n (k + 1) s h = ((spin n k (s.set h false) ((h + 1) % n)).1, (spin n k (s.set h false) ((h + 1) % n)).2.1, h :: (spin n k (s.set h false) ((h + 1) % n)).2.2) := by
        show (if s[h]? = some true then _ else _) = _
        rw [if_pos e]
      rw [q]
      refine ⟨ih.1, ih.2.1, ih.2.2.1, fun i hi => ?_⟩
      have z := ih.2.2.2 i hi
      by_cases hi' : i = h
      · rw [hi']; exact e
      · rw [List.getElem?_set_ne (fun z => hi' z.symm)] at z
        exact z
    · rw [spin_stop e]; exact ⟨hl, hh, e, fun i e => e⟩
theorem Dl.Wf.new {n : Nat} (n0 : 0 < n) (n8 : n ≤ 8) : (Dl.new n).Wf n := ⟨n0, n8, by simp [Dl.new], by simp [Dl.new], n0, fun i e => by
  have e' : (List.replicate n false)[i]? = some true := e
  rw [List.getElem?_replicate] at e'
  split at e' <;> simp at e'⟩
theorem Dl.Wf.ask {d : Dl} {n : Nat} (w : d.Wf n) (x : Int) : (d.ask x).1.Wf n := by
  obtain ⟨n0, n8, hl, sl, hd, mk⟩ := w
  unfold Dl.ask
  split
  · rename_i hm
    refine ⟨n0, n8, hl, by simp [sl], hd, fun i e => ?_⟩
    have e' : (d.seen.set (d.here.idxOf (some x)) true)[i]? = some true := e
    by_cases hi : i = d.here.idxOf (some x)
    · subst hi
      exact ⟨x, by rw [List.getElem?_eq_getElem (List.idxOf_lt_length_iff.mpr hm)]; simp⟩
    · rw [List.getElem?_set_ne (fun z => hi z.symm)] at e'
      exact mk i e'
  · have f := spin_facts n0 (d.seen.count true) d.seen d.hand (Nat.le_refl _) sl hd
    have es : d.spin = Cw.spin n (d.seen.count true) d.seen d.hand := by unfold Dl.spin; rw [hl]
    refine ⟨n0, n8, by simp [hl], by simp [es, f.1], ?_, fun i e => ?_⟩
    · show (d.spin.2.1 + 1) % d.here.length < n
      rw [hl]; exact Nat.mod_lt _ n0
    · have e' : (d.spin.1.set d.spin.2.1 true)[i]? = some true := e
      by_cases h : i = d.spin.2.1
      · subst h
        refine ⟨x, ?_⟩
        show (d.here.set d.spin.2.1 (some x))[d.spin.2.1]? = _
        rw [List.getElem?_set_self (by rw [hl, es]; exact f.2.1)]
      · rw [List.getElem?_set_ne (fun z => h z.symm), es] at e'
        obtain ⟨y, hy⟩ := mk i (f.2.2.2 i e')
        refine ⟨y, ?_⟩
        show (d.here.set d.spin.2.1 (some x))[i]? = _
        rw [List.getElem?_set_ne (fun z => h z.symm)]; exact hy
/-- all asks of a row -/
def askAll : Dl → List Int → List Tl
  | _, [] => []
  | d, x :: r => (d.ask x).2 :: askAll (d.ask x).1 r
def endAll : Dl → List Int → Dl
  | d, [] => d
  | d, x :: r => endAll (d.ask x).1 r
theorem askAll_app : ∀ (d : Dl) (a b : List Int), askAll d (a ++ b) = askAll d a ++ askAll (endAll d a) b
  | _, [], _ => rfl
  | d, x :: r, b => by simp [askAll, endAll, askAll_app]
theorem endAll_app : ∀ (d : Dl) (a b : List Int), endAll d (a ++ b) = endAll (endAll d a) b
  | _, [], _ => rfl
  | d, x :: r, b => by simp [endAll, endAll_app]
theorem askAll_len : ∀ (d : Dl) (a : List Int), (askAll d a).length = a.length
  | _, [] => rfl
  | d, x :: r => by simp [askAll, askAll_len]
theorem endAll_wf {n : Nat} : ∀ (d : Dl) (a : List Int), d.Wf n → (endAll d a).Wf n
  | _, [], w => w
  | d, x :: r, w => endAll_wf _ r (w.ask x)
/-! pages as values -/
theorem flat_oV (hs : List (Option Int)) : (hs.map oV).all flatV = true := by
  rw [List.all_map, List.all_eq_true]
  intro x _
  cases x <;> rfl
theorem flat_int (ns : List Int) : (ns.map V.int).all flatV = true := by
  rw [List.all_map, List.all_eq_true]
  intro x _
  rfl
theorem in_oV (x : Int) (hs : List (Option Int)) : inV (.int x) (hs.map oV) = decide (some x ∈ hs) := by
  unfold inV
  rw [List.any_map]
  induction hs with
  | nil => rfl
  | cons a r ih =>
    rw [List.any_cons, ih]
    cases a with
    | none => simp [oV, eqV]
    | some y =>
      by_cases e : y = x
      · subst e; simp [oV, eqV]
      · simp [oV, eqV, e, Ne.symm e]
theorem in_int (x : Int) (ns : List Int) : inV (.int x) (ns.map V.int) = decide (x ∈ ns) := by
  unfold inV
  rw [List.any_map]
  induction ns with
  | nil => rfl
  | cons y r ih =>
    rw [List.any_cons, ih]
    by_cases e : y = x
    · subst e; simp [eqV]
    · simp [eqV, e, Ne.symm e]
theorem w_index {K : PySem.W.Frag} {H : Hp} {Q : VK} {a : Addr} {hs : List (Option Int)} {x : Int} (h : SqL K H a (hs.map oV)) (hm : some x ∈ hs) (q : Q (.int ((hs.idxOf (some x) : Nat) : Int)) H) : rIndex K (.ref a) [.int x] H Q := by
  have hl := List.idxOf_lt_length_iff.mpr hm
  refine ⟨a, hs.map oV, .int x, hs.idxOf (some x), .int x, rfl, rfl, h, rfl, flat_oV hs, ?_, by simp [eqV], fun m z' hm' hz => ?_, q⟩
  · rw [List.getElem?_map, List.getElem?_eq_getElem hl]; simp [oV]
  · rw [List.getElem?_map, List.getElem?_eq_getElem (by omega)] at hz
    have hz' : oV hs[m] = z' := Option.some.inj hz
    subst hz'
    have ne : hs[m] ≠ some x := fun e => by
      have z := List.not_of_lt_findIdx (p := (· == some x)) (xs := hs) (i := m) hm'
      simp [e] at z
    cases e : hs[m] with
    | none => rfl
    | some y =>
      rw [e] at ne
      have : y ≠ x := fun z => ne (by rw [z])
      simp [oV, eqV, this]
end Cw
namespace Cw
open PySem L2
/-! a Dial as an object -/
theorem str_hs : ¬ (("here" : Str) = "seen") := by decide +kernel
theorem str_hh : ¬ (("here" : Str) = "hand") := by decide +kernel
theorem str_hl : ¬ (("here" : Str) = "lacks") := by decide +kernel
theorem str_sh : ¬ (("seen" : Str) = "hand") := by decide +kernel
theorem str_sl : ¬ (("seen" : Str) = "lacks") := by decide +kernel
theorem str_al : ¬ (("hand" : Str) = "lacks") := by decide +kernel
def dfl (a b : Addr) (h l : Int) : List (Str × V) := [("here", .ref a), ("seen", .ref b), ("hand", .int h), ("lacks", .int l)]
theorem dfl_made (a b : Addr) (h l : Int) : putF "lacks" (.int l) (putF "hand" (.int h) (putF "seen" (.ref b) (putF "here" (.ref a) []))) = dfl a b h l := by
  simp only [putF, if_neg str_hs, if_neg str_hh, if_neg str_hl, if_neg str_sh, if_neg str_sl, if_neg str_al, dfl]
theorem dfl_hand (a b : Addr) (h l y : Int) : putF "hand" (.int y) (dfl a b h l) = dfl a b y l := by
  simp only [dfl, putF, if_neg str_hh, if_neg str_sh, if_pos]
theorem dfl_lacks (a b : Addr) (h l y : Int) : putF "lacks" (.int y) (dfl a b h l) = dfl a b h y := by
  simp only [dfl, putF, if_neg str_hl, if_neg str_sl, if_neg str_al, if_pos]
theorem dfl_len (a b : Addr) (h l : Int) : (dfl a b h l).length < 1000 := by show 4 < 1000; decide
theorem lk_here (a b : Addr) (h l : Int) : (dfl a b h l).lookup ("here" : Str) = some (.ref a) := by
  rw [← dfl_made, lookup_putF, if_neg str_hl, lookup_putF, if_neg str_hh, lookup_putF, if_neg str_hs, lookup_putF, if_pos rfl]
theorem lk_seen (a b : Addr) (h l : Int) : (dfl a b h l).lookup ("seen" : Str) = some (.ref b) := by
  rw [← dfl_made, lookup_putF, if_neg str_sl, lookup_putF, if_neg str_sh, lookup_putF, if_pos rfl]
theorem lk_hand (a b : Addr) (h l : Int) : (dfl a b h l).lookup ("hand" : Str) = some (.int h) := by
  rw [← dfl_made, lookup_putF, if_neg str_al, lookup_putF, if_pos rfl]
theorem lk_lacks (a b : Addr) (h l : Int) : (dfl a b h l).lookup ("lacks" : Str) = some (.int l) := by
  rw [← dfl_made, lookup_putF, if_pos rfl]
theorem lk_no (a b : Addr) (h l : Int) {m : Str} (h1 : ¬ m = "lacks") (h2 : ¬ m = "hand") (h3 : ¬ m = "seen") (h4 : ¬ m = "here") : (dfl a b h l).lookup m = none := by
  rw [← dfl_made, lookup_putF, if_neg h1, lookup_putF, if_neg h2, lookup_putF, if_neg h3, lookup_putF, if_neg h4]
  rfl
/-- a Dial at p, its lists at a and b -/
def DialAt (C : Addr) (H : Hp) (p a b : Addr) (d : Dl) : Prop := (∃ dx, H p = some (.ins C dx (dfl a b d.hand d.lacks))) ∧ H a = some (.lst (d.here.map oV)) ∧ H b = some (.lst (d.seen.map V.bl))
theorem DialAt.keep {C p a b : Addr} {H H' : Hp} {d : Dl} {W : List Addr} (h : DialAt C H p a b d) (f : Fr W H H') (hp : p ∉ W) (ha : a ∉ W) (hb : b ∉ W) : DialAt C H' p a b d := by
  obtain ⟨⟨dx, h1⟩, h2, h3⟩ := h
  exact ⟨⟨dx, f.get h1 hp⟩, f.get h2 ha, f.get h3 hb⟩
theorem DialAt.keep0 {C p a b : Addr} {H H' : Hp} {d : Dl} (h : DialAt C H p a b d) (f : Fr [] H H') : DialAt C H' p a b d := h.keep f (by simp) (by simp) (by simp)
section
variable {K : PySem.W.Frag} {H : Hp}
theorem w_fld {ta : TE} {f : Str} {σ : L2.St} {Q : VK} (h : ta σ H fun x H1 => ∃ a C dx fs v, x = .ref a ∧ H1 a = some (.ins C dx fs) ∧ Cls K C ∧ NoAttr K C f ∧ fs.lookup f = some v ∧ Q v H1) : tFld K ta f σ H Q := h
theorem w_fldR {p C dx : Addr} {fs : List (Str × V)} {f : Str} {v : V} {P : V → Prop} (h : H p = some (.ins C dx fs)) (c : Cls K C) (n : NoAttr K C f) (l : fs.lookup f = some v) (q : P v) :
    ∃ a C dx fs v, V.ref p = .ref a ∧ H a = some (.ins C dx fs) ∧ Cls K C ∧ NoAttr K C f ∧ fs.lookup f = some v ∧ P v := ⟨p, C, dx, fs, v, rfl, h, c, n, l, q⟩
theorem w_sFld {ta tv : TE} {f : Str} {σ : L2.St} {nx : L2.St → Hp → Prop} {rt : VK} {bk ct : L2.St → Hp → Prop} (h : tv σ H fun y H1 => ta σ H1 fun x H2 => ∃ a C dx fs, x = .ref a ∧ H2 a = some (.ins C dx fs) ∧ Cls K C ∧ NoAttr K C f ∧ fs.length < 1000 ∧ nx σ (upd H2 a (.ins C dx (putF f y fs)))) :
    sFld K ta tv f ⟨nx, rt, bk, ct⟩ σ H := h
theorem w_sFldR {p C dx : Addr} {fs gs : List (Str × V)} {f : Str} {y : V} {N : Hp → Prop} (h : H p = some (.ins C dx fs)) (c : Cls K C) (n : NoAttr K C f) (l : fs.length < 1000) (e : putF f y fs = gs) (q : N (upd H p (.ins C dx gs))) :
    ∃ a C dx fs, V.ref p = .ref a ∧ H a = some (.ins C dx fs) ∧ Cls K C ∧ NoAttr K C f ∧ fs.length < 1000 ∧ N (upd H a (.ins C dx (putF f y fs))) := ⟨p, C, dx, fs, rfl, h, c, n, l, by rw [e]; exact q⟩
theorem w_aug {ta tv : TE} {rd : V → V → Hp → VK → Prop} {f : Str} {σ : L2.St} {nx : L2.St → Hp → Prop} {rt : VK} {bk ct : L2.St → Hp → Prop} (h : ta σ H fun x H1 => ∃ a C dx fs v, x = .ref a ∧ H1 a = some (.ins C dx fs) ∧ Cls K C ∧ NoAttr K C f ∧ fs.lookup f = some v ∧
  tv σ H1 fun y H2 => rd v y H2 fun z H3 => ∃ dx' fs', H3 a = some (.ins C dx' fs') ∧ fs'.length < 1000 ∧ nx σ (upd H3 a (.ins C dx' (putF f z fs')))) : sFldAug K ta tv rd f ⟨nx, rt, bk, ct⟩ σ H := h
theorem w_augR {p C dx : Addr} {fs : List (Str × V)} {f : Str} {v : V} {P : Addr → Addr → V → Prop} (h : H p = some (.ins C dx fs)) (c : Cls K C) (n : NoAttr K C f) (l : fs.lookup f = some v) (q : P p C v) :
    ∃ a C dx fs v, V.ref p = .ref a ∧ H a = some (.ins C dx fs) ∧ Cls K C ∧ NoAttr K C f ∧ fs.lookup f = some v ∧ P a C v := ⟨p, C, dx, fs, v, rfl, h, c, n, l, q⟩
theorem w_rAdd {i j : Int} {Q : VK} (q : Q (.int (i + j)) H) : rAdd (.int i) (.int j) H Q := ⟨i, j, rfl, rfl, q⟩
theorem w_augS {p C dx : Addr} {fs gs : List (Str × V)} {f : Str} {z : V} {N : Hp → Prop} (h : H p = some (.ins C dx fs)) (l : fs.length < 1000) (e : putF f z fs = gs) (q : N (upd H p (.ins C dx gs))) :
    ∃ dx' fs', H p = some (.ins C dx' fs') ∧ fs'.length < 1000 ∧ N (upd H p (.ins C dx' (putF f z fs'))) := ⟨dx, fs, h, l, by rw [e]; exact q⟩
theorem w_make {C : Addr} {sp : Sp} {dvs : List V} {E : XK} {t : TA} {σ : L2.St} {Q : VK} (h : t σ H fun vs H1 => ∀ x dx, H1 x = none → H1 dx = none → dx ≠ x → sp (.ref x :: (vs ++ dvs)) (upd (upd H1 dx (.own x)) x (.ins C dx [])) (fun v H2 => v = .non ∧ Q (.ref x) H2) E) : tMake C sp dvs E t σ H Q := h
theorem w_meth {C : Addr} {m : Str} {sp : Sp} {dvs : List V} {E : XK} {ta : TE} {t : TA} {σ : L2.St} {Q : VK} (h : ta σ H fun x H1 => ∃ a dx fs, x = .ref a ∧ H1 a = some (.ins C dx fs) ∧ fs.lookup m = none ∧ t σ H1 fun vs H2 => sp (x :: (vs ++ dvs)) H2 Q E) : tMeth C m sp dvs E ta t σ H Q := h
theorem w_methR {p C dx : Addr} {fs : List (Str × V)} {m : Str} {B : Prop} (h : H p = some (.ins C dx fs)) (l : fs.lookup m = none) (q : B) : ∃ a dx fs, V.ref p = .ref a ∧ H a = some (.ins C dx fs) ∧ fs.lookup m = none ∧ B := ⟨p, dx, fs, rfl, h, l, q⟩
end
/-! what a dial tells, as data -/
def oD : Option Int → PyData
  | none => .none
  | some i => .int i
def natsD (l : List Nat) : List PyData := l.map fun (i : Nat) => PyData.int (i : Int)
def tlD (t : Tl) : PyData := .tuple [.bool t.lack, oD t.gone, .list (natsD t.passed)]
def toldV (t : Tl) (q : Addr) : List V := [.bl t.lack, oV t.gone, .ref q]
def natsV (l : List Nat) : List V := l.map fun (i : Nat) => V.int (i : Int)
theorem nw_o {K : PySem.W.Frag} {H H' : Hp} (o : Option Int) : Nw K H H' (oV o) (oD o) := by
  cases o
  · exact Nw.non
  · exact Nw.int _
theorem nw_nats {K : PySem.W.Frag} {H H' : Hp} (l : List Nat) : NwA K H H' (natsV l) (natsD l) := by
  have e1 : natsV l = (l.map fun (i : Nat) => (i : Int)).map V.int := by simp [natsV]
  have e2 : natsD l = (l.map fun (i : Nat) => (i : Int)).map PyData.int := by simp [natsD]
  rw [e1, e2]
  exact NwA.ints _
theorem nw_tl {K : PySem.W.Frag} {H H' : Hp} {t q : Addr} (tl : Tl) (ht : H t = none) (hq : H q = none) (h1 : H' t = some (.tup (toldV tl q))) (h2 : H' q = some (.lst (natsV tl.passed))) : Nw K H H' (.ref t) (tlD tl) :=
  Nw.tup ht h1 (.cons (Nw.bl _) (.cons (nw_o _) (.cons (Nw.lst hq h2 (nw_nats _)) .nil)))
end Cw
namespace Cw
open PySem L2
/-! the rules that keep a row of pages -/
def keepS (rooms : Nat) (unseen : Bool) (kept : List Int) (x : Int) : List Int :=
  if x ∈ kept then (if unseen then kept.erase x ++ [x] else kept) else kept.drop (if kept.length = rooms then 1 else 0) ++ [x]
/-- of each ask whether the page lacked -/
def keepAll (rooms : Nat) (unseen : Bool) : List Int → List Int → List Bool
  | _, [] => []
  | kept, x :: r => decide (x ∉ kept) :: keepAll rooms unseen (keepS rooms unseen kept x) r
def keepEnd (rooms : Nat) (unseen : Bool) : List Int → List Int → List Int
  | kept, [] => kept
  | kept, x :: r => keepEnd rooms unseen (keepS rooms unseen kept x) r
structure KOk (rooms : Nat) (kept : List Int) : Prop where
  nd : kept.Nodup
  le : kept.length ≤ rooms
theorem KOk.step {rooms : Nat} {kept : List Int} (n0 : 0 < rooms) (h : KOk rooms kept) (u : Bool) (x : Int) : KOk rooms (keepS rooms u kept x) := by
  obtain ⟨nd, le⟩ := h
  unfold keepS
  split
  · rename_i hm
    split
    · refine ⟨?_, ?_⟩
      · rw [List.nodup_append]
        refine ⟨nd.erase x, by simp, fun a ha b hb => ?_⟩
        simp at hb
        subst hb
        intro e
        subst e
        exact (List.Nodup.mem_erase_iff nd).mp ha |>.1 rfl
      · rw [List.length_append, List.length_erase_of_mem hm]
        have := List.length_pos_of_mem hm
        simp
        omega
    · exact ⟨nd, le⟩
  · rename_i hm
    refine ⟨?_, ?_⟩
    · rw [List.nodup_append]
      refine ⟨nd.sublist (List.drop_sublist _ _), by simp, fun a ha b hb => ?_⟩
      simp at hb
      subst hb
      intro e
      subst e
      exact hm (List.mem_of_mem_drop ha)
    · rw [List.length_append, List.length_drop]
      simp
      split <;> omega
theorem keepAll_app (rooms : Nat) (u : Bool) : ∀ (k a b : List Int), keepAll rooms u k (a ++ b) = keepAll rooms u k a ++ keepAll rooms u (keepEnd rooms u k a) b
  | _, [], _ => rfl
  | k, x :: r, b => by simp [keepAll, keepEnd, keepAll_app]
theorem keepEnd_app (rooms : Nat) (u : Bool) : ∀ (k a b : List Int), keepEnd rooms u k (a ++ b) = keepEnd rooms u (keepEnd rooms u k a) b
  | _, [], _ => rfl
  | k, x :: r, b => by simp [keepEnd, keepEnd_app]
theorem keepAll_len (rooms : Nat) (u : Bool) : ∀ (k a : List Int), (keepAll rooms u k a).length = a.length
  | _, [] => rfl
  | k, x :: r => by simp [keepAll, keepAll_len]
theorem keepEnd_ok {rooms : Nat} (n0 : 0 < rooms) (u : Bool) : ∀ (k a : List Int), KOk rooms k → KOk rooms (keepEnd rooms u k a)
  | _, [], h => h
  | k, x :: r, h => keepEnd_ok n0 u _ r (h.step n0 u x)
/-- whether each ask of a row lacks, by a rule -/
def lackB (rooms : Nat) (z : Str) (row : List Int) : List Bool :=
  if z = Str.ofString "hand" then (askAll (Dl.new rooms) row).map Tl.lack else keepAll rooms (decide (z = Str.ofString "unseen")) [] row
theorem lackB_len (rooms : Nat) (z : Str) (row : List Int) : (lackB rooms z row).length = row.length := by
  unfold lackB
  split
  · rw [List.length_map, askAll_len]
  · exact keepAll_len _ _ _ _
/-- the places of the trues -/
def placesFrom : Nat → List Bool → List Int
  | _, [] => []
  | i, b :: r => if b then (i : Int) :: placesFrom (i + 1) r else placesFrom (i + 1) r
def places (bs : List Bool) : List Int := placesFrom 0 bs
theorem placesFrom_snoc : ∀ (i : Nat) (bs : List Bool) (b : Bool), placesFrom i (bs ++ [b]) = placesFrom i bs ++ (if b then [((i + bs.length : Nat) : Int)] else [])
  | i, [], b => by cases b <;> simp [placesFrom]
  | i, c :: r, b => by
    have h := placesFrom_snoc (i + 1) r b
    have e : i + 1 + r.length = i + (c :: r).length := by simp; omega
    rw [e] at h
    cases c <;> simp [placesFrom, h]
theorem places_snoc (bs : List Bool) (b : Bool) : places (bs ++ [b]) = places bs ++ (if b then [((bs.length : Nat) : Int)] else []) := by
  have h := placesFrom_snoc 0 bs b
  simpa [places] using h
theorem erase_filter {x : Int} : ∀ {k : List Int}, k.Nodup → k.erase x = k.filter fun y => decide (y ≠ x)
  | [], _ => rfl
  | y :: r, nd => by
    obtain ⟨h1, h2⟩ := List.nodup_cons.mp nd
    by_cases e : y = x
    · subst e
      rw [List.erase_cons_head, List.filter_cons_of_neg (by simp)]
      refine (List.filter_eq_self.mpr fun z hz => ?_).symm
      simp
      intro e
      subst e
      exact h1 hz
    · rw [List.erase_cons_tail (by simpa using e), List.filter_cons_of_pos (by simpa using e), erase_filter h2]
section
variable {σ : L2.St} {K : PySem.W.Frag} {H : Hp} {Q : VK}
theorem w_inI {p : Addr} {ns : List Int} {x : Int} (h : SqL K H p (ns.map V.int)) (q : Q (.bl (decide (x ∈ ns))) H) : rIn K false (.int x) (.ref p) H Q := w_inL h rfl (flat_int ns) (in_int x ns) q
theorem w_niI {p : Addr} {ns : List Int} {x : Int} (h : SqL K H p (ns.map V.int)) (q : Q (.bl (decide (x ∉ ns))) H) : rIn K true (.int x) (.ref p) H Q := w_niL h rfl (flat_int ns) (by rw [in_int]; simp) q
theorem w_remI {l : Addr} {ns : List Int} {x : Int} (h : H l = some (.lst (ns.map V.int))) (hm : x ∈ ns) (q : Q .non (upd H l (.lst ((ns.erase x).map V.int)))) : rRemI (.ref l) [.int x] H Q := by
  have hj := List.idxOf_lt_length_iff.mpr hm
  refine ⟨l, ns, x, ns.idxOf x, rfl, rfl, h, by rw [List.getElem?_eq_getElem hj]; simp, fun m hm' e => ?_, ?_⟩
  · have z := List.not_of_lt_findIdx (p := (· == x)) (xs := ns) (i := m) hm'
    rw [List.getElem?_eq_getElem (by omega)] at e
    rw [Option.some.inj e] at z
    simp at z
  · rw [← List.erase_eq_eraseIdx_of_idxOf rfl]; exact q
theorem w_sl {r : V → Option Int → Option Int → Hp → VK → Prop} {te : TE} {tl th : TO} (h : te σ H fun x H1 => tl σ H1 fun l H2 => th σ H2 fun u H3 => r x l u H3 Q) : tSl r te tl th σ H Q := h
theorem w_part {t : TE} {QO : Option Int → Hp → Prop} (h : t σ H fun x H1 => ∃ i, x = .int i ∧ QO (some i) H1) : tPart t σ H QO := h
theorem w_nopart {QO : Option Int → Hp → Prop} (h : QO none H) : tNoPart σ H QO := h
theorem w_isInt {i : Int} {P : Int → Prop} (h : P i) : ∃ k, V.int i = .int k ∧ P k := ⟨i, rfl, h⟩
theorem w_slL {a : Addr} {xs : List V} {lo hi : Option Int} (h : SqL K H a xs) (q : ∀ p, H p = none → Q (.ref p) (upd H p (.lst (cutV xs lo hi)))) : rSlL K (.ref a) lo hi H Q := ⟨a, xs, rfl, h, q⟩
end
theorem cut_from (xs : List V) (k : Nat) : cutV xs (some (k : Int)) none = xs.drop k := by
  unfold cutV
  rw [HT.sIx_nat, HT.sIx_none]
  rcases Nat.le_total k xs.length with h | h
  · rw [Nat.min_eq_left h]
    exact List.take_of_length_le (by rw [List.length_drop]; omega)
  · rw [Nat.min_eq_right h, List.drop_of_length_le h]
    simp
theorem cut_last (xs : List V) {n : Int} (h : 0 < n) : cutV xs (some (-n)) none = xs.drop (xs.length - n.toNat) := by
  unfold cutV
  have e : HT.sIx xs.length 0 (some (-n)) = xs.length - n.toNat := by
    show (if -n < 0 then (-n + (xs.length : Int)).toNat else _) = _
    rw [if_pos (by omega)]
    omega
  rw [e, HT.sIx_none]
  exact List.take_of_length_le (by rw [List.length_drop]; omega)
theorem cut_mid (xs : List V) (i j : Nat) : cutV xs (some (i : Int)) (some (j : Int)) = (xs.take j).drop i := by
  unfold cutV
  rw [HT.sIx_nat, HT.sIx_nat, List.drop_take]
  rcases Nat.le_total i xs.length with h | h
  · rw [Nat.min_eq_left h]
    rcases Nat.le_total j xs.length with h2 | h2
    · rw [Nat.min_eq_left h2]
    · rw [Nat.min_eq_right h2, List.take_of_length_le (by rw [List.length_drop]; omega), List.take_of_length_le (by rw [List.length_drop]; omega)]
  · rw [Nat.min_eq_right h, List.drop_of_length_le (Nat.le_refl _), List.drop_of_length_le h]
    simp
end Cw
namespace Cw
open PySem L2
/-! the law's own dial: a dict by texts -/
theorem str_pm : ¬ (("pages" : Str) = "marks") := by decide +kernel
theorem str_ph : ¬ (("pages" : Str) = "hand") := by decide +kernel
theorem str_pl : ¬ (("pages" : Str) = "lacks") := by decide +kernel
theorem str_mh : ¬ (("marks" : Str) = "hand") := by decide +kernel
theorem str_ml : ¬ (("marks" : Str) = "lacks") := by decide +kernel
theorem key_ne {a b : Str} (h : ¬ a = b) : ¬ ((Sum.inr a : Key) = Sum.inr b) := fun e => h (Sum.inr.inj e)
theorem key_ne' {a b : Str} (h : ¬ a = b) : ¬ ((Sum.inr b : Key) = Sum.inr a) := fun e => h (Sum.inr.inj e).symm
def ddl (a b : Addr) (h l : Int) : List (Key × V) := [(.inr "pages", .ref a), (.inr "marks", .ref b), (.inr "hand", .int h), (.inr "lacks", .int l)]
theorem ddl_made (a b : Addr) (h l : Int) : mergeK [] (ddl a b h l) = ddl a b h l := by
  show putK (putK (putK (putK [] (Sum.inr "pages" : Key) (V.ref a)) (Sum.inr "marks") (V.ref b)) (Sum.inr "hand") (V.int h)) (Sum.inr "lacks") (V.int l) = _
  rw [putK_new (kvs := []) (V.ref a) rfl]
  rw [putK_new (V.ref b) (by rw [List.nil_append, valV_neg (key_ne str_pm)]; rfl)]
  rw [putK_new (V.int h) (by simp only [List.nil_append, List.cons_append]; rw [valV_neg (key_ne str_ph), valV_neg (key_ne str_mh)]; rfl)]
  rw [putK_new (V.int l) (by simp only [List.nil_append, List.cons_append]; rw [valV_neg (key_ne str_pl), valV_neg (key_ne str_ml), valV_neg (key_ne str_al)]; rfl)]
  rfl
theorem ddl_pages (a b : Addr) (h l : Int) : valV (ddl a b h l) (.inr "pages") = some (.ref a) := valV_pos rfl
theorem ddl_marks (a b : Addr) (h l : Int) : valV (ddl a b h l) (.inr "marks") = some (.ref b) := by unfold ddl; rw [valV_neg (key_ne str_pm)]; exact valV_pos rfl
theorem ddl_hand (a b : Addr) (h l : Int) : valV (ddl a b h l) (.inr "hand") = some (.int h) := by unfold ddl; rw [valV_neg (key_ne str_ph), valV_neg (key_ne str_mh)]; exact valV_pos rfl
theorem ddl_lacks (a b : Addr) (h l : Int) : valV (ddl a b h l) (.inr "lacks") = some (.int l) := by unfold ddl; rw [valV_neg (key_ne str_pl), valV_neg (key_ne str_ml), valV_neg (key_ne str_al)]; exact valV_pos rfl
theorem ddl_putH (a b : Addr) (h l y : Int) : putK (ddl a b h l) (.inr "hand") (.int y) = ddl a b y l := by
  unfold putK
  rw [valV_any, ddl_hand, if_pos (show (some (V.int h)).isSome = true from rfl)]
  simp only [ddl, List.map_cons, List.map_nil, if_neg (key_ne str_ph), if_neg (key_ne str_mh), if_neg (key_ne' str_al), if_true]
theorem ddl_putL (a b : Addr) (h l y : Int) : putK (ddl a b h l) (.inr "lacks") (.int y) = ddl a b h y := by
  unfold putK
  rw [valV_any, ddl_lacks, if_pos (show (some (V.int l)).isSome = true from rfl)]
  simp only [ddl, List.map_cons, List.map_nil, if_neg (key_ne str_pl), if_neg (key_ne str_ml), if_neg (key_ne str_al), if_true]
theorem ddl_len (a b : Addr) (h l : Int) : (ddl a b h l).length < sizeLine := sz_lt (by show 4 < 100000; decide)
def LDial (H : Hp) (p a b : Addr) (d : Dl) : Prop := H p = some (.dK (ddl a b d.hand d.lacks)) ∧ H a = some (.lst (d.here.map oV)) ∧ H b = some (.lst (d.seen.map V.bl))
theorem LDial.keep {p a b : Addr} {H H' : Hp} {d : Dl} {W : List Addr} (h : LDial H p a b d) (f : Fr W H H') (hp : p ∉ W) (ha : a ∉ W) (hb : b ∉ W) : LDial H' p a b d := ⟨f.get h.1 hp, f.get h.2.1 ha, f.get h.2.2 hb⟩
section
variable {H : Hp} {σ : L2.St} {Q : VK}
theorem w_dget {td ty : TE} (h : td σ H fun x H1 => ty σ H1 fun y H2 => ∃ a v, x = .ref a ∧ DGet H2 a y (some v) ∧ Q v H2) : tDGet td ty σ H Q := h
theorem w_dgetS {d : Addr} {kvs : List (Key × V)} {z : Str} {v : V} {P : V → Prop} (h : H d = some (.dK kvs)) (hv : valV kvs (.inr z) = some v) (q : P v) : ∃ a v, V.ref d = .ref a ∧ DGet H a (.str z) (some v) ∧ P v :=
  ⟨d, v, rfl, by rw [← hv]; exact DGet.k (k := Sum.inr z) h, q⟩
theorem w_dput {td ty tv : TE} {nx : L2.St → Hp → Prop} {rt : VK} {bk ct : L2.St → Hp → Prop} (h : tv σ H fun v H1 => td σ H1 fun x H2 => ty σ H2 fun y H3 => ∃ a H4, x = .ref a ∧ DPut H3 a y v H4 ∧ nx σ H4) : sDPut td ty tv ⟨nx, rt, bk, ct⟩ σ H := h
theorem w_dputS {d : Addr} {kvs ks : List (Key × V)} {z : Str} {v : V} {N : Hp → Prop} (h : H d = some (.dK kvs)) (hl : kvs.length < sizeLine) (e : putK kvs (.inr z) v = ks) (q : N (upd H d (.dK ks))) : ∃ a H4, V.ref d = .ref a ∧ DPut H a (.str z) v H4 ∧ N H4 :=
  ⟨d, _, rfl, DPut.k (k := Sum.inr z) h hl, by rw [e]; exact q⟩
theorem w_rep {l : Addr} {k : Int} {xs : List V} (h : H l = some (.lst xs)) (h1 : 0 ≤ k) (h2 : k < 1000) (hz : xs.length ≤ 100) (q : ∀ p, H p = none → Q (.ref p) (upd H p (.lst (List.replicate k.toNat xs).flatten))) : rRep (.ref l) (.int k) H Q :=
  ⟨l, k, xs, rfl, rfl, h, by omega, by omega, sz_le (Nat.le_trans (Nat.mul_le_mul hz (show k.toNat ≤ 1000 by omega)) (by decide)), q⟩
theorem w_disp {trs : List (TE × TE)} (h : ∀ p, H p = none → tPairs trs σ (upd H p (.dK [])) fun ps H2 => H2 p = some (.dK []) ∧ ∃ kvs : List (Key × V), ps = kvs.map (fun kv => (kV kv.1, kv.2)) ∧ kvs.length ≤ 15 ∧ Q (.ref p) (upd H2 p (.dK (mergeK [] kvs)))) : tDisp trs σ H Q := h
theorem w_pairs {tk tv : TE} {r : List (TE × TE)} {QP : List (V × V) → Hp → Prop} (h : tk σ H fun x H1 => tv σ H1 fun y H2 => tPairs r σ H2 fun ps H3 => QP ((x, y) :: ps) H3) : tPairs ((tk, tv) :: r) σ H QP := h
theorem w_pairs0 {QP : List (V × V) → Hp → Prop} (h : QP [] H) : tPairs [] σ H QP := h
end
end Cw
namespace Cw
open PySem L2
def lkD (rooms : Nat) (z : Str) (ns : List Int) : Dl := if z = Str.ofString "hand" then endAll (Dl.new rooms) ns else Dl.new rooms
def lkK (rooms : Nat) (z : Str) (ns : List Int) : List Int := if z = Str.ofString "hand" then [] else keepEnd rooms (decide (z = Str.ofString "unseen")) [] ns
def lkB (rooms : Nat) (z : Str) (ns : List Int) (x : Int) : Bool := if z = Str.ofString "hand" then ((lkD rooms z ns).ask x).2.lack else decide (x ∉ lkK rooms z ns)
theorem lackB_snoc (rooms : Nat) (z : Str) (ns : List Int) (x : Int) : lackB rooms z (ns ++ [x]) = lackB rooms z ns ++ [lkB rooms z ns x] := by
  unfold lackB lkB lkD lkK
  by_cases h : z = Str.ofString "hand"
  · simp only [if_pos h, askAll_app, List.map_append]; rfl
  · simp only [if_neg h, keepAll_app]; rfl
theorem lkD_snoc (rooms : Nat) (z : Str) (ns : List Int) (x : Int) : lkD rooms z (ns ++ [x]) = if z = Str.ofString "hand" then ((lkD rooms z ns).ask x).1 else lkD rooms z ns := by
  unfold lkD
  by_cases h : z = Str.ofString "hand"
  · simp only [if_pos h, endAll_app]; rfl
  · simp only [if_neg h]
theorem lkK_snoc (rooms : Nat) (z : Str) (ns : List Int) (x : Int) : lkK rooms z (ns ++ [x]) = if z = Str.ofString "hand" then lkK rooms z ns else keepS rooms (decide (z = Str.ofString "unseen")) (lkK rooms z ns) x := by
  unfold lkK
  by_cases h : z = Str.ofString "hand"
  · simp only [if_pos h]
  · simp only [if_neg h, keepEnd_app]; rfl
theorem lkD_wf {rooms : Nat} (n0 : 0 < rooms) (n8 : rooms ≤ 8) (z : Str) (ns : List Int) : (lkD rooms z ns).Wf rooms := by
  unfold lkD
  split
  · exact endAll_wf _ _ (.new n0 n8)
  · exact .new n0 n8
theorem lkK_ok {rooms : Nat} (n0 : 0 < rooms) (z : Str) (ns : List Int) : KOk rooms (lkK rooms z ns) := by
  unfold lkK
  split
  · exact ⟨List.nodup_nil, Nat.zero_le _⟩
  · exact keepEnd_ok n0 _ _ _ ⟨List.nodup_nil, Nat.zero_le _⟩
end Cw
namespace Cw
open PySem L2
theorem placesFrom_len : ∀ (i : Nat) (bs : List Bool), (placesFrom i bs).length ≤ bs.length
  | _, [] => Nat.le_refl _
  | i, b :: r => by
    have h := placesFrom_len (i + 1) r
    cases b <;> simp [placesFrom] <;> omega
theorem places_len (bs : List Bool) : (places bs).length ≤ bs.length := placesFrom_len 0 bs
theorem w_rep1 {H : Hp} {Q : VK} {l : Addr} {k : Int} {v : V} (h : H l = some (.lst [v])) (h1 : 0 ≤ k) (h2 : k < 1000) (q : ∀ p, H p = none → Q (.ref p) (upd H p (.lst (List.replicate k.toNat v)))) : rRep (.ref l) (.int k) H Q := by
  refine w_rep h h1 h2 (by show 1 ≤ 100; decide) fun p hp => ?_
  have e : ∀ k : Nat, (List.replicate k [v]).flatten = List.replicate k v := fun k => by
    induction k with
    | zero => rfl
    | succ k ih => rw [List.replicate_succ, List.flatten_cons, ih]; rfl
  rw [e]
  exact q p hp
end Cw

namespace Cw
open PySem L2
/-! the unlike ones of a list, in their first order -/
def add1 (acc : List Int) (x : Int) : List Int := if x ∈ acc then acc else acc ++ [x]
def firsts (ns : List Int) : List Int := ns.foldl add1 []
theorem firsts_snoc (ns : List Int) (x : Int) : firsts (ns ++ [x]) = add1 (firsts ns) x := by unfold firsts; rw [List.foldl_append]; rfl
theorem firsts_facts : ∀ (ns : List Int), (firsts ns).Nodup ∧ ∀ x, x ∈ firsts ns ↔ x ∈ ns := by
  intro ns
  have h : ∀ (ns acc : List Int), acc.Nodup → (ns.foldl add1 acc).Nodup ∧ ∀ x, x ∈ ns.foldl add1 acc ↔ x ∈ acc ∨ x ∈ ns := by
    intro ns
    induction ns with
    | nil => intro acc nd; exact ⟨nd, fun x => by simp⟩
    | cons y r ih =>
      intro acc nd
      have e : (y :: r).foldl add1 acc = r.foldl add1 (add1 acc y) := rfl
      rw [e]
      by_cases hy : y ∈ acc
      · have ea : add1 acc y = acc := if_pos hy
        rw [ea]
        refine ⟨(ih acc nd).1, fun x => ?_⟩
        rw [(ih acc nd).2 x, List.mem_cons]
        constructor
        · rintro (h | h)
          · exact .inl h
          · exact .inr (.inr h)
        · rintro (h | h | h)
          · exact .inl h
          · subst h; exact .inl hy
          · exact .inr h
      · have ea : add1 acc y = acc ++ [y] := if_neg hy
        rw [ea]
        have nd2 : (acc ++ [y]).Nodup := by
          rw [List.nodup_append]
          refine ⟨nd, by simp, fun a ha b hb => ?_⟩
          simp at hb
          subst hb
          intro e
          subst e
          exact hy ha
        refine ⟨(ih _ nd2).1, fun x => ?_⟩
        rw [(ih _ nd2).2 x]
        simp only [List.mem_append, List.mem_cons, List.not_mem_nil, or_false, or_assoc]
  have := h ns [] List.nodup_nil
  exact ⟨this.1, fun x => by rw [show firsts ns = ns.foldl add1 [] from rfl, this.2 x]; simp⟩
theorem firsts_len_le (ns : List Int) : (firsts ns).length ≤ ns.length := by
  have h : ∀ (ns acc : List Int), (ns.foldl add1 acc).length ≤ acc.length + ns.length := by
    intro ns
    induction ns with
    | nil => intro acc; simp
    | cons y r ih =>
      intro acc
      have e : (y :: r).foldl add1 acc = r.foldl add1 (add1 acc y) := rfl
      rw [e]
      have := ih (add1 acc y)
      have h2 : (add1 acc y).length ≤ acc.length + 1 := by unfold add1; split <;> simp
      simp
      omega
  have z := h ns []
  simp at z
  exact z
theorem firstMet_firsts (ns : List Int) : PyProof.Rows.firstMet (fun i => ns.getD i 0) ns.length = firsts ns := by
  have hs : PyProof.Rows.step_dedup = add1 := by
    funext acc x
    unfold PyProof.Rows.step_dedup add1
    have e : (acc.any (· == x)) = decide (x ∈ acc) := by
      induction acc with
      | nil => rfl
      | cons y r ih =>
        rw [List.any_cons, ih]
        by_cases h : y = x
        · subst h; simp
        · simp [h, Ne.symm h]
    rw [e]
    by_cases h : x ∈ acc <;> simp [h]
  have e : (List.range ns.length).map (fun i => ns.getD i 0) = ns := by
    apply List.ext_getElem
    · simp
    · intro i h1 h2
      simp only [List.getElem_map, List.getElem_range]
      rw [List.getD_eq_getElem?_getD, List.getElem?_eq_getElem h2]
      rfl
  unfold PyProof.Rows.firstMet firsts
  rw [e, hs]
section
open PySem.Spec PyProof.Rows
def tLenSetD (K : PySem.W.Frag) (ta : TE) : TE := fun σ H Q => ta σ H fun x H1 => ∃ (l : Addr) (ns : List Int), x = .ref l ∧ SqL K H1 l (ns.map V.int) ∧ ns.length ≤ 4000 ∧ Q (.int (firsts ns).length) H1
theorem pe_lenSetD {X : Cx} {K : PySem.W.Frag} (hK : X.K = K) {a : Expr} {ta : TE} {p p2 q pos : Pos} (hg : Gl X "len") (hm : X.mg "len" = none) (hg2 : Gl X "set") (hm2 : X.mg "set" = none) (ha : PE X a ta) (hc : X.calm = true := by rfl)
    (na : starEach [a] X.env = (false, eval a X.env) :: starEach [] X.env := by rfl) : PE X (.Call (.Name "len" p) [.Call (.Name "set" p2) [a] [] q] [] pos) (tLenSetD K ta) := by
  subst hK
  refine ⟨fun pins s σ H Q I h => ?_⟩
  refine Call_ (ld_blt I hg hm boot_len ?_)
  refine PyProof.Rows.callWith_builtin1 (PyProof.Rows.args_cons ?_ rfl) rfl rfl
  refine Call_ (ld_blt I hg2 hm2 (show bootBuiltins ("set" : Str) = some (.type "set") by decide +kernel) ?_)
  refine PyProof.Rows.callWith_type1 (PyProof.Rows.args_cons (thn (ha.run pins s σ H _ I h) fun v s1 ⟨x, H1, I1, r1, q1⟩ => PyProof.Rows.args_nil ?_) na) na rfl
  obtain ⟨l, ns, rfl, hq, hl, q1⟩ := q1
  cases r1
  obtain ⟨its, r, pl, hz⟩ := I1.list hq
  have hlen : its.toArray.size = ns.length := by rw [List.size_toArray, ← r.length, List.length_map]
  refine PySem.call_set_list (I1.ok.hd hc) pl.isList (by simpa using RZ.intsAre_vals r) (by rw [hlen]; unfold PySem.scanBound; omega) fun h' tk hS hk => ?_
  refine PyProof.Rows.args_nil ?_
  rw [hlen, firstMet_firsts] at hS
  have hfl := firsts_len_le ns
  obtain ⟨o, es, ep, t, ho, hex, hd, _, _, _, hf, hn⟩ := hS
  have I2 : Inv X pins σ H1 { s1 with heap := h', toks := tk } := I1.kept fun b o e => hk b o (Heap.lt_size e) e
  exact PySem.call_len_set ho hex hd hf (by rw [hn] <;> omega) ⟨.int (firsts ns).length, H1, I2.tok _, ⟨_, by rw [hn]⟩, q1⟩
end
end Cw
namespace Cw
open PySem L2
/-! stretches -/
structure Cs where
  out : List (Int × Int)
  b : Nat
  seg : List Int
  n : Nat
def cstep (rooms : Nat) (s : Cs) (x : Int) : Cs :=
  if x ∉ firsts s.seg ∧ (firsts s.seg).length = rooms then ⟨s.out ++ [((s.b : Int), (s.n : Int))], s.n, [x], s.n + 1⟩ else ⟨s.out, s.b, s.seg ++ [x], s.n + 1⟩
def cst (rooms : Nat) (ns : List Int) : Cs := ns.foldl (cstep rooms) ⟨[], 0, [], 0⟩
theorem cst_snoc (rooms : Nat) (ns : List Int) (x : Int) : cst rooms (ns ++ [x]) = cstep rooms (cst rooms ns) x := by unfold cst; rw [List.foldl_append]; rfl
def parts (rooms : Nat) (ns : List Int) : List (Int × Int) := if ns = [] then [] else (cst rooms ns).out ++ [(((cst rooms ns).b : Int), (ns.length : Int))]
structure Cs.Ok (s : Cs) (rooms : Nat) (ns : List Int) : Prop where
  n : s.n = ns.length
  bn : s.b ≤ s.n
  seg : s.seg = ns.drop s.b
  le : (firsts s.seg).length ≤ rooms
  ol : s.out.length ≤ s.b
  ob : ∀ e ∈ s.out, 0 ≤ e.1 ∧ e.1 < e.2 ∧ e.2 ≤ s.b
  lt : ns ≠ [] → s.b < s.n
theorem list_snoc_ind {α : Type} {P : List α → Prop} (h0 : P []) (hs : ∀ l x, P l → P (l ++ [x])) : ∀ l, P l := by
  intro l
  have h : ∀ n, ∀ l : List α, l.length = n → P l := by
    intro n
    induction n with
    | zero => intro l hl; rw [List.eq_nil_of_length_eq_zero hl]; exact h0
    | succ n ih =>
      intro l hl
      have hne : l ≠ [] := by intro e; rw [e] at hl; cases hl
      rw [← List.dropLast_concat_getLast hne]
      exact hs _ _ (ih _ (by rw [List.length_dropLast]; omega))
  exact h _ l rfl
theorem cst_ok {rooms : Nat} (n0 : 0 < rooms) : ∀ ns : List Int, (cst rooms ns).Ok rooms ns := by
  refine list_snoc_ind ?_ ?_
  · exact ⟨rfl, Nat.le_refl _, rfl, Nat.zero_le _, Nat.le_refl _, fun e h => by simp [cst] at h, fun h => absurd rfl h⟩
  · intro ns x ⟨hn, hb, hs, hl, ho, hob, hlt⟩
    rw [cst_snoc]
    generalize cst rooms ns = s at *
    unfold cstep
    split
    · rename_i h
      have hne : ns ≠ [] := by
        intro e
        subst e
        rw [hs] at h
        have h2 := h.2
        simp [firsts] at h2
        omega
      have := hlt hne
      refine ⟨by simp [hn], by simp, by simp [hn], ?_, ?_, ?_, fun _ => Nat.lt_succ_self _⟩
      · show (firsts [x]).length ≤ rooms
        simp [firsts, add1]
        omega
      · simp
        omega
      · intro e he
        rcases List.mem_append.mp he with he | he
        · have := hob e he
          exact ⟨this.1, this.2.1, by show e.2 ≤ (s.n : Int); omega⟩
        · simp at he
          subst he
          exact ⟨by simp, by simp; omega, by simp⟩
    · rename_i h
      refine ⟨by simp [hn], by show s.b ≤ s.n + 1; omega, ?_, ?_, ho, hob, fun _ => by show s.b < s.n + 1; omega⟩
      · show s.seg ++ [x] = (ns ++ [x]).drop s.b
        rw [List.drop_append_of_le_length (by omega), hs]
      · show (firsts (s.seg ++ [x])).length ≤ rooms
        rw [firsts_snoc]
        unfold add1
        split
        · exact hl
        · rename_i h2
          have : (firsts s.seg).length ≠ rooms := fun e => h ⟨h2, e⟩
          rw [List.length_append]
          simp
          omega
def pairD (e : Int × Int) : PyData := .tuple [.int e.1, .int e.2]
/-- new tuples of two whole numbers -/
theorem nw_pair {K : PySem.W.Frag} {H H' : Hp} {t : Addr} {i j : Int} (ht : H t = none) (h : H' t = some (.tup [.int i, .int j])) : Nw K H H' (.ref t) (pairD (i, j)) := Nw.tup ht h (.cons (Nw.int _) (.cons (Nw.int _) .nil))
end Cw
namespace Cw
open PySem L2
theorem w_lenSetD {K : PySem.W.Frag} {H : Hp} {σ : L2.St} {Q : VK} {ta : TE} (h : ta σ H fun x H1 => ∃ (l : Addr) (ns : List Int), x = .ref l ∧ SqL K H1 l (ns.map V.int) ∧ ns.length ≤ 4000 ∧ Q (.int (firsts ns).length) H1) : tLenSetD K ta σ H Q := h
theorem cut_ints (ns : List Int) (i j : Nat) : cutV (ns.map V.int) (some (i : Int)) (some (j : Int)) = ((ns.take j).drop i).map V.int := by rw [cut_mid, ← List.map_take, ← List.map_drop]
theorem over_rooms {rooms : Nat} {seg : List Int} {x : Int} (h : (firsts seg).length ≤ rooms) : (rooms : Int) < ((firsts (seg ++ [x])).length : Int) ↔ (x ∉ firsts seg ∧ (firsts seg).length = rooms) := by
  rw [firsts_snoc]
  unfold add1
  by_cases hx : x ∈ firsts seg
  · rw [if_pos hx]
    constructor
    · intro z; omega
    · intro z; exact absurd hx z.1
  · rw [if_neg hx, List.length_append]
    simp [hx]
    omega
end Cw
namespace Cw
open PySem L2
theorem places_mem : ∀ bs : List Bool, ∀ p ∈ places bs, 0 ≤ p ∧ p < (bs.length : Int) := by
  refine list_snoc_ind (by intro p h; simp [places, placesFrom] at h) ?_
  intro l b ih p hp
  rw [places_snoc] at hp
  rcases List.mem_append.mp hp with h | h
  · have := ih p h
    rw [List.length_append]
    simp
    omega
  · cases b with
    | false => simp at h
    | true => simp at h; subst h; simp; omega
/-- places ahead of e -/
theorem places_take (e : Nat) : ∀ bs : List Bool, (places bs).filter (fun p => decide (p < (e : Int))) = places (bs.take e) := by
  refine list_snoc_ind (by simp [places, placesFrom]) ?_
  intro l b ih
  rw [places_snoc, List.filter_append, ih]
  by_cases h : e ≤ l.length
  · rw [List.take_append_of_le_length h]
    have : (if b = true then [((l.length : Nat) : Int)] else []).filter (fun p => decide (p < (e : Int))) = [] := by
      cases b <;> simp; omega
    rw [this, List.append_nil]
  · have h1 : (l ++ [b]).take e = l ++ [b] := List.take_of_length_le (by simp; omega)
    have h2 : l.take e = l := List.take_of_length_le (by omega)
    rw [h1, h2, places_snoc]
    congr 1
    cases b <;> simp; omega
/-- the places from b on, ahead of e -/
def cntL (bs : List Bool) (b e : Nat) : List Int := (places (bs.take e)).filter fun p => decide ((b : Int) ≤ p)
theorem cntL_start (bs : List Bool) (b : Nat) : cntL bs b b = [] := by
  unfold cntL
  rw [List.filter_eq_nil_iff]
  intro p hp
  have := places_mem _ p hp
  rw [List.length_take] at this
  simp
  omega
theorem cntL_succ {bs : List Bool} {b e : Nat} {v : Bool} (hb : b ≤ e) (h : bs[e]? = some v) : cntL bs b (e + 1) = cntL bs b e ++ (if v then [(e : Int)] else []) := by
  have hl := (List.getElem?_eq_some_iff.mp h).1
  unfold cntL
  rw [take_snoc h, places_snoc, List.filter_append, List.length_take, Nat.min_eq_left (by omega)]
  congr 1
  cases v <;> simp; omega
theorem cntL_law (bs : List Bool) (b e : Nat) : (places bs).filter (fun p => decide ((b : Int) ≤ p ∧ p < (e : Int))) = cntL bs b e := by
  unfold cntL
  rw [← places_take, List.filter_filter]
  congr 1
  funext p
  simp
theorem cntL_len (bs : List Bool) (b e : Nat) : (cntL bs b e).length ≤ bs.length := by
  unfold cntL
  refine Nat.le_trans (List.length_filter_le _ _) (Nat.le_trans (places_len _) ?_)
  rw [List.length_take]
  omega
theorem parts_mem {rooms : Nat} (n0 : 0 < rooms) (ns : List Int) : ∀ e ∈ parts rooms ns, 0 ≤ e.1 ∧ e.1 < e.2 ∧ e.2 ≤ (ns.length : Int) := by
  intro e he
  have o := cst_ok n0 ns
  unfold parts at he
  split at he
  · simp at he
  · rename_i hne
    rcases List.mem_append.mp he with h | h
    · have := o.ob e h
      have := o.bn
      have := o.n
      omega
    · simp at h
      subst h
      have := o.lt hne
      have := o.n
      simp
      omega
theorem parts_len {rooms : Nat} (n0 : 0 < rooms) (ns : List Int) : (parts rooms ns).length ≤ ns.length := by
  have o := cst_ok n0 ns
  unfold parts
  split
  · simp
  · rename_i hne
    have h1 := o.lt hne
    have h2 := o.ol
    have h3 := o.n
    rw [List.length_append]
    simp
    omega
def counts (bs : List Bool) (ps : List (Int × Int)) : List Int := ps.map fun e => ((cntL bs e.1.toNat e.2.toNat).length : Int)
theorem dp_pair {K : PySem.W.Frag} {H : Hp} {v : V} {e : Int × Int} (h : Dp K H v (pairD e)) : ∃ t, v = .ref t ∧ SqT K H t [.int e.1, .int e.2] := by
  unfold pairD at h
  cases h with
  | @tup t xs _ hs ha =>
    cases ha with
    | @cons v1 vr _ _ h1 h2 =>
    cases h1
    cases h2 with
    | @cons v2 vr2 _ _ h3 h4 =>
    cases h3
    cases h4
    exact ⟨t, rfl, hs⟩
end Cw
namespace Cw
open PySem L2
/-- xs are refs to tuples of two whole numbers, all new beside H; a list that changes is none of them -/
def PairsAt (H H' : Hp) (xs : List V) (ps : List (Int × Int)) : Prop := xs.length = ps.length ∧ ∀ (i : Nat) (e : Int × Int), ps[i]? = some e → ∃ t, xs[i]? = some (.ref t) ∧ H t = none ∧ H' t = some (.tup [.int e.1, .int e.2])
theorem PairsAt.nil {H H' : Hp} : PairsAt H H' [] [] := ⟨rfl, fun i e h => by simp at h⟩
theorem PairsAt.fr {H H' H2 : Hp} {xs : List V} {ps : List (Int × Int)} {W : List Addr} (h : PairsAt H H' xs ps) (f : Fr W H' H2) (hw : ∀ w ∈ W, ∃ l, H' w = some (.lst l)) : PairsAt H H2 xs ps := ⟨h.1, fun i e he => by
  obtain ⟨t, h1, h2, h3⟩ := h.2 i e he
  refine ⟨t, h1, h2, f.get h3 fun m => ?_⟩
  obtain ⟨l, hl⟩ := hw t m
  rw [h3] at hl
  cases hl⟩
theorem PairsAt.snoc {H H' : Hp} {xs : List V} {ps : List (Int × Int)} {t : Addr} {a b : Int} (h : PairsAt H H' xs ps) (ht : H t = none) (h2 : H' t = some (.tup [.int a, .int b])) : PairsAt H H' (xs ++ [.ref t]) (ps ++ [(a, b)]) := ⟨by simp [h.1], fun i e he => by
  rcases Nat.lt_or_ge i ps.length with l | l
  · rw [List.getElem?_append_left l] at he
    obtain ⟨u, h1, h3⟩ := h.2 i e he
    exact ⟨u, by rw [List.getElem?_append_left (by rw [h.1]; exact l)]; exact h1, h3⟩
  · rw [List.getElem?_append_right l] at he
    have hi : i - ps.length = 0 := by
      have := (List.getElem?_eq_some_iff.mp he).1
      simp at this
      omega
    rw [hi] at he
    have he' : (a, b) = e := Option.some.inj he
    subst he'
    exact ⟨t, by rw [List.getElem?_append_right (by rw [h.1]; exact l), h.1, hi]; rfl, ht, h2⟩⟩
theorem PairsAt.nwa {K : PySem.W.Frag} {H H' : Hp} : ∀ {xs : List V} {ps : List (Int × Int)}, PairsAt H H' xs ps → NwA K H H' xs (ps.map pairD)
  | [], [], _ => .nil
  | [], _ :: _, h => by have := h.1; simp at this
  | _ :: _, [], h => by have := h.1; simp at this
  | x :: xs, e :: ps, h => by
    obtain ⟨t, h1, h2, h3⟩ := h.2 0 e rfl
    have hx : x = .ref t := Option.some.inj h1
    subst hx
    exact .cons (nw_pair h2 h3) (PairsAt.nwa ⟨by have := h.1; simpa using this, fun i e' he => h.2 (i + 1) e' he⟩)
end Cw
namespace Cw
open PySem L2
theorem Box.nin {H : Hp} {b q p : Addr} (h : Box H b q) (hp : H p = none) : p ∉ [b, q] := by
  obtain ⟨z, ms, h1, h2, _⟩ := h
  intro m
  rcases List.mem_cons.mp m with m | m
  · subst m; rw [hp] at h1; cases h1
  · rw [List.mem_singleton.mp m] at hp; rw [hp] at h2; cases h2
end Cw
namespace Cw
open PySem L2
theorem fits_ints {k : Nat} {ns : List Int} (h : ns.length ≤ 100000) : fits (k + 1) (.list (ns.map PyData.int)) := by
  refine ⟨by rw [List.length_map]; exact h, fun x hx => ?_⟩
  obtain ⟨n, _, rfl⟩ := List.mem_map.mp hx
  cases k <;> trivial
theorem fits_pairs {k : Nat} {ps : List (Int × Int)} (h : ps.length ≤ 100000) : fits (k + 2) (.list (ps.map pairD)) := by
  refine ⟨by rw [List.length_map]; exact h, fun x hx => ?_⟩
  obtain ⟨e, _, rfl⟩ := List.mem_map.mp hx
  refine ⟨by show 2 ≤ 100000; omega, fun y hy => ?_⟩
  rcases List.mem_cons.mp hy with h | h
  · subst h; cases k <;> trivial
  · rw [List.mem_singleton.mp h]; cases k <;> trivial
theorem fits_two {k : Nat} {a b : PyData} (ha : fits k a) (hb : fits k b) : fits (k + 1) (.list [a, b]) := by
  refine ⟨by show 2 ≤ 100000; omega, fun y hy => ?_⟩
  rcases List.mem_cons.mp hy with h | h
  · subst h; exact ha
  · rw [List.mem_singleton.mp h]; exact hb
end Cw
namespace Cw
open PySem L2
theorem PairsAt.base {H0 H H' : Hp} {xs : List V} {ps : List (Int × Int)} {W : List Addr} (h : PairsAt H H' xs ps) (f : Fr W H0 H) : PairsAt H0 H' xs ps := ⟨h.1, fun i e he => by
  obtain ⟨t, h1, h2, h3⟩ := h.2 i e he
  exact ⟨t, h1, f.2 t h2, h3⟩⟩
end Cw

namespace Cw
open PySem L2
/-! l.index(x, i); min of a list of data -/
section
open PySem.Spec PyProof.Rows PySem.W
variable {X : Cx}
def rIndex3 (K : PySem.W.Frag) : V → List V → Hp → VK → Prop := fun x xs H Q => ∃ (a : Addr) (ys : List Int) (y : Int) (i j : Nat), x = V.ref a ∧ xs = [.int y, .int i] ∧ SqL K H a (ys.map V.int) ∧ i ≤ j ∧ ys[j]? = some y ∧
  (∀ m : Nat, i ≤ m → m < j → ys[m]? ≠ some y) ∧ Q (.int (j : Nat)) H
theorem mt_index3 : MtR X "list.index" (rIndex3 X.K) := by
  intro pins s σ H x xs v us Q I rx rxs h
  obtain ⟨a, ys, y, i, j, rfl, rfl, hs, hij, hz, hno, q⟩ := h
  cases rx
  cases rxs with
  | cons ry rt =>
    rename_i uy ut
    cases rt with
    | cons ri rt =>
    cases rt
    rename_i ui
    obtain ⟨its, rv, ⟨⟨cls, dd, data, sl⟩, n, ho, hc, hdn, hd⟩, hlen⟩ := I.list hs
    simp only at hc hd
    subst hc hd
    obtain ⟨ti, rfl⟩ := ri
    have fl : (ys.map V.int).all flatV = true := by simp [flatV]
    have hz' : (ys.map V.int)[j]? = some (.int y) := by rw [List.getElem?_map, hz]; rfl
    obtain ⟨u, hu, ru⟩ := rv.get hz'
    obtain ⟨hjl, hje⟩ := List.getElem?_eq_some_iff.mp hu
    have hvl := rv.length
    have hj : j < its.toArray.size := by simpa using hjl
    have hsl := sizeLine_eq
    have hsf : SeqAt.searchFrom (i : Int) its.toArray.size = i := SeqAt.searchFrom_nat i _
    refine call_meets PySem.F.slot_list_index ⟨_, ho, rfl⟩ PySem.F.entry_list_index (PySem.F.args_list_index_3 _ _ _)
      (SeqAt.list_index3_found a its.toArray n dd sl uy (fun m => match its[m]? with | some u => eqU (.int y) u | none => false) (i : Int) ti j hj (by rw [hsf]; exact hij) (by omega) ?_ ?_) ⟨ho, fun m hm => ?_, ?_⟩
    · show (match its[j]? with | some u => eqU (.int y) u | none => false) = true
      rw [hu]
      show eqU (.int y) u = true
      rw [eqU_of ru rfl]
      simp [eqV]
    · intro m hm h1 h2
      rw [hsf] at h1
      have hml : m < its.length := by simpa using hm
      have hmy : m < (ys.map V.int).length := by omega
      have hmy2 : m < ys.length := by simpa using hmy
      have hy' : (ys.map V.int)[m]? = some (.int ys[m]) := by rw [List.getElem?_map, List.getElem?_eq_getElem hmy2]; rfl
      obtain ⟨u2, hu2, ru2⟩ := rv.get hy'
      show (match its[m]? with | some u => eqU (.int y) u | none => false) = false
      rw [hu2]
      show eqU (.int y) u2 = false
      rw [eqU_of ru2 rfl]
      have hne := hno m h1 h2
      rw [List.getElem?_eq_getElem hmy2] at hne
      have : ys[m] ≠ y := fun e => hne (by rw [e])
      simp [eqV, this]
    · have hml : m < its.length := by simpa using hm
      have e1 : its[m]? = some its[m] := List.getElem?_eq_getElem hml
      show SeqAt.EqAt _ _ its.toArray[m] uy (match its[m]? with | some u => eqU (.int y) u | none => false)
      rw [e1]
      have := mem_eqAt (A := X.A.in1) (s := s) ry rfl rv fl its[m] (List.getElem_mem hml)
      simpa using this
    · exact ⟨.int (j : Nat), H, I.tok _, ⟨_, rfl⟩, q⟩
def rMinD (K : PySem.W.Frag) : List V → Hp → VK → Prop := fun vs H Q => ∃ (a : Addr) (xs : List V) (d : PyData) (ds : List PyData), vs = [.ref a] ∧ SqL K H a xs ∧ DpAll K H xs (d :: ds) ∧ AlikeAll (d :: ds) ∧ PyData.depthAll (d :: ds) ≤ 40 ∧ PyData.canLayAll0 (d :: ds) = true ∧
  ∀ (i : Nat) v, xs[i]? = some v → (d :: ds)[i]? = some (minD d ds) → Q v H
theorem dpall_at {K : PySem.W.Frag} {H : Hp} : ∀ {xs : List V} {ds : List PyData}, DpAll K H xs ds → ∀ {i : Nat} {x : V}, xs[i]? = some x → ∃ d, ds[i]? = some d ∧ Dp K H x d
  | [], _, _, i, x, h => by simp at h
  | y :: xs, _, .cons h1 h2, i, x, h => by
    cases i with
    | zero =>
      obtain rfl := Option.some.inj h
      exact ⟨_, rfl, h1⟩
    | succ i => exact dpall_at h2 (i := i) h
theorem cr_minD (hc : X.calm = true) (hu : X.A.units + 64 < cLine) : CallR X (.builtin "min") (rMinD X.K) := by
  intro pins s σ H vs us Q I r h
  obtain ⟨a, xs, d, ds, rfl, hs, hd, hal, hdp, hcl, q⟩ := h
  obtain ⟨its, rv, hl, _⟩ := I.list hs
  rw [Vals.ref1 r]
  obtain ⟨as, hr⟩ := Dp.readsAll I _ _ _ hd rv
  refine min_list_data (I.ok.hd hc) hl.isList (by simpa using hr) hal (by omega) fun i v h' tk bs hi r' hk => ?_
  have hi' : its[i]? = some v := by simpa using hi
  obtain ⟨hil, hie⟩ := List.getElem?_eq_some_iff.mp hi'
  have hvl := rv.length
  have hxi : i < xs.length := by omega
  obtain ⟨x, hx⟩ : ∃ x, xs[i]? = some x := ⟨xs[i], List.getElem?_eq_getElem hxi⟩
  obtain ⟨u, hu2, ru⟩ := rv.get hx
  rw [hi'] at hu2
  obtain rfl := Option.some.inj hu2
  have I2 : Inv X pins σ H { s with heap := h', toks := tk } := I.kept hk
  obtain ⟨dx, hdx, hDp⟩ := dpall_at hd hx
  obtain ⟨cs, rx⟩ := Dp.reads I2 dx x v hDp ru
  have e1 : dx = minD d ds := SeqAt.Reads.unique dx (minD d ds) v cs bs (by
    have : ∀ (l : List PyData), PyData.canLayAll0 l = true → ∀ z ∈ l, z.canLay0 = true := by
      intro l
      induction l with
      | nil => intro _ z hz; cases hz
      | cons w l ih =>
        intro hl z hz
        rw [PyData.canLayAll0, Bool.and_eq_true] at hl
        rcases List.mem_cons.mp hz with h | h
        · subst h; exact hl.1
        · exact ih hl.2 z h
    exact this _ hcl dx (List.mem_of_getElem? hdx)) rx r'
  exact ⟨x, H, I2, ru, q i x hx (by rw [← e1]; exact hdx)⟩
end
end Cw
namespace Cw
open PySem L2
section
open PySem.W
variable {X : Cx}
theorem kMinD {X : Cx} (K : PySem.W.Frag) (h : X.K = K) (hc : X.calm = true) (hu : X.A.units + 64 < cLine) : CallR X (.builtin "min") (rMinD K) := h ▸ cr_minD hc hu
theorem kIndex3 {X : Cx} (K : PySem.W.Frag) (h : X.K = K) : MtR X "list.index" (rIndex3 K) := h ▸ mt_index3
theorem kSorted {X : Cx} (K : PySem.W.Frag) (h : X.K = K) : CallR X (.builtin "sorted") (rSorted K) := h ▸ cr_sorted
theorem w_index3 {K : PySem.W.Frag} {H : Hp} {Q : VK} {a : Addr} {ns : List Int} {y : Int} {i : Nat} (h : SqL K H a (ns.map V.int)) (hm : y ∈ ns.drop i) (q : Q (.int ((i + (ns.drop i).idxOf y : Nat) : Int)) H) : rIndex3 K (.ref a) [.int y, .int i] H Q := by
  have hj := List.idxOf_lt_length_iff.mpr hm
  refine ⟨a, ns, y, i, i + (ns.drop i).idxOf y, rfl, rfl, h, Nat.le_add_right _ _, ?_, fun m h1 h2 e => ?_, q⟩
  · rw [← List.getElem?_drop, List.getElem?_eq_getElem hj]
    simp
  · obtain ⟨k, rfl⟩ : ∃ k, m = i + k := ⟨m - i, by omega⟩
    rw [← List.getElem?_drop] at e
    have hk : k < (ns.drop i).idxOf y := by omega
    have z := List.not_of_lt_findIdx (p := (· == y)) (xs := ns.drop i) (i := k) hk
    rw [List.getElem?_eq_getElem (by omega)] at e
    rw [Option.some.inj e] at z
    simp at z
theorem w_slFrom {K : PySem.W.Frag} {H : Hp} {Q : VK} {a : Addr} {ns : List Int} {k : Nat} (h : SqL K H a (ns.map V.int)) (q : ∀ p, H p = none → Q (.ref p) (upd H p (.lst ((ns.drop k).map V.int)))) : rSlL K (.ref a) (some (k : Int)) none H Q :=
  w_slL h fun p hp => by
    rw [cut_from, ← List.map_drop]
    exact q p hp
theorem w_slMid {K : PySem.W.Frag} {H : Hp} {Q : VK} {a : Addr} {ns : List Int} {i j : Nat} (h : SqL K H a (ns.map V.int)) (q : ∀ p, H p = none → Q (.ref p) (upd H p (.lst (((ns.take j).drop i).map V.int)))) : rSlL K (.ref a) (some (i : Int)) (some (j : Int)) H Q :=
  w_slL h fun p hp => by
    rw [cut_ints]
    exact q p hp
def sorts (ns : List Int) : List Int := ns.mergeSort (fun a b => decide (a ≤ b))
theorem sorts_perm (ns : List Int) : (sorts ns).Perm ns := List.mergeSort_perm _ _
theorem sorts_sorted (ns : List Int) : (sorts ns).Pairwise (· ≤ ·) := by
  have := List.pairwise_mergeSort (le := fun (a b : Int) => decide (a ≤ b)) (fun a b c h1 h2 => by simp at *; omega) (fun a b => by simp; omega) ns
  exact this.imp fun h => by simpa using h
theorem sorted_uniq : ∀ {xs ys : List Int}, xs.Perm ys → xs.Pairwise (· ≤ ·) → ys.Pairwise (· ≤ ·) → xs = ys := by
  intro xs ys h h1 h2
  exact h.eq_of_pairwise (fun a b _ _ h1 h2 => by omega) h1 h2
theorem w_sorted {K : PySem.W.Frag} {H : Hp} {Q : VK} {a : Addr} {ns : List Int} (h : SqL K H a (ns.map V.int)) (hl : ns.length < 64) (q : ∀ p, H p = none → Q (.ref p) (upd H p (.lst ((sorts ns).map V.int)))) : rSorted K [.ref a] H Q :=
  ⟨a, ns, rfl, h, hl, fun ns' p h1 h2 hp => by
    rw [sorted_uniq (h1.trans (sorts_perm ns).symm) h2 (sorts_sorted ns)]
    exact q p hp⟩
/-- the least of pairs of whole numbers -/
theorem minOf_spec (x : Int × Int) : ∀ xs : List (Int × Int), minOf x xs ∈ x :: xs ∧ ∀ y ∈ x :: xs, (minOf x xs).1 < y.1 ∨ ((minOf x xs).1 = y.1 ∧ (minOf x xs).2 ≤ y.2) := by
  have lt_iff : ∀ a b : Int × Int, DatumOrd.lt a b = true ↔ (a.1 < b.1 ∨ (a.1 = b.1 ∧ a.2 < b.2)) := by
    intro a b
    show (if a.1 = b.1 then decide (a.2 < b.2) else decide (a.1 < b.1)) = true ↔ _
    by_cases h : a.1 = b.1
    · rw [if_pos h]; simp [h]
    · rw [if_neg h]; simp [h]
  intro xs
  unfold minOf
  induction xs generalizing x with
  | nil => exact ⟨List.mem_singleton.mpr rfl, fun y hy => by rw [List.mem_singleton.mp hy]; exact .inr ⟨rfl, Int.le_refl _⟩⟩
  | cons z xs ih =>
    rw [List.foldl_cons]
    by_cases h : DatumOrd.lt z x = true
    · rw [if_pos h]
      obtain ⟨h1, h2⟩ := ih z
      rw [lt_iff] at h
      refine ⟨by simp only [List.mem_cons] at h1 ⊢; exact .inr h1, fun y hy => ?_⟩
      rcases List.mem_cons.mp hy with e | hy
      · subst e
        have := h2 z (by simp)
        omega
      · exact h2 y hy
    · rw [if_neg h]
      obtain ⟨h1, h2⟩ := ih x
      have h' : ¬ (z.1 < x.1 ∨ (z.1 = x.1 ∧ z.2 < x.2)) := fun e => h ((lt_iff z x).mpr e)
      refine ⟨by simp only [List.mem_cons] at h1 ⊢; rcases h1 with h1 | h1 <;> simp [h1], fun y hy => ?_⟩
      rcases List.mem_cons.mp hy with e | hy
      · subst e; exact h2 y (by simp)
      · rcases List.mem_cons.mp hy with e | hy
        · subst e
          have := h2 x (by simp)
          omega
        · exact h2 y (List.mem_cons_of_mem _ hy)
theorem lay_pairs : ∀ ps : List (Int × Int), PyData.canLayAll0 (ps.map pairD) = true
  | [] => rfl
  | e :: r => by simp [PyData.canLayAll0, pairD, PyData.canLay0, lay_pairs r]
theorem depth_pairs : ∀ ps : List (Int × Int), PyData.depthAll (ps.map pairD) ≤ 40
  | [] => by simp [PyData.depthAll]
  | e :: r => by
    have := depth_pairs r
    simp [PyData.depthAll, pairD, PyData.depth] at *
    omega
theorem w_minP {K : PySem.W.Frag} {H : Hp} {Q : VK} {a : Addr} {xs : List V} {ps : List (Int × Int)} {e : Int × Int} (h : SqL K H a xs) (hd : DpAll K H xs (ps.map pairD)) (he : e ∈ ps) (hm : ∀ y ∈ ps, e.1 < y.1 ∨ (e.1 = y.1 ∧ e.2 ≤ y.2))
    (q : ∀ t, SqT K H t [.int e.1, .int e.2] → Q (.ref t) H) : rMinD K [.ref a] H Q := by
  cases ps with
  | nil => cases he
  | cons p ps =>
    refine ⟨a, xs, pairD p, ps.map pairD, rfl, h, hd, (alikeAll_datum (p :: ps)), depth_pairs (p :: ps), lay_pairs (p :: ps), fun i v hv hdi => ?_⟩
    have e1 : minD (pairD p) (ps.map pairD) = pairD (minOf p ps) := minD_map p ps
    rw [e1] at hdi
    obtain ⟨v', hv', hdp⟩ := dpall_get hd (i := i) (d := pairD (minOf p ps)) hdi
    rw [hv] at hv'
    obtain rfl := Option.some.inj hv'
    obtain ⟨h1, h2⟩ := minOf_spec p ps
    have e2 : minOf p ps = e := by
      have a1 := h2 e he
      have a2 := hm _ h1
      refine Prod.ext ?_ ?_ <;> omega
    rw [e2] at hdp
    obtain ⟨t, rfl, ht⟩ := dp_pair hdp
    exact q t ht
end
end Cw
namespace Cw
open PySem L2
/-! the best one: mirror -/
def IsFar (rest kept : List Int) (y : Int) : Prop := y ∈ kept ∧ ∀ x ∈ kept, rest.idxOf x < rest.idxOf y ∨ (rest.idxOf x = rest.idxOf y ∧ y ≤ x)
def farStep (rest : List Int) (b x : Int) : Int := if rest.idxOf b < rest.idxOf x ∨ (rest.idxOf b = rest.idxOf x ∧ x < b) then x else b
def far (rest : List Int) : List Int → Int
  | [] => 0
  | k :: ks => ks.foldl (farStep rest) k
theorem IsFar.unique {rest kept : List Int} {a b : Int} (h1 : IsFar rest kept a) (h2 : IsFar rest kept b) : a = b := by
  have x := h1.2 b h2.1
  have y := h2.2 a h1.1
  omega
theorem far_spec (rest : List Int) : ∀ {kept : List Int}, kept ≠ [] → IsFar rest kept (far rest kept) := by
  have h : ∀ (ks : List Int) (k : Int), IsFar rest (k :: ks) (ks.foldl (farStep rest) k) := by
    intro ks
    induction ks with
    | nil => intro k; exact ⟨List.mem_singleton.mpr rfl, fun x hx => by rw [List.mem_singleton.mp hx]; exact .inr ⟨rfl, Int.le_refl _⟩⟩
    | cons z ks ih =>
      intro k
      rw [List.foldl_cons]
      by_cases hz : rest.idxOf k < rest.idxOf z ∨ (rest.idxOf k = rest.idxOf z ∧ z < k)
      · rw [show farStep rest k z = z from if_pos hz]
        obtain ⟨h1, h2⟩ := ih z
        refine ⟨List.mem_cons_of_mem _ h1, fun x hx => ?_⟩
        rcases List.mem_cons.mp hx with e | hx
        · subst e
          have := h2 z (by simp)
          omega
        · exact h2 x hx
      · rw [show farStep rest k z = k from if_neg hz]
        obtain ⟨h1, h2⟩ := ih k
        refine ⟨?_, fun x hx => ?_⟩
        · rcases List.mem_cons.mp h1 with h1 | h1
          · exact List.mem_cons.mpr (.inl h1)
          · exact List.mem_cons_of_mem _ (List.mem_cons_of_mem _ h1)
        · rcases List.mem_cons.mp hx with e | hx
          · subst e; exact h2 x (by simp)
          · rcases List.mem_cons.mp hx with e | hx
            · subst e
              have := h2 k (by simp)
              omega
            · exact h2 x (List.mem_cons_of_mem _ hx)
  intro kept hk
  cases kept with
  | nil => exact absurd rfl hk
  | cons k ks => exact h ks k
theorem far_eq {rest kept : List Int} {y : Int} (h : IsFar rest kept y) : far rest kept = y := (far_spec rest (fun e => by rw [e] at h; exact absurd h.1 (by simp))).unique h
structure Bs where
  kept : List Int
  lacks : List Int
  gone : List (Int × Int)
  n : Nat
def bstep (rooms : Nat) (row : List Int) (s : Bs) (x : Int) : Bs :=
  if x ∈ s.kept then ⟨s.kept, s.lacks, s.gone, s.n + 1⟩
  else if s.kept.length = rooms then ⟨s.kept.erase (far (row.drop s.n) s.kept) ++ [x], s.lacks ++ [(s.n : Int)], s.gone ++ [((s.n : Int), far (row.drop s.n) s.kept)], s.n + 1⟩
  else ⟨s.kept ++ [x], s.lacks ++ [(s.n : Int)], s.gone, s.n + 1⟩
def bst (rooms : Nat) (row xs : List Int) : Bs := xs.foldl (bstep rooms row) ⟨[], [], [], 0⟩
theorem bst_snoc (rooms : Nat) (row ns : List Int) (x : Int) : bst rooms row (ns ++ [x]) = bstep rooms row (bst rooms row ns) x := by unfold bst; rw [List.foldl_append]; rfl
structure Bs.Ok (s : Bs) (rooms : Nat) (ns : List Int) : Prop where
  n : s.n = ns.length
  nd : s.kept.Nodup
  sub : ∀ x ∈ s.kept, x ∈ ns
  le : s.kept.length ≤ rooms
  ll : s.lacks.length ≤ ns.length
  gl : s.gone.length ≤ ns.length
theorem bst_ok {rooms : Nat} (n0 : 0 < rooms) (row : List Int) : ∀ ns : List Int, (bst rooms row ns).Ok rooms ns := by
  refine list_snoc_ind ?_ ?_
  · exact ⟨rfl, List.nodup_nil, (fun x h => absurd h (by simp [bst])), Nat.zero_le _, Nat.le_refl _, Nat.le_refl _⟩
  · intro ns x ⟨h1, h2, h3, h4, h5, h6⟩
    rw [bst_snoc]
    generalize bst rooms row ns = s at *
    unfold bstep
    split
    · exact ⟨by simp [h1], h2, fun y hy => List.mem_append_left _ (h3 y hy), h4, by simp; omega, by simp; omega⟩
    · rename_i hx
      split
      · rename_i hl
        have hne : s.kept ≠ [] := fun e => by rw [e] at hl; simp at hl; omega
        have hf := (far_spec (row.drop s.n) hne).1
        refine ⟨by simp [h1], ?_, ?_, ?_, by simp; omega, by simp; omega⟩
        · rw [List.nodup_append]
          refine ⟨h2.erase _, by simp, fun a ha b hb e => ?_⟩
          simp at hb
          subst hb
          subst e
          exact hx (List.mem_of_mem_erase ha)
        · intro y hy
          rcases List.mem_append.mp hy with h | h
          · exact List.mem_append_left _ (h3 y (List.mem_of_mem_erase h))
          · simp at h; subst h; simp
        · rw [List.length_append, List.length_erase_of_mem hf]
          simp
          omega
      · rename_i hl
        refine ⟨by simp [h1], ?_, ?_, ?_, by simp; omega, by simp; omega⟩
        · rw [List.nodup_append]
          refine ⟨h2, by simp, fun a ha b hb e => ?_⟩
          simp at hb
          subst hb
          subst e
          exact hx ha
        · intro y hy
          rcases List.mem_append.mp hy with h | h
          · exact List.mem_append_left _ (h3 y h)
          · simp at h; subst h; simp
        · rw [List.length_append]
          simp
          omega
end Cw
namespace Cw
open PySem L2
theorem PairsAt.upL {H H' : Hp} {xs ys : List V} {ps : List (Int × Int)} {p : Addr} {o : HO} (h : PairsAt H H' xs ps) (hp : H' p = some (.lst ys)) : PairsAt H (upd H' p o) xs ps :=
  h.fr (W := [p]) (Fr.at (List.mem_singleton.mpr rfl)) fun w hw => ⟨ys, by rw [List.mem_singleton.mp hw]; exact hp⟩
theorem PairsAt.upN {H H' : Hp} {xs : List V} {ps : List (Int × Int)} {p : Addr} {o : HO} (h : PairsAt H H' xs ps) (hp : H' p = none) : PairsAt H (upd H' p o) xs ps :=
  h.fr (W := []) (Fr.new hp) (by simp)
theorem PairsAt.fr0 {H H' H2 : Hp} {xs : List V} {ps : List (Int × Int)} (h : PairsAt H H' xs ps) (f : Fr [] H' H2) : PairsAt H H2 xs ps := h.fr f (by simp)
end Cw
namespace Cw
open PySem L2
/-! [x for x in l if test] of whole numbers -/
def PvF (H : Hp) (ns : List Int) (p : Int → Bool) (D : Addr) (i : Nat) (acc : List V) (H' : Hp) : Prop := Fr [] H H' ∧ acc = ((ns.take i).filter p).map V.int
theorem l_filter {σ : L2.St} {K : PySem.W.Frag} {H : Hp} {g : TG} {tt : TT} {te : TE} {vs : List Nat} {Qd : Addr → Hp → Prop} {a : Addr} (ns : List Int) (p : Int → Bool) (hq : SqL K H a (ns.map V.int))
    (hs : ∀ D (i : Nat) y H', H D = none → ns[i]? = some y → Fr [] H H' → LcI (PvF H ns p) D i H' → g (.int y) (wipe σ vs) H' fun σ2 H2 => wipe σ2 vs = wipe σ vs ∧ tt σ2 H2 fun b H3 =>
      if b = true then te σ2 H3 fun y H4 => ∃ acc, H4 D = some (.lst acc) ∧ acc.length < sizeLine ∧ LcI (PvF H ns p) D (i + 1) (upd H4 D (.lst (acc ++ [y]))) else LcI (PvF H ns p) D (i + 1) H3)
    (hd : ∀ D H', H D = none → Fr [] H H' → H' D = some (.lst ((ns.filter p).map V.int)) → Qd D H') :
    ∃ b, V.ref a = V.ref b ∧ (∃ xs, SqL K H b xs) ∧ ∀ D, H D = none → ∃ W : Nat → Nat → Hp → Prop, (∃ m, W 0 m (upd H D (.lst []))) ∧ ∀ i m H, W i m H →
      ((Itl K b).stop i H ∧ Qd D H) ∨ ((Itl K b).go i H ∧ ∃ Nx : Hp → Prop, (∀ H', Nx H' → ∃ m', m' < m ∧ W (i + 1) m' H') ∧ ∀ x H', (Itl K b).yld i H x H' → g x (wipe σ vs) H' fun σ2 H2 => wipe σ2 vs = wipe σ vs ∧ tt σ2 H2 fun b H3 =>
        if b = true then te σ2 H3 fun y H4 => ∃ acc, H4 D = some (.lst acc) ∧ acc.length < sizeLine ∧ Nx (upd H4 D (.lst (acc ++ [y]))) else Nx H3) := by
  refine l_list (ns.map V.int) hq (PvF H ns p) (fun D hD => ⟨Fr.new hD, by simp⟩) (fun D i acc H' hD h _ => h.1.seqL hq) ?_ ?_
  · rintro D i x acc H' hD hi h hacc hla
    obtain ⟨y, hy, rfl⟩ := int_at hi
    exact hs D i y H' hD hy h.1 ⟨acc, h, hacc, hla⟩
  · rintro D acc H' hD ⟨F, rfl⟩ hacc hla
    rw [List.length_map, List.take_length] at hacc
    exact hd D H' hD F hacc
theorem lf_yes {H H' H4 : Hp} {ns : List Int} {p : Int → Bool} {D : Addr} {i : Nat} {y : Int} (I : LcI (PvF H ns p) D i H') (hD : H D = none) (hy : ns[i]? = some y) (hp : p y = true) (hl : i < 99999) (f : Fr [] H' H4) :
    ∃ acc, H4 D = some (.lst acc) ∧ acc.length < sizeLine ∧ LcI (PvF H ns p) D (i + 1) (upd H4 D (.lst (acc ++ [.int y]))) := by
  obtain ⟨acc, ⟨F, rfl⟩, h2, h3⟩ := I
  refine lc_end (f.get0 h2) h3 hl ⟨(F.trans f).loc hD, ?_⟩
  rw [take_snoc hy, List.filter_append, List.map_append, List.filter_cons_of_pos hp]
  rfl
theorem lf_no {H H' H3 : Hp} {ns : List Int} {p : Int → Bool} {D : Addr} {i : Nat} {y : Int} (I : LcI (PvF H ns p) D i H') (hy : ns[i]? = some y) (hp : p y = false) (f : Fr [] H' H3) : LcI (PvF H ns p) D (i + 1) H3 := by
  obtain ⟨acc, ⟨F, rfl⟩, h2, h3⟩ := I
  refine ⟨_, ⟨F.trans f, ?_⟩, f.get0 h2, by omega⟩
  rw [take_snoc hy, List.filter_append, List.filter_cons_of_neg (by simp [hp])]
  simp
/-! what the law's own best one lets go -/
def leftStep (rest : List Int) (left : List Int) (x : Int) : List Int := if x ∈ left ∧ 1 < left.length ∧ (left.filter (fun y => decide (y ∈ rest))) ≠ [] then left.filter (fun y => decide (y ≠ x)) else left
def leftAll (rest kept xs : List Int) : List Int := xs.foldl (leftStep rest) (sorts kept)
def nevers (rest kept : List Int) : List Int := (sorts kept).filter fun y => decide (y ∉ rest)
theorem mem_sorts {ns : List Int} {x : Int} : x ∈ sorts ns ↔ x ∈ ns := (sorts_perm ns).mem_iff
theorem never_far {rest kept tl : List Int} {p : Int} (h : nevers rest kept = p :: tl) : far rest kept = p := by
  have hs : (nevers rest kept).Pairwise (· ≤ ·) := (sorts_sorted kept).filter _
  rw [h, List.pairwise_cons] at hs
  have hm : ∀ y, y ∈ nevers rest kept ↔ y ∈ kept ∧ y ∉ rest := fun y => by simp [nevers, List.mem_filter, mem_sorts]
  have hp := (hm p).mp (by rw [h]; simp)
  have ep : rest.idxOf p = rest.length := List.idxOf_eq_length hp.2
  refine far_eq ⟨hp.1, fun x hx => ?_⟩
  by_cases hr : x ∈ rest
  · have := List.idxOf_lt_length_iff.mpr hr
    omega
  · have e2 : rest.idxOf x = rest.length := List.idxOf_eq_length hr
    have hxm := (hm x).mpr ⟨hx, hr⟩
    rw [h] at hxm
    rcases List.mem_cons.mp hxm with e | hxm
    · exact .inr ⟨by omega, by rw [e]; exact Int.le_refl _⟩
    · exact .inr ⟨by omega, hs.1 x hxm⟩
structure LeftOk (rest kept : List Int) (i : Nat) (left : List Int) : Prop where
  nd : left.Nodup
  ne : left ≠ []
  sub : ∀ y ∈ left, y ∈ kept
  one : left.length = 1 ∨ ∀ y ∈ left, y ∉ rest.take i
  gone : ∀ x ∈ kept, x ∉ left → ∀ y ∈ left, rest.idxOf x < rest.idxOf y
theorem left_ok {rest kept : List Int} (hk : kept ≠ []) (nd : kept.Nodup) (hr : ∀ x ∈ kept, x ∈ rest) : ∀ i, i ≤ rest.length → LeftOk rest kept i (leftAll rest kept (rest.take i)) := by
  intro i
  induction i with
  | zero =>
    intro _
    have e : leftAll rest kept (rest.take 0) = sorts kept := by simp [leftAll]
    rw [e]
    refine ⟨(sorts_perm kept).nodup_iff.mpr nd, ?_, fun y hy => mem_sorts.mp hy, .inr fun y _ => by simp, fun x hx hn => absurd (mem_sorts.mpr hx) hn⟩
    intro e
    have := (sorts_perm kept).length_eq
    rw [e] at this
    exact hk (List.eq_nil_of_length_eq_zero this.symm)
  | succ i ih =>
    intro hi
    obtain ⟨x, hx⟩ : ∃ x, rest[i]? = some x := ⟨rest[i], List.getElem?_eq_getElem (by omega)⟩
    have e : leftAll rest kept (rest.take (i + 1)) = leftStep rest (leftAll rest kept (rest.take i)) x := by
      unfold leftAll
      rw [take_snoc hx, List.foldl_append]
      rfl
    rw [e]
    obtain ⟨h1, h2, h3, h4, h5⟩ := ih (by omega)
    generalize leftAll rest kept (rest.take i) = left at *
    unfold leftStep
    split
    · rename_i hc
      obtain ⟨c1, c2, c3⟩ := hc
      have h4' : ∀ y ∈ left, y ∉ rest.take i := h4.resolve_left (by omega)
      have exi : rest.idxOf x = i := by
        have hil : i < rest.length := by omega
        have hxe : rest[i] = x := by
          rw [List.getElem?_eq_getElem hil] at hx
          exact Option.some.inj hx
        have h6 := h4' x c1
        have : rest = rest.take i ++ rest.drop i := (List.take_append_drop i rest).symm
        rw [this, List.idxOf_append]
        rw [if_neg h6, List.length_take, List.drop_eq_getElem_cons hil, hxe, List.idxOf_cons_self]
        omega
      have hmem : ∀ y, y ∈ left.filter (fun y => decide (y ≠ x)) ↔ y ∈ left ∧ y ≠ x := fun y => by simp [List.mem_filter]
      have far_after : ∀ y ∈ left, y ≠ x → i < rest.idxOf y := by
        intro y hy hne
        refine Nat.lt_of_not_le fun hle => ?_
        have hyr := hr y (h3 y hy)
        have hlt := List.idxOf_lt_length_iff.mpr hyr
        have hge : rest[rest.idxOf y] = y := List.getElem_idxOf hlt
        rcases Nat.lt_or_eq_of_le hle with hlt2 | heq
        · refine h4' y hy (List.mem_take_iff_getElem.mpr ⟨rest.idxOf y, by omega, hge⟩)
        · have : rest[i]? = some y := by rw [← heq, List.getElem?_eq_getElem hlt, hge]
          rw [hx] at this
          exact hne (Option.some.inj this).symm
      refine ⟨h1.filter _, ?_, fun y hy => h3 y ((hmem y).mp hy).1, .inr fun y hy => ?_, fun z hz hzn y hy => ?_⟩
      · intro e0
        match left, c1, c2, h1, e0 with
        | [a], _, c2, _, _ => simp at c2
        | a :: b :: r, c1, _, h1, e0 =>
          have hab : a ≠ b := by
            rw [List.nodup_cons] at h1
            intro e
            exact h1.1 (by rw [e]; simp)
          have ha : a ∉ (a :: b :: r).filter (fun y => decide (y ≠ x)) := by rw [e0]; simp
          have hb : b ∉ (a :: b :: r).filter (fun y => decide (y ≠ x)) := by rw [e0]; simp
          simp [List.mem_filter] at ha hb
          exact hab (ha.trans hb.symm)
      · obtain ⟨hy1, hy2⟩ := (hmem y).mp hy
        intro hm
        obtain ⟨j, hj, he⟩ := List.mem_take_iff_getElem.mp hm
        have hl := far_after y hy1 hy2
        have : rest.idxOf y ≤ j := by
          refine Nat.le_of_not_lt fun hlt => ?_
          have := List.not_of_lt_findIdx (p := (· == y)) (xs := rest) (i := j) hlt
          simp [he] at this
        omega
      · obtain ⟨hy1, hy2⟩ := (hmem y).mp hy
        by_cases hzl : z ∈ left
        · have hzx : z = x := by
            refine Classical.byContradiction fun hne => hzn ((hmem z).mpr ⟨hzl, hne⟩)
          rw [hzx, exi]
          exact far_after y hy1 hy2
        · exact h5 z hz hzl y hy1
    · rename_i hc
      refine ⟨h1, h2, h3, ?_, h5⟩
      by_cases hl : left.length = 1
      · exact .inl hl
      · refine .inr fun y hy hm => ?_
        have h4' := h4.resolve_left hl
        rw [take_snoc hx] at hm
        rcases List.mem_append.mp hm with hm | hm
        · exact h4' y hy hm
        · simp at hm
          subst hm
          refine hc ⟨hy, ?_, ?_⟩
          · have : 0 < left.length := List.length_pos_iff.mpr h2
            omega
          · exact List.ne_nil_of_mem (List.mem_filter.mpr ⟨hy, by simpa using hr _ (h3 _ hy)⟩)
theorem left_far {rest kept : List Int} (hk : kept ≠ []) (nd : kept.Nodup) (h : nevers rest kept = []) : leftAll rest kept rest = [far rest kept] := by
  have hr : ∀ x ∈ kept, x ∈ rest := by
    intro x hx
    refine Classical.byContradiction fun hn => ?_
    have : x ∈ nevers rest kept := by simp [nevers, List.mem_filter, mem_sorts, hx, hn]
    rw [h] at this
    cases this
  have ok := left_ok hk nd hr rest.length (Nat.le_refl _)
  rw [List.take_length] at ok
  obtain ⟨h1, h2, h3, h4, h5⟩ := ok
  generalize leftAll rest kept rest = left at *
  have hl : left.length = 1 := by
    rcases h4 with h | h
    · exact h
    · match left, h2 with
      | y :: r, _ => exact absurd (by rw [List.take_length]; exact hr y (h3 y (by simp))) (h y (by simp))
  match left, hl with
  | [y], _ =>
    rw [far_eq (y := y) ⟨h3 y (by simp), fun x hx => ?_⟩]
    by_cases hxy : x = y
    · exact .inr ⟨by rw [hxy], by rw [hxy]; exact Int.le_refl _⟩
    · exact .inl (h5 x hx (by simpa using hxy) y (by simp))
end Cw
namespace Cw
open PySem L2
theorem leftAll_len (rest kept : List Int) : ∀ xs, (leftAll rest kept xs).length ≤ kept.length := by
  refine list_snoc_ind (by unfold leftAll; rw [List.foldl_nil, (sorts_perm kept).length_eq]; exact Nat.le_refl _) ?_
  intro l x ih
  have e : leftAll rest kept (l ++ [x]) = leftStep rest (leftAll rest kept l) x := by unfold leftAll; rw [List.foldl_append]; rfl
  rw [e]
  unfold leftStep
  split
  · exact Nat.le_trans (List.length_filter_le _ _) ih
  · exact ih
theorem leftAll_snoc {rest kept : List Int} {i : Nat} {x : Int} (h : rest[i]? = some x) : leftAll rest kept (rest.take (i + 1)) = leftStep rest (leftAll rest kept (rest.take i)) x := by
  rw [take_snoc h]; unfold leftAll; rw [List.foldl_append]; rfl
theorem sorts_len (ns : List Int) : (sorts ns).length = ns.length := (sorts_perm ns).length_eq
end Cw
namespace Cw
theorem if_merge {b : Bool} {A B : Prop} (C : Prop) (h1 : b = true → C → A) (h2 : b = false → C → B) (h : C) : if b = true then A else B := by
  cases b
  · exact h2 rfl h
  · exact h1 rfl h
end Cw
namespace Cw
open PySem L2
theorem fits_twoT {k : Nat} {a b : PyData} (ha : fits k a) (hb : fits k b) : fits (k + 1) (.tuple [a, b]) := by
  refine ⟨by show 2 ≤ 100000; omega, fun y hy => ?_⟩
  rcases List.mem_cons.mp hy with h | h
  · subst h; exact ha
  · rw [List.mem_singleton.mp h]; exact hb
end Cw

namespace Cw
open PySem L2
/-! set(l) of whole numbers, sorted of it, at any length -/
section
open PySem.Spec PyProof.Rows
variable {P : Program} {w : World} {A : Around} {E : Value → Shared → Prop} {s : Shared}
/-- the fresh set as the model lays it -/
abbrev emptySet (w : World) : Obj := { cls := .type "set", dict := none, data := .set #[] 0 (.fresh 0 0 (!w.params.followText "set-order")) }
/-- what set.__init__ leaves -/
def Filled (P : Program) (w : World) (s : Shared) (ns : List Int) (s₂ : Shared) : Prop :=
  ∃ h' tk c, s₂ = { s with heap := h', toks := tk } ∧ SetR w h' s.heap.objs.size (fun j => decide (j ∈ ns)) c ∧ c ≤ ns.length ∧ ∀ b o, s.heap.get? b = some o → h'.get? b = some o
theorem fill_list {l : Addr} {items : Array Value} {ns : List Int} {A' : Around} (hh : A'.handled = none) (hl : s.heap.IsList l items) (hit : IntsAre items.toList ns) (hb : ns.length + 1 < scanBound) :
    wpAny (model P w) A' (Builtin.«set.__init__» ⟨[.ref s.heap.objs.size, .ref l], []⟩) (fun r s₂ => r = .done (.ret .none) ∧ Filled P w s ns s₂) E { s with heap := s.heap.push (emptySet w) } := by
  have hisz : items.size = ns.length := by
    have q := IntsAre.length hit
    rwa [Array.length_toList] at q
  obtain ⟨⟨ocls, odict, odata, oslots⟩, hol, hcl, nl, hdl⟩ := hl
  simp only at hcl hdl
  subst hcl hdl
  have hS : (s.heap.push (emptySet w)).get? s.heap.objs.size = some (emptySet w) := Heap.get?_push_size _ rfl
  have hol' : (s.heap.push (emptySet w)).get? l = some { cls := .type "list", dict := odict, data := .seq items nl, slots := oslots } := Heap.get?_push_of_some _ hol
  have hl1 : (s.heap.push (emptySet w)).IsList l items := ⟨_, hol', rfl, nl, rfl⟩
  have hT : Shared.TypeIs { s with heap := s.heap.push (emptySet w) } (.ref s.heap.objs.size) "set" := ⟨_, hS, rfl⟩
  have hsls := F.sub_list_set
  have hslf := F.sub_list_frozenset
  have hne : (Value.type "list" == Value.type "dict") = false := by decide
  have hlS : l < s.heap.objs.size := Heap.lt_size hol
  unfold Builtin.«set.__init__» noKeywords Builtin.Frozenset.updateFrom
  generalize hPI : pyIter = PI
  wp_walk
  subst hPI
  refine wpAny_pyIter_list hl1 (wpAny_bind (wpAny_runValue ?_))
  have hneI : l ≠ (s.heap.push (emptySet w)).objs.size := by rw [Heap.size_push]; exact Nat.ne_of_lt (Nat.lt_succ_of_lt hlS)
  have hSf : s.heap.objs.size ∉ [(s.heap.push (emptySet w)).objs.size, l] := by
    rw [Heap.size_push]
    intro m
    rcases List.mem_cons.mp m with m | m
    · exact Nat.ne_of_lt (Nat.lt_succ_self _) m
    · exact Nat.ne_of_gt hlS (List.mem_singleton.mp m)
  have hval : ∀ (i : Nat) (v : Value), items[i]? = some v → ∃ k t, ns[i]? = some k ∧ v = .int k t := fun i v hv => by
    have hi : i < ns.length := by rw [← hisz]; exact (Array.getElem?_eq_some_iff.mp hv).1
    obtain ⟨t, e⟩ := IntsAre.int_at hit i v (by rw [Array.getElem?_toList]; exact hv)
    refine ⟨ns[i], t, List.getElem?_eq_getElem hi, ?_⟩
    rw [e, List.getD_eq_getElem?_getD, List.getElem?_eq_getElem hi]
    rfl
  refine set_update_ints ((Walks.list (by simp [hh]) _ l hneI items).toS) s.heap.objs.size hSf ns hisz hb hval (items.size - 0) 0 _ (by omega) (Nat.zero_le _) ⟨⟨_, Heap.get?_push_size _ rfl, rfl, rfl⟩, hl1.push _⟩
    ⟨0, Nat.le_refl 0, setR_new_at (Heap.get?_push_of_some _ hS)⟩ ?_
  intro s' c' hm hc' hS'
  obtain ⟨h', g2, d', tk', os'⟩ := s'
  have eg : g2 = s.gens := hm.gens
  have ed : d' = s.drawn := hm.drawn
  have eo : os' = s.os := hm.os
  subst eg ed eo
  refine wpAny_pure ?_
  show wpAny _ _ (ret Value.none) _ _ _
  refine wpAny_pure ⟨rfl, h', tk', c', rfl, hS', by omega, fun b o e => ?_⟩
  have hb0 := Heap.lt_size e
  refine hm.heap b o ?_ (Heap.get?_push_of_some _ (Heap.get?_push_of_some _ e))
  rw [Heap.size_push]
  intro m
  rcases List.mem_cons.mp m with m | m
  · exact Nat.ne_of_lt hb0 m
  · exact Nat.ne_of_lt (Nat.lt_succ_of_lt hb0) (List.mem_singleton.mp m)
end
end Cw
namespace Cw
open PySem L2
section
open PySem.Spec PyProof.Rows
variable {P : Program} {w : World} {A : Around} {E : Value → Shared → Prop} {s : Shared}
theorem call_set_listR {l : Addr} {items : Array Value} {ns : List Int} {Q : Value → Shared → Prop} (hh : A.handled = none) (hl : s.heap.IsList l items) (hit : IntsAre items.toList ns) (hb : ns.length + 1 < scanBound)
    (h : ∀ s₂, Filled P w s ns s₂ → Q (.ref s.heap.objs.size) s₂) : wpAny (model P w) A (call (.type "set") [.ref l]) Q E s := by
  obtain ⟨c, tl, hmro⟩ := F.called_set.mro
  have hmade := F.called_set.made
  have hsub := F.called_set.sub
  refine wpAny_call (codeAny_of_tree ?_)
  show wpAny _ _ (callAny (.type "set") _) _ _ _
  refine wpAny_pure ⟨Code.quiet_builtin _ (by decide +kernel), codeAny_builtin F.entry_type_call ?_⟩
  rw [Around.under_plain (weight_type_call_type "set" [.ref l] []) rfl]
  have h1 := F.called_set.notType
  have h2 := F.called_set.canCreate
  have hct := F.typeCall_set_1 (.ref l)
  repeat (any_goals (first | assumption | wp_step))
  refine codeAny_mono (code_set_led1 (.ref l) (E := E) (Q₁ := fun v s₁ => v = .ref s.heap.objs.size ∧ s₁ = { s with heap := s.heap.push (emptySet w) }) ⟨rfl, rfl⟩) fun r s₁ hr => ?_
  rcases r with _ | fl
  · exact hr
  cases fl with
  | ret obj =>
    obtain ⟨rfl, rfl⟩ := hr
    have hT : Shared.TypeIs { s with heap := s.heap.push (emptySet w) } (.ref s.heap.objs.size) "set" := ⟨_, Heap.get?_push_size _ rfl, rfl⟩
    have hli := F.called_set.init.lookup
    have hbi := F.called_set.init.bind (.ref s.heap.objs.size)
    repeat (any_goals (first | assumption | wp_step))
    refine codeAny_mono (codeAny_call_builtin (R := wants (fun r s₂ => r = .none ∧ Filled P w s ns s₂) E) F.called_set.init.plain F.entry_set_init (check_set_init_1 hT ?_)) fun r₂ s₂ hr₂ => ?_
    · refine wpAny_mono (fill_list (E := E) (by simp [hh]) hl hit hb) ?_ ?_
      · rintro r s2 ⟨rfl, hf⟩
        exact ⟨rfl, hf⟩
      · intro e s2 he
        exact he
    · rcases r₂ with _ | fl₂
      · exact hr₂
      cases fl₂ with
      | ret r =>
        obtain ⟨rfl, hf⟩ := hr₂
        repeat (any_goals (first | assumption | wp_step))
        exact h _ hf
      | _ => exact hr₂.elim
  | _ => exact hr.elim
end
end Cw
namespace Cw
open PySem L2
section
open PySem.Spec PyProof.Rows
variable {P : Program} {w : World} {A : Around} {E : Value → Shared → Prop} {s : Shared}
/-- sorted of a set of whole numbers, any size -/
theorem sorted_setAny {a : Addr} {S : Int → Bool} {n : Nat} {Q : Value → Shared → Prop} (R : SetR w s.heap a S n) (hh : A.handled = none) (hz : n ≤ sizeLine)
    (hQ : ∀ s' p (out : Array Value) (c : Nat) (ns : List Int), (∀ b o, s.heap.get? b = some o → s'.heap.get? b = some o) → s'.gens = s.gens → s'.os = s.os → s.heap.objs.size ≤ p →
      s'.heap.get? p = some (seqObj "list" out c) → IntsAre out.toList ns → ns.Pairwise (· < ·) → (∀ k, k ∈ ns ↔ S k = true) → ns.length = n → Q (.ref p) s') :
    wpAny (model P w) A (call (.builtin "sorted") [.ref a]) Q E s := by
  obtain ⟨o, es, ep, t, ho, hex, hd, g, nd, hm, hb, hf, hn, hr, hl⟩ := R
  refine Calls.call_function_entry kind_sorted plain_sorted entry_sorted (args_sorted1 _) ?_
  unfold Builtin.«sorted»
  refine wpAny_bind (m := checkCount "sorted" 1 1 _) (wpAny_pure ?_)
  refine wpAny_bind (collect_set (A := A.in1) hh ⟨o, ho, hex.1, hd⟩ hf hb hr hl fun s1 vs k1 h1 g1 o1 pm => ?_)
  have hvl : vs.length = n := by rw [pm.length_eq, List.length_map, Array.length_toList]; exact hn
  have hI : IntsAre vs (vs.map Builtin.Re.reRawOf) := ints_of vs fun v hv => by
    obtain ⟨e, he, q⟩ := List.mem_map.mp (pm.mem_iff.mp hv)
    obtain ⟨k, tk, h2, _⟩ := g e he
    exact ⟨k, tk, by rw [← q]; exact h2⟩
  have pk : (vs.map Builtin.Re.reRawOf).Perm (es.toList.map keyOf) := by
    have q := pm.map Builtin.Re.reRawOf
    rwa [List.map_map] at q
  refine wpAny_bind (wpAny_newList ?_ (by rw [hvl]; exact hz))
  have hoL : (s1.heap.push (seqObj "list" vs.toArray 0)).get? s1.heap.objs.size = some (seqObj "list" vs.toArray 0) := Heap.get?_push_size _ rfl
  refine wpAny_bind (wpAny_holding (wpAny_call_entry slot_list_sort ⟨_, hoL, rfl⟩ entry_list_sort (list_sort_treeAny hoL hI (by rw [hvl]; exact hz) fun out ns' a1 a2 a3 => ⟨_, rfl, ?_⟩) (args_list_sort _)))
  obtain ⟨c, hc⟩ := sortedHeap_at (vs := vs) (out := out) hoL
  have pn := a2.trans pk
  refine wpAny_pure ⟨_, rfl, hQ _ s1.heap.objs.size out c ns' (fun b u e => ?_) g1 o1 h1 hc a1 (lt_of_le_nodup ns' a3 (pn.nodup_iff.mpr nd)) (fun k => by rw [pn.mem_iff, ← hm k]) ?_⟩
  · have q := k1 b u e
    have hlt := Heap.lt_size q
    show (sortedHeap (s1.heap.push (seqObj "list" vs.toArray 0)) s1.heap.objs.size vs out).get? b = some u
    rw [sortedHeap_old (Nat.ne_of_lt hlt) (by rw [size_push']; exact Nat.lt_succ_of_lt hlt)]
    exact Heap.get?_push_of_some _ q
  · rw [pn.length_eq, List.length_map, Array.length_toList]; exact hn
variable {X : Cx}
def rSetL (K : PySem.W.Frag) (w : World) : List V → Hp → VK → Prop := fun vs H Q => ∃ (l : Addr) (ns : List Int), vs = [.ref l] ∧ SqL K H l (ns.map V.int) ∧ ns.length ≤ 4000 ∧
  ∀ p c, H p = none → c ≤ ns.length → Q (.ref p) (upd H p (SetO w p (fun j => decide (j ∈ ns)) c))
theorem cr_setL (hc : X.calm = true) : CallR X (.type "set") (rSetL X.K X.w) := by
  intro pins s σ H vs us Q I r h
  obtain ⟨l, ns, rfl, hs, hl, q⟩ := h
  obtain ⟨its, rv, hp, _⟩ := I.list hs
  rw [Vals.ref1 r]
  refine call_set_listR (P := X.prog) (w := X.w) (I.ok.hd hc) hp.isList (by simpa using RZ.intsAre_vals rv) (by unfold scanBound; omega) ?_
  rintro s2 ⟨h', tk, c, rfl, hR, hcl, hk⟩
  have hn : H s.heap.objs.size = none := I.hok.fresh (Nat.le_refl _)
  exact ⟨.ref _, _, I.laid hk (Nat.le_refl _) (setO_new hR), rfl, q _ c hn hcl⟩
def rSortSet (w : World) : List V → Hp → VK → Prop := fun vs H Q => ∃ (a : Addr) (S : Int → Bool) (n : Nat), vs = [V.ref a] ∧ H a = some (SetO w a S n) ∧ n ≤ 100000 ∧
  ∀ (ns : List Int) (p : Addr), ns.Pairwise (· < ·) → (∀ k : Int, k ∈ ns ↔ S k = true) → H p = none → Q (.ref p) (upd H p (.lst (ns.map V.int)))
theorem cr_sortSet (hc : X.calm = true) : CallR X (.builtin "sorted") (rSortSet X.w) := by
  intro pins s σ H vs us Q I r h
  obtain ⟨a, S, n, rfl, ha, hz, q⟩ := h
  rw [Vals.ref1 r]
  refine sorted_setAny (setO_get I ha) (I.ok.hd hc) (sz_le hz) fun s' p out c ns k g o hp hg hi hs hm hl => ?_
  have hlen : (ns.map V.int).length ≤ sizeLine := by rw [List.length_map, hl]; exact sz_le hz
  have hn : H p = none := I.hok.fresh hp
  have J : Inv X pins σ (upd H p (.lst (ns.map V.int))) { s with heap := s'.heap, gens := s'.gens, drawn := s'.drawn, toks := s'.toks } :=
    I.call (ch := []) (Un.laid k hp hn) (I.hok.laid k hp ⟨hlen, out.toList, c, vals_of_ints hi, hg⟩) (by rw [g]; exact I.bare) (fun _ z => nomatch z)
  have e : s' = { s with heap := s'.heap, gens := s'.gens, drawn := s'.drawn, toks := s'.toks } := by
    cases s'
    cases o
    rfl
  rw [e]
  exact ⟨.ref p, _, J, rfl, q ns p hs hm hn⟩
theorem kSetL {X : Cx} (K : PySem.W.Frag) (w : World) (h : X.K = K) (hw : X.w = w) (hc : X.calm = true) : CallR X (.type "set") (rSetL K w) := h ▸ hw ▸ cr_setL hc
theorem kSortSet {X : Cx} (w : World) (hw : X.w = w) (hc : X.calm = true) : CallR X (.builtin "sorted") (rSortSet w) := hw ▸ cr_sortSet hc
def uniq (ns : List Int) : List Int := sorts (firsts ns)
theorem lt_sorted {ns : List Int} (h : ns.Pairwise (· < ·)) : ns.Pairwise (· ≤ ·) ∧ ns.Nodup := ⟨h.imp fun h => by omega, h.imp fun h => by omega⟩
theorem sorted_lt_uniq {xs ys : List Int} (h1 : xs.Pairwise (· < ·)) (h2 : ys.Pairwise (· < ·)) (h : ∀ k, k ∈ xs ↔ k ∈ ys) : xs = ys :=
  sorted_uniq ((List.perm_ext_iff_of_nodup (lt_sorted h1).2 (lt_sorted h2).2).mpr h) (lt_sorted h1).1 (lt_sorted h2).1
theorem uniq_spec (ns : List Int) : (uniq ns).Pairwise (· < ·) ∧ ∀ k, k ∈ uniq ns ↔ k ∈ ns := by
  have nd : (uniq ns).Nodup := (sorts_perm _).nodup_iff.mpr (firsts_facts ns).1
  refine ⟨lt_of_le_nodup _ (sorts_sorted _) nd, fun k => ?_⟩
  rw [show (k ∈ uniq ns ↔ k ∈ firsts ns) from mem_sorts]
  exact (firsts_facts ns).2 k
theorem uniq_lt {ns : List Int} (h : ns.Pairwise (· < ·)) : uniq ns = ns := sorted_lt_uniq (uniq_spec ns).1 h (uniq_spec ns).2
theorem w_setOf {K : PySem.W.Frag} {w : World} {H : Hp} {Q : VK} {l : Addr} {ns : List Int} (h : SqL K H l (ns.map V.int)) (hl : ns.length ≤ 4000) (q : ∀ p, H p = none → ∀ c, c ≤ ns.length → Q (.ref p) (upd H p (SetO w p (fun j => decide (j ∈ ns)) c))) : rSetL K w [.ref l] H Q :=
  ⟨l, ns, rfl, h, hl, fun p c hp hc => q p hp c hc⟩
theorem w_sortSet {w : World} {H : Hp} {Q : VK} {a : Addr} {ns : List Int} {n : Nat} (h : H a = some (SetO w a (fun j => decide (j ∈ ns)) n)) (hn : n ≤ 100000) (q : ∀ p, H p = none → Q (.ref p) (upd H p (.lst ((uniq ns).map V.int)))) : rSortSet w [.ref a] H Q :=
  ⟨a, _, n, rfl, h, hn, fun ns' p h1 h2 hp => by
    have e : ns' = uniq ns := sorted_lt_uniq h1 (uniq_spec ns).1 fun k => by rw [h2 k, (uniq_spec ns).2 k]; simp
    rw [e]
    exact q p hp⟩
end
end Cw
namespace Cw
open PySem L2
/-! dicts with keys that are whole numbers -/
section
variable {H : Hp} {σ : L2.St} {Q : VK}
theorem w_dnewK (q : ∀ p, H p = none → Q (.ref p) (upd H p (.dK []))) : tDNewK σ H Q := q
theorem w_dIn {ty td : TE} (h : ty σ H fun y H1 => td σ H1 fun x H2 => ∃ a o, x = .ref a ∧ DGet H2 a y o ∧ Q (.bl o.isSome) H2) : tDIn ty td σ H Q := h
theorem w_dInI {d : Addr} {kvs : List (Key × V)} {z : Int} {P : Option V → Prop} (h : H d = some (.dK kvs)) (q : P (valV kvs (.inl z))) : ∃ a o, V.ref d = .ref a ∧ DGet H a (.int z) o ∧ P o :=
  ⟨d, _, rfl, DGet.k (k := Sum.inl z) h, q⟩
theorem w_dgetI {d : Addr} {kvs : List (Key × V)} {z : Int} {v : V} {P : V → Prop} (h : H d = some (.dK kvs)) (hv : valV kvs (.inl z) = some v) (q : P v) : ∃ a v, V.ref d = .ref a ∧ DGet H a (.int z) (some v) ∧ P v :=
  ⟨d, v, rfl, by rw [← hv]; exact DGet.k (k := Sum.inl z) h, q⟩
theorem w_dputI {d : Addr} {kvs : List (Key × V)} {z : Int} {v : V} {N : Hp → Prop} (h : H d = some (.dK kvs)) (hl : kvs.length < sizeLine) (q : N (upd H d (.dK (putK kvs (.inl z) v)))) : ∃ a H4, V.ref d = .ref a ∧ DPut H a (.int z) v H4 ∧ N H4 :=
  ⟨d, _, rfl, DPut.k (k := Sum.inl z) h hl, q⟩
end
/-! spells -/
def lastAt (ns : List Int) (x : Int) : Option Nat := ((List.range ns.length).filter fun i => decide (ns[i]? = some x)).getLast?
theorem lastAt_snoc (ns : List Int) (y x : Int) : lastAt (ns ++ [y]) x = if y = x then some ns.length else lastAt ns x := by
  unfold lastAt
  rw [List.length_append, List.length_singleton, List.range_succ, List.filter_append]
  have e : (List.range ns.length).filter (fun i => decide ((ns ++ [y])[i]? = some x)) = (List.range ns.length).filter (fun i => decide (ns[i]? = some x)) := by
    refine List.filter_congr fun i hi => ?_
    rw [List.mem_range] at hi
    rw [List.getElem?_append_left hi]
  rw [e]
  by_cases h : y = x
  · subst h
    rw [if_pos rfl, List.filter_cons_of_pos (by simp)]
    simp
  · rw [if_neg h, List.filter_cons_of_neg (by simp [h])]
    simp
theorem lastAt_lt {ns : List Int} {x : Int} {j : Nat} (h : lastAt ns x = some j) : j < ns.length ∧ ns[j]? = some x := by
  have := List.mem_of_getLast? h
  rw [List.mem_filter, List.mem_range] at this
  exact ⟨this.1, by simpa using this.2⟩
def spellAt (ns : List Int) (e : Nat) : List (Int × Int) := match lastAt (ns.take e) (ns.getD e 0) with
  | none => []
  | some b => [((b : Int), (e : Int))]
def spellsTo (ns : List Int) (i : Nat) : List (Int × Int) := (List.range i).flatMap (spellAt ns)
theorem spellsTo_succ (ns : List Int) (i : Nat) : spellsTo ns (i + 1) = spellsTo ns i ++ spellAt ns i := by
  unfold spellsTo
  rw [List.range_succ, List.flatMap_append]
  simp
theorem spellAt_len (ns : List Int) (e : Nat) : (spellAt ns e).length ≤ 1 := by
  unfold spellAt
  split <;> simp
theorem spellsTo_len (ns : List Int) : ∀ i, (spellsTo ns i).length ≤ i
  | 0 => by simp [spellsTo]
  | i + 1 => by
    have := spellsTo_len ns i
    have := spellAt_len ns i
    rw [spellsTo_succ, List.length_append]
    omega
def spellsM (ns : List Int) : List (Int × Int) := spellsTo ns ns.length
theorem spellsTo_mem {ns : List Int} {i : Nat} {e : Int × Int} (h : e ∈ spellsTo ns i) : 0 ≤ e.1 ∧ e.1 < e.2 ∧ e.2 < (i : Int) := by
  unfold spellsTo at h
  rw [List.mem_flatMap] at h
  obtain ⟨k, hk, h⟩ := h
  rw [List.mem_range] at hk
  unfold spellAt at h
  split at h
  · simp at h
  · rename_i b hb
    have := (lastAt_lt hb).1
    rw [List.length_take] at this
    simp at h
    subst h
    refine ⟨by simp, by simp; omega, by simp; omega⟩
/-- no paper's place stands within -/
def isFree (places : List Int) (e : Int × Int) : Bool := decide (places.filter (fun p => decide (e.1 < p ∧ p < e.2)) = [])
def shownM (rooms : Int) (row places : List Int) : Int := (row.length : Int) - (((spellsM row).filter (isFree places)).length : Int) - (rooms - 1) * (places.length : Int)
end Cw
namespace Cw
open PySem L2
theorem PairsAt.upD {H H' : Hp} {xs : List V} {ps : List (Int × Int)} {p : Addr} {o : HO} {kvs : List (Key × V)} (h : PairsAt H H' xs ps) (hp : H' p = some (.dK kvs)) : PairsAt H (upd H' p o) xs ps := ⟨h.1, fun i e he => by
  obtain ⟨t, h1, h2, h3⟩ := h.2 i e he
  refine ⟨t, h1, h2, (upd_ne fun e => ?_).trans h3⟩
  rw [e, hp] at h3
  cases h3⟩
end Cw
namespace Cw
theorem ite_some {α : Type} {x : α} {A B : Prop} (h : A) : if (some x).isSome = true then A else B := h
theorem ite_none {α : Type} {A B : Prop} (h : B) : if (none : Option α).isSome = true then A else B := by rw [if_neg (by simp)]; exact h
end Cw
namespace Cw
/-- a paper: places in rising order, within the row -/
def PapOk (ns ps : List Int) : Prop := ps.Pairwise (· < ·) ∧ ∀ x ∈ ps, 0 ≤ x ∧ x < (ns.length : Int)
theorem rising_len : ∀ (ps : List Int) (lo hi : Int), ps.Pairwise (· < ·) → (∀ x ∈ ps, lo ≤ x ∧ x < hi) → lo ≤ hi → (ps.length : Int) ≤ hi - lo
  | [], lo, hi, _, _, h => by simp; omega
  | x :: r, lo, hi, h1, h2, h => by
    rw [List.pairwise_cons] at h1
    have hx := h2 x (by simp)
    have := rising_len r (x + 1) hi h1.2 (fun y hy => ⟨by have := h1.1 y hy; omega, (h2 y (List.mem_cons_of_mem _ hy)).2⟩) (by omega)
    rw [List.length_cons]
    omega
theorem PapOk.len {ns ps : List Int} (h : PapOk ns ps) (hl : ns.length ≤ 100) : ps.length ≤ 100 := by
  have := rising_len ps 0 ns.length h.1 h.2 (by omega)
  omega
end Cw
namespace Cw
open PySem L2
def lastL {α : Type} (xs : List α) : List α := xs.drop (xs.length - 1)
theorem lastL_eq {α : Type} (xs : List α) : lastL xs = match xs.getLast? with
    | none => []
    | some b => [b] := by
  unfold lastL
  rcases List.eq_nil_or_concat xs with rfl | ⟨ys, y, rfl⟩
  · rfl
  · rw [List.concat_eq_append, List.getLast?_concat, List.length_append, List.length_singleton, Nat.add_sub_cancel, List.drop_left]
theorem w_slLast {K : PySem.W.Frag} {H : Hp} {Q : VK} {a : Addr} {ns : List Int} (h : SqL K H a (ns.map V.int)) (q : ∀ p, H p = none → Q (.ref p) (upd H p (.lst ((lastL ns).map V.int)))) : rSlL K (.ref a) (some (-1)) none H Q :=
  w_slL h fun p hp => by
    rw [cut_last _ (n := 1) (by decide), List.length_map, ← List.map_drop]
    exact q p hp
/-- the earlier places that ask what place e asks -/
def begL (ns : List Int) (e j : Nat) : List Int := ((List.range j).filter (fun i => decide (ns[i]? = ns[e]?))).map fun i : Nat => (i : Int)
theorem begL_succ (ns : List Int) (e j : Nat) : begL ns e (j + 1) = begL ns e j ++ (if ns[j]? = ns[e]? then [(j : Int)] else []) := by
  unfold begL
  rw [List.range_succ, List.filter_append, List.map_append]
  congr 1
  by_cases h : ns[j]? = ns[e]?
  · rw [if_pos h, List.filter_cons_of_pos (by simpa using h)]; rfl
  · rw [if_neg h, List.filter_cons_of_neg (by simpa using h)]; rfl
theorem begL_len (ns : List Int) (e j : Nat) : (begL ns e j).length ≤ j := by
  unfold begL
  rw [List.length_map]
  have := List.length_filter_le (fun i => decide (ns[i]? = ns[e]?)) (List.range j)
  rwa [List.length_range] at this
theorem begL_last {ns : List Int} {e : Nat} {x : Int} (h : ns[e]? = some x) : lastL (begL ns e e) = match lastAt (ns.take e) x with
    | none => []
    | some b => [(b : Int)] := by
  have hl := (List.getElem?_eq_some_iff.mp h).1
  have e1 : lastAt (ns.take e) x = ((List.range e).filter (fun i => decide (ns[i]? = ns[e]?))).getLast? := by
    unfold lastAt
    rw [List.length_take, Nat.min_eq_left (by omega)]
    congr 1
    refine List.filter_congr fun i hi => ?_
    rw [List.mem_range] at hi
    rw [List.getElem?_take, if_pos hi, h]
  rw [lastL_eq, e1]
  unfold begL
  rw [List.getLast?_map]
  cases ((List.range e).filter (fun i => decide (ns[i]? = ns[e]?))).getLast? <;> rfl
theorem spellAt_eq {ns : List Int} {e : Nat} {x : Int} (h : ns[e]? = some x) : spellAt ns e = (lastL (begL ns e e)).map fun b => (b, (e : Int)) := by
  rw [begL_last h]
  unfold spellAt
  rw [List.getD_eq_getElem?_getD, h]
  show (match lastAt (ns.take e) x with | none => [] | some b => [((b : Int), (e : Int))]) = _
  cases lastAt (ns.take e) x <;> rfl
end Cw
namespace Cw
open PySem L2
theorem PairsAt.append {H H' : Hp} {xs ys : List V} {ps qs : List (Int × Int)} (h : PairsAt H H' xs ps) (h2 : PairsAt H H' ys qs) : PairsAt H H' (xs ++ ys) (ps ++ qs) := ⟨by simp [h.1, h2.1], fun i e he => by
  rcases Nat.lt_or_ge i ps.length with l | l
  · rw [List.getElem?_append_left l] at he
    rw [List.getElem?_append_left (by rw [h.1]; exact l)]
    exact h.2 i e he
  · rw [List.getElem?_append_right l] at he
    rw [List.getElem?_append_right (by rw [h.1]; exact l), h.1]
    exact h2.2 _ e he⟩
/-- places drawn in rising order -/
theorem pap_snoc {ps : List Int} {i : Nat} (h : ps.Pairwise (· < ·)) (hm : ∀ x ∈ ps, 0 ≤ x ∧ x < (i : Int)) : (ps ++ [(i : Int)]).Pairwise (· < ·) ∧ ∀ x ∈ ps ++ [(i : Int)], 0 ≤ x ∧ x < ((i + 1 : Nat) : Int) := by
  constructor
  · rw [List.pairwise_append]
    refine ⟨h, List.pairwise_singleton _ _, fun x hx y hy => ?_⟩
    rw [List.mem_singleton.mp hy]
    exact (hm x hx).2
  · intro x hx
    rcases List.mem_append.mp hx with hx | hx
    · have := hm x hx
      omega
    · rw [List.mem_singleton.mp hx]
      omega
end Cw
namespace Cw
open PySem L2
theorem Box.up {H : Hp} {b q D : Addr} {o : HO} (h : Box H b q) (nD : D ∉ [b, q]) : Box (upd H D o) b q :=
  h.keep (W := [D]) (Fr.at (List.mem_singleton.mpr rfl)) (fun m => nD (by rw [List.mem_singleton.mp m]; simp)) (fun m => nD (by rw [List.mem_singleton.mp m]; simp))
end Cw

namespace Cw
/-! ways of keeping pages; papers bound them from below -/
structure Way (r : Nat) (row : List Int) (S : Nat → List Int) : Prop where
  nd : ∀ i, i ≤ row.length → (S i).Nodup
  le : ∀ i, i ≤ row.length → (S i).length ≤ r
  zero : S 0 = []
  step : ∀ i x, row[i]? = some x → ∀ y ∈ S (i + 1), y = x ∨ y ∈ S i
  has : ∀ i x, row[i]? = some x → x ∈ S (i + 1)
def lackAt (row : List Int) (S : Nat → List Int) (i : Nat) : Bool := decide (row.getD i 0 ∉ S i)
def lackN (row : List Int) (S : Nat → List Int) : Nat := ((List.range row.length).filter (lackAt row S)).length
theorem nodup_len {α : Type} [DecidableEq α] : ∀ {l m : List α}, l.Nodup → (∀ x ∈ l, x ∈ m) → l.length ≤ m.length
  | [], _, _, _ => Nat.zero_le _
  | x :: l, m, h, hs => by
    rw [List.nodup_cons] at h
    have hx := hs x (by simp)
    have := nodup_len (l := l) (m := m.erase x) h.2 fun y hy => (List.mem_erase_of_ne (fun e => h.1 (by rw [← e]; exact hy))).mpr (hs y (List.mem_cons_of_mem _ hy))
    rw [List.length_erase_of_mem hx] at this
    have : 0 < m.length := List.length_pos_iff.mpr (List.ne_nil_of_mem hx)
    rw [List.length_cons]
    omega
theorem lastAt_none {ns : List Int} {x : Int} (h : lastAt ns x = none) : x ∉ ns := by
  intro hm
  obtain ⟨j, hj, he⟩ := List.mem_iff_getElem.mp hm
  unfold lastAt at h
  rw [List.getLast?_eq_none_iff] at h
  have : j ∈ (List.range ns.length).filter fun i => decide (ns[i]? = some x) := by
    rw [List.mem_filter, List.mem_range]
    exact ⟨hj, by rw [List.getElem?_eq_getElem hj, he]; simp⟩
  rw [h] at this
  cases this
theorem lastAt_last : ∀ {ns : List Int} {x : Int} {b : Nat}, lastAt ns x = some b → ∀ j, b < j → ns[j]? ≠ some x := by
  intro ns
  refine list_snoc_ind (P := fun ns => ∀ {x : Int} {b : Nat}, lastAt ns x = some b → ∀ j, b < j → ns[j]? ≠ some x) ?_ ?_ ns
  · intro x b h
    exact absurd h (by simp [lastAt])
  · intro l y ih x b h j hj
    rw [lastAt_snoc] at h
    by_cases hy : y = x
    · rw [if_pos hy] at h
      obtain rfl := Option.some.inj h
      rw [List.getElem?_eq_none (by simp; omega)]
      simp
    · rw [if_neg hy] at h
      rcases Nat.lt_trichotomy j l.length with hl | hl | hl
      · rw [List.getElem?_append_left hl]
        exact ih h j hj
      · subst hl
        simp [hy]
      · rw [List.getElem?_eq_none (by simp; omega)]
        simp
/-- a kept page was asked, and was kept since -/
theorem Way.kept {r : Nat} {row : List Int} {S : Nat → List Int} (w : Way r row S) {x : Int} : ∀ t, t ≤ row.length → x ∈ S t → ∃ b, lastAt (row.take t) x = some b ∧ b < t ∧ ∀ u, b < u → u ≤ t → x ∈ S u := by
  intro t
  induction t with
  | zero => intro _ h; rw [w.zero] at h; cases h
  | succ t ih =>
    intro ht h
    obtain ⟨y, hy⟩ : ∃ y, row[t]? = some y := ⟨row[t], List.getElem?_eq_getElem (by omega)⟩
    rw [take_snoc hy, lastAt_snoc, List.length_take, Nat.min_eq_left (by omega)]
    by_cases e : y = x
    · rw [if_pos e]
      exact ⟨t, rfl, Nat.lt_succ_self _, fun u h1 h2 => by rw [show u = t + 1 by omega]; exact h⟩
    · rw [if_neg e]
      rcases w.step t y hy x h with h2 | h2
      · exact absurd h2.symm e
      · obtain ⟨b, h3, h4, h5⟩ := ih (by omega) h2
        refine ⟨b, h3, by omega, fun u h6 h7 => ?_⟩
        rcases Nat.lt_or_eq_of_le h7 with h8 | h8
        · exact h5 u h6 (by omega)
        · rw [h8]; exact h
/-- the spell that ends at e -/
def spellB (row : List Int) (e : Nat) : Option Nat := lastAt (row.take e) (row.getD e 0)
def freeAt (row ps : List Int) (e : Nat) : Bool := match spellB row e with
  | none => false
  | some b => isFree ps ((b : Int), (e : Int))
theorem free_count (row ps : List Int) : ∀ i, ((spellsTo row i).filter (isFree ps)).length = ((List.range i).filter (freeAt row ps)).length
  | 0 => rfl
  | i + 1 => by
    rw [spellsTo_succ, List.range_succ, List.filter_append, List.filter_append, List.length_append, List.length_append, free_count row ps i]
    congr 1
    unfold spellAt
    show _ = ((List.filter (freeAt row ps) [i]).length)
    have e : freeAt row ps i = match spellB row i with | none => false | some b => isFree ps ((b : Int), (i : Int)) := rfl
    unfold spellB at e
    cases h : lastAt (row.take i) (row.getD i 0) with
    | none =>
      rw [h] at e
      rw [List.filter_cons_of_neg (by rw [e]; simp)]
      rfl
    | some b =>
      rw [h] at e
      have e2 : freeAt row ps i = isFree ps ((b : Int), (i : Int)) := e
      cases hf : isFree ps ((b : Int), (i : Int)) with
      | true => simp [e2, hf]
      | false => simp [e2, hf]
/-- the spell that ends at e stands over y -/
def over (row : List Int) (y : Int) (e : Nat) : Bool := match spellB row e with
  | none => false
  | some b => decide ((b : Int) < y ∧ y < (e : Int))
theorem over_iff {row : List Int} {y : Int} {e : Nat} : over row y e = true ↔ ∃ b, spellB row e = some b ∧ (b : Int) < y ∧ y < (e : Int) := by
  unfold over
  cases spellB row e with
  | none => simp
  | some b => simp
theorem not_free {row ps : List Int} {e b : Nat} (h : spellB row e = some b) : freeAt row ps e = false ↔ ∃ y ∈ ps, over row y e = true := by
  have e1 : freeAt row ps e = isFree ps ((b : Int), (e : Int)) := by unfold freeAt; rw [h]
  rw [e1]
  unfold isFree
  rw [decide_eq_false_iff_not]
  constructor
  · intro hn
    obtain ⟨y, hy⟩ := List.exists_mem_of_ne_nil _ hn
    rw [List.mem_filter] at hy
    exact ⟨y, hy.1, over_iff.mpr ⟨b, h, by simpa using hy.2⟩⟩
  · rintro ⟨y, hy, ho⟩ hn
    obtain ⟨b', hb', h1⟩ := over_iff.mp ho
    rw [h] at hb'
    obtain rfl := Option.some.inj hb'
    have : y ∈ ps.filter (fun p => decide ((b : Int) < p ∧ p < (e : Int))) := List.mem_filter.mpr ⟨hy, by simpa using h1⟩
    have hn' : ps.filter (fun p => decide ((b : Int) < p ∧ p < (e : Int))) = [] := hn
    rw [hn'] at this
    cases this
end Cw
namespace Cw
theorem filter_or_len {α : Type} (l : List α) (p q : α → Bool) : (l.filter fun x => p x || q x).length ≤ (l.filter p).length + (l.filter q).length := by
  induction l with
  | nil => simp
  | cons x l ih =>
    simp only [List.filter_cons]
    cases p x <;> cases q x <;> simp <;> omega
theorem filter_split {α : Type} (l : List α) (p q : α → Bool) : (l.filter p).length = (l.filter fun x => p x && q x).length + (l.filter fun x => p x && !q x).length := by
  induction l with
  | nil => simp
  | cons x l ih =>
    simp only [List.filter_cons]
    cases p x <;> cases q x <;> simp <;> omega
theorem filter_mono_len {α : Type} (l : List α) {p q : α → Bool} (h : ∀ x ∈ l, p x = true → q x = true) : (l.filter p).length ≤ (l.filter q).length := by
  induction l with
  | nil => simp
  | cons x l ih =>
    have ih' := ih fun y hy => h y (List.mem_cons_of_mem _ hy)
    have hx := h x (by simp)
    simp only [List.filter_cons]
    cases hp : p x <;> cases hq : q x <;> simp [hp, hq] at * <;> omega
/-- those over some y of ps are no more than the sum -/
theorem any_count {α β : Type} (l : List α) (P : β → α → Bool) {m : Nat} : ∀ ps : List β, (∀ y ∈ ps, (l.filter (P y)).length ≤ m) → (l.filter fun x => ps.any fun y => P y x).length ≤ m * ps.length
  | [], _ => by simp
  | y :: ps, h => by
    have h1 := h y (by simp)
    have h2 := any_count l P ps fun z hz => h z (List.mem_cons_of_mem _ hz)
    have h3 := filter_or_len l (P y) (fun x => ps.any fun y => P y x)
    simp only [List.any_cons, List.length_cons]
    rw [Nat.mul_add]
    omega
theorem hits_over {r : Nat} {row : List Int} {S : Nat → List Int} (w : Way r row S) (r0 : 0 < r) (y : Int) :
    ((List.range row.length).filter fun e => !lackAt row S e && over row y e).length ≤ r - 1 := by
  by_cases hne : ((List.range row.length).filter fun e => !lackAt row S e && over row y e) = []
  · rw [hne]; exact Nat.zero_le _
  have key : ∀ e ∈ (List.range row.length).filter (fun e => !lackAt row S e && over row y e), e < row.length ∧ row.getD e 0 ∈ S e ∧ ∃ b, spellB row e = some b ∧ (b : Int) < y ∧ y < (e : Int) := by
    intro e he
    rw [List.mem_filter, List.mem_range, Bool.and_eq_true] at he
    refine ⟨he.1, ?_, over_iff.mp he.2.2⟩
    have := he.2.1
    simpa [lackAt] using this
  obtain ⟨e0, he0⟩ := List.exists_mem_of_ne_nil _ hne
  obtain ⟨h1, h2, b0, h3, h4, h5⟩ := key e0 he0
  obtain ⟨t, rfl⟩ : ∃ t : Nat, y = (t : Int) := ⟨y.toNat, by omega⟩
  have htl : t < row.length := by omega
  have hx : row[t]? = some row[t] := List.getElem?_eq_getElem htl
  have hm : (((List.range row.length).filter fun e => !lackAt row S e && over row (t : Int) e).map fun e => row.getD e 0).length ≤ ((S (t + 1)).erase row[t]).length := by
    refine nodup_len ?_ ?_
    · rw [List.Nodup, List.pairwise_map]
      refine List.Pairwise.imp_of_mem (R := fun a b => a < b) ?_ (List.pairwise_lt_range.filter _)
      intro e e' he he' hlt heq
      obtain ⟨k1, k2, b, k3, k4, k5⟩ := key e he
      obtain ⟨k1', k2', b', k3', k4', k5'⟩ := key e' he'
      refine lastAt_last k3' e (by omega) ?_
      rw [List.getElem?_take, if_pos hlt, ← heq, List.getD_eq_getElem?_getD, List.getElem?_eq_getElem k1]
      rfl
    · intro x hxm
      obtain ⟨e, he, rfl⟩ := List.mem_map.mp hxm
      obtain ⟨k1, k2, b, k3, k4, k5⟩ := key e he
      obtain ⟨b', k6, k7, k8⟩ := w.kept e (by omega) k2
      have : b' = b := by
        unfold spellB at k3
        rw [k6] at k3
        exact Option.some.inj k3
      subst this
      have hin := k8 (t + 1) (by omega) (by omega)
      refine (List.mem_erase_of_ne fun heq => ?_).mpr hin
      refine lastAt_last k6 t (by omega) ?_
      rw [List.getElem?_take, if_pos (by omega), hx, heq]
  rw [List.length_map] at hm
  rw [List.length_erase_of_mem (w.has t _ hx)] at hm
  have := w.le (t + 1) (by omega)
  omega
theorem lack_hit (row : List Int) (S : Nat → List Int) : lackN row S + ((List.range row.length).filter fun e => !lackAt row S e).length = row.length := by
  have := filter_split (List.range row.length) (fun _ => true) (lackAt row S)
  have e : (List.range row.length).filter (fun _ => true) = List.range row.length := List.filter_eq_self.mpr (by simp)
  rw [e, List.length_range] at this
  simp only [Bool.true_and] at this
  show ((List.range row.length).filter fun x => lackAt row S x).length + _ = _
  omega
/-- no paper shows more than a way lacks -/
theorem weak {r : Nat} {row : List Int} {S : Nat → List Int} (w : Way r row S) (r0 : 0 < r) (ps : List Int) : shownM (r : Int) row ps ≤ (lackN row S : Int) := by
  have h1 := lack_hit row S
  have h2 := filter_split (List.range row.length) (fun e => !lackAt row S e) (freeAt row ps)
  have h3 : ((List.range row.length).filter fun e => !lackAt row S e && freeAt row ps e).length ≤ ((List.range row.length).filter (freeAt row ps)).length :=
    filter_mono_len _ fun e _ h => by rw [Bool.and_eq_true] at h; exact h.2
  have h4 : ((List.range row.length).filter fun e => !lackAt row S e && !freeAt row ps e).length ≤ (r - 1) * ps.length := by
    refine Nat.le_trans ?_ (any_count (List.range row.length) (fun y e => !lackAt row S e && over row y e) ps fun y _ => hits_over w r0 y)
    refine filter_mono_len _ fun e he h => ?_
    rw [List.mem_range] at he
    rw [Bool.and_eq_true] at h
    have hk : row.getD e 0 ∈ S e := by simpa [lackAt] using h.1
    obtain ⟨b, k1, _, _⟩ := w.kept e (by omega) hk
    obtain ⟨y, hy, ho⟩ := (not_free (ps := ps) (e := e) k1).mp (by simpa using h.2)
    exact List.any_eq_true.mpr ⟨y, hy, by rw [Bool.and_eq_true]; exact ⟨h.1, ho⟩⟩
  have h5 := free_count row ps row.length
  have e1 : ((r : Int) - 1) * (ps.length : Int) = (((r - 1) * ps.length : Nat) : Int) := by
    rw [Int.natCast_mul, Int.ofNat_sub r0]
    rfl
  unfold shownM spellsM
  rw [e1, h5]
  omega
end Cw
namespace Cw
/-! the best one is a way -/
def bestK (r : Nat) (row : List Int) (i : Nat) : List Int := (bst r row (row.take i)).kept
theorem bst_n {r : Nat} (r0 : 0 < r) {row : List Int} {i : Nat} (hi : i ≤ row.length) : (bst r row (row.take i)).n = i := by
  rw [(bst_ok r0 row (row.take i)).n, List.length_take, Nat.min_eq_left hi]
theorem bestK_succ {r : Nat} (r0 : 0 < r) {row : List Int} {i : Nat} {x : Int} (hx : row[i]? = some x) :
    bestK r row (i + 1) = if x ∈ bestK r row i then bestK r row i else if (bestK r row i).length = r then (bestK r row i).erase (far (row.drop i) (bestK r row i)) ++ [x] else bestK r row i ++ [x] := by
  have hl := (List.getElem?_eq_some_iff.mp hx).1
  have hn := bst_n r0 (row := row) (i := i) (by omega)
  unfold bestK
  rw [take_snoc hx, bst_snoc]
  unfold bstep
  rw [hn]
  split
  · rfl
  · split <;> rfl
theorem best_way {r : Nat} (r0 : 0 < r) (row : List Int) : Way r row (bestK r row) where
  nd i _ := (bst_ok r0 row (row.take i)).nd
  le i _ := (bst_ok r0 row (row.take i)).le
  zero := rfl
  step i x hx y hy := by
    rw [bestK_succ r0 hx] at hy
    split at hy
    · exact .inr hy
    · split at hy
      · rcases List.mem_append.mp hy with h | h
        · exact .inr (List.mem_of_mem_erase h)
        · exact .inl (List.mem_singleton.mp h)
      · rcases List.mem_append.mp hy with h | h
        · exact .inr h
        · exact .inl (List.mem_singleton.mp h)
  has i x hx := by
    rw [bestK_succ r0 hx]
    split
    · assumption
    · split <;> simp
theorem best_lacks {r : Nat} (r0 : 0 < r) (row : List Int) : ∀ i, i ≤ row.length → (bst r row (row.take i)).lacks = ((List.range i).filter (lackAt row (bestK r row))).map fun j : Nat => (j : Int)
  | 0, _ => rfl
  | i + 1, hi => by
    obtain ⟨x, hx⟩ : ∃ x, row[i]? = some x := ⟨row[i], List.getElem?_eq_getElem (by omega)⟩
    have ih := best_lacks r0 row i (by omega)
    have hn := bst_n r0 (row := row) (i := i) (by omega)
    have hg : row.getD i 0 = x := by rw [List.getD_eq_getElem?_getD, hx]; rfl
    rw [take_snoc hx, bst_snoc, List.range_succ, List.filter_append, List.map_append, ← ih]
    unfold bstep
    rw [hn]
    by_cases hm : x ∈ (bst r row (row.take i)).kept
    · rw [if_pos hm]
      have e : lackAt row (bestK r row) i = false := by unfold lackAt; rw [hg]; exact decide_eq_false fun h => h hm
      rw [List.filter_cons_of_neg (by simp [e])]
      simp
    · rw [if_neg hm]
      have e : lackAt row (bestK r row) i = true := by unfold lackAt; rw [hg]; exact decide_eq_true hm
      rw [List.filter_cons_of_pos e]
      split <;> rfl
def bestN (r : Nat) (row : List Int) : Nat := (bst r row row).lacks.length
theorem bestN_eq {r : Nat} (r0 : 0 < r) (row : List Int) : bestN r row = lackN row (bestK r row) := by
  have h := best_lacks r0 row row.length (Nat.le_refl _)
  rw [List.take_length] at h
  unfold bestN lackN
  rw [h, List.length_map]
/-! the best one's drops -/
def endOf (row : List Int) (p : Nat) (x : Int) : Nat := p + (row.drop p).idxOf x
structure Drop (r : Nat) (row : List Int) (p : Nat) : Prop where
  lt : p < row.length
  lack : row.getD p 0 ∉ bestK r row p
  full : (bestK r row p).length = r
  back : endOf row p (far (row.drop p) (bestK r row p)) < row.length
abbrev gone (r : Nat) (row : List Int) (p : Nat) : Int := far (row.drop p) (bestK r row p)
abbrev dropE (r : Nat) (row : List Int) (p : Nat) : Nat := endOf row p (gone r row p)
theorem endOf_at {row : List Int} {p : Nat} {x : Int} (h : endOf row p x < row.length) : row[endOf row p x]? = some x := by
  unfold endOf at h ⊢
  have hl : (row.drop p).idxOf x < (row.drop p).length := by rw [List.length_drop]; omega
  rw [← List.getElem?_drop, List.getElem?_eq_getElem hl]
  simp
theorem endOf_before {row : List Int} {p j : Nat} {x : Int} (h1 : p ≤ j) (h2 : j < endOf row p x) : row[j]? ≠ some x := by
  unfold endOf at h2
  intro e
  obtain ⟨k, rfl⟩ : ∃ k, j = p + k := ⟨j - p, by omega⟩
  rw [← List.getElem?_drop] at e
  have hk : k < (row.drop p).idxOf x := by omega
  have z := List.not_of_lt_findIdx (p := (· == x)) (xs := row.drop p) (i := k) hk
  rw [List.getElem?_eq_some_iff] at e
  obtain ⟨_, e⟩ := e
  simp [e] at z
theorem endOf_uniq {row : List Int} {p e : Nat} {x : Int} (h1 : p ≤ e) (h2 : row[e]? = some x) (h3 : ∀ j, p ≤ j → j < e → row[j]? ≠ some x) : endOf row p x = e := by
  have hel := (List.getElem?_eq_some_iff.mp h2).1
  rcases Nat.lt_trichotomy (endOf row p x) e with h | h | h
  · exact absurd (endOf_at (by omega)) (h3 _ (by unfold endOf; omega) h)
  · exact h
  · exact absurd h2 (endOf_before h1 h)
theorem far_end {r : Nat} {row : List Int} {p : Nat} {x : Int} (hx : x ∈ bestK r row p) : endOf row p x ≤ dropE r row p := by
  have := (far_spec (row.drop p) (kept := bestK r row p) (List.ne_nil_of_mem hx)).2 x hx
  unfold dropE endOf gone
  omega
theorem drop_gt {r : Nat} (r0 : 0 < r) {row : List Int} {p : Nat} (d : Drop r row p) : p < dropE r row p := by
  have hne : bestK r row p ≠ [] := fun e => by have := d.full; rw [e] at this; simp at this; omega
  have hf := (far_spec (row.drop p) hne).1
  refine Nat.lt_of_not_le fun h => ?_
  have e : dropE r row p = p := by
    have : p ≤ dropE r row p := by unfold dropE endOf; omega
    omega
  have h2 := endOf_at d.back
  rw [show endOf row p (far (row.drop p) (bestK r row p)) = p from e] at h2
  refine d.lack ?_
  rw [List.getD_eq_getElem?_getD, h2]
  exact hf
end Cw
namespace Cw
theorem ex_max (P : Nat → Prop) : ∀ n, (∃ p, p < n ∧ P p) → ∃ p, p < n ∧ P p ∧ ∀ q, q < n → P q → q ≤ p
  | 0, ⟨p, h, _⟩ => by omega
  | n + 1, h => by
    by_cases hn : P n
    · exact ⟨n, Nat.lt_succ_self _, hn, fun q hq _ => by omega⟩
    · obtain ⟨p, h1, h2⟩ := h
      have hpn : p ≠ n := fun e => hn (by rw [← e]; exact h2)
      obtain ⟨p', h3, h4, h5⟩ := ex_max P n ⟨p, by omega, h2⟩
      refine ⟨p', by omega, h4, fun q hq hP => h5 q ?_ hP⟩
      have : q ≠ n := fun e => hn (by rw [← e]; exact hP)
      omega
/-- the paper's places, from behind -/
theorem chain_ex {r : Nat} (r0 : 0 < r) (row : List Int) : ∀ B : Nat, ∃ Y : List Nat, Y.Pairwise (fun y' y => y' < y ∧ dropE r row y' ≤ y) ∧ (∀ y ∈ Y, Drop r row y ∧ dropE r row y ≤ B ∧ ∀ p, Drop r row p → y < p → dropE r row y < dropE r row p) ∧
    ∀ p, Drop r row p → dropE r row p ≤ B → ∃ y ∈ Y, p ≤ y ∧ y < dropE r row p := by
  intro B
  induction B using Nat.strongRecOn with
  | _ B ih =>
    by_cases hex : ∃ p, p < row.length ∧ (Drop r row p ∧ dropE r row p ≤ B)
    · obtain ⟨P, hP1, ⟨hP2, hP3⟩, hP4⟩ := ex_max (fun p => Drop r row p ∧ dropE r row p ≤ B) row.length hex
      have hlt := drop_gt r0 hP2
      obtain ⟨Y, hY1, hY2, hY3⟩ := ih P (by omega)
      refine ⟨Y ++ [P], ?_, ?_, ?_⟩
      · rw [List.pairwise_append]
        refine ⟨hY1, List.pairwise_singleton _ _, fun y hy z hz => ?_⟩
        rw [List.mem_singleton.mp hz]
        have h1 := hY2 y hy
        have := drop_gt r0 h1.1
        exact ⟨by omega, h1.2.1⟩
      · intro y hy
        rcases List.mem_append.mp hy with hy | hy
        · obtain ⟨h1, h2, h3⟩ := hY2 y hy
          exact ⟨h1, by omega, h3⟩
        · rw [List.mem_singleton.mp hy]
          refine ⟨hP2, hP3, fun p hp hlp => ?_⟩
          refine Nat.lt_of_not_le fun hle => ?_
          have := hP4 p hp.lt ⟨hp, by omega⟩
          omega
      · intro p hp hpB
        have hpP := hP4 p hp.lt ⟨hp, hpB⟩
        by_cases h : P < dropE r row p
        · exact ⟨P, by simp, hpP, h⟩
        · obtain ⟨y, hy, h1, h2⟩ := hY3 p hp (by omega)
          exact ⟨y, List.mem_append_left _ hy, h1, h2⟩
    · exact ⟨[], List.Pairwise.nil, (fun y hy => absurd hy (by simp)), (fun p hp hpB => absurd ⟨p, hp.lt, hp, hpB⟩ hex)⟩
end Cw
namespace Cw
theorem disjoint_count {α β : Type} (l : List α) (P : β → α → Bool) {m : Nat} : ∀ Y : List β, (∀ y ∈ Y, m ≤ (l.filter (P y)).length) → Y.Pairwise (fun a b => ∀ e ∈ l, P a e = true → P b e = true → False) → m * Y.length ≤ (l.filter fun x => Y.any fun y => P y x).length
  | [], _, _ => by simp
  | y :: Y, h, hd => by
    rw [List.pairwise_cons] at hd
    have h1 := h y (by simp)
    have h2 := disjoint_count l P Y (fun z hz => h z (List.mem_cons_of_mem _ hz)) hd.2
    have h3 := filter_split l (fun x => (y :: Y).any fun y => P y x) (P y)
    have h4 : (l.filter (P y)).length ≤ (l.filter fun x => ((y :: Y).any fun y => P y x) && P y x).length := filter_mono_len l fun x _ hx => by simp [hx]
    have h5 : (l.filter fun x => Y.any fun y => P y x).length ≤ (l.filter fun x => ((y :: Y).any fun y => P y x) && !P y x).length := filter_mono_len l fun x hxl hx => by
      obtain ⟨z, hz, hzx⟩ := List.any_eq_true.mp hx
      have hy : P y x = false := by
        cases hp : P y x with
        | false => rfl
        | true => exact (hd.1 z hz x hxl hp hzx).elim
      rw [List.any_cons, hx, hy]
      rfl
    rw [List.length_cons, Nat.mul_add]
    omega
theorem gone_of {r : Nat} (r0 : 0 < r) {row : List Int} {p : Nat} {x : Int} (hp : p < row.length) (h1 : x ∈ bestK r row p) (h2 : x ∉ bestK r row (p + 1)) : row.getD p 0 ∉ bestK r row p ∧ (bestK r row p).length = r ∧ x = gone r row p := by
  have hx : row[p]? = some row[p] := List.getElem?_eq_getElem hp
  have hg : row.getD p 0 = row[p] := by rw [List.getD_eq_getElem?_getD, hx]; rfl
  rw [bestK_succ r0 hx] at h2
  rw [hg]
  by_cases c1 : row[p] ∈ bestK r row p
  · rw [if_pos c1] at h2
    exact absurd h1 h2
  · rw [if_neg c1] at h2
    by_cases c2 : (bestK r row p).length = r
    · rw [if_pos c2] at h2
      refine ⟨c1, c2, Classical.byContradiction fun hne => h2 (List.mem_append_left _ ((List.mem_erase_of_ne hne).mpr h1))⟩
    · rw [if_neg c2] at h2
      exact absurd (List.mem_append_left _ h1) h2
/-- kept here, not kept there: between it went -/
theorem went {P : Nat → Prop} {i j : Nat} (h : i ≤ j) (h1 : P i) (h2 : ¬ P j) : ∃ p, i ≤ p ∧ p < j ∧ P p ∧ ¬ P (p + 1) := by
  induction j with
  | zero => exact absurd (by rw [show i = 0 by omega] at h1; exact h1) h2
  | succ j ih =>
    by_cases hj : P j
    · have : i ≠ j + 1 := fun e => h2 (by rw [← e]; exact h1)
      exact ⟨j, by omega, Nat.lt_succ_self _, hj, h2⟩
    · have : i ≠ j + 1 := fun e => h2 (by rw [← e]; exact h1)
      obtain ⟨p, a, b, c, d⟩ := ih (by omega) hj
      exact ⟨p, a, by omega, c, d⟩
theorem spell_ends {row : List Int} {b e p : Nat} {x : Int} (he : row[e]? = some x) (hb : lastAt (row.take e) x = some b) (h1 : b < p) (h2 : p ≤ e) : endOf row p x = e :=
  endOf_uniq h2 he fun j h3 h4 hj => lastAt_last hb j (by omega) (by rw [List.getElem?_take, if_pos h4]; exact hj)
theorem strong {r : Nat} (r0 : 0 < r) (row : List Int) : ∃ ps : List Int, PapOk row ps ∧ (∀ x ∈ ps, 1 ≤ x) ∧ (bestN r row : Int) ≤ shownM (r : Int) row ps := by
  obtain ⟨Y, hY1, hY2, hY3⟩ := chain_ex r0 row (row.length - 1)
  have w := best_way r0 row
  refine ⟨Y.map fun y : Nat => (y : Int), ⟨?_, ?_⟩, ?_, ?_⟩
  · rw [List.pairwise_map]
    exact hY1.imp fun h => by have := h.1; omega
  · intro x hx
    obtain ⟨y, hy, rfl⟩ := List.mem_map.mp hx
    have := (hY2 y hy).1.lt
    omega
  · intro x hx
    obtain ⟨y, hy, rfl⟩ := List.mem_map.mp hx
    have hf := (hY2 y hy).1.full
    by_cases h0 : y = 0
    · subst h0
      rw [show bestK r row 0 = [] from rfl] at hf
      simp at hf
      omega
    · omega
  -- free ones are hit
  have ha : ∀ e ∈ List.range row.length, freeAt row (Y.map fun y : Nat => (y : Int)) e = true → (!lackAt row (bestK r row) e && freeAt row (Y.map fun y : Nat => (y : Int)) e) = true := by
    intro e he hf
    rw [List.mem_range] at he
    rw [hf, Bool.and_true]
    cases hl : lackAt row (bestK r row) e with
    | false => rfl
    | true =>
      exfalso
      have hex : row[e]? = some (row.getD e 0) := by rw [List.getD_eq_getElem?_getD, List.getElem?_eq_getElem he]; rfl
      generalize hx : row.getD e 0 = x at hex
      have hl' : x ∉ bestK r row e := by unfold lackAt at hl; rw [hx] at hl; exact of_decide_eq_true hl
      cases hb : spellB row e with
      | none => unfold freeAt at hf; rw [hb] at hf; cases hf
      | some b =>
        have hb' : lastAt (row.take e) x = some b := by unfold spellB at hb; rw [hx] at hb; exact hb
        have hbl := lastAt_lt hb'
        rw [List.length_take] at hbl
        have hbx : row[b]? = some x := by
          have := hbl.2
          rw [List.getElem?_take] at this
          split at this
          · exact this
          · cases this
        obtain ⟨p, p1, p2, p3, p4⟩ := went (P := fun i => x ∈ bestK r row i) (i := b + 1) (j := e) (by omega) (w.has b x hbx) hl'
        obtain ⟨q1, q2, q3⟩ := gone_of r0 (by omega) p3 p4
        have hend : dropE r row p = e := by
          unfold dropE
          rw [← q3]
          exact spell_ends hex hb' (by omega) (by omega)
        have hd : Drop r row p := ⟨by omega, q1, q2, by rw [show endOf row p (far (row.drop p) (bestK r row p)) = e from hend]; exact he⟩
        obtain ⟨y, hy, y1, y2⟩ := hY3 p hd (by omega)
        rw [hend] at y2
        have hnf := (not_free (ps := Y.map fun y : Nat => (y : Int)) hb).mpr ⟨(y : Int), List.mem_map.mpr ⟨y, hy, rfl⟩, over_iff.mpr ⟨b, hb, by omega, by omega⟩⟩
        rw [hf] at hnf
        cases hnf
  -- over each place stand r - 1 hit ones
  have hb : ∀ y ∈ Y, r - 1 ≤ ((List.range row.length).filter fun e => !lackAt row (bestK r row) e && over row (y : Int) e).length := by
    intro y hy
    obtain ⟨hd, hB, hmax⟩ := hY2 y hy
    have hdl : dropE r row y < row.length := hd.back
    have hne : bestK r row y ≠ [] := fun e => by have := hd.full; rw [e] at this; simp at this; omega
    have hgm := (far_spec (row.drop y) hne).1
    have hnd := w.nd y (by have := hd.lt; omega)
    have key : ∀ x ∈ (bestK r row y).erase (gone r row y), endOf row y x < row.length ∧ endOf row y x ∈ (List.range row.length).filter fun e => !lackAt row (bestK r row) e && over row (y : Int) e := by
      intro x hx
      rw [hnd.mem_erase_iff] at hx
      have hle := far_end hx.2
      have hel : endOf row y x < row.length := by omega
      have hat := endOf_at hel
      have hye : y ≤ endOf row y x := by unfold endOf; omega
      generalize he : endOf row y x = e at *
      have hgd : row.getD e 0 = x := by rw [List.getD_eq_getElem?_getD, hat]; rfl
      have hhit : x ∈ bestK r row e := by
        refine Classical.byContradiction fun hn => ?_
        obtain ⟨p, p1, p2, p3, p4⟩ := went (P := fun i => x ∈ bestK r row i) hye hx.2 hn
        obtain ⟨q1, q2, q3⟩ := gone_of r0 (by omega) p3 p4
        by_cases hpy : p = y
        · subst hpy
          exact hx.1 q3
        · have hend : dropE r row p = e := by
            unfold dropE
            rw [← q3]
            exact endOf_uniq (by omega) hat fun j h3 h4 => endOf_before (p := y) (by omega) (by rw [he]; exact h4)
          have hdp : Drop r row p := ⟨by omega, q1, q2, by rw [show endOf row p (far (row.drop p) (bestK r row p)) = e from hend]; exact hel⟩
          have := hmax p hdp (by omega)
          omega
      refine ⟨hel, ?_⟩
      rw [List.mem_filter, List.mem_range, Bool.and_eq_true]
      obtain ⟨b, b1, b2, b3⟩ := w.kept e (by omega) hhit
      have hbl := lastAt_lt b1
      rw [List.length_take] at hbl
      have hbx : row[b]? = some x := by
        have := hbl.2
        rw [List.getElem?_take, if_pos (by omega)] at this
        exact this
      have hby : b < y := Nat.lt_of_not_le fun h => endOf_before (p := y) (x := x) h (by rw [he]; omega) hbx
      have hyne : y ≠ e := by
        intro h
        refine hd.lack ?_
        rw [h, hgd]
        exact hhit
      refine ⟨hel, ?_, over_iff.mpr ⟨b, by unfold spellB; rw [hgd]; exact b1, by omega, by omega⟩⟩
      unfold lackAt
      rw [hgd]
      simpa using hhit
    have hlen : (((bestK r row y).erase (gone r row y)).map (endOf row y)).length ≤ ((List.range row.length).filter fun e => !lackAt row (bestK r row) e && over row (y : Int) e).length := by
      refine nodup_len ?_ fun e he => ?_
      · rw [List.Nodup, List.pairwise_map]
        refine List.Pairwise.imp_of_mem ?_ (hnd.erase _)
        intro x x' hx hx' hne heq
        have a1 := endOf_at (key x hx).1
        have a2 := endOf_at (key x' hx').1
        rw [heq, a2] at a1
        exact hne (Option.some.inj a1).symm
      · obtain ⟨x, hx, rfl⟩ := List.mem_map.mp he
        exact (key x hx).2
    rw [List.length_map, List.length_erase_of_mem hgm, hd.full] at hlen
    exact hlen
  -- no hit one stands over two places
  have hc : Y.Pairwise (fun (a b : Nat) => ∀ e ∈ List.range row.length, (!lackAt row (bestK r row) e && over row (a : Int) e) = true → (!lackAt row (bestK r row) e && over row (b : Int) e) = true → False) := by
    refine hY1.imp fun {y' y} h e he h1 h2 => ?_
    rw [List.mem_range] at he
    rw [Bool.and_eq_true] at h1 h2
    obtain ⟨b, b1, b2, b3⟩ := over_iff.mp h1.2
    obtain ⟨b', b1', b2', b3'⟩ := over_iff.mp h2.2
    have hhit : row.getD e 0 ∈ bestK r row e := by simpa [lackAt] using h1.1
    have hex : row[e]? = some (row.getD e 0) := by rw [List.getD_eq_getElem?_getD, List.getElem?_eq_getElem he]; rfl
    obtain ⟨c, c1, c2, c3⟩ := w.kept e (by omega) hhit
    have hbc : b = c := by
      unfold spellB at b1
      rw [c1] at b1
      exact (Option.some.inj b1).symm
    subst hbc
    have hin := c3 y' (by omega) (by omega)
    have hend := spell_ends hex c1 (p := y') (by omega) (by omega)
    have := far_end hin
    rw [hend] at this
    omega
  have h1 := lack_hit row (bestK r row)
  have h2 := filter_split (List.range row.length) (fun e => !lackAt row (bestK r row) e) (freeAt row (Y.map fun y : Nat => (y : Int)))
  have h3 := filter_mono_len (List.range row.length) ha
  have h4 := disjoint_count (List.range row.length) (fun (y : Nat) e => !lackAt row (bestK r row) e && over row (y : Int) e) Y hb hc
  have h5 : ((List.range row.length).filter fun x => Y.any fun y => !lackAt row (bestK r row) x && over row (y : Int) x).length ≤ ((List.range row.length).filter fun e => !lackAt row (bestK r row) e && !freeAt row (Y.map fun y : Nat => (y : Int)) e).length := by
    refine filter_mono_len _ fun e he h => ?_
    obtain ⟨y, hy, ho⟩ := List.any_eq_true.mp h
    rw [Bool.and_eq_true] at ho
    rw [Bool.and_eq_true]
    obtain ⟨b, b1, _, _⟩ := over_iff.mp ho.2
    have := (not_free (ps := Y.map fun y : Nat => (y : Int)) b1).mpr ⟨(y : Int), List.mem_map.mpr ⟨y, hy, rfl⟩, ho.2⟩
    exact ⟨ho.1, by rw [this]; rfl⟩
  have h6 := free_count row (Y.map fun y : Nat => (y : Int)) row.length
  have e1 : ((r : Int) - 1) * ((Y.map fun y : Nat => (y : Int)).length : Int) = (((r - 1) * Y.length : Nat) : Int) := by
    rw [List.length_map, Int.natCast_mul, Int.ofNat_sub r0]
    rfl
  rw [bestN_eq r0]
  unfold shownM spellsM
  rw [e1, h6]
  omega
/-- no way lacks more seldom than the best one -/
theorem best_least {r : Nat} (r0 : 0 < r) {row : List Int} {S : Nat → List Int} (w : Way r row S) : bestN r row ≤ lackN row S := by
  obtain ⟨ps, _, _, h⟩ := strong r0 row
  have := weak w r0 ps
  omega
theorem shown_le {r : Nat} (r0 : 0 < r) (row ps : List Int) : shownM (r : Int) row ps ≤ (bestN r row : Int) := by
  rw [bestN_eq r0]
  exact weak (best_way r0 row) r0 ps
/-- a room more -/
theorem best_more {r : Nat} (r0 : 0 < r) (row : List Int) : bestN (r + 1) row ≤ bestN r row := by
  rw [bestN_eq r0]
  have w := best_way r0 row
  exact best_least (Nat.succ_pos r) ⟨w.nd, fun i h => Nat.le_succ_of_le (w.le i h), w.zero, w.step, w.has⟩
end Cw
namespace Cw
open PySem
/-! the rules are ways -/
def keepW (n : Nat) (u : Bool) (row : List Int) (i : Nat) : List Int := keepEnd n u [] (row.take i)
def dialW (n : Nat) (row : List Int) (i : Nat) : List Int := (endAll (Dl.new n) (row.take i)).here.filterMap id
def ruleW (n : Nat) (z : Str) (row : List Int) : Nat → List Int := if z = Str.ofString "hand" then dialW n row else keepW n (decide (z = Str.ofString "unseen")) row
theorem keepEnd_snoc (n : Nat) (u : Bool) (k l : List Int) (x : Int) : keepEnd n u k (l ++ [x]) = keepS n u (keepEnd n u k l) x := by rw [keepEnd_app]; rfl
theorem keepW_way {n : Nat} (n0 : 0 < n) (u : Bool) (row : List Int) : Way n row (keepW n u row) where
  nd i _ := (keepEnd_ok n0 u [] (row.take i) ⟨List.nodup_nil, Nat.zero_le _⟩).nd
  le i _ := (keepEnd_ok n0 u [] (row.take i) ⟨List.nodup_nil, Nat.zero_le _⟩).le
  zero := rfl
  step i x hx y hy := by
    unfold keepW at hy ⊢
    rw [take_snoc hx, keepEnd_snoc] at hy
    generalize keepEnd n u [] (row.take i) = k at *
    unfold keepS at hy
    split at hy
    · split at hy
      · rcases List.mem_append.mp hy with h | h
        · exact .inr (List.mem_of_mem_erase h)
        · exact .inl (List.mem_singleton.mp h)
      · exact .inr hy
    · rcases List.mem_append.mp hy with h | h
      · exact .inr (List.mem_of_mem_drop h)
      · exact .inl (List.mem_singleton.mp h)
  has i x hx := by
    unfold keepW
    rw [take_snoc hx, keepEnd_snoc]
    generalize keepEnd n u [] (row.take i) = k at *
    unfold keepS
    split
    · split
      · simp
      · assumption
    · simp
theorem mem_dial {hs : List (Option Int)} {x : Int} : x ∈ hs.filterMap id ↔ some x ∈ hs := by simp
theorem endAll_snoc (d : Dl) (l : List Int) (x : Int) : endAll d (l ++ [x]) = ((endAll d l).ask x).1 := by rw [endAll_app]; rfl
theorem set_nodup : ∀ (hs : List (Option Int)) (j : Nat) (x : Int), (hs.filterMap id).Nodup → some x ∉ hs → ((hs.set j (some x)).filterMap id).Nodup
  | [], j, x, h, hx => by simp
  | o :: hs, 0, x, h, hx => by
    rw [List.set_cons_zero, List.filterMap_cons]
    show (x :: hs.filterMap id).Nodup
    rw [List.nodup_cons]
    refine ⟨fun h2 => hx (List.mem_cons_of_mem _ (mem_dial.mp h2)), ?_⟩
    rw [List.filterMap_cons] at h
    cases o with
    | none => exact h
    | some y => exact (List.nodup_cons.mp h).2
  | o :: hs, j + 1, x, h, hx => by
    rw [List.set_cons_succ, List.filterMap_cons]
    have hx' : some x ∉ hs := fun h2 => hx (List.mem_cons_of_mem _ h2)
    rw [List.filterMap_cons] at h
    cases o with
    | none => exact set_nodup hs j x h hx'
    | some y =>
      have h' := List.nodup_cons.mp h
      show (y :: (hs.set j (some x)).filterMap id).Nodup
      rw [List.nodup_cons]
      refine ⟨fun h2 => ?_, set_nodup hs j x h'.2 hx'⟩
      rcases List.mem_or_eq_of_mem_set (mem_dial.mp h2) with h3 | h3
      · exact h'.1 (mem_dial.mpr h3)
      · have : y = x := Option.some.inj h3
        subst this
        exact hx (by simp)
theorem ask_here (d : Dl) (x : Int) : (d.ask x).1.here = if some x ∈ d.here then d.here else d.here.set d.spin.2.1 (some x) := by
  unfold Dl.ask
  split <;> rfl
theorem dialW_way {n : Nat} (n0 : 0 < n) (n8 : n ≤ 8) (row : List Int) : Way n row (dialW n row) := by
  have wf : ∀ i, (endAll (Dl.new n) (row.take i)).Wf n := fun i => endAll_wf _ _ (Dl.Wf.new n0 n8)
  refine ⟨fun i => ?_, fun i _ => ?_, ?_, fun i x hx y hy => ?_, fun i x hx => ?_⟩
  · induction i with
    | zero =>
      intro _
      have e : dialW n row 0 = [] := by unfold dialW; simp [endAll, Dl.new]
      rw [e]
      exact List.nodup_nil
    | succ i ih =>
      intro hi
      obtain ⟨x, hx⟩ : ∃ x, row[i]? = some x := ⟨row[i], List.getElem?_eq_getElem (by omega)⟩
      have ih := ih (by omega)
      unfold dialW at ih ⊢
      rw [take_snoc hx, endAll_snoc, ask_here]
      split
      · exact ih
      · exact set_nodup _ _ _ ih ‹_›
  · unfold dialW
    have := (wf i).hl
    exact Nat.le_trans (List.length_filterMap_le _ _) (by omega)
  · unfold dialW
    simp [endAll, Dl.new]
  · unfold dialW at hy ⊢
    rw [take_snoc hx, endAll_snoc, ask_here] at hy
    rw [mem_dial] at hy ⊢
    split at hy
    · exact .inr hy
    · rcases List.mem_or_eq_of_mem_set hy with h | h
      · exact .inr h
      · exact .inl (Option.some.inj h)
  · unfold dialW
    rw [take_snoc hx, endAll_snoc, ask_here, mem_dial]
    split
    · assumption
    · have w := wf i
      have hs := (spin_facts n0 _ (endAll (Dl.new n) (row.take i)).seen (endAll (Dl.new n) (row.take i)).hand (Nat.le_refl _) w.sl w.hd).2.1
      have hlt : (endAll (Dl.new n) (row.take i)).spin.2.1 < (endAll (Dl.new n) (row.take i)).here.length := by
        rw [w.hl]
        show (Cw.spin _ _ _ _).2.1 < n
        rw [w.hl]
        exact hs
      exact List.mem_iff_getElem.mpr ⟨_, by rw [List.length_set]; exact hlt, List.getElem_set_self _⟩
theorem ruleW_way {n : Nat} (n0 : 0 < n) (n8 : n ≤ 8) (z : Str) (row : List Int) : Way n row (ruleW n z row) := by
  unfold ruleW
  split
  · exact dialW_way n0 n8 row
  · exact keepW_way n0 _ row
theorem lackB_take (n : Nat) (z : Str) (row : List Int) : ∀ i, i ≤ row.length → lackB n z (row.take i) = (List.range i).map (lackAt row (ruleW n z row))
  | 0, _ => by
    unfold lackB
    split <;> simp [askAll, keepAll]
  | i + 1, hi => by
    obtain ⟨x, hx⟩ : ∃ x, row[i]? = some x := ⟨row[i], List.getElem?_eq_getElem (by omega)⟩
    have hg : row.getD i 0 = x := by rw [List.getD_eq_getElem?_getD, hx]; rfl
    rw [List.range_succ, List.map_append, ← lackB_take n z row i (by omega), take_snoc hx]
    unfold lackB ruleW lackAt
    rw [List.map_cons, List.map_nil, hg]
    by_cases hz : z = Str.ofString "hand"
    · rw [if_pos hz, if_pos hz, if_pos hz, askAll_app, List.map_append]
      congr 1
      show [((endAll (Dl.new n) (row.take i)).ask x).2.lack] = _
      unfold dialW Dl.ask
      split
      · rename_i h; rw [decide_eq_false (fun h2 => h2 (mem_dial.mpr h))]
      · rename_i h
        show [true] = _
        have hn : ¬ x ∈ (endAll (Dl.new n) (row.take i)).here.filterMap id := fun h2 => h (mem_dial.mp h2)
        rw [decide_eq_true hn]
    · rw [if_neg hz, if_neg hz, if_neg hz, keepAll_app]
      rfl
theorem placesFrom_cnt : ∀ (i : Nat) (bs : List Bool), (placesFrom i bs).length = (bs.filter id).length
  | _, [] => rfl
  | i, b :: bs => by
    have := placesFrom_cnt (i + 1) bs
    cases b <;> simp [placesFrom, this]
theorem lacking_len (n : Nat) (z : Str) (row : List Int) : (places (lackB n z row)).length = lackN row (ruleW n z row) := by
  have h := lackB_take n z row row.length (Nat.le_refl _)
  rw [List.take_length] at h
  unfold places lackN
  rw [placesFrom_cnt, h, List.filter_map, List.length_map]
  rfl
theorem best_le_rule {n : Nat} (n0 : 0 < n) (n8 : n ≤ 8) (z : Str) (row : List Int) : bestN n row ≤ (places (lackB n z row)).length := by
  rw [lacking_len]
  exact best_least n0 (ruleW_way n0 n8 z row)
end Cw

namespace Cw
/-! the least paper: cuts of a row -/
theorem isFree_iff {ps : List Int} {e : Int × Int} : isFree ps e = true ↔ ∀ p ∈ ps, ¬ (e.1 < p ∧ p < e.2) := by
  unfold isFree
  rw [decide_eq_true_iff, List.filter_eq_nil_iff]
  simp
def btw (row : List Int) (low high : Nat) : Nat := ((spellsM row).filter fun e => decide ((low : Int) ≤ e.1 ∧ e.2 ≤ (high : Int))).length
inductive Path (r : Nat) (row : List Int) : Nat → Int → List Int → Prop
  | zero : Path r row 0 0 []
  | step {low high : Nat} {c : Int} {ps : List Int} : Path r row low c ps → low < high → high ≤ row.length →
      Path r row high (c + (btw row low high : Int) + (if high < row.length then (r : Int) - 1 else 0)) (ps ++ if high < row.length then [(high : Int)] else [])
structure PathOk (r : Nat) (row : List Int) (h : Nat) (c : Int) (ps : List Int) : Prop where
  up : ps.Pairwise (· < ·)
  mem : ∀ x ∈ ps, 1 ≤ x ∧ x ≤ (h : Int) ∧ x < (row.length : Int)
  last : 0 < h → h < row.length → (h : Int) ∈ ps
  nil : h = 0 → ps = []
  cost : c = (((spellsM row).filter fun e => decide (e.2 ≤ (h : Int)) && isFree ps e).length : Int) + ((r : Int) - 1) * (ps.length : Int)
theorem path_ok {r : Nat} {row : List Int} {h : Nat} {c : Int} {ps : List Int} (p : Path r row h c ps) : PathOk r row h c ps := by
  induction p with
  | zero =>
    refine ⟨List.Pairwise.nil, by simp, by omega, fun _ => rfl, ?_⟩
    have : (spellsM row).filter (fun e => decide (e.2 ≤ ((0 : Nat) : Int)) && isFree [] e) = [] := by
      rw [List.filter_eq_nil_iff]
      intro e he
      have := spellsTo_mem he
      simp
      omega
    rw [this]
    simp
  | @step low high c ps p hl hh ih =>
    obtain ⟨h1, h2, h3, h4, h5⟩ := ih
    refine ⟨?_, ?_, ?_, by omega, ?_⟩
    · split
      · rw [List.pairwise_append]
        refine ⟨h1, List.pairwise_singleton _ _, fun x hx y hy => ?_⟩
        rw [List.mem_singleton.mp hy]
        have := h2 x hx
        omega
      · rw [List.append_nil]
        exact h1
    · intro x hx
      rcases List.mem_append.mp hx with hx | hx
      · have := h2 x hx
        omega
      · split at hx
        · rw [List.mem_singleton.mp hx]
          omega
        · cases hx
    · intro _ hn
      rw [if_pos hn]
      simp
    · have e1 := filter_split (spellsM row) (fun e => decide (e.2 ≤ (high : Int)) && isFree (ps ++ if high < row.length then [(high : Int)] else []) e) (fun e => decide (e.2 ≤ (low : Int)))
      have tl : ∀ (e : Int × Int), e.2 ≤ (high : Int) → (isFree (ps ++ if high < row.length then [(high : Int)] else []) e = true ↔ isFree ps e = true) := by
        intro e he
        rw [isFree_iff, isFree_iff]
        constructor
        · intro hf p hp
          exact hf p (List.mem_append_left _ hp)
        · intro hf p hp
          rcases List.mem_append.mp hp with hp | hp
          · exact hf p hp
          · split at hp
            · rw [List.mem_singleton.mp hp]
              omega
            · cases hp
      have e2 : (spellsM row).filter (fun e => (decide (e.2 ≤ (high : Int)) && isFree (ps ++ if high < row.length then [(high : Int)] else []) e) && decide (e.2 ≤ (low : Int))) = (spellsM row).filter fun e => decide (e.2 ≤ (low : Int)) && isFree ps e := by
        refine List.filter_congr fun e he => ?_
        rw [Bool.eq_iff_iff]
        simp only [Bool.and_eq_true, decide_eq_true_eq]
        constructor
        · rintro ⟨⟨a, b⟩, d⟩
          exact ⟨d, (tl e a).mp b⟩
        · rintro ⟨a, b⟩
          exact ⟨⟨by omega, (tl e (by omega)).mpr b⟩, a⟩
      have e3 : (spellsM row).filter (fun e => (decide (e.2 ≤ (high : Int)) && isFree (ps ++ if high < row.length then [(high : Int)] else []) e) && !decide (e.2 ≤ (low : Int))) = (spellsM row).filter fun e => decide ((low : Int) ≤ e.1 ∧ e.2 ≤ (high : Int)) := by
        refine List.filter_congr fun e he => ?_
        have hm := spellsTo_mem he
        rw [Bool.eq_iff_iff]
        simp only [Bool.and_eq_true, decide_eq_true_eq, Bool.not_eq_true', decide_eq_false_iff_not]
        constructor
        · rintro ⟨⟨a, b⟩, d⟩
          refine ⟨?_, a⟩
          by_cases hz : low = 0
          · omega
          · have hin := h3 (by omega) (by omega)
            have := (isFree_iff.mp ((tl e a).mp b)) _ hin
            omega
        · rintro ⟨a, b⟩
          refine ⟨⟨b, (tl e b).mpr (isFree_iff.mpr fun p hp => ?_)⟩, by omega⟩
          have := h2 p hp
          omega
      rw [e2, e3] at e1
      have e4 : ((ps ++ if high < row.length then [(high : Int)] else []).length : Int) = (ps.length : Int) + (if high < row.length then 1 else 0) := by
        rw [List.length_append]
        split <;> simp
      rw [e1, e4, h5, Int.mul_add]
      unfold btw
      split <;> omega
/-- each rising list of places within the row is a way of cutting -/
theorem path_of {r : Nat} {row : List Int} : ∀ ps : List Int, ps.Pairwise (· < ·) → (∀ x ∈ ps, 1 ≤ x ∧ x < (row.length : Int)) → ∃ h c, Path r row h c ps ∧ h < max 1 row.length ∧ (∀ x ∈ ps, x ≤ (h : Int)) := by
  refine list_snoc_ind ?_ ?_
  · intro _ _
    exact ⟨0, 0, .zero, by omega, by simp⟩
  · intro ps x ih h1 h2
    rw [List.pairwise_append] at h1
    obtain ⟨h, c, p, hlt, hle⟩ := ih h1.1 fun y hy => h2 y (List.mem_append_left _ hy)
    have hx := h2 x (by simp)
    have hk := path_ok p
    have hlx : (h : Int) < x := by
      by_cases hz : h = 0
      · omega
      · exact h1.2.2 _ (hk.last (by omega) (by omega)) x (by simp)
    obtain ⟨k, rfl⟩ : ∃ k : Nat, x = (k : Int) := ⟨x.toNat, by omega⟩
    have p2 := p.step (high := k) (by omega) (by omega)
    rw [if_pos (show k < row.length by omega), if_pos (show k < row.length by omega)] at p2
    exact ⟨k, _, p2, by omega, fun y hy => by
      rcases List.mem_append.mp hy with hy | hy
      · have := hle y hy
        omega
      · rw [List.mem_singleton.mp hy]
        omega⟩
theorem path_full {r : Nat} {row : List Int} (hn : row ≠ []) {ps : List Int} (h1 : ps.Pairwise (· < ·)) (h2 : ∀ x ∈ ps, 1 ≤ x ∧ x < (row.length : Int)) : ∃ c, Path r row row.length c ps := by
  obtain ⟨h, c, p, hlt, _⟩ := path_of (r := r) ps h1 h2
  have : 0 < row.length := List.length_pos_iff.mpr hn
  have p2 := p.step (high := row.length) (by omega) (Nat.le_refl _)
  rw [if_neg (Nat.lt_irrefl _), if_neg (Nat.lt_irrefl _), List.append_nil] at p2
  exact ⟨_, p2⟩
theorem path_shown {r : Nat} {row : List Int} {c : Int} {ps : List Int} (p : Path r row row.length c ps) : PapOk row ps ∧ shownM (r : Int) row ps = (row.length : Int) - c := by
  obtain ⟨h1, h2, h3, h4, h5⟩ := path_ok p
  refine ⟨⟨h1, fun x hx => by have := h2 x hx; omega⟩, ?_⟩
  have e : (spellsM row).filter (fun e => decide (e.2 ≤ (row.length : Int)) && isFree ps e) = (spellsM row).filter (isFree ps) := by
    refine List.filter_congr fun e he => ?_
    have := spellsTo_mem he
    rw [decide_eq_true (by omega), Bool.true_and]
  rw [e] at h5
  unfold shownM
  omega
end Cw
namespace Cw
/-- what stands behind known[h] -/
def Known (r : Nat) (row : List Int) (h : Nat) (e : Int × List Int) : Prop := Path r row h e.1 e.2 ∧ ∀ c ps, Path r row h c ps → e.1 ≤ c
theorem known_zero (r : Nat) (row : List Int) : Known r row 0 (0, []) := ⟨.zero, fun c ps p => by
  have h := path_ok p
  have e : (spellsM row).filter (fun e => decide (e.2 ≤ ((0 : Nat) : Int)) && isFree ps e) = [] := by
    rw [List.filter_eq_nil_iff]
    intro e he
    have := spellsTo_mem he
    simp
    omega
  rw [h.cost, h.nil rfl]
  rw [h.nil rfl] at e
  rw [e]
  simp⟩
/-- the cut ahead of high is at low -/
def edge (r : Nat) (row : List Int) (e : Int × List Int) (low high : Nat) : Int × List Int := (e.1 + (btw row low high : Int) + (if high < row.length then (r : Int) - 1 else 0), e.2 ++ if high < row.length then [(high : Int)] else [])
theorem known_step {r : Nat} {row : List Int} {high : Nat} (h0 : 0 < high) (hh : high ≤ row.length) {kn : List (Int × List Int)} (hl : kn.length = high) (hk : ∀ (i : Nat) (e : Int × List Int), kn[i]? = some e → Known r row i e) {e : Int × List Int}
    (he : ∃ (i : Nat) (k : Int × List Int), kn[i]? = some k ∧ e = edge r row k i high) (hm : ∀ (i : Nat) (k : Int × List Int), kn[i]? = some k → e.1 ≤ (edge r row k i high).1) : Known r row high e := by
  constructor
  · obtain ⟨i, k, hi, rfl⟩ := he
    have hil := (List.getElem?_eq_some_iff.mp hi).1
    exact (hk i k hi).1.step (by omega) hh
  · intro c ps p
    cases p with
    | zero => omega
    | @step low _ c' ps' p' hl' _ =>
      obtain ⟨k, hi⟩ : ∃ k, kn[low]? = some k := ⟨kn[low], List.getElem?_eq_getElem (by omega)⟩
      have h1 := hm low k hi
      have h2 := (hk low k hi).2 _ _ p'
      unfold edge at h1
      simp only at h1
      omega
/-- the least paper shows what the best one lacks -/
theorem paper_best {r : Nat} (r0 : 0 < r) {row : List Int} {e : Int × List Int} (h : Known r row row.length e) : PapOk row e.2 ∧ (∀ x ∈ e.2, 1 ≤ x) ∧ shownM (r : Int) row e.2 = (bestN r row : Int) := by
  obtain ⟨h1, h2⟩ := path_shown h.1
  refine ⟨h1, fun x hx => ((path_ok h.1).mem x hx).1, ?_⟩
  have h3 := shown_le r0 row e.2
  obtain ⟨ps, p1, p2, p3⟩ := strong r0 row
  by_cases hn : row = []
  · subst hn
    have e0 : bestN r [] = 0 := rfl
    have : e.2 = [] := (path_ok h.1).nil rfl
    rw [this, e0]
    simp [shownM, spellsM, spellsTo]
  · obtain ⟨c, hc⟩ := path_full (r := r) hn p1.1 (fun x hx => ⟨p2 x hx, (p1.2 x hx).2⟩)
    have h4 := h.2 c ps hc
    have h5 := (path_shown hc).2
    omega
end Cw
namespace Cw
open PySem L2
/-- xs are refs to tuples of a whole number and a list of whole numbers, all new beside H and none of A -/
def CutsAt (A : List Addr) (H H' : Hp) (xs : List V) (kn : List (Int × List Int)) : Prop := xs.length = kn.length ∧ ∀ (i : Nat) (e : Int × List Int), kn[i]? = some e → ∃ t l, xs[i]? = some (.ref t) ∧ H t = none ∧ H l = none ∧ t ∉ A ∧ l ∉ A ∧
  H' t = some (.tup [.int e.1, .ref l]) ∧ H' l = some (.lst (e.2.map V.int))
theorem CutsAt.nil {A : List Addr} {H H' : Hp} : CutsAt A H H' [] [] := ⟨rfl, fun i e h => by simp at h⟩
theorem CutsAt.fr {A W : List Addr} {H H' H2 : Hp} {xs : List V} {kn : List (Int × List Int)} (h : CutsAt A H H' xs kn) (f : Fr W H' H2) (hw : ∀ w ∈ W, w ∈ A) : CutsAt A H H2 xs kn := ⟨h.1, fun i e he => by
  obtain ⟨t, l, h1, h2, h3, h4, h5, h6, h7⟩ := h.2 i e he
  exact ⟨t, l, h1, h2, h3, h4, h5, f.get h6 (fun m => h4 (hw _ m)), f.get h7 (fun m => h5 (hw _ m))⟩⟩
theorem CutsAt.fr0 {A : List Addr} {H H' H2 : Hp} {xs : List V} {kn : List (Int × List Int)} (h : CutsAt A H H' xs kn) (f : Fr [] H' H2) : CutsAt A H H2 xs kn := h.fr f (by simp)
/-- a free place may be kept out of it -/
theorem CutsAt.add {A : List Addr} {H H' : Hp} {xs : List V} {kn : List (Int × List Int)} {p : Addr} (h : CutsAt A H H' xs kn) (hp : H' p = none) : CutsAt (p :: A) H H' xs kn := ⟨h.1, fun i e he => by
  obtain ⟨t, l, h1, h2, h3, h4, h5, h6, h7⟩ := h.2 i e he
  refine ⟨t, l, h1, h2, h3, fun m => ?_, fun m => ?_, h6, h7⟩
  · rcases List.mem_cons.mp m with m | m
    · rw [m, hp] at h6; cases h6
    · exact h4 m
  · rcases List.mem_cons.mp m with m | m
    · rw [m, hp] at h7; cases h7
    · exact h5 m⟩
theorem CutsAt.less {A B : List Addr} {H H' : Hp} {xs : List V} {kn : List (Int × List Int)} (h : CutsAt A H H' xs kn) (hb : ∀ x ∈ B, x ∈ A) : CutsAt B H H' xs kn := ⟨h.1, fun i e he => by
  obtain ⟨t, l, h1, h2, h3, h4, h5, h6, h7⟩ := h.2 i e he
  exact ⟨t, l, h1, h2, h3, fun m => h4 (hb _ m), fun m => h5 (hb _ m), h6, h7⟩⟩
theorem CutsAt.base {A W : List Addr} {H0 H H' : Hp} {xs : List V} {kn : List (Int × List Int)} (h : CutsAt A H H' xs kn) (f : Fr W H0 H) : CutsAt A H0 H' xs kn := ⟨h.1, fun i e he => by
  obtain ⟨t, l, h1, h2, h3, h4⟩ := h.2 i e he
  exact ⟨t, l, h1, f.2 t h2, f.2 l h3, h4⟩⟩
theorem CutsAt.snoc {A : List Addr} {H H' : Hp} {xs : List V} {kn : List (Int × List Int)} {t l : Addr} {c : Int} {ps : List Int} (h : CutsAt A H H' xs kn) (ht : H t = none) (hl : H l = none) (at' : t ∉ A) (al : l ∉ A) (h1 : H' t = some (.tup [.int c, .ref l])) (h2 : H' l = some (.lst (ps.map V.int))) :
    CutsAt A H H' (xs ++ [.ref t]) (kn ++ [(c, ps)]) := ⟨by simp [h.1], fun i e he => by
  rcases Nat.lt_or_ge i kn.length with lt | ge
  · rw [List.getElem?_append_left lt] at he
    rw [List.getElem?_append_left (by rw [h.1]; exact lt)]
    exact h.2 i e he
  · rw [List.getElem?_append_right ge] at he
    have hi : i - kn.length = 0 := by
      have := (List.getElem?_eq_some_iff.mp he).1
      simp at this
      omega
    rw [hi] at he
    obtain rfl := Option.some.inj he
    exact ⟨t, l, by rw [List.getElem?_append_right (by rw [h.1]; exact ge), h.1, hi]; rfl, ht, hl, at', al, h1, h2⟩⟩
def cutD (e : Int × List Int) : PyData := .tuple [.int e.1, .list (e.2.map .int)]
theorem CutsAt.dp {K : PySem.W.Frag} {A : List Addr} {H H' : Hp} : ∀ {xs : List V} {kn : List (Int × List Int)}, CutsAt A H H' xs kn → DpAll K H' xs (kn.map cutD)
  | [], [], _ => .nil
  | [], _ :: _, h => by have := h.1; simp at this
  | _ :: _, [], h => by have := h.1; simp at this
  | x :: xs, e :: kn, h => by
    obtain ⟨t, l, h1, h2, h3, h4, h5, h6, h7⟩ := h.2 0 e rfl
    have hx : x = .ref t := Option.some.inj h1
    subst hx
    exact .cons (.tup (SqT.of h6) (.cons (.int _) (.cons (.lst (SqL.of h7) (dp_ints _)) .nil))) (CutsAt.dp ⟨by have := h.1; simpa using this, fun i e' he => h.2 (i + 1) e' he⟩)
end Cw
namespace Cw
open PySem L2
section
open PySem.W
theorem minOf_cut (x : Int × List Int) : ∀ xs : List (Int × List Int), minOf x xs ∈ x :: xs ∧ ∀ y ∈ x :: xs, (minOf x xs).1 ≤ y.1 := by
  have lt1 : ∀ a b : Int × List Int, DatumOrd.lt a b = true → a.1 ≤ b.1 := by
    intro a b
    show (if a.1 = b.1 then DatumOrd.lt a.2 b.2 else decide (a.1 < b.1)) = true → _
    split
    · omega
    · intro h
      have := of_decide_eq_true h
      omega
  have lt2 : ∀ a b : Int × List Int, ¬ DatumOrd.lt a b = true → b.1 ≤ a.1 := by
    intro a b
    show ¬ (if a.1 = b.1 then DatumOrd.lt a.2 b.2 else decide (a.1 < b.1)) = true → _
    split
    · omega
    · intro h
      have : ¬ a.1 < b.1 := fun z => h (decide_eq_true z)
      omega
  intro xs
  unfold minOf
  induction xs generalizing x with
  | nil => exact ⟨List.mem_singleton.mpr rfl, fun y hy => by rw [List.mem_singleton.mp hy]; exact Int.le_refl _⟩
  | cons z xs ih =>
    rw [List.foldl_cons]
    by_cases h : DatumOrd.lt z x = true
    · rw [if_pos h]
      obtain ⟨h1, h2⟩ := ih z
      have h3 := lt1 z x h
      refine ⟨by simp only [List.mem_cons] at h1 ⊢; exact .inr h1, fun y hy => ?_⟩
      rcases List.mem_cons.mp hy with e | hy
      · subst e
        have := h2 z (by simp)
        omega
      · exact h2 y hy
    · rw [if_neg h]
      obtain ⟨h1, h2⟩ := ih x
      have h3 := lt2 z x h
      refine ⟨by simp only [List.mem_cons] at h1 ⊢; rcases h1 with h1 | h1 <;> simp [h1], fun y hy => ?_⟩
      rcases List.mem_cons.mp hy with e | hy
      · subst e; exact h2 y (by simp)
      · rcases List.mem_cons.mp hy with e | hy
        · subst e
          have := h2 x (by simp)
          omega
        · exact h2 y (List.mem_cons_of_mem _ hy)
theorem lay_cuts : ∀ ps : List (Int × List Int), PyData.canLayAll0 (ps.map cutD) = true
  | [] => rfl
  | e :: r => by simp [PyData.canLayAll0, cutD, PyData.canLay0, lay_cuts r, lay_ints]
theorem depth_cuts : ∀ ps : List (Int × List Int), PyData.depthAll (ps.map cutD) ≤ 40
  | [] => by simp [PyData.depthAll]
  | e :: r => by
    have := depth_cuts r
    have := depth_ints e.2
    simp [PyData.depthAll, cutD, PyData.depth] at *
    omega
theorem w_minC {K : PySem.W.Frag} {A : List Addr} {H0 H : Hp} {Q : VK} {a : Addr} {xs : List V} {k : Int × List Int} {ks : List (Int × List Int)} (h : SqL K H a xs) (hd : CutsAt A H0 H xs (k :: ks))
    (q : ∀ (i : Nat) v, xs[i]? = some v → (k :: ks)[i]? = some (minOf k ks) → Q v H) : rMinD K [.ref a] H Q := by
  refine ⟨a, xs, cutD k, ks.map cutD, rfl, h, hd.dp, alikeAll_datum (k :: ks), depth_cuts (k :: ks), lay_cuts (k :: ks), fun i v hv hi => ?_⟩
  have e1 : minD (cutD k) (ks.map cutD) = cutD (minOf k ks) := minD_map k ks
  rw [e1] at hi
  have hi' : ((k :: ks).map cutD)[i]? = some (cutD (minOf k ks)) := hi
  rw [List.getElem?_map] at hi'
  obtain ⟨e, he, hce⟩ := Option.map_eq_some_iff.mp hi'
  have : e = minOf k ks := by
    have inj : ∀ l m : List Int, l.map PyData.int = m.map PyData.int → l = m := fun l m h => by
      have := congrArg (List.map fun d => match d with | .int n => n | _ => 0) h
      simpa [List.map_map, Function.comp_def] using this
    unfold cutD at hce
    injection hce with h1
    injection h1 with h2 h3
    injection h3 with h4 _
    injection h2 with h2
    injection h4 with h4
    exact Prod.ext h2 (inj _ _ h4)
  rw [this] at he
  exact q i v hv he
end
end Cw
namespace Cw
def edges (r : Nat) (row : List Int) (kn : List (Int × List Int)) (high j : Nat) : List (Int × List Int) := (List.range j).map fun i => edge r row (kn.getD i (0, [])) i high
theorem edges_succ (r : Nat) (row : List Int) (kn : List (Int × List Int)) (high j : Nat) : edges r row kn high (j + 1) = edges r row kn high j ++ [edge r row (kn.getD j (0, [])) j high] := by
  unfold edges
  rw [List.range_succ, List.map_append]
  rfl
theorem edges_len (r : Nat) (row : List Int) (kn : List (Int × List Int)) (high j : Nat) : (edges r row kn high j).length = j := by
  unfold edges
  rw [List.length_map, List.length_range]
theorem known_min {r : Nat} {row : List Int} {high : Nat} (h0 : 0 < high) (hh : high ≤ row.length) {kn : List (Int × List Int)} (hl : kn.length = high) (hk : ∀ (i : Nat) (e : Int × List Int), kn[i]? = some e → Known r row i e) {k : Int × List Int} {ks : List (Int × List Int)}
    (he : edges r row kn high high = k :: ks) : Known r row high (PySem.W.minOf k ks) := by
  obtain ⟨h1, h2⟩ := minOf_cut k ks
  rw [← he] at h1 h2
  have get : ∀ (i : Nat) (e : Int × List Int), kn[i]? = some e → kn.getD i (0, []) = e := fun i e h => by rw [List.getD_eq_getElem?_getD, h]; rfl
  refine known_step h0 hh hl hk ?_ ?_
  · unfold edges at h1
    obtain ⟨i, hi, h3⟩ := List.mem_map.mp h1
    rw [List.mem_range] at hi
    have hi' : kn[i]? = some kn[i] := List.getElem?_eq_getElem (by omega)
    exact ⟨i, _, hi', by rw [← h3, get i _ hi']⟩
  · intro i e hi
    have hil := (List.getElem?_eq_some_iff.mp hi).1
    have := h2 (edge r row e i high) (List.mem_map.mpr ⟨i, List.mem_range.mpr (by omega), by rw [get i e hi]⟩)
    exact this
end Cw

namespace Cw
open PySem
/-! the fewest lacks of all ways, gone through by sets of pages kept -/
/-- a way's first steps: what is kept behind i asks, and how many lacked -/
inductive Goes (r : Nat) (row : List Int) : Nat → List Int → Nat → Prop
  | zero : Goes r row 0 [] 0
  | hit {i : Nat} {K : List Int} {m : Nat} {x : Int} : Goes r row i K m → row[i]? = some x → x ∈ K → Goes r row (i + 1) K m
  | miss {i : Nat} {K L : List Int} {m : Nat} {x : Int} : Goes r row i K m → row[i]? = some x → x ∉ K → L.Nodup → L.length ≤ r → x ∈ L → (∀ y ∈ L, y = x ∨ y ∈ K) → Goes r row (i + 1) L (m + 1)
structure WayTo (r : Nat) (row : List Int) (i : Nat) (K : List Int) (m : Nat) (S : Nat → List Int) : Prop where
  nd : ∀ j, j ≤ i → (S j).Nodup
  le : ∀ j, j ≤ i → (S j).length ≤ r
  zero : S 0 = []
  step : ∀ j x, j < i → row[j]? = some x → ∀ y ∈ S (j + 1), y = x ∨ y ∈ S j
  has : ∀ j x, j < i → row[j]? = some x → x ∈ S (j + 1)
  last : S i = K
  cnt : ((List.range i).filter (lackAt row S)).length = m
theorem wayTo_more {r : Nat} {row : List Int} {i : Nat} {K L : List Int} {m m' : Nat} {x : Int} {S : Nat → List Int} (w : WayTo r row i K m S) (hx : row[i]? = some x) (nd : L.Nodup) (le : L.length ≤ r) (hL : ∀ y ∈ L, y = x ∨ y ∈ K) (hxL : x ∈ L)
    (hm : m' = m + if x ∈ K then 0 else 1) : ∃ S', WayTo r row (i + 1) L m' S' := by
  obtain ⟨w1, w2, w3, w4, w5, w6, w7⟩ := w
  have old : ∀ j, j ≤ i → (if j ≤ i then S j else L) = S j := fun j h => if_pos h
  have new : (if i + 1 ≤ i then S (i + 1) else L) = L := if_neg (by omega)
  refine ⟨fun j => if j ≤ i then S j else L, fun j hj => ?_, fun j hj => ?_, ?_, fun j y hj hy z hz => ?_, fun j y hj hy => ?_, new, ?_⟩
  · rcases Nat.lt_or_ge i j with h | h
    · simp only [if_neg (show ¬ j ≤ i by omega)]; exact nd
    · simp only [if_pos h]; exact w1 j h
  · rcases Nat.lt_or_ge i j with h | h
    · simp only [if_neg (show ¬ j ≤ i by omega)]; exact le
    · simp only [if_pos h]; exact w2 j h
  · show (if 0 ≤ i then S 0 else L) = []
    rw [if_pos (Nat.zero_le i)]; exact w3
  · have hz : z ∈ (if j + 1 ≤ i then S (j + 1) else L) := hz
    show z = y ∨ z ∈ (if j ≤ i then S j else L)
    rcases Nat.lt_or_ge j i with h | h
    · rw [old _ (by omega)] at hz
      rw [old j (by omega)]
      exact w4 j y h hy z hz
    · have : j = i := by omega
      subst this
      rw [new] at hz
      rw [old j (Nat.le_refl _)]
      rw [hx] at hy
      obtain rfl := Option.some.inj hy
      rw [w6]
      exact hL z hz
  · rcases Nat.lt_or_ge j i with h | h
    · simp only [old (j + 1) (by omega)]
      exact w5 j y h hy
    · have : j = i := by omega
      subst this
      simp only [new]
      rw [hx] at hy
      obtain rfl := Option.some.inj hy
      exact hxL
  · rw [List.range_succ, List.filter_append, List.length_append, hm]
    congr 1
    · rw [← w7]
      congr 1
      refine List.filter_congr fun j hj => ?_
      rw [List.mem_range] at hj
      unfold lackAt
      simp only [old j (by omega)]
    · have hg : row.getD i 0 = x := by rw [List.getD_eq_getElem?_getD, hx]; rfl
      by_cases h : x ∈ K
      · rw [if_pos h, List.filter_cons_of_neg]
        · rfl
        · unfold lackAt
          simp only [old i (Nat.le_refl _)]
          rw [w6, hg]
          simpa using h
      · rw [if_neg h, List.filter_cons_of_pos]
        · rfl
        · unfold lackAt
          simp only [old i (Nat.le_refl _)]
          rw [w6, hg]
          simpa using h
theorem goes_ok {r : Nat} {row : List Int} {i : Nat} {K : List Int} {m : Nat} (g : Goes r row i K m) : K.Nodup ∧ K.length ≤ r ∧ ∃ S, WayTo r row i K m S := by
  induction g with
  | zero => exact ⟨List.nodup_nil, Nat.zero_le _, fun _ => [], fun _ _ => List.nodup_nil, fun _ _ => Nat.zero_le _, rfl, fun j _ h => by omega, fun j _ h => by omega, rfl, rfl⟩
  | hit g hx hxK ih =>
    obtain ⟨nd, le, S, w⟩ := ih
    exact ⟨nd, le, wayTo_more w hx nd le (fun y hy => .inr hy) hxK (by rw [if_pos hxK]; rfl)⟩
  | miss g hx hxK nd2 le2 hxL hL ih =>
    obtain ⟨nd, le, S, w⟩ := ih
    exact ⟨nd2, le2, wayTo_more w hx nd2 le2 hL hxL (by rw [if_neg hxK])⟩
theorem goes_best {r : Nat} (r0 : 0 < r) {row : List Int} {K : List Int} {m : Nat} (g : Goes r row row.length K m) : bestN r row ≤ m := by
  obtain ⟨_, _, S, w⟩ := goes_ok g
  have e : lackN row S = m := w.cnt
  rw [← e]
  refine best_least r0 ⟨fun i h => w.nd i h, fun i h => w.le i h, w.zero, fun i x hx => w.step i x (List.getElem?_eq_some_iff.mp hx).1 hx, fun i x hx => w.has i x (List.getElem?_eq_some_iff.mp hx).1 hx⟩
/-! what is known, by sets -/
abbrev Kn : Type := List (List Int × Int)
def look (kn : Kn) (k : List Int) : Option Int := (kn.find? fun e => decide (e.1 = k)).map (·.2)
def put (kn : Kn) (k : List Int) (v : Int) : Kn := if (look kn k).isSome then kn.map fun e => if e.1 = k then (e.1, v) else e else kn ++ [(k, v)]
def least (a b : Int) : Int := if b < a then b else a
def relax (kn : Kn) (k : List Int) (c : Int) : Kn := put kn k (least c ((look kn k).getD c))
def succs (r : Nat) (x : Int) (K : List Int) : List (List Int) := if x ∈ K then [K] else if K.length = r then K.map fun g => sorts (K.filter (fun y => decide (y ≠ g)) ++ [x]) else [sorts (K ++ [x])]
def costs (x : Int) (e : List Int × Int) : Int := e.2 + if x ∈ e.1 then 0 else 1
def fewE (r : Nat) (x : Int) (lt : Kn) (e : List Int × Int) : Kn := (succs r x e.1).foldl (fun lt o => relax lt o (costs x e)) lt
def fewS (r : Nat) (kn : Kn) (x : Int) : Kn := kn.foldl (fewE r x) []
def fewM (r : Nat) (row : List Int) : Kn := row.foldl (fewS r) [([], 0)]
theorem look_nil (k : List Int) : look [] k = none := rfl
theorem look_mem {kn : Kn} {k : List Int} {v : Int} (h : look kn k = some v) : (k, v) ∈ kn := by
  unfold look at h
  obtain ⟨e, he, rfl⟩ := Option.map_eq_some_iff.mp h
  have := List.find?_some he
  have hk : e.1 = k := of_decide_eq_true this
  rw [← hk]
  exact List.mem_of_find?_eq_some he
theorem look_some {kn : Kn} {e : List Int × Int} (h : e ∈ kn) : (look kn e.1).isSome = true := by
  unfold look
  rw [Option.isSome_map, List.find?_isSome]
  exact ⟨e, h, by simp⟩
theorem look_put {kn : Kn} {k : List Int} {v : Int} (k' : List Int) : look (put kn k v) k' = if k = k' then some v else look kn k' := by
  unfold put
  by_cases h : (look kn k).isSome = true
  · rw [if_pos h]
    have gen : ∀ l : Kn, look (l.map fun e => if e.1 = k then (e.1, v) else e) k' = if k = k' then (look l k).map fun _ => v else look l k' := by
      intro l
      induction l with
      | nil => by_cases e : k = k' <;> simp [look, e]
      | cons a l ih =>
        unfold look at ih ⊢
        rw [List.map_cons, List.find?_cons, List.find?_cons, List.find?_cons]
        by_cases ha : a.1 = k
        · by_cases e : k = k'
          · subst e
            simp [ha]
          · have h2 : ¬ a.1 = k' := fun z => e (ha.symm.trans z)
            rw [if_neg e] at ih ⊢
            simp only [ha, if_true, decide_eq_true_eq]
            rw [decide_eq_false (show ¬ k = k' from e)]
            exact ih
        · by_cases e : k = k'
          · subst e
            rw [if_pos rfl] at ih ⊢
            simp only [if_neg ha, decide_eq_false ha]
            exact ih
          · rw [if_neg e] at ih ⊢
            simp only [if_neg ha]
            cases decide (a.1 = k') with
            | true => rfl
            | false => exact ih
    rw [gen]
    by_cases e : k = k'
    · rw [if_pos e, if_pos e]
      cases hl : look kn k with
      | none => rw [hl] at h; cases h
      | some w => rfl
    · rw [if_neg e, if_neg e]
  · rw [if_neg h]
    unfold look at h ⊢
    rw [List.find?_append]
    by_cases e : k = k'
    · subst e
      rw [if_pos rfl]
      cases hf : kn.find? fun e => decide (e.1 = k) with
      | none => simp [hf]
      | some w => rw [hf] at h; exact absurd rfl h
    · rw [if_neg e]
      cases hf : kn.find? fun e => decide (e.1 = k') with
      | none => simp [e]
      | some w => rfl
theorem keys_put (kn : Kn) (k : List Int) (v : Int) : (put kn k v).map (·.1) = if (look kn k).isSome then kn.map (·.1) else kn.map (·.1) ++ [k] := by
  unfold put
  split
  · rw [List.map_map]
    refine List.map_congr_left fun e _ => ?_
    simp only [Function.comp]
    split <;> rfl
  · rw [List.map_append]; rfl
structure KnOk (r : Nat) (row : List Int) (i : Nat) (kn : Kn) : Prop where
  keys : (kn.map (·.1)).Nodup
  good : ∀ e ∈ kn, e.1.Pairwise (· < ·) ∧ (∀ y ∈ e.1, 0 ≤ y ∧ y < 12) ∧ ∃ m : Nat, e.2 = (m : Int) ∧ Goes r row i e.1 m
theorem look_of_mem {kn : Kn} (nd : (kn.map (·.1)).Nodup) {e : List Int × Int} (h : e ∈ kn) : look kn e.1 = some e.2 := by
  induction kn with
  | nil => cases h
  | cons a l ih =>
    rw [List.map_cons, List.nodup_cons] at nd
    unfold look
    rw [List.find?_cons]
    rcases List.mem_cons.mp h with h | h
    · subst h; simp
    · have : ¬ a.1 = e.1 := fun z => nd.1 (by rw [z]; exact List.mem_map.mpr ⟨e, h, rfl⟩)
      rw [decide_eq_false this]
      exact ih nd.2 h
theorem put_mem {kn : Kn} {k : List Int} {v : Int} {e : List Int × Int} (h : e ∈ put kn k v) : e = (k, v) ∨ e ∈ kn := by
  unfold put at h
  split at h
  · obtain ⟨a, ha, rfl⟩ := List.mem_map.mp h
    split
    · rename_i hk; exact .inl (by rw [hk])
    · exact .inr ha
  · rcases List.mem_append.mp h with h | h
    · exact .inr h
    · exact .inl (List.mem_singleton.mp h)
theorem put_keys_nodup {kn : Kn} (nd : (kn.map (·.1)).Nodup) (k : List Int) (v : Int) : ((put kn k v).map (·.1)).Nodup := by
  rw [keys_put]
  split
  · exact nd
  · rename_i h
    rw [List.nodup_append]
    refine ⟨nd, by simp, fun a ha b hb e => ?_⟩
    rw [List.mem_singleton.mp hb] at e
    obtain ⟨c, hc, rfl⟩ := List.mem_map.mp ha
    exact h (by rw [← e]; exact look_some hc)
theorem relax_ok {r : Nat} {row : List Int} {i : Nat} {kn : Kn} (ok : KnOk r row i kn) {k : List Int} {m : Nat} (h1 : k.Pairwise (· < ·)) (h2 : ∀ y ∈ k, 0 ≤ y ∧ y < 12) (g : Goes r row i k m) : KnOk r row i (relax kn k (m : Int)) := by
  refine ⟨put_keys_nodup ok.keys _ _, fun e he => ?_⟩
  rcases put_mem he with h | h
  · subst h
    refine ⟨h1, h2, ?_⟩
    unfold least
    split
    · cases hl : look kn k with
      | none => exact ⟨m, rfl, g⟩
      | some v => exact (ok.good _ (look_mem hl)).2.2
    · exact ⟨m, rfl, g⟩
  · exact ok.good e h
theorem relax_has (kn : Kn) (k : List Int) (c : Int) : ∃ v, look (relax kn k c) k = some v ∧ v ≤ c := by
  unfold relax
  rw [look_put, if_pos rfl]
  refine ⟨_, rfl, ?_⟩
  unfold least
  split <;> omega
theorem relax_keeps {kn : Kn} {k' : List Int} {v : Int} (h : look kn k' = some v) (k : List Int) (c : Int) : ∃ v', look (relax kn k c) k' = some v' ∧ v' ≤ v := by
  unfold relax
  rw [look_put]
  by_cases e : k = k'
  · subst e
    rw [if_pos rfl]
    refine ⟨_, rfl, ?_⟩
    rw [h]
    unfold least
    simp only [Option.getD_some]
    split <;> omega
  · rw [if_neg e]; exact ⟨v, h, Int.le_refl _⟩
theorem fold_keeps {k' : List Int} (c : Int) : ∀ (os : List (List Int)) (kn : Kn) (v : Int), look kn k' = some v → ∃ v', look (os.foldl (fun lt o => relax lt o c) kn) k' = some v' ∧ v' ≤ v
  | [], kn, v, h => ⟨v, h, Int.le_refl _⟩
  | o :: os, kn, v, h => by
    obtain ⟨v1, h1, l1⟩ := relax_keeps h o c
    obtain ⟨v2, h2, l2⟩ := fold_keeps c os _ v1 h1
    exact ⟨v2, h2, by omega⟩
theorem fold_has (c : Int) {o : List Int} : ∀ (os : List (List Int)) (kn : Kn), o ∈ os → ∃ v, look (os.foldl (fun lt o => relax lt o c) kn) o = some v ∧ v ≤ c
  | [], _, h => by cases h
  | a :: os, kn, h => by
    by_cases e : o = a
    · subst e
      obtain ⟨v1, h1, l1⟩ := relax_has kn o c
      obtain ⟨v2, h2, l2⟩ := fold_keeps c os _ v1 h1
      exact ⟨v2, h2, by omega⟩
    · exact fold_has c os _ ((List.mem_cons.mp h).resolve_left e)
theorem fewE_keeps {r : Nat} {x : Int} {k' : List Int} : ∀ (es : Kn) (lt : Kn) (v : Int), look lt k' = some v → ∃ v', look (es.foldl (fewE r x) lt) k' = some v' ∧ v' ≤ v
  | [], lt, v, h => ⟨v, h, Int.le_refl _⟩
  | e :: es, lt, v, h => by
    obtain ⟨v1, h1, l1⟩ := fold_keeps (costs x e) (succs r x e.1) lt v h
    obtain ⟨v2, h2, l2⟩ := fewE_keeps es _ v1 h1
    exact ⟨v2, h2, by omega⟩
theorem fewE_has {r : Nat} {x : Int} {e : List Int × Int} {o : List Int} : ∀ (es : Kn) (lt : Kn), e ∈ es → o ∈ succs r x e.1 → ∃ v, look (es.foldl (fewE r x) lt) o = some v ∧ v ≤ costs x e
  | [], _, h, _ => by cases h
  | a :: es, lt, h, ho => by
    by_cases q : e = a
    · subst q
      obtain ⟨v1, h1, l1⟩ := fold_has (costs x e) (succs r x e.1) lt ho
      obtain ⟨v2, h2, l2⟩ := fewE_keeps (r := r) (x := x) es _ v1 h1
      exact ⟨v2, h2, by omega⟩
    · exact fewE_has es _ ((List.mem_cons.mp h).resolve_left q) ho
theorem sorts_lt {l : List Int} (nd : l.Nodup) : (sorts l).Pairwise (· < ·) := by
  have h1 := sorts_sorted l
  have h2 : (sorts l).Nodup := (sorts_perm l).nodup_iff.mpr nd
  have : (sorts l).Pairwise fun a b => a ≤ b ∧ a ≠ b := h1.and h2
  exact this.imp fun h => by omega
theorem filter_ne {K : List Int} (nd : K.Nodup) (g : Int) : K.filter (fun y => decide (y ≠ g)) = K.erase g := (erase_filter nd).symm
theorem succs_good {r : Nat} (r0 : 0 < r) {row : List Int} {i : Nat} {x : Int} (hx : row[i]? = some x) (hx0 : 0 ≤ x ∧ x < 12) {K : List Int} {m : Nat} (h1 : K.Pairwise (· < ·)) (h2 : ∀ y ∈ K, 0 ≤ y ∧ y < 12) (g : Goes r row i K m) {o : List Int} (ho : o ∈ succs r x K) :
    o.Pairwise (· < ·) ∧ (∀ y ∈ o, 0 ≤ y ∧ y < 12) ∧ Goes r row (i + 1) o (m + if x ∈ K then 0 else 1) := by
  obtain ⟨nd, le, _⟩ := goes_ok g
  unfold succs at ho
  by_cases hm : x ∈ K
  · rw [if_pos hm] at ho ⊢
    rw [List.mem_singleton.mp ho]
    exact ⟨h1, h2, .hit g hx hm⟩
  · rw [if_neg hm] at ho ⊢
    by_cases hl : K.length = r
    · rw [if_pos hl] at ho
      obtain ⟨y, hy, rfl⟩ := List.mem_map.mp ho
      rw [filter_ne nd]
      have hmem : ∀ z, z ∈ sorts (K.erase y ++ [x]) ↔ z ∈ K.erase y ∨ z = x := fun z => by rw [mem_sorts]; simp
      have nd2 : (K.erase y ++ [x]).Nodup := by
        rw [List.nodup_append]
        refine ⟨nd.erase y, by simp, fun a ha b hb e => ?_⟩
        rw [List.mem_singleton.mp hb] at e
        subst e
        exact hm (List.mem_of_mem_erase ha)
      refine ⟨sorts_lt nd2, fun z hz => ?_, .miss g hx hm ((sorts_perm _).nodup_iff.mpr nd2) ?_ ((hmem x).mpr (.inr rfl)) fun z hz => ?_⟩
      · rcases (hmem z).mp hz with h | h
        · exact h2 z (List.mem_of_mem_erase h)
        · rw [h]; exact hx0
      · rw [sorts_len, List.length_append, List.length_erase_of_mem hy]
        simp
        omega
      · rcases (hmem z).mp hz with h | h
        · exact .inr (List.mem_of_mem_erase h)
        · exact .inl h
    · rw [if_neg hl] at ho
      rw [List.mem_singleton.mp ho]
      have hmem : ∀ z, z ∈ sorts (K ++ [x]) ↔ z ∈ K ∨ z = x := fun z => by rw [mem_sorts]; simp
      have nd2 : (K ++ [x]).Nodup := by
        rw [List.nodup_append]
        refine ⟨nd, by simp, fun a ha b hb e => ?_⟩
        rw [List.mem_singleton.mp hb] at e
        subst e
        exact hm ha
      refine ⟨sorts_lt nd2, fun z hz => ?_, .miss g hx hm ((sorts_perm _).nodup_iff.mpr nd2) ?_ ((hmem x).mpr (.inr rfl)) fun z hz => ?_⟩
      · rcases (hmem z).mp hz with h | h
        · exact h2 z h
        · rw [h]; exact hx0
      · rw [sorts_len, List.length_append]
        simp
        omega
      · rcases (hmem z).mp hz with h | h
        · exact .inr h
        · exact .inl h
theorem fold_ok {r : Nat} {row : List Int} {i m : Nat} : ∀ (os : List (List Int)) (lt : Kn), KnOk r row i lt → (∀ o ∈ os, o.Pairwise (· < ·) ∧ (∀ y ∈ o, 0 ≤ y ∧ y < 12) ∧ Goes r row i o m) → KnOk r row i (os.foldl (fun lt o => relax lt o (m : Int)) lt)
  | [], _, h, _ => h
  | o :: os, lt, h, hs => by
    obtain ⟨a, b, c⟩ := hs o (by simp)
    exact fold_ok os _ (relax_ok h a b c) fun o ho => hs o (List.mem_cons_of_mem _ ho)
theorem fewE_ok {r : Nat} (r0 : 0 < r) {row : List Int} {i : Nat} {x : Int} (hx : row[i]? = some x) (hx0 : 0 ≤ x ∧ x < 12) {lt : Kn} (h : KnOk r row (i + 1) lt) {e : List Int × Int} (he : e.1.Pairwise (· < ·) ∧ (∀ y ∈ e.1, 0 ≤ y ∧ y < 12) ∧ ∃ m : Nat, e.2 = (m : Int) ∧ Goes r row i e.1 m) (os : List (List Int)) (hos : ∀ o ∈ os, o ∈ succs r x e.1) :
    KnOk r row (i + 1) (os.foldl (fun lt o => relax lt o (costs x e)) lt) := by
  obtain ⟨h1, h2, m, hm, g⟩ := he
  have hc : costs x e = ((m + if x ∈ e.1 then 0 else 1 : Nat) : Int) := by
    unfold costs
    rw [hm]
    split <;> simp
  rw [hc]
  exact fold_ok _ lt h fun o ho => succs_good r0 hx hx0 h1 h2 g (hos o ho)
theorem fewS_ok {r : Nat} (r0 : 0 < r) {row : List Int} {i : Nat} {x : Int} (hx : row[i]? = some x) (hx0 : 0 ≤ x ∧ x < 12) : ∀ (es : Kn) (lt : Kn), KnOk r row (i + 1) lt → (∀ e ∈ es, e.1.Pairwise (· < ·) ∧ (∀ y ∈ e.1, 0 ≤ y ∧ y < 12) ∧ ∃ m : Nat, e.2 = (m : Int) ∧ Goes r row i e.1 m) → KnOk r row (i + 1) (es.foldl (fewE r x) lt)
  | [], _, h, _ => h
  | e :: es, lt, h, hs => fewS_ok r0 hx hx0 es _ (fewE_ok r0 hx hx0 h (hs e (by simp)) _ fun o ho => ho) fun e he => hs e (List.mem_cons_of_mem _ he)
theorem kn_nil (r : Nat) (row : List Int) (i : Nat) : KnOk r row i [] := ⟨List.nodup_nil, fun e h => by cases h⟩
theorem fewM_succ (r : Nat) {row : List Int} {i : Nat} {x : Int} (hx : row[i]? = some x) : fewM r (row.take (i + 1)) = fewS r (fewM r (row.take i)) x := by
  unfold fewM
  rw [take_snoc hx, List.foldl_append]
  rfl
theorem fewM_ok {r : Nat} (r0 : 0 < r) {row : List Int} (hp : ∀ x ∈ row, 0 ≤ x ∧ x < 12) : ∀ i, i ≤ row.length → KnOk r row i (fewM r (row.take i)) ∧ ∃ v, look (fewM r (row.take i)) (sorts (bestK r row i)) = some v ∧ v ≤ ((bst r row (row.take i)).lacks.length : Int)
  | 0, _ => by
    refine ⟨⟨by simp [fewM], fun e he => ?_⟩, 0, ?_, by simp [bst]⟩
    · have : e = ([], 0) := by simpa [fewM] using he
      subst this
      exact ⟨.nil, by simp, 0, rfl, .zero⟩
    · have : bestK r row 0 = [] := by simp [bestK, bst]
      have e : sorts (bestK r row 0) = [] := by
        rw [this]
        exact List.eq_nil_of_length_eq_zero (by rw [sorts_len]; rfl)
      rw [e]
      simp [fewM, look]
  | i + 1, hi => by
    obtain ⟨x, hx⟩ : ∃ x, row[i]? = some x := ⟨row[i], List.getElem?_eq_getElem (by omega)⟩
    have hx0 := hp x (List.mem_of_getElem? hx)
    obtain ⟨ok, v, hv, hl⟩ := fewM_ok r0 hp i (by omega)
    rw [fewM_succ r hx]
    refine ⟨fewS_ok r0 hx hx0 _ _ (kn_nil _ _ _) fun e he => ok.good e he, ?_⟩
    have hw := best_way r0 row
    have nd := hw.nd i (by omega)
    have hb : sorts (bestK r row (i + 1)) ∈ succs r x (sorts (bestK r row i)) := by
      have hs := bestK_succ r0 hx
      rw [hs]
      unfold succs
      by_cases h1 : x ∈ bestK r row i
      · rw [if_pos h1, if_pos (mem_sorts.mpr h1)]
        simp
      · rw [if_neg h1, if_neg (fun z => h1 (mem_sorts.mp z)), sorts_len]
        by_cases h2 : (bestK r row i).length = r
        · rw [if_pos h2, if_pos h2]
          have hne : bestK r row i ≠ [] := fun z => by rw [z] at h2; simp at h2; omega
          have hf := (far_spec (row.drop i) hne).1
          refine List.mem_map.mpr ⟨far (row.drop i) (bestK r row i), mem_sorts.mpr hf, ?_⟩
          refine sorted_uniq ?_ (sorts_sorted _) (sorts_sorted _)
          refine (sorts_perm _).trans (List.Perm.trans ?_ (sorts_perm _).symm)
          refine List.Perm.append_right _ ?_
          rw [filter_ne ((sorts_perm _).nodup_iff.mpr nd)]
          exact (sorts_perm _).erase _
        · rw [if_neg h2, if_neg h2]
          refine List.mem_singleton.mpr (sorted_uniq ?_ (sorts_sorted _) (sorts_sorted _))
          exact (sorts_perm _).trans (List.Perm.trans (List.Perm.append_right _ (sorts_perm _).symm) (sorts_perm _).symm)
    obtain ⟨v', hv', hl'⟩ := fewE_has (r := r) (x := x) _ [] (look_mem hv) hb
    refine ⟨v', hv', ?_⟩
    have e1 : (bst r row (row.take (i + 1))).lacks.length = (bst r row (row.take i)).lacks.length + if x ∈ bestK r row i then 0 else 1 := by
      rw [take_snoc hx, bst_snoc]
      unfold bestK bstep
      split
      · rfl
      · split <;> simp
    rw [e1]
    unfold costs at hl'
    simp only [mem_sorts] at hl'
    split at hl' <;> rename_i h
    · rw [if_pos h]; omega
    · rw [if_neg h]; omega
/-- the least of what is known behind the whole row -/
theorem few_best {r : Nat} (r0 : 0 < r) {row : List Int} (hp : ∀ x ∈ row, 0 ≤ x ∧ x < 12) : (∃ e ∈ fewM r row, e.2 = (bestN r row : Int)) ∧ ∀ e ∈ fewM r row, (bestN r row : Int) ≤ e.2 := by
  obtain ⟨ok, v, hv, hl⟩ := fewM_ok r0 hp row.length (Nat.le_refl _)
  rw [List.take_length] at ok hv hl
  have low : ∀ e ∈ fewM r row, (bestN r row : Int) ≤ e.2 := fun e he => by
    obtain ⟨_, _, m, hm, g⟩ := ok.good e he
    have := goes_best r0 g
    omega
  have hmem := look_mem hv
  have h1 := low _ hmem
  have h2 : v ≤ (bestN r row : Int) := hl
  exact ⟨⟨_, hmem, by simp only at h1 ⊢; omega⟩, low⟩
/-! how many sets there are -/
def subs : Nat → List (List Int)
  | 0 => [[]]
  | n + 1 => subs n ++ (subs n).map fun l => l ++ [(n : Int)]
theorem subs_len : ∀ n, (subs n).length = 2 ^ n
  | 0 => rfl
  | n + 1 => by
    unfold subs
    rw [List.length_append, List.length_map, subs_len n, Nat.pow_succ]
    omega
theorem subs_mem : ∀ (n : Nat) (l : List Int), l.Pairwise (· < ·) → (∀ y ∈ l, 0 ≤ y ∧ y < (n : Int)) → l ∈ subs n
  | 0, l, _, h => by
    cases l with
    | nil => simp [subs]
    | cons a l => have := h a (by simp); omega
  | n + 1, l, hp, h => by
    unfold subs
    by_cases hn : (n : Int) ∈ l
    · have hne : l ≠ [] := List.ne_nil_of_mem hn
      have e := List.dropLast_concat_getLast hne
      have hlast : l.getLast hne = (n : Int) := by
        have hm := h _ (List.getLast_mem hne)
        rw [← e] at hn
        rcases List.mem_append.mp hn with h1 | h1
        · rw [← e, List.pairwise_append] at hp
          have := hp.2.2 _ h1 (l.getLast hne) (by simp)
          omega
        · exact (List.mem_singleton.mp h1).symm
      refine List.mem_append_right _ (List.mem_map.mpr ⟨l.dropLast, subs_mem n _ (hp.sublist (List.dropLast_sublist l)) fun y hy => ?_, by rw [← hlast]; exact e⟩)
      have h1 := h y ((List.dropLast_sublist l).subset hy)
      rw [← e, List.pairwise_append] at hp
      have := hp.2.2 y hy (l.getLast hne) (by simp)
      omega
    · refine List.mem_append_left _ (subs_mem n l hp fun y hy => ?_)
      have h1 := h y hy
      have : y ≠ (n : Int) := fun e => hn (by rw [← e]; exact hy)
      omega
theorem kn_len {r : Nat} {row : List Int} {i : Nat} {kn : Kn} (ok : KnOk r row i kn) : kn.length ≤ 4096 := by
  have := nodup_len (m := subs 12) ok.keys fun k hk => by
    obtain ⟨e, he, rfl⟩ := List.mem_map.mp hk
    obtain ⟨h1, h2, _⟩ := ok.good e he
    exact subs_mem 12 _ h1 h2
  rw [List.length_map, subs_len] at this
  exact this
end Cw

namespace Cw
open PySem
/-! other numbers of the pages -/
abbrev Inj {α β : Type} (f : α → β) : Prop := ∀ x y, f x = f y → x = y
theorem inj_opt {f : Int → Int} (hf : Inj f) : Inj (Option.map f) := fun x y h => by
  cases x <;> cases y <;> simp at h
  · rfl
  · rw [hf _ _ h]
theorem mem_re {α β : Type} {f : α → β} (hf : Inj f) {l : List α} {x : α} : f x ∈ l.map f ↔ x ∈ l :=
  ⟨fun h => by obtain ⟨y, h1, h2⟩ := List.mem_map.mp h; rw [← hf _ _ h2]; exact h1, fun h => List.mem_map.mpr ⟨x, h, rfl⟩⟩
theorem idx_re {α β : Type} [BEq α] [LawfulBEq α] [BEq β] [LawfulBEq β] {f : α → β} (hf : Inj f) {x : α} : ∀ l : List α, (l.map f).idxOf (f x) = l.idxOf x
  | [] => rfl
  | y :: l => by
    rw [List.map_cons, List.idxOf_cons, List.idxOf_cons, idx_re hf l]
    have e : (f y == f x) = (y == x) := by
      by_cases h : y = x
      · rw [h, beq_self_eq_true, beq_self_eq_true]
      · rw [beq_false_of_ne h, beq_false_of_ne fun e => h (hf _ _ e)]
    rw [e]
theorem erase_re {f : Int → Int} (hf : Inj f) {x : Int} : ∀ l : List Int, (l.map f).erase (f x) = (l.erase x).map f
  | [] => rfl
  | y :: l => by
    by_cases h : y = x
    · subst h; simp
    · have : f y ≠ f x := fun e => h (hf _ _ e)
      rw [List.map_cons, List.erase_cons_tail (by simpa using this), List.erase_cons_tail (by simpa using h), List.map_cons, erase_re hf l]
theorem keepS_re {f : Int → Int} (hf : Inj f) (n : Nat) (u : Bool) (k : List Int) (x : Int) : keepS n u (k.map f) (f x) = (keepS n u k x).map f := by
  unfold keepS
  by_cases h : x ∈ k
  · rw [if_pos h, if_pos ((mem_re hf).mpr h), erase_re hf]
    cases u <;> simp
  · rw [if_neg h, if_neg (fun z => h ((mem_re hf).mp z)), List.length_map, List.map_append, List.map_drop]
    rfl
theorem keepAll_re {f : Int → Int} (hf : Inj f) (n : Nat) (u : Bool) : ∀ (k r : List Int), keepAll n u (k.map f) (r.map f) = keepAll n u k r
  | _, [] => rfl
  | k, x :: r => by
    have h : decide (f x ∉ k.map f) = decide (x ∉ k) := by
      by_cases h : x ∈ k
      · have h2 := (mem_re hf).mpr h
        have a1 : ¬ (x ∉ k) := fun z => z h
        have a2 : ¬ (f x ∉ k.map f) := fun z => z h2
        rw [decide_eq_false a1, decide_eq_false a2]
      · have h2 : f x ∉ k.map f := fun z => h ((mem_re hf).mp z)
        rw [decide_eq_true h, decide_eq_true h2]
    rw [List.map_cons, keepAll, keepAll, h, keepS_re hf, keepAll_re hf n u]
def Dl.re (f : Int → Int) (d : Dl) : Dl := ⟨d.here.map (Option.map f), d.seen, d.hand, d.lacks⟩
def Tl.re (f : Int → Int) (t : Tl) : Tl := ⟨t.lack, t.gone.map f, t.passed⟩
theorem ask_re {f : Int → Int} (hf : Inj f) (d : Dl) (x : Int) : (d.re f).ask (f x) = ((d.ask x).1.re f, (d.ask x).2.re f) := by
  have hm : some (f x) ∈ (d.re f).here ↔ some x ∈ d.here := mem_re (inj_opt hf) (x := some x)
  have hi : (d.re f).here.idxOf (some (f x)) = d.here.idxOf (some x) := idx_re (inj_opt hf) (x := some x) d.here
  have hs : (d.re f).spin = d.spin := by
    unfold Dl.spin Dl.re
    simp only [List.length_map]
  unfold Dl.ask
  by_cases h : some x ∈ d.here
  · rw [if_pos h, if_pos (hm.mpr h), hi]
    rfl
  · rw [if_neg h, if_neg (fun z => h (hm.mp z)), hs]
    have e1 : (d.re f).here.set d.spin.2.1 (some (f x)) = (d.here.set d.spin.2.1 (some x)).map (Option.map f) := by
      rw [List.map_set]; rfl
    have e2 : ((d.re f).here[d.spin.2.1]?).join = ((d.here[d.spin.2.1]?).join).map f := by
      show ((d.here.map (Option.map f))[d.spin.2.1]?).join = _
      rw [List.getElem?_map]
      cases d.here[d.spin.2.1]? with
      | none => rfl
      | some o => rfl
    have e3 : (d.re f).here.length = d.here.length := List.length_map _
    rw [e1, e2, e3]
    rfl
theorem askAll_re {f : Int → Int} (hf : Inj f) : ∀ (d : Dl) (r : List Int), askAll (d.re f) (r.map f) = (askAll d r).map (Tl.re f)
  | _, [] => rfl
  | d, x :: r => by
    rw [List.map_cons, askAll, askAll, ask_re hf, List.map_cons, askAll_re hf]
theorem new_re (f : Int → Int) (n : Nat) : (Dl.new n).re f = Dl.new n := by
  unfold Dl.re Dl.new
  simp
theorem told_re {f : Int → Int} (hf : Inj f) (n : Nat) (r : List Int) : askAll (Dl.new n) (r.map f) = (askAll (Dl.new n) r).map (Tl.re f) := by
  rw [← askAll_re hf, new_re]
theorem lackB_re {f : Int → Int} (hf : Inj f) (n : Nat) (z : Str) (r : List Int) : lackB n z (r.map f) = lackB n z r := by
  unfold lackB
  split
  · rw [told_re hf, List.map_map]
    rfl
  · exact keepAll_re hf n _ [] r
theorem lastAt_re {f : Int → Int} (hf : Inj f) (l : List Int) (x : Int) : lastAt (l.map f) (f x) = lastAt l x := by
  unfold lastAt
  rw [List.length_map]
  congr 1
  congr 1
  funext i
  rw [List.getElem?_map]
  cases h : l[i]? with
  | none => simp
  | some y =>
    by_cases e : y = x
    · subst e; simp
    · have : f y ≠ f x := fun q => e (hf _ _ q)
      simp [e, this]
theorem getD_re {f : Int → Int} {l : List Int} {e : Nat} (h : e < l.length) : (l.map f).getD e 0 = f (l.getD e 0) := by
  rw [List.getD_eq_getElem?_getD, List.getD_eq_getElem?_getD, List.getElem?_map, List.getElem?_eq_getElem h]
  rfl
theorem spells_re {f : Int → Int} (hf : Inj f) (l : List Int) : spellsM (l.map f) = spellsM l := by
  have h : ∀ i, i ≤ l.length → spellsTo (l.map f) i = spellsTo l i := by
    intro i
    induction i with
    | zero => intro _; rfl
    | succ i ih =>
      intro hi
      rw [spellsTo_succ, spellsTo_succ, ih (by omega)]
      congr 1
      unfold spellAt
      rw [getD_re (by omega), ← List.map_take, lastAt_re hf]
  unfold spellsM
  rw [List.length_map]
  exact h _ (Nat.le_refl _)
theorem shown_re {f : Int → Int} (hf : Inj f) (r : Int) (l ps : List Int) : shownM r (l.map f) ps = shownM r l ps := by
  unfold shownM
  rw [spells_re hf, List.length_map]
theorem best_re {f : Int → Int} (hf : Inj f) {r : Nat} (r0 : 0 < r) (l : List Int) : bestN r (l.map f) = bestN r l := by
  obtain ⟨p1, _, _, h1⟩ := strong r0 l
  obtain ⟨p2, _, _, h2⟩ := strong r0 (l.map f)
  have a1 := shown_le r0 (l.map f) p1
  have a2 := shown_le r0 l p2
  rw [shown_re hf] at a1 h2
  omega
theorem firsts_re {f : Int → Int} (hf : Inj f) : ∀ l : List Int, firsts (l.map f) = (firsts l).map f := by
  refine list_snoc_ind rfl ?_
  intro l x ih
  rw [List.map_append, List.map_cons, List.map_nil, firsts_snoc, firsts_snoc, ih]
  unfold add1
  by_cases h : x ∈ firsts l
  · rw [if_pos h, if_pos ((mem_re hf).mpr h)]
  · rw [if_neg h, if_neg (fun z => h ((mem_re hf).mp z)), List.map_append]
    rfl
theorem cst_re {f : Int → Int} (hf : Inj f) (n : Nat) : ∀ l : List Int, cst n (l.map f) = ⟨(cst n l).out, (cst n l).b, (cst n l).seg.map f, (cst n l).n⟩ := by
  refine list_snoc_ind rfl ?_
  intro l x ih
  rw [List.map_append, List.map_cons, List.map_nil, cst_snoc, cst_snoc, ih]
  generalize cst n l = s
  unfold cstep
  simp only [firsts_re hf, List.length_map, mem_re hf]
  split
  · rfl
  · simp
theorem parts_re {f : Int → Int} (hf : Inj f) (n : Nat) (l : List Int) : parts n (l.map f) = parts n l := by
  unfold parts
  rw [cst_re hf, List.length_map]
  cases l with
  | nil => rfl
  | cons x l => rw [if_neg (by simp), if_neg (by simp)]
/-! a room more by the rule that looks who wasn't asked for for longest -/
def Suf (n : Nat) (k' k : List Int) : Prop := k'.Nodup ∧ k.length ≤ n ∧ (k' = k ∨ ∃ a, k' = a :: k ∧ k.length = n)
theorem suf_step {n : Nat} (n0 : 0 < n) {k' k : List Int} (h : Suf n k' k) (x : Int) : (x ∈ k → x ∈ k') ∧ Suf n (keepS (n + 1) true k' x) (keepS n true k x) := by
  obtain ⟨nd, le, h⟩ := h
  have ok' : KOk (n + 1) k' := ⟨nd, by
    rcases h with h | ⟨a, h, h2⟩
    · rw [h]; omega
    · rw [h, List.length_cons]; omega⟩
  have ok : KOk n k := ⟨by
    rcases h with h | ⟨a, h, h2⟩
    · rw [h] at nd; exact nd
    · rw [h] at nd; exact (List.nodup_cons.mp nd).2, le⟩
  have o1 := ok'.step (Nat.succ_pos n) true x
  have o2 := ok.step n0 true x
  refine ⟨fun hx => ?_, o1.nd, o2.le, ?_⟩
  · rcases h with h | ⟨a, h, _⟩
    · rw [h]; exact hx
    · rw [h]; exact List.mem_cons_of_mem _ hx
  · rcases h with h | ⟨a, h, hl⟩
    · subst h
      unfold keepS
      by_cases hx : x ∈ k'
      · rw [if_pos hx, if_pos hx]; exact .inl rfl
      · rw [if_neg hx, if_neg hx, if_neg (by omega)]
        by_cases hl : k'.length = n
        · rw [if_pos hl]
          cases k' with
          | nil => simp at hl; omega
          | cons a r =>
            refine .inr ⟨a, by simp, ?_⟩
            simp at hl ⊢
            exact hl
        · rw [if_neg hl]; exact .inl rfl
    · subst h
      have ha : a ∉ k := (List.nodup_cons.mp nd).1
      unfold keepS
      by_cases hx : x ∈ k
      · rw [if_pos hx, if_pos (List.mem_cons_of_mem _ hx)]
        have hne : a ≠ x := fun e => ha (by rw [e]; exact hx)
        refine .inr ⟨a, ?_, ?_⟩
        · show (a :: k).erase x ++ [x] = _
          rw [List.erase_cons_tail (by simpa using hne)]
          rfl
        · show (k.erase x ++ [x]).length = n
          rw [List.length_append, List.length_erase_of_mem hx]
          simp
          omega
      · rw [if_neg hx, if_pos hl]
        obtain ⟨c, r, hk⟩ : ∃ c r, k = c :: r := by
          cases k with
          | nil => simp at hl; omega
          | cons c r => exact ⟨c, r, rfl⟩
        subst hk
        by_cases hxa : x = a
        · subst hxa
          rw [if_pos (by simp)]
          refine .inr ⟨c, ?_, ?_⟩
          · show (x :: c :: r).erase x ++ [x] = _
            rw [List.erase_cons_head]
            rfl
          · simp at hl ⊢
            exact hl
        · rw [if_neg (by simp at hx ⊢; exact ⟨hxa, hx⟩), if_pos (by simp at hl ⊢; exact hl)]
          refine .inr ⟨c, rfl, ?_⟩
          simp at hl ⊢
          exact hl
theorem unseen_more {n : Nat} (n0 : 0 < n) : ∀ (r k' k : List Int), Suf n k' k → ((keepAll (n + 1) true k' r).filter id).length ≤ ((keepAll n true k r).filter id).length
  | [], _, _, _ => Nat.le_refl _
  | x :: r, k', k, h => by
    obtain ⟨h1, h2⟩ := suf_step n0 h x
    have ih := unseen_more n0 r _ _ h2
    rw [keepAll, keepAll]
    by_cases hx : x ∈ k
    · have a1 : ¬ (x ∉ k) := fun z => z hx
      have a2 : ¬ (x ∉ k') := fun z => z (h1 hx)
      rw [decide_eq_false a1, decide_eq_false a2]
      exact ih
    · rw [decide_eq_true hx]
      show _ ≤ (true :: (keepAll n true (keepS n true k x) r).filter id).length
      rw [List.length_cons]
      cases decide (x ∉ k') with
      | true =>
        show (true :: (keepAll (n + 1) true (keepS (n + 1) true k' x) r).filter id).length ≤ _
        rw [List.length_cons]
        omega
      | false =>
        show ((keepAll (n + 1) true (keepS (n + 1) true k' x) r).filter id).length ≤ _
        omega
theorem unseen_room {n : Nat} (n0 : 0 < n) (row : List Int) : (places (lackB (n + 1) (Str.ofString "unseen") row)).length ≤ (places (lackB n (Str.ofString "unseen") row)).length := by
  unfold places
  rw [placesFrom_cnt, placesFrom_cnt]
  have hne : ¬ (Str.ofString "unseen") = Str.ofString "hand" := by decide +kernel
  unfold lackB
  rw [if_neg hne, if_neg hne, decide_eq_true rfl]
  exact unseen_more n0 row [] [] ⟨List.nodup_nil, Nat.zero_le _, .inl rfl⟩
end Cw

namespace Cw
open PySem L2
/-! what a dial tells: tuples and lists new beside H -/
def TlAt (H H' : Hp) (xs : List V) (ts : List Tl) : Prop := xs.length = ts.length ∧ ∀ (i : Nat) (tl : Tl), ts[i]? = some tl → ∃ t q, xs[i]? = some (.ref t) ∧ H t = none ∧ H q = none ∧ H' t = some (.tup (toldV tl q)) ∧ H' q = some (.lst (natsV tl.passed))
theorem TlAt.nil {H H' : Hp} : TlAt H H' [] [] := ⟨rfl, fun i e h => by simp at h⟩
theorem TlAt.snoc {H H' : Hp} {xs : List V} {ts : List Tl} {t q : Addr} {tl : Tl} (h : TlAt H H' xs ts) (ht : H t = none) (hq : H q = none) (h1 : H' t = some (.tup (toldV tl q))) (h2 : H' q = some (.lst (natsV tl.passed))) : TlAt H H' (xs ++ [.ref t]) (ts ++ [tl]) := ⟨by simp [h.1], fun i e he => by
  rcases Nat.lt_or_ge i ts.length with l | l
  · rw [List.getElem?_append_left l] at he
    rw [List.getElem?_append_left (by rw [h.1]; exact l)]
    exact h.2 i e he
  · rw [List.getElem?_append_right l] at he
    have hi : i - ts.length = 0 := by
      have := (List.getElem?_eq_some_iff.mp he).1
      simp at this
      omega
    rw [hi] at he
    have he' : tl = e := Option.some.inj he
    subst he'
    exact ⟨t, q, by rw [List.getElem?_append_right (by rw [h.1]; exact l), h.1, hi]; rfl, ht, hq, h1, h2⟩⟩
theorem TlAt.step {H H' H2 : Hp} {xs : List V} {ts : List Tl} {W : List Addr} (h : TlAt H H' xs ts) (hw : ∀ w ∈ W, H w ≠ none) (f : Fr W H' H2) : TlAt H H2 xs ts := ⟨h.1, fun i e he => by
  obtain ⟨t, q, h1, h2, h3, h4, h5⟩ := h.2 i e he
  exact ⟨t, q, h1, h2, h3, f.get h4 (fun m => hw t m h2), f.get h5 (fun m => hw q m h3)⟩⟩
theorem TlAt.base {H0 H H' : Hp} {xs : List V} {ts : List Tl} {W : List Addr} (h : TlAt H H' xs ts) (f : Fr W H0 H) : TlAt H0 H' xs ts := ⟨h.1, fun i e he => by
  obtain ⟨t, q, h1, h2, h3, h4⟩ := h.2 i e he
  exact ⟨t, q, h1, f.2 t h2, f.2 q h3, h4⟩⟩
theorem TlAt.nwa {K : PySem.W.Frag} {H H' : Hp} : ∀ {xs : List V} {ts : List Tl}, TlAt H H' xs ts → NwA K H H' xs (ts.map tlD)
  | [], [], _ => .nil
  | [], _ :: _, h => by have := h.1; simp at this
  | _ :: _, [], h => by have := h.1; simp at this
  | x :: xs, e :: ts, h => by
    obtain ⟨t, q, h1, h2, h3, h4, h5⟩ := h.2 0 e rfl
    have hx : x = .ref t := Option.some.inj h1
    subst hx
    exact .cons (nw_tl e h2 h3 h4 h5) (TlAt.nwa ⟨by have := h.1; simpa using this, fun i e' he => h.2 (i + 1) e' he⟩)
end Cw

namespace Cw
open PySem L2
/-! the same data compared -/
section
variable {K : PySem.W.Frag} {H : Hp}
theorem dp_same : ∀ (d : PyData) (v : V), Dp K H v d → PyData.eqv d d = true := fun d v h =>
  Dp.rec (motive_1 := fun v d _ => PyData.eqv d d = true) (motive_2 := fun vs ds _ => PyData.eqvAll ds ds = true)
    (by simp [PyData.eqv]) (fun b => by simp [PyData.eqv]) (fun i => by simp [PyData.eqv]) (fun x => by simp [PyData.eqv])
    (fun _ _ ih => by simp only [PyData.eqv]; exact ih) (fun _ _ ih => by simp only [PyData.eqv]; exact ih)
    (by simp [PyData.eqvAll]) (fun _ _ a b => by simp [PyData.eqvAll, a, b]) h
theorem fits_depth : ∀ (k : Nat) (d : PyData), fits k d → d.depth ≤ k := by
  intro k
  induction k with
  | zero =>
    intro d h
    cases d <;> simp [fits] at h <;> simp [PyData.depth]
  | succ k ih =>
    intro d h
    have all : ∀ ds : List PyData, (∀ x ∈ ds, fits k x) → PyData.depthAll ds ≤ k := by
      intro ds
      induction ds with
      | nil => intro _; simp [PyData.depthAll]
      | cons x ds ih2 =>
        intro h
        have h1 := ih x (h x (by simp))
        have h2 := ih2 fun y hy => h y (List.mem_cons_of_mem _ hy)
        simp [PyData.depthAll]
        omega
    cases d with
    | list ds => have := all ds h.2; simp [PyData.depth]; omega
    | tuple ds => have := all ds h.2; simp [PyData.depth]; omega
    | dict kvs => exact h.elim
    | _ => simp [PyData.depth]
theorem dp_shaped {d : PyData} {k : Nat} (hc : d.canLay0 = true) (hf : fits k d) (hk : k ≤ 60) : SeqAt.shaped d = true := by
  have h2 := fits_depth k d hf
  unfold SeqAt.shaped
  rw [hc, Bool.true_and]
  exact decide_eq_true (by omega)
theorem w_eqSame {x y : V} {Q : VK} (d : PyData) {k : Nat} (h1 : Dp K H x d) (h2 : Dp K H y d) (hc : d.canLay0 = true) (hf : fits k d) (hk : k ≤ 60) (q : Q (.bl true) H) : rEqD K x y H Q :=
  ⟨d, d, h1, h2, dp_shaped hc hf hk, dp_shaped hc hf hk, by rw [dp_same d x h1]; exact q⟩
theorem w_neSame {x y : V} {Q : VK} (d : PyData) {k : Nat} (h1 : Dp K H x d) (h2 : Dp K H y d) (hc : d.canLay0 = true) (hf : fits k d) (hk : k ≤ 60) (q : Q (.bl false) H) : rNeD K x y H Q :=
  ⟨d, d, h1, h2, dp_shaped hc hf hk, dp_shaped hc hf hk, by rw [dp_same d x h1]; exact q⟩
end
theorem lay_nats : ∀ l : List Nat, PyData.canLayAll0 (natsD l) = true
  | [] => rfl
  | n :: r => by
    have := lay_nats r
    unfold natsD at this ⊢
    simp [PyData.canLayAll0, PyData.canLay0, this]
theorem lay_tls : ∀ ts : List Tl, PyData.canLayAll0 (ts.map tlD) = true
  | [] => rfl
  | t :: r => by
    have h1 := lay_tls r
    have h2 := lay_nats t.passed
    cases hg : t.gone <;> simp [PyData.canLayAll0, tlD, PyData.canLay0, oD, hg, h1, h2]
theorem fits_tls {ts : List Tl} (h : ts.length ≤ 100000) (hp : ∀ t ∈ ts, t.passed.length ≤ 100000) {k : Nat} : fits (k + 3) (.list (ts.map tlD)) := by
  refine ⟨by rw [List.length_map]; exact h, fun d hd => ?_⟩
  obtain ⟨t, ht, rfl⟩ := List.mem_map.mp hd
  refine ⟨by show 3 ≤ 100000; decide, fun e he => ?_⟩
  simp only [List.mem_cons, List.not_mem_nil, or_false] at he
  rcases he with rfl | rfl | rfl
  · trivial
  · cases t.gone <;> trivial
  · refine ⟨by unfold natsD; rw [List.length_map]; exact hp t ht, fun e he => ?_⟩
    unfold natsD at he
    obtain ⟨i, _, rfl⟩ := List.mem_map.mp he
    cases k <;> trivial
theorem spin_len (n : Nat) : ∀ (k : Nat) (s : List Bool) (h : Nat), (spin n k s h).2.2.length ≤ k
  | 0, _, _ => Nat.le_refl _
  | k + 1, s, h => by
    unfold spin
    split
    · have := spin_len n k (s.set h false) ((h + 1) % n)
      simp
      omega
    · exact Nat.zero_le _
theorem ask_passed {d : Dl} {n : Nat} (w : d.Wf n) (x : Int) : (d.ask x).2.passed.length ≤ 8 := by
  unfold Dl.ask
  split
  · exact Nat.zero_le _
  · show d.spin.2.2.length ≤ 8
    unfold Dl.spin
    have h1 := spin_len d.here.length (d.seen.count true) d.seen d.hand
    have h2 := List.count_le_length (a := true) (l := d.seen)
    have := w.sl
    have := w.n8
    omega
theorem askAll_passed {n : Nat} : ∀ (r : List Int) (d : Dl), d.Wf n → ∀ t ∈ askAll d r, t.passed.length ≤ 8
  | [], _, _, t, h => by cases h
  | x :: r, d, w, t, h => by
    rcases List.mem_cons.mp h with h | h
    · rw [h]; exact ask_passed w x
    · exact askAll_passed r _ (w.ask x) t h
/-! new numbers, drawn one by one -/
def base12 : List Int := (List.range 12).map fun i : Nat => (0 : Int) + (i : Int)
theorem rg12 : rgV 0 12 = base12.map V.int := by unfold rgV base12; rw [List.map_map]; rfl
def nmF (ns : List Int) (x : Int) : Int := if 0 ≤ x ∧ x < 12 then ns.getD x.toNat 0 else x
theorem base12_mem {x : Int} : x ∈ base12 ↔ 0 ≤ x ∧ x < 12 := by
  unfold base12
  rw [List.mem_map]
  constructor
  · rintro ⟨i, hi, rfl⟩
    rw [List.mem_range] at hi
    omega
  · rintro ⟨h1, h2⟩
    exact ⟨x.toNat, List.mem_range.mpr (by omega), by omega⟩
theorem base12_nodup : base12.Nodup := by decide
theorem nm_in {ns : List Int} (h : ns.Perm base12) {x : Int} (h0 : 0 ≤ x) (h1 : x < 12) : 0 ≤ nmF ns x ∧ nmF ns x < 12 := by
  have hl : ns.length = 12 := by rw [h.length_eq]; rfl
  unfold nmF
  rw [if_pos ⟨h0, h1⟩, List.getD_eq_getElem?_getD, List.getElem?_eq_getElem (by omega)]
  exact base12_mem.mp (h.mem_iff.mp (List.getElem_mem _))
theorem nm_inj {ns : List Int} (h : ns.Perm base12) : Inj (nmF ns) := by
  have hl : ns.length = 12 := by rw [h.length_eq]; rfl
  have nd : ns.Nodup := h.nodup_iff.mpr base12_nodup
  intro x y e
  by_cases hx : 0 ≤ x ∧ x < 12 <;> by_cases hy : 0 ≤ y ∧ y < 12
  · unfold nmF at e
    rw [if_pos hx, if_pos hy, List.getD_eq_getElem?_getD, List.getD_eq_getElem?_getD, List.getElem?_eq_getElem (by omega), List.getElem?_eq_getElem (by omega)] at e
    have := (List.getElem_inj nd).mp e
    omega
  · have h1 := nm_in h hx.1 hx.2
    rw [e] at h1
    unfold nmF at h1
    rw [if_neg hy] at h1
    exact absurd h1 hy
  · have h1 := nm_in h hy.1 hy.2
    rw [← e] at h1
    unfold nmF at h1
    rw [if_neg hx] at h1
    exact absurd h1 hx
  · unfold nmF at e
    rw [if_neg hx, if_neg hy] at e
    exact e
theorem nm_at {ns : List Int} (h : ns.Perm base12) {x : Int} (h0 : 0 ≤ x) (h1 : x < 12) : atI (ns.map V.int) x = some (.int (nmF ns x)) := by
  have hl : ns.length = 12 := by rw [h.length_eq]; rfl
  obtain ⟨k, rfl⟩ : ∃ k : Nat, x = (k : Int) := ⟨x.toNat, by omega⟩
  refine atI_nat ?_
  unfold nmF
  rw [if_pos ⟨h0, h1⟩, Int.toNat_natCast, List.getElem?_map, List.getD_eq_getElem?_getD, List.getElem?_eq_getElem (by omega)]
  rfl
theorem erase_map {f : Int → V} (ns : List Int) (k : Nat) : (ns.map f).eraseIdx k = (ns.eraseIdx k).map f := by
  rw [List.eraseIdx_eq_take_drop_succ, List.eraseIdx_eq_take_drop_succ, List.map_append, List.map_take, List.map_drop]
/-- l.pop(r) -/
theorem w_popI {H : Hp} {Q : VK} {l : Addr} {ns : List Int} {r : Int} (h : H l = some (.lst (ns.map V.int))) (h0 : 0 ≤ r) (h1 : r < ns.length) (hz : ns.length < 1000000)
    (q : ∀ y, ns[r.toNat]? = some y → Q (.int y) (upd H l (.lst ((ns.eraseIdx r.toNat).map V.int)))) : rPopAt (.ref l) [.int r] H Q := by
  obtain ⟨k, rfl⟩ : ∃ k : Nat, r = (k : Int) := ⟨r.toNat, by omega⟩
  have hk : k < ns.length := by omega
  refine ⟨l, ns.map V.int, (k : Int), k, .int ns[k], rfl, rfl, h, by omega, by omega, ?_, ?_, ?_⟩
  · unfold seqIndex?
    rw [List.length_map]
    simp
    omega
  · rw [List.getElem?_map, List.getElem?_eq_getElem hk]; rfl
  · rw [erase_map]
    exact q _ (List.getElem?_eq_getElem hk)
theorem perm_pop {ns lf : List Int} {k : Nat} {y : Int} (hk : lf[k]? = some y) {b : List Int} (h : (ns ++ lf).Perm b) : ((ns ++ [y]) ++ lf.eraseIdx k).Perm b := by
  obtain ⟨hl, rfl⟩ := List.getElem?_eq_some_iff.mp hk
  rw [List.append_assoc]
  refine (List.Perm.append_left ns ?_).trans h
  have e : lf = lf.take k ++ lf[k] :: lf.drop (k + 1) := by rw [← List.drop_eq_getElem_cons hl, List.take_append_drop]
  refine List.Perm.trans ?_ (List.Perm.of_eq e.symm)
  rw [List.eraseIdx_eq_take_drop_succ]
  show (lf[k] :: (lf.take k ++ lf.drop (k + 1))).Perm _
  exact List.perm_middle.symm
end Cw

namespace Cw
open PySem L2
/-! sorted(t) of a tuple of whole numbers; a display with one tuple for a key -/
section
open PySem.Spec PyProof.Rows
variable {P : Program} {w : World} {A : Around} {E : Value → Shared → Prop} {s : Shared}
theorem gather_tup {t : Addr} {us : List Value} {Q : List Value → Shared → Prop} (ht : s.heap.IsTuple t us.toArray) (hz : us.length ≤ sizeLine)
    (q : ∀ h', (∀ b o, s.heap.get? b = some o → h'.get? b = some o) → s.heap.objs.size ≤ h'.objs.size → Q us { s with heap := h' }) : wpAny (model P w) A (collect (.ref t)) Q E s := by
  obtain ⟨to, hto, hcls, tn, hdat⟩ := id ht
  have at2 : (s.heap.push (seqObj "list" #[] 0)).get? t = some to := Heap.get?_push_of_some _ hto
  unfold collect
  refine wpAny_bind (wpAny_runValue (codeAny_builtin PyProof.Rows.entry_proto_collect' ?_))
  show wpAny _ _ (do again (.builtin "list.__iadd__" ⟨[← newList [], .ref t], []⟩)) _ _ s
  refine wpAny_bind (wpAny_newList (wpAny_pure ⟨Code.quiet_builtin _ (by decide +kernel), codeAny_builtin PyProof.Rows.entry_list_iadd' ?_⟩))
  show wpAny _ _ (Builtin.List.listExtendWith (.ref s.heap.objs.size) (.ref t) (.ref s.heap.objs.size)) _ _ { s with heap := s.heap.push (seqObj "list" #[] 0) }
  unfold Builtin.List.listExtendWith
  refine wpAny_bind (wpAny_typeOf (T := "tuple") ⟨to, at2, hcls⟩ ?_)
  have tt : (Value.type "tuple" == Value.type "tuple") = true := by rfl
  rw [if_pos (by rw [tt]; simp)]
  refine wpAny_bind (listItems_at at2 hdat (wpAny_bind (listItems_at (xs := #[]) (n := 0) (Heap.get?_push_size _ rfl) rfl ?_)))
  rw [if_neg (by simp)]
  have hsize : (#[] ++ us.toArray).size ≤ sizeLine + 1 := by
    rw [Array.size_append, List.size_toArray]
    simp
    omega
  refine wpAny_bind (listUpdate_at (xs := #[]) (n := 0) (Heap.get?_push_size _ rfl) rfl (wpAny_pure ?_) (Nat.zero_le _) hsize)
  show wpAny (model P w) A (do
      let o ← load s.heap.objs.size
      match o.data with
      | .seq xs _ => pure xs.toList
      | _ => unsupported "internal:collect") Q E { s with heap := (s.heap.push (seqObj "list" #[] 0)).update s.heap.objs.size (Obj.mapSeq (· ++ us.toArray)) }
  refine wpAny_bind (wpAny_load (get?_update_seq (Heap.get?_push_size _ rfl) _) ?_)
  have e : ((#[] : Array Value) ++ us.toArray).toList = us := by simp
  show wpAny _ _ (pure ((#[] : Array Value) ++ us.toArray).toList) Q E _
  rw [e]
  refine wpAny_pure (q _ (fun b o hb => ?_) ?_)
  · have hlt := Heap.lt_size hb
    rw [Heap.get?_update_ne _ _ _ _ (Nat.ne_of_lt hlt)]
    exact Heap.get?_push_of_some _ hb
  · rw [Heap.size_update, size_push']
    omega
theorem sorted_tupAny {a : Addr} {us : List Value} {ns : List Int} {Q : Value → Shared → Prop} (ht : s.heap.IsTuple a us.toArray) (hI : IntsAre us ns) (hz : us.length ≤ sizeLine)
    (q : ∀ h' p (out : Array Value) (c : Nat) (ms : List Int), (∀ b o, s.heap.get? b = some o → h'.get? b = some o) → s.heap.objs.size ≤ p → h'.get? p = some (seqObj "list" out c) → IntsAre out.toList ms → ms.Perm ns → ms.Pairwise (· ≤ ·) → Q (.ref p) { s with heap := h' }) :
    wpAny (model P w) A (call (.builtin "sorted") [.ref a]) Q E s := by
  refine Calls.call_function_entry PyProof.Rows.kind_sorted plain_sorted PyProof.Rows.entry_sorted (PyProof.Rows.args_sorted1 _) ?_
  unfold Builtin.«sorted»
  refine wpAny_bind (m := checkCount "sorted" 1 1 _) (wpAny_pure (wpAny_bind (gather_tup (A := A.in1) ht hz fun h1 k1 z1 => wpAny_bind (wpAny_newList ?_ hz))))
  have lo : (h1.push (seqObj "list" us.toArray 0)).get? h1.objs.size = some (seqObj "list" us.toArray 0) := Heap.get?_push_size _ rfl
  refine wpAny_bind (wpAny_holding (wpAny_call_entry slot_list_sort ⟨_, lo, rfl⟩ PyProof.Rows.entry_list_sort (list_sort_treeAny lo hI hz fun out ms a1 a2 a3 => ⟨_, rfl, ?_⟩) (PyProof.Rows.args_list_sort _)))
  obtain ⟨c, hc⟩ := sortedHeap_at (vs := us) (out := out) lo
  refine wpAny_pure ⟨_, rfl, q _ h1.objs.size out c ms (fun b u e => ?_) z1 hc a1 a2 a3⟩
  have e2 := k1 b u e
  have hlt := Heap.lt_size e2
  show (sortedHeap (h1.push (seqObj "list" us.toArray 0)) h1.objs.size us out).get? b = some u
  rw [sortedHeap_old (Nat.ne_of_lt hlt) (by rw [size_push']; exact Nat.lt_succ_of_lt hlt)]
  exact Heap.get?_push_of_some _ e2
variable {X : Cx}
def rSortTI (K : PySem.W.Frag) : List V → Hp → VK → Prop := fun vs H Q => ∃ (a : Addr) (ns : List Int), vs = [V.ref a] ∧ SqT K H a (ns.map V.int) ∧ ns.length ≤ 100000 ∧
  ∀ (ms : List Int) (p : Addr), ms.Perm ns → ms.Pairwise (· ≤ ·) → H p = none → Q (.ref p) (upd H p (.lst (ms.map V.int)))
theorem cr_sortTI : CallR X (.builtin "sorted") (rSortTI X.K) := by
  intro pins s σ H vs us Q I r h
  obtain ⟨a, ns, rfl, hs, hz, q⟩ := h
  obtain ⟨its, rv, ht, _⟩ := I.tuple hs
  rw [Vals.ref1 r]
  have hI : IntsAre its ns := by simpa using RZ.intsAre_vals rv
  have hl : its.length = ns.length := IntsAre.length hI
  refine sorted_tupAny ht hI (by rw [hl]; exact sz_le hz) fun h' p out c ms k hp hg hi hpm hs => ?_
  have hlen : (ms.map V.int).length ≤ sizeLine := by rw [List.length_map, hpm.length_eq]; exact sz_le hz
  have hn : H p = none := I.hok.fresh hp
  exact ⟨.ref p, upd H p (.lst (ms.map V.int)), I.laid (t' := s.toks) k hp ⟨hlen, out.toList, c, vals_of_ints hi, hg⟩, rfl, q ms p hpm hs hn⟩
def tDisp1T (tk tv : TE) : TE := fun σ H Q => ∀ p, H p = none → tk σ (upd H p (.dT [])) fun x H1 => tv σ H1 fun y H2 => ∃ (b : Addr) (k : List Key), x = .ref b ∧ H2 b = some (.tup (k.map kV)) ∧ H2 p = some (.dT []) ∧ Q (.ref p) (upd H2 p (.dT [(k, y)]))
theorem pe_disp1T {k v : Expr} {tk tv : TE} {pos : Pos} (hu : X.A.units + 1 < cLine) (hk : PE X k tk) (hv : PE X v tv) : PE X (.Dict [some k] [v] pos) (tDisp1T tk tv) := by
  refine ⟨fun pins s σ H Q I q => ?_⟩
  have hn := I.hok.fresh (Nat.le_refl s.heap.objs.size)
  have I1 := I.laid (a := s.heap.objs.size) (o := .dT []) (h' := s.heap.push { cls := .type "dict", data := .dict #[] }) (t' := s.toks) (fun _ _ z => Heap.get?_push_of_some _ z) (Nat.le_refl _) (dt_empty s.heap I.big)
  refine wpAny_Dict_any rfl rfl (by simp) (by show 1 ≤ 15; decide) (pairTrees_cons_walk (thn (hk.run pins _ σ _ _ I1 (q _ hn)) fun u s1 ⟨x, H1, I2, rx, q1⟩ => thn (hv.run pins s1 σ H1 _ I2 q1) fun z s2 ⟨y, H2, I3, ry, b, ks, ex, eb, ed, q2⟩ => pairTrees_nil_walk ?_))
  subst ex
  obtain rfl : u = Value.ref b := rx
  obtain ⟨z0, hd, xs0, r0, dd⟩ := dt_of I3.hok ed
  cases r0
  have hroom : (tupleKind (mixKind X.prog X.w)).room X.A := by show X.A.units < cLine; omega
  refine wpAny_storeAllH hroom [(Value.ref b, z)] [(ks, b, z)] [] s2 _ ⟨rfl, rfl, key_of I3.hok eb, trivial⟩ dd (by rw [sizeLine_eq]; show 1 ≤ 16777216; decide) fun h' tk2 dd' hs => ?_
  obtain ⟨o, es, ep, ho, h2, h3, h4, _, h5⟩ := dd'
  refine ⟨.ref s.heap.objs.size, upd H2 s.heap.objs.size (.dT [(ks, y)]), d_write I3 (by rw [ed]; exact True.intro) hs ⟨o, ho⟩ ⟨by rw [sizeLine_eq]; show 1 ≤ 16777216; decide, hd, _, .cons ⟨rfl, ?_, ry⟩ .nil, o, es, ep, ho, h2, h3, h4, h5⟩, rfl, q2⟩
  show upd H2 s.heap.objs.size (.dT [(ks, y)]) b = _
  rw [upd_ne (ne_of eb ed (fun z => nomatch z))]
  exact eb
end
end Cw
namespace Cw
open PySem L2
theorem kSortTI {X : Cx} (K : PySem.W.Frag) (h : X.K = K) : CallR X (.builtin "sorted") (rSortTI K) := h ▸ cr_sortTI
def rTupOf (K : PySem.W.Frag) : List V → Hp → VK → Prop := fun xs H Q => ∃ p ys, xs = [.ref p] ∧ ((SqL K H p ys ∧ ∀ l, H l = none → Q (.ref l) (upd H l (.tup ys))) ∨ (SqT K H p ys ∧ Q (.ref p) H))
theorem kTupOf {X : Cx} (K : PySem.W.Frag) (h : X.K = K) : CallR X (.type "tuple") (rTupOf K) := h ▸ call_tuple_of
theorem kCatA {X : Cx} (K : PySem.W.Frag) (h : X.K = K) : OpR X (binaryOp .Add) (rCatA K) := h ▸ op_catA
theorem kMinI {X : Cx} (K : PySem.W.Frag) (h : X.K = K) (hc : X.calm = true) : CallR X (.builtin "min") (rMin K) := h ▸ cr_min hc
section
variable {K : PySem.W.Frag} {H : Hp} {Q : VK} {σ : L2.St}
theorem w_sortTI {a : Addr} {ns : List Int} (h : SqT K H a (ns.map V.int)) (hl : ns.length ≤ 100000) (q : ∀ p, H p = none → Q (.ref p) (upd H p (.lst ((sorts ns).map V.int)))) : rSortTI K [.ref a] H Q :=
  ⟨a, ns, rfl, h, hl, fun ms p h1 h2 hp => by
    rw [sorted_uniq (h1.trans (sorts_perm ns).symm) h2 (sorts_sorted ns)]
    exact q p hp⟩
theorem w_tupOf {a : Addr} {xs : List V} (h : SqL K H a xs) (q : ∀ p, H p = none → Q (.ref p) (upd H p (.tup xs))) : rTupOf K [.ref a] H Q := ⟨a, xs, rfl, .inl ⟨h, q⟩⟩
theorem w_catA {a b : Addr} {xs ys : List V} (h1 : SqT K H a xs) (h2 : SqT K H b ys) (hy : ys ≠ []) (hz : xs.length + ys.length ≤ 100000) (q : ∀ p H', Fr [] H H' → SqT K H' p (xs ++ ys) → Q (.ref p) H') : rCatA K (.ref a) (.ref b) H Q :=
  ⟨a, b, xs, ys, rfl, rfl, h1, h2, sz_le hz, fun e => q b H .refl (by rw [e]; exact h2), fun _ e => absurd e hy, fun _ _ p hp => q p _ (Fr.new hp) (SqT.of upd_same)⟩
theorem w_minI {a : Addr} {ns : List Int} {m : Int} (h : SqL K H a (ns.map V.int)) (hm : m ∈ ns) (hl : ∀ y ∈ ns, m ≤ y) (q : Q (.int m) H) : rMin K [.ref a] H Q :=
  ⟨a, ns, rfl, h, List.length_pos_of_mem hm, fun m' h1 h2 => by
    have e : m' = m := by
      have a1 := h2 m hm
      have a2 := hl m' h1
      omega
    rw [e]
    exact q⟩
theorem w_niT {p : Addr} {ns : List Int} {x : Int} (h : SqT K H p (ns.map V.int)) (q : Q (.bl (decide (x ∉ ns))) H) : rIn K true (.int x) (.ref p) H Q :=
  ⟨p, ns.map V.int, rfl, .inr h, rfl, flat_int ns, by
    rw [if_pos rfl, in_int]
    have e : (!decide (x ∈ ns)) = decide (x ∉ ns) := by simp
    rw [e]
    exact q⟩
theorem w_dnewT (q : ∀ p, H p = none → Q (.ref p) (upd H p (.dT []))) : tDNewT σ H Q := q
theorem w_disp1T {tk tv : TE} (q : ∀ p, H p = none → tk σ (upd H p (.dT [])) fun x H1 => tv σ H1 fun y H2 => ∃ (b : Addr) (k : List Key), x = .ref b ∧ H2 b = some (.tup (k.map kV)) ∧ H2 p = some (.dT []) ∧ Q (.ref p) (upd H2 p (.dT [(k, y)]))) : tDisp1T tk tv σ H Q := q
def encT (kn : Kn) : List (List Key × V) := kn.map fun e => (e.1.map Sum.inl, V.int e.2)
theorem key_inj {a b : List Int} (h : a.map (Sum.inl : Int → Key) = b.map Sum.inl) : a = b := by
  have := congrArg (List.map fun k : Key => match k with | .inl i => i | .inr _ => 0) h
  simpa [List.map_map, Function.comp_def] using this
theorem key_vals (k : List Int) : (k.map (Sum.inl : Int → Key)).map kV = k.map V.int := by rw [List.map_map]; rfl
theorem valV_enc (kn : Kn) (k : List Int) : valV (encT kn) (k.map Sum.inl) = (look kn k).map V.int := by
  unfold look
  induction kn with
  | nil => rfl
  | cons e kn ih =>
    unfold encT at ih ⊢
    rw [List.map_cons, List.find?_cons]
    by_cases h : e.1 = k
    · rw [valV_pos (by rw [h]), decide_eq_true h]
      rfl
    · rw [valV_neg (fun z => h (key_inj z)), decide_eq_false h]
      exact ih
theorem putK_enc (kn : Kn) (k : List Int) (v : Int) : putK (encT kn) (k.map Sum.inl) (.int v) = encT (put kn k v) := by
  unfold putK put
  rw [valV_any, valV_enc, Option.isSome_map]
  split
  · unfold encT
    rw [List.map_map, List.map_map]
    refine List.map_congr_left fun e _ => ?_
    simp only [Function.comp]
    by_cases h : e.1 = k
    · rw [if_pos (by rw [h]), if_pos h]
    · rw [if_neg (fun z => h (key_inj z)), if_neg h]
  · unfold encT
    rw [List.map_append]
    rfl
theorem encT_at {kn : Kn} {i : Nat} {k : List Key} {v : V} (h : (encT kn)[i]? = some (k, v)) : ∃ e, kn[i]? = some e ∧ k = e.1.map Sum.inl ∧ v = .int e.2 := by
  unfold encT at h
  rw [List.getElem?_map] at h
  obtain ⟨e, he, q⟩ := Option.map_eq_some_iff.mp h
  exact ⟨e, he, (congrArg Prod.fst q).symm, (congrArg Prod.snd q).symm⟩
theorem encT_len (kn : Kn) : (encT kn).length = kn.length := List.length_map _
theorem w_get2 {td ty tx : TE} (h : td σ H fun x H1 => ∃ a, x = .ref a ∧ IsD H1 a ∧ ty σ H1 fun y H2 => tx σ H2 fun z H3 => ∃ o, DGet H3 a y o ∧ Q (o.getD z) H3) : tDGet2 td ty tx σ H Q := h
theorem w_isD {d : Addr} {kvs : List (List Key × V)} {P : Addr → Prop} (h : H d = some (.dT kvs)) (q : P d) : ∃ a, V.ref d = .ref a ∧ IsD H a ∧ P a := ⟨d, rfl, .inr ⟨kvs, .inl h⟩, q⟩
theorem w_getT {d b : Addr} {kn : Kn} {k : List Int} {P : Option V → Prop} (h : H d = some (.dT (encT kn))) (hb : H b = some (.tup (k.map V.int))) (q : P ((look kn k).map V.int)) : ∃ o, DGet H d (.ref b) o ∧ P o :=
  ⟨_, DGet.t (k := k.map Sum.inl) h (by rw [key_vals]; exact hb), by rw [valV_enc]; exact q⟩
theorem getD_int (o : Option Int) (c : Int) : (o.map V.int).getD (.int c) = .int (o.getD c) := by cases o <;> rfl
theorem w_dgetF {d b : Addr} {o : Obj} {kn : Kn} {k : List Int} {v : Int} {P : V → Prop} (h : H d = some (.frz o (.dT (encT kn)))) (hb : H b = some (.tup (k.map V.int))) (hv : look kn k = some v) (q : P (.int v)) : ∃ a v, V.ref d = .ref a ∧ DGet H a (.ref b) (some v) ∧ P v :=
  ⟨d, .int v, rfl, .inr ⟨encT kn, k.map Sum.inl, b, .inr ⟨o, h⟩, rfl, by rw [key_vals]; exact hb, by rw [valV_enc, hv]; rfl⟩, q⟩
theorem w_dputT {d b : Addr} {kn : Kn} {k : List Int} {v : Int} {N : Hp → Prop} (h : H d = some (.dT (encT kn))) (hb : H b = some (.tup (k.map V.int))) (hl : kn.length < 100000) (q : N (upd H d (.dT (encT (put kn k v))))) : ∃ a H4, V.ref d = .ref a ∧ DPut H a (.ref b) (.int v) H4 ∧ N H4 :=
  ⟨d, _, rfl, DPut.t (k := k.map Sum.inl) h (by rw [key_vals]; exact hb) (by rw [encT_len]; exact sz_lt hl), by rw [putK_enc]; exact q⟩
theorem w_iKeys {td : TE} {R : It → Hp → Prop} (h : td σ H fun x H1 => ∃ d o, x = .ref d ∧ ((∃ kvs, H1 d = some (.frz o (.dK kvs)) ∧ R (Itk d o kvs) H1) ∨ ∃ kvs, H1 d = some (.frz o (.dT kvs)) ∧ R (Itkt d o kvs) H1)) : iKeys td σ H R := h
theorem w_lock {t : TS} {nx : L2.St → Hp → Prop} {rt : VK} {bk ct : L2.St → Hp → Prop} {d : Addr} {kvs : List (List Key × V)} (h : H d = some (.dT kvs)) (q : ∀ od, t ⟨fun σ' H' => H' d = some (.frz od (.dT kvs)) ∧ nx σ' (upd H' d (.dT kvs)), fun v H' => H' d = some (.frz od (.dT kvs)) ∧ rt v (upd H' d (.dT kvs)),
    fun σ' H' => H' d = some (.frz od (.dT kvs)) ∧ bk σ' (upd H' d (.dT kvs)), fun σ' H' => H' d = some (.frz od (.dT kvs)) ∧ ct σ' (upd H' d (.dT kvs))⟩ σ (upd H d (.frz od (.dT kvs)))) : tLock t ⟨nx, rt, bk, ct⟩ σ H := ⟨d, _, h, True.intro, q⟩
theorem w_lockE {t : TE} {d : Addr} {kvs : List (List Key × V)} (h : H d = some (.dT kvs)) (q : ∀ od, t σ (upd H d (.frz od (.dT kvs))) fun v H' => H' d = some (.frz od (.dT kvs)) ∧ Q v (upd H' d (.dT kvs))) : tLockE t σ H Q := ⟨d, _, h, True.intro, q⟩
theorem f_keysT {g : TG} {tb : TS} {nx : L2.St → Hp → Prop} {rt : VK} {d : Addr} {od : Obj} (kn : Kn) (Pv : Nat → L2.St → Hp → Prop) (h0 : Pv 0 σ H) (hl : ∀ i σ H, Pv i σ H → H d = some (.frz od (.dT (encT kn))))
    (hs : ∀ i e q σ H, kn[i]? = some e → H q = some (.tup (e.1.map V.int)) → Pv i σ H → g (.ref q) σ H fun σ2 H2 => tb ⟨Pv (i + 1), rt, nx, Pv (i + 1)⟩ σ2 H2) (hd : ∀ σ H, Pv kn.length σ H → nx σ H) :
    ∃ d' o, V.ref d = .ref d' ∧ ((∃ kvs, H d' = some (.frz o (.dK kvs)) ∧ ∃ W : Nat → Nat → L2.St → Hp → Prop, (∃ m, W 0 m σ H) ∧ ∀ i m σ H, W i m σ H →
        ((Itk d' o kvs).stop i H ∧ nx σ H) ∨ ((Itk d' o kvs).go i H ∧ ∃ N : L2.St → Hp → Prop, (∀ σ' H', N σ' H' → ∃ m', m' < m ∧ W (i + 1) m' σ' H') ∧ ∀ x H', (Itk d' o kvs).yld i H x H' → g x σ H' fun σ2 H2 => tb ⟨N, rt, nx, N⟩ σ2 H2)) ∨
      ∃ kvs, H d' = some (.frz o (.dT kvs)) ∧ ∃ W : Nat → Nat → L2.St → Hp → Prop, (∃ m, W 0 m σ H) ∧ ∀ i m σ H, W i m σ H →
        ((Itkt d' o kvs).stop i H ∧ nx σ H) ∨ ((Itkt d' o kvs).go i H ∧ ∃ N : L2.St → Hp → Prop, (∀ σ' H', N σ' H' → ∃ m', m' < m ∧ W (i + 1) m' σ' H') ∧ ∀ x H', (Itkt d' o kvs).yld i H x H' → g x σ H' fun σ2 H2 => tb ⟨N, rt, nx, N⟩ σ2 H2)) := by
  refine ⟨d, od, rfl, .inr ⟨encT kn, hl 0 σ H h0, fun i m σ H => m = kn.length - i ∧ i ≤ kn.length ∧ Pv i σ H, ⟨kn.length, by simp, Nat.zero_le _, h0⟩, ?_⟩⟩
  rintro i m σ H ⟨rfl, hi, p⟩
  have q := hl i σ H p
  by_cases hlt : i < kn.length
  · refine .inr ⟨⟨q, by rw [encT_len]; exact hlt⟩, Pv (i + 1), fun σ' H' p' => ⟨kn.length - (i + 1), by omega, rfl, hlt, p'⟩, fun x H' y => ?_⟩
    obtain ⟨rfl, k, v, b, hk, rfl, hb⟩ := y
    obtain ⟨e, he, rfl, rfl⟩ := encT_at hk
    rw [key_vals] at hb
    exact hs i e b σ H' he hb p
  · have e : i = kn.length := by omega
    subst e
    exact .inl ⟨⟨q, by rw [encT_len]; exact Nat.le_refl _⟩, hd σ H p⟩
theorem l_keysT {g : TG} {tt : TT} {te : TE} {vs : List Nat} {Qd : Addr → Hp → Prop} {d : Addr} {od : Obj} (kn : Kn) (hq : H d = some (.frz od (.dT (encT kn)))) (Pv : Addr → Nat → List V → Hp → Prop) (h0 : ∀ D, H D = none → Pv D 0 [] (upd H D (.lst [])))
    (hl : ∀ D i acc H', H D = none → Pv D i acc H' → H' D = some (.lst acc) → H' d = some (.frz od (.dT (encT kn))))
    (hs : ∀ D i e q acc H', H D = none → kn[i]? = some e → H' q = some (.tup (e.1.map V.int)) → Pv D i acc H' → H' D = some (.lst acc) → acc.length ≤ i → g (.ref q) (wipe σ vs) H' fun σ2 H2 => wipe σ2 vs = wipe σ vs ∧ tt σ2 H2 fun b H3 =>
      if b = true then te σ2 H3 fun y H4 => ∃ acc, H4 D = some (.lst acc) ∧ acc.length < sizeLine ∧ LcI Pv D (i + 1) (upd H4 D (.lst (acc ++ [y]))) else LcI Pv D (i + 1) H3)
    (hd : ∀ D acc H', H D = none → Pv D kn.length acc H' → H' D = some (.lst acc) → acc.length ≤ kn.length → Qd D H') :
    ∃ d' o, V.ref d = .ref d' ∧ ((∃ kvs, H d' = some (.frz o (.dK kvs)) ∧ ∀ D, H D = none → ∃ W : Nat → Nat → Hp → Prop, (∃ m, W 0 m (upd H D (.lst []))) ∧ ∀ i m H, W i m H →
        ((Itk d' o kvs).stop i H ∧ Qd D H) ∨ ((Itk d' o kvs).go i H ∧ ∃ Nx : Hp → Prop, (∀ H', Nx H' → ∃ m', m' < m ∧ W (i + 1) m' H') ∧ ∀ x H', (Itk d' o kvs).yld i H x H' → g x (wipe σ vs) H' fun σ2 H2 => wipe σ2 vs = wipe σ vs ∧ tt σ2 H2 fun b H3 =>
          if b = true then te σ2 H3 fun y H4 => ∃ acc, H4 D = some (.lst acc) ∧ acc.length < sizeLine ∧ Nx (upd H4 D (.lst (acc ++ [y]))) else Nx H3)) ∨
      ∃ kvs, H d' = some (.frz o (.dT kvs)) ∧ ∀ D, H D = none → ∃ W : Nat → Nat → Hp → Prop, (∃ m, W 0 m (upd H D (.lst []))) ∧ ∀ i m H, W i m H →
        ((Itkt d' o kvs).stop i H ∧ Qd D H) ∨ ((Itkt d' o kvs).go i H ∧ ∃ Nx : Hp → Prop, (∀ H', Nx H' → ∃ m', m' < m ∧ W (i + 1) m' H') ∧ ∀ x H', (Itkt d' o kvs).yld i H x H' → g x (wipe σ vs) H' fun σ2 H2 => wipe σ2 vs = wipe σ vs ∧ tt σ2 H2 fun b H3 =>
          if b = true then te σ2 H3 fun y H4 => ∃ acc, H4 D = some (.lst acc) ∧ acc.length < sizeLine ∧ Nx (upd H4 D (.lst (acc ++ [y]))) else Nx H3)) := by
  refine ⟨d, od, rfl, .inr ⟨encT kn, hq, fun D hD => ⟨fun i m H' => m = kn.length - i ∧ i ≤ kn.length ∧ LcI Pv D i H', ⟨kn.length, by simp, Nat.zero_le _, [], h0 D hD, upd_same, Nat.le_refl _⟩, ?_⟩⟩⟩
  rintro i m H' ⟨rfl, hi, acc, p, e, l⟩
  have q := hl D i acc H' hD p e
  by_cases hlt : i < kn.length
  · refine .inr ⟨⟨q, by rw [encT_len]; exact hlt⟩, LcI Pv D (i + 1), fun H2 p' => ⟨kn.length - (i + 1), by omega, rfl, hlt, p'⟩, fun x H2 y => ?_⟩
    obtain ⟨rfl, k, v, b, hk, rfl, hb⟩ := y
    obtain ⟨u, hu, rfl, rfl⟩ := encT_at hk
    rw [key_vals] at hb
    exact hs D i u b acc H2 hD hu hb p e l
  · have e' : i = kn.length := by omega
    subst e'
    exact .inl ⟨⟨q, by rw [encT_len]; exact Nat.le_refl _⟩, hd D acc H' hD p e l⟩
theorem w_iTup {tl : TE} {R : It → Hp → Prop} (h : tl σ H fun x H1 => ∃ a, x = V.ref a ∧ (∃ xs, SqT K H1 a xs) ∧ R (Itt K a) H1) : iTup K tl σ H R := h
theorem l_tup {g : TG} {tt : TT} {te : TE} {vs : List Nat} {Qd : Addr → Hp → Prop} {a : Addr} (xs : List V) (hq : SqT K H a xs) (Pv : Addr → Nat → List V → Hp → Prop) (h0 : ∀ D, H D = none → Pv D 0 [] (upd H D (.lst [])))
    (hl : ∀ D i acc H', H D = none → Pv D i acc H' → H' D = some (.lst acc) → SqT K H' a xs)
    (hs : ∀ D (i : Nat) x acc H', H D = none → xs[i]? = some x → Pv D i acc H' → H' D = some (.lst acc) → acc.length ≤ i → g x (wipe σ vs) H' fun σ2 H2 => wipe σ2 vs = wipe σ vs ∧ tt σ2 H2 fun b H3 =>
      if b = true then te σ2 H3 fun y H4 => ∃ acc, H4 D = some (.lst acc) ∧ acc.length < sizeLine ∧ LcI Pv D (i + 1) (upd H4 D (.lst (acc ++ [y]))) else LcI Pv D (i + 1) H3)
    (hd : ∀ D acc H', H D = none → Pv D xs.length acc H' → H' D = some (.lst acc) → acc.length ≤ xs.length → Qd D H') :
    ∃ b, V.ref a = V.ref b ∧ (∃ xs, SqT K H b xs) ∧ ∀ D, H D = none → ∃ W : Nat → Nat → Hp → Prop, (∃ m, W 0 m (upd H D (.lst []))) ∧ ∀ i m H, W i m H →
      ((Itt K b).stop i H ∧ Qd D H) ∨ ((Itt K b).go i H ∧ ∃ Nx : Hp → Prop, (∀ H', Nx H' → ∃ m', m' < m ∧ W (i + 1) m' H') ∧ ∀ x H', (Itt K b).yld i H x H' → g x (wipe σ vs) H' fun σ2 H2 => wipe σ2 vs = wipe σ vs ∧ tt σ2 H2 fun b H3 =>
        if b = true then te σ2 H3 fun y H4 => ∃ acc, H4 D = some (.lst acc) ∧ acc.length < sizeLine ∧ Nx (upd H4 D (.lst (acc ++ [y]))) else Nx H3) := by
  refine ⟨a, rfl, ⟨xs, hq⟩, fun D hD => lc_tup (K := K) (a := a) (xs := xs) (LcI Pv D) ⟨[], h0 D hD, upd_same, Nat.le_refl _⟩ (fun i H' _ ⟨acc, p, e, _⟩ => hl D i acc H' hD p e) (fun i x H' hx ⟨acc, p, e, l⟩ => hs D i x acc H' hD hx p e l) (fun H' ⟨acc, p, e, l⟩ => hd D acc H' hD p e l)⟩
/-- [x for x in t if test] of a tuple of whole numbers -/
theorem l_filterT {g : TG} {tt : TT} {te : TE} {vs : List Nat} {Qd : Addr → Hp → Prop} {a : Addr} (ns : List Int) (p : Int → Bool) (hq : SqT K H a (ns.map V.int))
    (hs : ∀ D (i : Nat) y H', H D = none → ns[i]? = some y → Fr [] H H' → LcI (PvF H ns p) D i H' → g (.int y) (wipe σ vs) H' fun σ2 H2 => wipe σ2 vs = wipe σ vs ∧ tt σ2 H2 fun b H3 =>
      if b = true then te σ2 H3 fun y H4 => ∃ acc, H4 D = some (.lst acc) ∧ acc.length < sizeLine ∧ LcI (PvF H ns p) D (i + 1) (upd H4 D (.lst (acc ++ [y]))) else LcI (PvF H ns p) D (i + 1) H3)
    (hd : ∀ D H', H D = none → Fr [] H H' → H' D = some (.lst ((ns.filter p).map V.int)) → Qd D H') :
    ∃ b, V.ref a = V.ref b ∧ (∃ xs, SqT K H b xs) ∧ ∀ D, H D = none → ∃ W : Nat → Nat → Hp → Prop, (∃ m, W 0 m (upd H D (.lst []))) ∧ ∀ i m H, W i m H →
      ((Itt K b).stop i H ∧ Qd D H) ∨ ((Itt K b).go i H ∧ ∃ Nx : Hp → Prop, (∀ H', Nx H' → ∃ m', m' < m ∧ W (i + 1) m' H') ∧ ∀ x H', (Itt K b).yld i H x H' → g x (wipe σ vs) H' fun σ2 H2 => wipe σ2 vs = wipe σ vs ∧ tt σ2 H2 fun b H3 =>
        if b = true then te σ2 H3 fun y H4 => ∃ acc, H4 D = some (.lst acc) ∧ acc.length < sizeLine ∧ Nx (upd H4 D (.lst (acc ++ [y]))) else Nx H3) := by
  refine l_tup (ns.map V.int) hq (PvF H ns p) (fun D hD => ⟨Fr.new hD, by simp⟩) (fun D i acc H' hD h _ => h.1.seqT hq) ?_ ?_
  · rintro D i x acc H' hD hi h hacc hla
    obtain ⟨y, hy, rfl⟩ := int_at hi
    exact hs D i y H' hD hy h.1 ⟨acc, h, hacc, hla⟩
  · rintro D acc H' hD ⟨F, rfl⟩ hacc hla
    rw [List.length_map, List.take_length] at hacc
    exact hd D H' hD F hacc
end
/-- xs are refs to tuples of whole numbers -/
def TupsAt (H : Hp) (xs : List V) (os : List (List Int)) : Prop := xs.length = os.length ∧ ∀ (i : Nat) (o : List Int), os[i]? = some o → ∃ t, xs[i]? = some (.ref t) ∧ H t = some (.tup (o.map V.int))
theorem TupsAt.nil {H : Hp} : TupsAt H [] [] := ⟨rfl, fun i e h => by simp at h⟩
theorem TupsAt.fr0 {H H' : Hp} {xs : List V} {os : List (List Int)} (h : TupsAt H xs os) (f : Fr [] H H') : TupsAt H' xs os := ⟨h.1, fun i o ho => by
  obtain ⟨t, h1, h2⟩ := h.2 i o ho
  exact ⟨t, h1, f.get0 h2⟩⟩
theorem TupsAt.snoc {H : Hp} {xs : List V} {os : List (List Int)} {t : Addr} {o : List Int} (h : TupsAt H xs os) (ht : H t = some (.tup (o.map V.int))) : TupsAt H (xs ++ [.ref t]) (os ++ [o]) := ⟨by simp [h.1], fun i e he => by
  rcases Nat.lt_or_ge i os.length with l | l
  · rw [List.getElem?_append_left l] at he
    rw [List.getElem?_append_left (by rw [h.1]; exact l)]
    exact h.2 i e he
  · rw [List.getElem?_append_right l] at he
    have hi : i - os.length = 0 := by
      have := (List.getElem?_eq_some_iff.mp he).1
      simp at this
      omega
    rw [hi] at he
    obtain rfl := Option.some.inj he
    exact ⟨t, by rw [List.getElem?_append_right (by rw [h.1]; exact l), h.1, hi]; rfl, ht⟩⟩
theorem TupsAt.one {H : Hp} {t : Addr} {o : List Int} (ht : H t = some (.tup (o.map V.int))) : TupsAt H [.ref t] [o] := TupsAt.snoc .nil ht
/-- lists and dicts that change are no tuples -/
theorem TupsAt.up {H : Hp} {xs : List V} {os : List (List Int)} {p : Addr} {u v : HO} (h : TupsAt H xs os) (hp : H p = some u) (hu : ∀ ys, u ≠ .tup ys) : TupsAt (upd H p v) xs os := ⟨h.1, fun i o ho => by
  obtain ⟨t, h1, h2⟩ := h.2 i o ho
  refine ⟨t, h1, (upd_ne fun e => ?_).trans h2⟩
  subst e
  rw [hp] at h2
  exact hu _ (Option.some.inj h2)⟩
end Cw

namespace Cw
open PySem L2
/-! how many Trues a list has -/
section
open PySem.Spec PyProof.Rows PySem.W
variable {X : Cx}
theorem cnt_vals {y : V} (fy : flatV y = true) : ∀ {zs : List V} {us : List Value}, Vals zs us → zs.all flatV = true → us.countP (eqU y) = zs.countP (fun z => eqV z y)
  | _, _, .nil, _ => rfl
  | _, _, .cons (a := z) (b := u) (l₁ := zs) (l₂ := us) ru rt, h => by
    rw [List.all_cons, Bool.and_eq_true] at h
    rw [List.countP_cons, List.countP_cons, cnt_vals fy rt h.2, eqU_of ru h.1]
def rCntB (K : PySem.W.Frag) : V → List V → Hp → VK → Prop := fun x xs H Q => ∃ (p : Addr) (bs : List Bool), x = .ref p ∧ xs = [.bl true] ∧ SqL K H p (bs.map V.bl) ∧ Q (.int (bs.filter id).length) H
theorem mt_countB : MtR X "list.count" (rCntB X.K) := by
  intro pins s σ H x xs v us Q I rx rxs h
  obtain ⟨p, bs, rfl, rfl, hs, q⟩ := h
  cases rx
  obtain ⟨u, rfl, ru⟩ := rxs.one
  obtain ⟨its, rv, ⟨⟨cls, dd, data, sl⟩, n, ho, hc, hdn, hd⟩, hlen⟩ := I.list hs
  simp only at hc hd
  subst hc hd
  have fb : (bs.map V.bl).all flatV = true := by
    rw [List.all_map, List.all_eq_true]
    intro b _
    rfl
  refine call_meets PySem.F.slot_list_count ⟨_, ho, rfl⟩ PySem.F.entry_list_count (PySem.F.args_list_count_2 _ _)
    (SeqAt.list_countAt p its.toArray n dd sl u (eqU (.bl true))) ⟨ho, fun y hy => mem_eqAt ru rfl rv fb y (by simpa using hy), ?_⟩
  have ec : its.toArray.toList.countP (eqU (.bl true)) = (bs.filter id).length := by
    rw [List.toList_toArray, cnt_vals rfl rv fb, List.countP_map, List.countP_eq_length_filter]
    congr 1
    refine List.filter_congr fun b _ => ?_
    cases b <;> simp [eqV]
  refine ⟨.int (bs.filter id).length, H, I.tok _, ⟨s.toks, ?_⟩, q⟩
  show Value.int ((its.toArray.toList.countP (eqU (.bl true)) : Nat) : Int) s.toks = Value.int ((bs.filter id).length : Nat) s.toks
  rw [ec]
end
theorem kCountB {X : Cx} (K : PySem.W.Frag) (h : X.K = K) : MtR X "list.count" (rCntB K) := h ▸ mt_countB
theorem kMaxI {X : Cx} (K : PySem.W.Frag) (h : X.K = K) (hc : X.calm = true) : CallR X (.builtin "max") (rMax K) := h ▸ cr_max hc
section
variable {K : PySem.W.Frag} {H : Hp} {Q : VK}
theorem w_countB {p : Addr} {bs : List Bool} (h : SqL K H p (bs.map V.bl)) (q : Q (.int (bs.filter id).length) H) : rCntB K (.ref p) [.bl true] H Q := ⟨p, bs, rfl, rfl, h, q⟩
theorem w_maxI {a : Addr} {ns : List Int} {m : Int} (h : SqL K H a (ns.map V.int)) (hm : m ∈ ns) (hl : ∀ y ∈ ns, y ≤ m) (q : Q (.int m) H) : rMax K [.ref a] H Q :=
  ⟨a, ns, rfl, h, List.length_pos_of_mem hm, fun m' h1 h2 => by
    have e : m' = m := by
      have a1 := h2 m hm
      have a2 := hl m' h1
      omega
    rw [e]
    exact q⟩
theorem w_indexI {a : Addr} {ns : List Int} {x : Int} (h : SqL K H a (ns.map V.int)) (hm : x ∈ ns) (q : Q (.int ((ns.idxOf x : Nat) : Int)) H) : rIndex K (.ref a) [.int x] H Q := by
  have hl := List.idxOf_lt_length_iff.mpr hm
  refine ⟨a, ns.map V.int, .int x, ns.idxOf x, .int x, rfl, rfl, h, rfl, flat_int ns, ?_, by simp [eqV], fun m z' hm' hz => ?_, q⟩
  · rw [List.getElem?_map, List.getElem?_eq_getElem hl]; simp
  · rw [List.getElem?_map, List.getElem?_eq_getElem (by omega)] at hz
    obtain rfl := Option.some.inj hz
    have ne : ns[m] ≠ x := fun e => by
      have z := List.not_of_lt_findIdx (p := (· == x)) (xs := ns) (i := m) hm'
      simp [e] at z
    simp [eqV, ne]
end
/-! lists of rows, new beside H and none of A -/
def RowsAt (A : List Addr) (H H' : Hp) (xs : List V) (rs : List (List Int)) : Prop := xs.length = rs.length ∧ ∀ (i : Nat) (r : List Int), rs[i]? = some r → ∃ l, xs[i]? = some (.ref l) ∧ H l = none ∧ l ∉ A ∧ H' l = some (.lst (r.map V.int))
theorem RowsAt.nil {A : List Addr} {H H' : Hp} : RowsAt A H H' [] [] := ⟨rfl, fun i e h => by simp at h⟩
theorem RowsAt.fr {A W : List Addr} {H H' H2 : Hp} {xs : List V} {rs : List (List Int)} (h : RowsAt A H H' xs rs) (f : Fr W H' H2) (hw : ∀ w ∈ W, w ∈ A) : RowsAt A H H2 xs rs := ⟨h.1, fun i r hr => by
  obtain ⟨l, h1, h2, h3, h4⟩ := h.2 i r hr
  exact ⟨l, h1, h2, h3, f.get h4 (fun m => h3 (hw _ m))⟩⟩
theorem RowsAt.fr0 {A : List Addr} {H H' H2 : Hp} {xs : List V} {rs : List (List Int)} (h : RowsAt A H H' xs rs) (f : Fr [] H' H2) : RowsAt A H H2 xs rs := h.fr f (by simp)
theorem RowsAt.add {A : List Addr} {H H' : Hp} {xs : List V} {rs : List (List Int)} {p : Addr} (h : RowsAt A H H' xs rs) (hp : H' p = none) : RowsAt (p :: A) H H' xs rs := ⟨h.1, fun i r hr => by
  obtain ⟨l, h1, h2, h3, h4⟩ := h.2 i r hr
  refine ⟨l, h1, h2, fun m => ?_, h4⟩
  rcases List.mem_cons.mp m with m | m
  · rw [m, hp] at h4; cases h4
  · exact h3 m⟩
theorem RowsAt.less {A B : List Addr} {H H' : Hp} {xs : List V} {rs : List (List Int)} (h : RowsAt A H H' xs rs) (hb : ∀ x ∈ B, x ∈ A) : RowsAt B H H' xs rs := ⟨h.1, fun i r hr => by
  obtain ⟨l, h1, h2, h3, h4⟩ := h.2 i r hr
  exact ⟨l, h1, h2, fun m => h3 (hb _ m), h4⟩⟩
theorem RowsAt.base {A W : List Addr} {H0 H H' : Hp} {xs : List V} {rs : List (List Int)} (h : RowsAt A H H' xs rs) (f : Fr W H0 H) : RowsAt A H0 H' xs rs := ⟨h.1, fun i r hr => by
  obtain ⟨l, h1, h2, h3⟩ := h.2 i r hr
  exact ⟨l, h1, f.2 l h2, h3⟩⟩
theorem RowsAt.append {A : List Addr} {H H' : Hp} {xs ys : List V} {rs qs : List (List Int)} (h : RowsAt A H H' xs rs) (h2 : RowsAt A H H' ys qs) : RowsAt A H H' (xs ++ ys) (rs ++ qs) := ⟨by simp [h.1, h2.1], fun i r hr => by
  rcases Nat.lt_or_ge i rs.length with lt | ge
  · rw [List.getElem?_append_left lt] at hr
    rw [List.getElem?_append_left (by rw [h.1]; exact lt)]
    exact h.2 i r hr
  · rw [List.getElem?_append_right ge] at hr
    rw [List.getElem?_append_right (by rw [h.1]; exact ge), h.1]
    exact h2.2 _ r hr⟩
theorem RowsAt.one {A : List Addr} {H H' : Hp} {l : Addr} {r : List Int} (hl : H l = none) (al : l ∉ A) (h : H' l = some (.lst (r.map V.int))) : RowsAt A H H' [.ref l] [r] := ⟨rfl, fun i e he => by
  match i, he with
  | 0, he =>
    obtain rfl := Option.some.inj he
    exact ⟨l, rfl, hl, al, h⟩⟩
theorem RowsAt.snoc {A : List Addr} {H H' : Hp} {xs : List V} {rs : List (List Int)} {l : Addr} {r : List Int} (h : RowsAt A H H' xs rs) (hl : H l = none) (al : l ∉ A) (h2 : H' l = some (.lst (r.map V.int))) : RowsAt A H H' (xs ++ [.ref l]) (rs ++ [r]) := h.append (.one hl al h2)
/-! all rows of so long -/
def nextR (p : Nat) (r : List Int) : List (List Int) := (List.range p).map fun q : Nat => r ++ [(q : Int)]
def rowsM (p : Nat) : Nat → List (List Int)
  | 0 => [[]]
  | k + 1 => (rowsM p k).flatMap (nextR p)
theorem nextR_len (p : Nat) (r : List Int) : (nextR p r).length = p := by unfold nextR; rw [List.length_map, List.length_range]
theorem flat_len {p : Nat} : ∀ rs : List (List Int), (rs.flatMap (nextR p)).length = rs.length * p
  | [] => by simp
  | r :: rs => by rw [List.flatMap_cons, List.length_append, nextR_len, flat_len rs, List.length_cons, Nat.succ_mul]; omega
theorem rowsM_len (p : Nat) : ∀ k, (rowsM p k).length = p ^ k
  | 0 => rfl
  | k + 1 => by unfold rowsM; rw [flat_len, rowsM_len p k, Nat.pow_succ]
theorem rowsM_mem {p : Nat} : ∀ (k : Nat) (r : List Int), r ∈ rowsM p k → r.length = k ∧ ∀ x ∈ r, 0 ≤ x ∧ x < (p : Int)
  | 0, r, h => by
    have : r = [] := by simpa [rowsM] using h
    subst this
    exact ⟨rfl, by simp⟩
  | k + 1, r, h => by
    unfold rowsM at h
    obtain ⟨r0, h1, h2⟩ := List.mem_flatMap.mp h
    obtain ⟨i1, i2⟩ := rowsM_mem k r0 h1
    unfold nextR at h2
    obtain ⟨q, hq, rfl⟩ := List.mem_map.mp h2
    rw [List.mem_range] at hq
    refine ⟨by simp [i1], fun x hx => ?_⟩
    rcases List.mem_append.mp hx with hx | hx
    · exact i2 x hx
    · rw [List.mem_singleton.mp hx]
      omega
theorem pow_fits {p k n : Nat} (hp : 1 ≤ p) (h : k ≤ n) (hn : p ^ n ≤ 5000) : p ^ k ≤ 5000 := Nat.le_trans (Nat.pow_le_pow_right hp h) hn
/-! the worst row -/
def moreM (n : Nat) (z : Str) (r : List Int) : Int := ((places (lackB n z r)).length : Int) - (bestN n r : Int)
def worstStep (n : Nat) (z : Str) (b : Int × Option (List Int)) (r : List Int) : Int × Option (List Int) := if b.1 < moreM n z r then (moreM n z r, some r) else b
def worstM (n : Nat) (z : Str) (rs : List (List Int)) : Int × Option (List Int) := rs.foldl (worstStep n z) (-1, none)
theorem more_pos {n : Nat} (n0 : 0 < n) (n8 : n ≤ 8) (z : Str) (r : List Int) : 0 ≤ moreM n z r := by
  have := best_le_rule n0 n8 z r
  unfold moreM
  omega
theorem worstM_some {n : Nat} (n0 : 0 < n) (n8 : n ≤ 8) (z : Str) : ∀ rs : List (List Int), (rs = [] ∧ worstM n z rs = (-1, none)) ∨ ∃ r, r ∈ rs ∧ worstM n z rs = (moreM n z r, some r) := by
  refine list_snoc_ind (.inl ⟨rfl, rfl⟩) ?_
  intro l r ih
  have e : worstM n z (l ++ [r]) = worstStep n z (worstM n z l) r := by unfold worstM; rw [List.foldl_append]; rfl
  rw [e]
  right
  unfold worstStep
  rcases ih with ⟨_, h⟩ | ⟨r0, h0, h⟩
  · rw [h, if_pos (by have := more_pos n0 n8 z r; show (-1 : Int) < _; omega)]
    exact ⟨r, by simp, rfl⟩
  · rw [h]
    by_cases c : moreM n z r0 < moreM n z r
    · rw [if_pos c]; exact ⟨r, by simp, rfl⟩
    · rw [if_neg c]; exact ⟨r0, by simp [h0], rfl⟩
end Cw
namespace Cw
open PySem
/-! by the page whose next ask is farthest, ties as they fall -/
def askF (row : List Int) (i : Nat) (z : Int) : Nat := if z ∈ row.drop i then (row.drop i).idxOf z else row.length
inductive Sel (n : Nat) (row : List Int) : Nat → List Int → Nat → Prop
  | zero : Sel n row 0 [] 0
  | hit {i : Nat} {K : List Int} {c : Nat} {x : Int} : Sel n row i K c → row[i]? = some x → x ∈ K → Sel n row (i + 1) K c
  | room {i : Nat} {K : List Int} {c : Nat} {x : Int} : Sel n row i K c → row[i]? = some x → x ∉ K → K.length ≠ n → Sel n row (i + 1) (K ++ [x]) (c + 1)
  | full {i : Nat} {K : List Int} {c : Nat} {x y : Int} : Sel n row i K c → row[i]? = some x → x ∉ K → K.length = n → y ∈ K → (∀ z ∈ K, askF row i z ≤ askF row i y) → Sel n row (i + 1) (K.erase y ++ [x]) (c + 1)
theorem sub_eq {A B : List Int} (nd : A.Nodup) (h : ∀ x ∈ A, x ∈ B) (hl : A.length = B.length) : ∀ x ∈ B, x ∈ A := by
  intro x hx
  refine Classical.byContradiction fun hn => ?_
  have := nodup_len (l := x :: A) (m := B) (List.nodup_cons.mpr ⟨hn, nd⟩) fun y hy => by
    rcases List.mem_cons.mp hy with e | e
    · rw [e]; exact hx
    · exact h y e
  rw [List.length_cons] at this
  omega
theorem idx_same {l : List Int} {x y : Int} (hx : x ∈ l) (h : l.idxOf x = l.idxOf y) : x = y := by
  have h1 := List.idxOf_lt_length_iff.mpr hx
  have e1 : l[l.idxOf x] = x := List.getElem_idxOf h1
  have h2 : l.idxOf y < l.length := by rw [← h]; exact h1
  have e2 : l[l.idxOf y] = y := List.getElem_idxOf h2
  rw [← e1, ← e2]
  simp only [h]
structure Sim (n : Nat) (row : List Int) (i : Nat) (K : List Int) (c : Nat) : Prop where
  nd : K.Nodup
  ln : K.length = (bestK n row i).length
  fut : ∀ x ∈ row.drop i, x ∈ K ↔ x ∈ bestK n row i
  cnt : c = (bst n row (row.take i)).lacks.length
theorem sel_sim {n : Nat} (n0 : 0 < n) {row : List Int} {i : Nat} {K : List Int} {c : Nat} (s : Sel n row i K c) (hi : i ≤ row.length) : Sim n row i K c := by
  have way := best_way n0 row
  have cntS : ∀ i x, row[i]? = some x → (bst n row (row.take (i + 1))).lacks.length = (bst n row (row.take i)).lacks.length + if x ∈ bestK n row i then 0 else 1 := fun i x hx => by
    rw [take_snoc hx, bst_snoc]
    unfold bestK bstep
    split
    · rfl
    · split <;> simp
  have dropS : ∀ i x, row[i]? = some x → row.drop i = x :: row.drop (i + 1) := fun i x hx => by
    obtain ⟨hl, rfl⟩ := List.getElem?_eq_some_iff.mp hx
    exact List.drop_eq_getElem_cons hl
  have ndx : ∀ (K : List Int) (x : Int), K.Nodup → x ∉ K → (K ++ [x]).Nodup := fun K x nd hx => by
    rw [List.nodup_append]
    refine ⟨nd, by simp, fun a ha b hb e => ?_⟩
    rw [List.mem_singleton.mp hb] at e
    subst e
    exact hx ha
  induction s with
  | zero => exact ⟨List.nodup_nil, by simp [bestK, bst], fun x _ => by simp [bestK, bst], by simp [bst]⟩
  | @hit i K c x s hx hxK ih =>
    obtain ⟨nd, ln, fut, cnt⟩ := ih (by omega)
    have hd := dropS i x hx
    have hxB : x ∈ bestK n row i := (fut x (by rw [hd]; simp)).mp hxK
    have hB : bestK n row (i + 1) = bestK n row i := by rw [bestK_succ n0 hx, if_pos hxB]
    refine ⟨nd, by rw [hB]; exact ln, fun y hy => ?_, by rw [cntS i x hx, if_pos hxB]; exact cnt⟩
    rw [hB]
    exact fut y (by rw [hd]; exact List.mem_cons_of_mem _ hy)
  | @room i K c x s hx hxK hne ih =>
    obtain ⟨nd, ln, fut, cnt⟩ := ih (by omega)
    have hd := dropS i x hx
    have hxB : x ∉ bestK n row i := fun h => hxK ((fut x (by rw [hd]; simp)).mpr h)
    have hB : bestK n row (i + 1) = bestK n row i ++ [x] := by rw [bestK_succ n0 hx, if_neg hxB, if_neg (by rw [← ln]; exact hne)]
    refine ⟨ndx K x nd hxK, by rw [hB, List.length_append, List.length_append, ln], fun y hy => ?_, by rw [cntS i x hx, if_neg hxB, cnt]⟩
    rw [hB, List.mem_append, List.mem_append, fut y (by rw [hd]; exact List.mem_cons_of_mem _ hy)]
  | @full i K c x y s hx hxK hl hy hfar ih =>
    obtain ⟨nd, ln, fut, cnt⟩ := ih (by omega)
    have hil := (List.getElem?_eq_some_iff.mp hx).1
    have hd := dropS i x hx
    have hxB : x ∉ bestK n row i := fun h => hxK ((fut x (by rw [hd]; simp)).mpr h)
    have hBl : (bestK n row i).length = n := by rw [← ln]; exact hl
    have ndB := way.nd i (by omega)
    have hne : bestK n row i ≠ [] := fun z => by rw [z] at hBl; simp at hBl; omega
    obtain ⟨hb, hbf⟩ := far_spec (row.drop i) hne
    have hB : bestK n row (i + 1) = (bestK n row i).erase (far (row.drop i) (bestK n row i)) ++ [x] := by rw [bestK_succ n0 hx, if_neg hxB, if_pos hBl]
    generalize far (row.drop i) (bestK n row i) = b at *
    have restl : (row.drop i).length ≤ row.length := by rw [List.length_drop]; omega
    have ltr : ∀ z, z ∈ row.drop i → (row.drop i).idxOf z < (row.drop i).length := fun z hz => List.idxOf_lt_length_iff.mpr hz
    have outr : ∀ z, z ∉ row.drop i → (row.drop i).idxOf z = (row.drop i).length := fun z hz => List.idxOf_eq_length hz
    have fin : ∀ z, z ∈ row.drop i → askF row i z = (row.drop i).idxOf z := fun z hz => if_pos hz
    have fout : ∀ z, z ∉ row.drop i → askF row i z = row.length := fun z hz => if_neg hz
    have same : y ∈ row.drop i ∨ b ∈ row.drop i → y = b := by
      intro h
      have bothIn : (∀ z ∈ K, z ∈ row.drop i) ∨ (∀ z ∈ bestK n row i, z ∈ row.drop i) := by
        rcases h with h | h
        · refine .inl fun z hz => Classical.byContradiction fun hn => ?_
          have h1 := hfar z hz
          rw [fout z hn, fin y h] at h1
          have := ltr y h
          omega
        · refine .inr fun z hz => Classical.byContradiction fun hn => ?_
          have h1 := hbf z hz
          rw [outr z hn] at h1
          have := ltr b h
          omega
      have KB : ∀ z, z ∈ K ↔ z ∈ bestK n row i := by
        rcases bothIn with h | h
        · have sub : ∀ z ∈ K, z ∈ bestK n row i := fun z hz => (fut z (h z hz)).mp hz
          exact fun z => ⟨sub z, sub_eq nd sub ln z⟩
        · have sub : ∀ z ∈ bestK n row i, z ∈ K := fun z hz => (fut z (h z hz)).mpr hz
          exact fun z => ⟨sub_eq ndB sub ln.symm z, sub z⟩
      have allIn : ∀ z ∈ K, z ∈ row.drop i := by
        rcases bothIn with h | h
        · exact h
        · exact fun z hz => h z ((KB z).mp hz)
      have hbK := (KB b).mpr hb
      have hyB := (KB y).mp hy
      have h1 := hfar b hbK
      rw [fin b (allIn b hbK), fin y (allIn y hy)] at h1
      have h2 := hbf y hyB
      exact idx_same (allIn y hy) (by omega)
    refine ⟨ndx _ x (nd.erase y) (fun h => hxK (List.mem_of_mem_erase h)), ?_, fun z hz => ?_, by rw [cntS i x hx, if_neg hxB, cnt]⟩
    · rw [hB, List.length_append, List.length_append, List.length_erase_of_mem hy, List.length_erase_of_mem hb, ln]
    · have hz' : z ∈ row.drop i := by rw [hd]; exact List.mem_cons_of_mem _ hz
      rw [hB, List.mem_append, List.mem_append, nd.mem_erase_iff, ndB.mem_erase_iff, fut z hz']
      constructor
      · rintro (⟨h1, h2⟩ | h)
        · refine .inl ⟨fun e => h1 ?_, h2⟩
          rw [e]
          exact (same (.inr (by rw [← e]; exact hz'))).symm
        · exact .inr h
      · rintro (⟨h1, h2⟩ | h)
        · refine .inl ⟨fun e => h1 ?_, h2⟩
          rw [e]
          exact same (.inl (by rw [← e]; exact hz'))
        · exact .inr h
theorem sel_best {n : Nat} (n0 : 0 < n) {row : List Int} {K : List Int} {c : Nat} (s : Sel n row row.length K c) : c = bestN n row := by
  have := (sel_sim n0 s (Nat.le_refl _)).cnt
  rw [List.take_length] at this
  exact this
end Cw
namespace Cw
/-- the first place of the most -/
theorem first_max {f : Int → Nat} {K : List Int} (hK : K ≠ []) : ∃ j y, K[j]? = some y ∧ (∀ z ∈ K, f z ≤ f y) ∧ (K.map fun z => (f z : Int)).idxOf (f y : Int) = j := by
    obtain ⟨y, hy, hm⟩ : ∃ y ∈ K, ∀ z ∈ K, f z ≤ f y := by
      have : ∀ (l : List Int) (a : Int), ∃ y ∈ a :: l, ∀ z ∈ a :: l, f z ≤ f y := by
        intro l
        induction l with
        | nil => intro a; exact ⟨a, by simp, by simp⟩
        | cons b l ih =>
          intro a
          obtain ⟨y, hy, hm⟩ := ih b
          by_cases h : f a ≤ f y
          · refine ⟨y, List.mem_cons_of_mem _ hy, fun z hz => ?_⟩
            rcases List.mem_cons.mp hz with e | e
            · rw [e]; exact h
            · exact hm z e
          · refine ⟨a, by simp, fun z hz => ?_⟩
            rcases List.mem_cons.mp hz with e | e
            · rw [e]; exact Nat.le_refl _
            · have := hm z e; omega
      cases K with
      | nil => exact absurd rfl hK
      | cons a l => exact this l a
    have hin : (f y : Int) ∈ K.map fun z => (f z : Int) := List.mem_map.mpr ⟨y, hy, rfl⟩
    have hlt := List.idxOf_lt_length_iff.mpr hin
    have hlt2 : (K.map fun z => (f z : Int)).idxOf (f y : Int) < K.length := by rw [List.length_map] at hlt; exact hlt
    have he : (K.map fun z => (f z : Int))[(K.map fun z => (f z : Int)).idxOf (f y : Int)] = (f y : Int) := List.getElem_idxOf hlt
    rw [List.getElem_map] at he
    refine ⟨_, _, List.getElem?_eq_getElem hlt2, fun z hz => ?_, ?_⟩
    · have := hm z hz
      omega
    · rw [he]
end Cw
namespace Cw
theorem erase_at : ∀ {l : List Int} {j : Nat}, l.Nodup → ∀ h : j < l.length, l.eraseIdx j = l.erase l[j]
  | [], _, _, h => absurd h (Nat.not_lt_zero _)
  | a :: l, 0, _, _ => by simp
  | a :: l, j + 1, nd, h => by
    rw [List.nodup_cons] at nd
    have hj : j < l.length := by simpa using h
    have hne : a ≠ l[j] := fun e => nd.1 (by rw [e]; exact List.getElem_mem hj)
    rw [List.eraseIdx_cons_succ, List.getElem_cons_succ, List.erase_cons_tail (by simpa using hne), erase_at nd.2 hj]
end Cw

namespace Cw
open PySem L2
/-! an own exception: made, raised, caught, asked in a def that the suite calls -/
section
open PySem.Spec PyProof.Rows PySem.W
/-- a def that is handed the exception which the suite holds: a its address, c its class, d its dict -/
structure FnX (P : Program) (w : World) (K : PySem.W.Frag) (mg : Str → Option Value) (base : Heap) (CX : CXT) (k : Nat) (f : Addr) (fd : FuncData) (ps : List Str) (sp : Addr → Value → Option Addr → Sp) : Prop where
  len : ∀ a c d vs H Q E, sp a c d vs H Q E → vs.length = ps.length
  run : ∀ (A : Around) (outer : List Env) (s : Shared) (H : Hp) (args : Args) (us : List Value) (vs : List V) (Q : VK) (E : XK) (p : Addr × Obj) (c : Value) (d : Option Addr), L2H.RoomH k A → Zc c d p.2 → (∃ vs, p.2.data = .fields vs) → L2H.PinOk outer H s p → Env0 P w K mg base A outer s H →
    BindsTo s fd args (ps.zip us) → Vals vs us → sp p.1 c d vs H Q E → codeAny (model P w) A (.call (.ref f) args) (CR CX outer P w H s Q E) s
theorem fn_ofX {P : Program} {w : World} {K : PySem.W.Frag} {mg : Str → Option Value} {base : Heap} {CX : CXT} {k : Nat} {f : Addr} {name qual : Str} {params : Arguments} {body : List Stmt} {scope : Scope} {dV kV doc pm cdv ct oc : Value} {an od : Option Addr}
    {osl : Array (Option Value)} {N ps : List Str} {sp : Addr → Value → Option Addr → Sp} (lk : K.lookup f = some ⟨oc, od, .func (PySem.W.fnOf name qual params body scope dV kV doc pm an cdv ct), osl⟩) (hcd : PySem.W.codeIn K cdv qual = true) (S : FnScope N ps scope)
    (len : ∀ a c d vs H Q E, sp a c d vs H Q E → vs.length = ps.length)
    (hbody : ∀ (A : Around) (outer : List Env) (s : Shared) (H : Hp) (vs : List V) (Q : VK) (E : XK) (p : Addr × Obj) (c : Value) (d : Option Addr), Zc c d p.2 → (∃ vs, p.2.data = .fields vs) → L2H.RoomH k (A.deeper (envOfC qual scope s.heap.objs.size f cdv)) → sp p.1 c d vs H Q E →
      ∃ t, PSs (L2H.cxH CX P w K mg base N qual scope f cdv A outer s H E p) body t ∧ t { nx := fun _ H' => Q .non H', rt := Q } (L2.start N vs) H) :
    FnX P w K mg base CX (k + 1) f (PySem.W.fnOf name qual params body scope dV kV doc pm an cdv ct) ps sp := by
  refine ⟨len, fun A outer s H args us vs Q E p c d hr hz hf hpin e0 hb r hsp => ?_⟩
  have hl := len _ _ _ _ _ _ _ hsp
  have KX : K.In s.heap := e0.mod.kin.keeps fun b o e => (e0.bs b o e).1
  have lim : s.heap.NoLimit := e0.mod.nolimit.keeps fun b o e => (e0.bs b o e).1
  have hkind : ∀ y ∈ ps.zip us, scope.names.lookup y.1 = some .local ∨ (scope.names.lookup y.1 = some .cell ∧ ((cellsFrom (s.heap.objs.size + 1) scope.names []).lookup y.1).isSome = true) := fun ⟨n, v⟩ hy => by
    rcases S.par n (List.of_mem_zip hy).1 with q | q
    · exact .inl q
    · exact .inr ⟨q, PySem.W.cellsFrom_some _ _ _ (.inl q)⟩
  refine codeAny_call_function hr.depth (KX _ _ lk) rfl S.co S.gen rfl (PySem.W.codeRec_of KX hcd) (hb _ _ _ _ ?_)
  refine wpAny_newFunctionEnv_cells S.kind hkind fun env he s1 x => ?_
  subst he
  refine ⟨lim.keeps x.toInCall.keep, codeAny_func ?_⟩
  obtain ⟨t, ht, hq⟩ := hbody A outer s H vs Q E p c d hz hf (hr.deeper _) hsp
  have I : Inv (L2H.cxH CX P w K mg base N qual scope f cdv A outer s H E p) [] (L2.start N vs) H s1 := L2H.inv_startH S hpin e0 hl r x
  refine wpAny_mono (ht.run [] s1 (L2.start N vs) H _ I hq) (fun fl s' hs => ?_) fun e s' hs => hs
  have fin : ∀ {σ' : L2.St} {H' : Hp} {v : V} {u : Value}, Inv (L2H.cxH CX P w K mg base N qual scope f cdv A outer s H E p) [] σ' H' s' → RelV v u → Q v H' → CE outer P w H s Q u s' :=
    fun {σ' H' v u} J rv q => ⟨v, H', J.os, J.bare, J.base, J.hok, rv, q⟩
  cases fl with
  | ret u =>
    obtain ⟨v, σ', H', J, rv, q⟩ := hs
    exact fin J rv q
  | next =>
    obtain ⟨σ', H', J, q⟩ := hs
    exact fin (v := V.non) (u := Value.none) J rfl q
  | brk =>
    obtain ⟨_, _, _, q⟩ := hs
    exact False.elim q
  | cont =>
    obtain ⟨_, _, _, q⟩ := hs
    exact False.elim q
section
variable {X : Cx} {CX : CXT} {k : Nat} {f C : Addr} {fd : FuncData} {ps : List Str} {E : XK} {x m : Str} {q pos apos : Pos} {e o : Expr} {es : List Expr} {ta : TE} {t : TA}
theorem run_fnX {sp : Sp} {spx : Addr → Value → Option Addr → Sp} {pins : List (Addr × Obj)} {σ : L2.St} {H : Hp} {s : Shared} {Q : VK} {us : List Value} {vs : List V} {p : Addr × Obj} {c : Value} {d : Option Addr} (F : FnX X.prog X.w X.K X.mg X.base CX k f fd ps spx) (hr : L2H.RoomH k X.A)
    (hp : p ∈ X.pn) (hz : Zc c d p.2) (hf : ∃ vs, p.2.data = .fields vs) (hb : Binds X.K fd ps []) (hx : Passes CX X E)
    (I : Inv X pins σ H s) (r : Vals vs us) (h : spx p.1 c d vs H Q E) : wpAny (model X.prog X.w) X.A (call (.ref f) us) (EP X pins σ Q) X.xe s := by
  have hl : us.length = ps.length := by rw [← r.length]; exact F.len _ _ _ _ _ _ _ h
  have b := hb s us I.kIn (by rw [List.append_nil]; exact hl)
  rw [List.append_nil] at b
  have P1 := I.pin p (List.mem_append_left _ hp)
  have hpin : L2H.PinOk X.stack H s p := ⟨P1.1, P1.2.1, fun hm => (List.mem_cons.mp (I.stkSub p.1 hm)).elim P1.2.2.1 P1.2.2.2.1, P1.2.2.2.2⟩
  refine wpAny_call (codeAny_mono (F.run X.A X.stack s H ⟨us, []⟩ us vs Q E p c d hr hz hf hpin I.env0 b r h) fun r s' hq => ?_)
  cases r with
  | error e => exact hx pins σ H s e s' I hq
  | ok fl =>
    cases fl with
    | ret u => exact I.after hq
    | next => exact False.elim hq
    | brk => exact False.elim hq
    | cont => exact False.elim hq
/-- the call, within the suite -/
theorem pe_callX {a : Addr} {oe : Obj} {c : Value} {d : Option Addr} {pn : List (Addr × Obj)} {spx : Addr → Value → Option Addr → Sp} (F : FnX X.prog X.w X.K X.mg X.base CX k f fd ps spx) (hr : L2H.RoomH k X.A) (hz : Zc c d oe) (hf : ∃ vs, oe.data = .fields vs)
    (hg : Gl (X.suite a ((a, oe) :: pn)) x) (hm : X.mg x = some (.ref f)) (hk : PySem.W.keepIn X.K (.ref f) = true) (hb : Binds X.K fd ps []) (hx : Passes CX (X.suite a ((a, oe) :: pn)) E)
    (ha : PA (X.suite a ((a, oe) :: pn)) (e :: es) t) (hdb : (x == ("__debug__" : Str)) = false := by decide) (he : starEach (e :: es) X.env = (false, eval e X.env) :: starEach es X.env := by rfl) (hpl : (backTo pos (starEach es X.env)).any (·.1) = false := by rfl) :
    PE (X.suite a ((a, oe) :: pn)) (.Call (.Name x q) (e :: es) [] pos) (tCall (spx a c d) [] E t) := by
  refine ⟨fun pins s σ H Q I h => ?_⟩
  refine wpAny_Call_Name_kw (ld_glob I hg hm ?_ hdb)
  refine PySem.W.callWith_K (h₀ := X.base) I.ok.mod.kin hk (thn (ha.run pos pins s σ H _ I h) fun us s1 ⟨vs, H1, I1, r, q⟩ => ⟨I1.kIn, ?_⟩) he hpl
  have q : spx a c d (vs ++ []) H1 Q E := q
  rw [List.append_nil] at q
  exact run_fnX (X := X.suite a ((a, oe) :: pn)) (sp := spx a c d) (p := (a, oe)) F ⟨hr.dp, hr.un⟩ List.mem_cons_self hz hf hb hx I1 r q
/-- isinstance(e, c), e the exception that is pinned -/
def rIsX (K : PySem.W.Frag) (D a : Addr) (d : Option Addr) : List V → Hp → VK → Prop := fun xs H Q => ∃ (c : V) (cv : Value) (b : Bool), xs = [.ref a, c] ∧ (∀ u, RelV c u → u = cv) ∧ PySem.W.kitOne K (.ref D) cv = some b ∧ (∀ dd, d = some dd → ∃ fs, H dd = some (.xd fs)) ∧ Q (.bl b) H
theorem call_isX {D : Addr} {d : Option Addr} {p : Addr × Obj} (T : L2.ExcC X.K D) (hp : p ∈ X.pn) (hz : Zc (.ref D) d p.2) (hf : ∃ vs, p.2.data = .fields vs) : CallR X (.builtin "isinstance") (rIsX X.K D p.1 d) := by
  intro pins s σ H xs us Q I r h
  obtain ⟨c, cv, b, rfl, hcv, e, hdd, q⟩ := h
  cases r with
  | cons rx rr =>
    cases rr with
    | @cons _ u0 _ _ rt rr =>
      cases rr
      cases rx
      have ec := hcv _ rt
      rw [← ec] at e
      obtain ⟨hget, _⟩ := I.pin p (List.mem_append.mpr (.inl hp))
      obtain ⟨vs, hv⟩ := hf
      have no : PySem.W.notCls p.2 = true := by unfold PySem.W.notCls; rw [hv]
      have hcl : (PySem.W.clsIn X.K D).isSome = true := by
        obtain ⟨cd, hc, _⟩ := PySem.W.any_some T.hd
        rw [hc]; rfl
      have go : ∀ od, PySem.W.InstAt s.heap p.1 p.2 D od → wpAny (model X.prog X.w) X.A (call (.builtin "isinstance") [.ref p.1, u0]) (EP X pins σ Q) X.xe s := fun od J =>
        PySem.W.kia_one (PySem.W.kitx_exc hcl T.hg T.hk T.hs T.ha T.hn T.ht T.hm) I.kIn J e (fun z => nomatch z) fun tk => ⟨.bl b, H, I.kept (t' := tk) fun _ _ z => z, rfl, q⟩
      cases d with
      | none => exact go none ⟨hget, hz.1, no, by rw [hz.2]; trivial⟩
      | some dd =>
        obtain ⟨fs, hx⟩ := hdd dd rfl
        have hx : ObjOk X.prog X.w H s.heap dd (.xd fs) := I.hok dd _ hx
        obtain ⟨mA, hns, hr⟩ := hx
        obtain ⟨od, ho, hl⟩ := lookIn_ns hns
        exact go (some od) ⟨hget, hz.1, no, by rw [hz.2]; exact ho⟩
/-- B.__init__(self, ..), B an own class that has ValueError's: nothing of it is told -/
theorem pe_ownInit {B : Addr} {pl : Sem Bool} (hg : Gl X x) (hm : X.mg x = some (.ref B)) (rd : PySem.W.readsIn X.K B (.type "type") = true) (ga : PySem.W.specialIn X.K (.ref B) "__getattribute__" = some (some (.builtin "type.__getattribute__")))
    (vV : PySem.W.findCls X.K (.ref B) (.type "type") "__init__" = some (.val (.builtin "ValueError.__init__"))) (ha : PA X (e :: es) t)
    {p1 p2 : Pos} (hdb : (x == ("__debug__" : Str)) = false := by decide)
    (hc : eval (.Call (.Attribute (.Name x p1) "__init__" p2) (e :: es) [] pos) X.env = (do
      let ov ← eval (.Name x p1) X.env
      standAt p2.atName
      let (f, first) ← holding [ov] (getMethod ov "__init__" pl)
      callWith pos f first (backTo pos (starEach (e :: es) X.env)) (backToKw pos (keywordEach [] X.env))) := by rfl)
    (he : starEach (e :: es) X.env = (false, eval e X.env) :: starEach es X.env := by rfl) (hpl : (backTo pos (starEach es X.env)).any (·.1) = false := by rfl) :
    PE X (.Call (.Attribute (.Name x p1) "__init__" p2) (e :: es) [] pos) (tVeI X.K t) := by
  refine ⟨fun pins s σ H Q I h => ?_⟩
  refine PySem.W.methodCall_KW (ld_glob I hg hm ?_ hdb) hc
  refine PySem.W.method_cls I.kIn ga (PySem.W.cls_value I.kIn rd vV (by decide +kernel) ?_)
  show wpAny _ _ (callWith pos (Value.builtin "ValueError.__init__") [] (backTo pos (starEach (e :: es) X.env)) []) _ _ _
  refine PyProof.Rows.callWith_method1 (thn (ha.run pos pins _ σ H _ (I.tok _) h) fun us s1 ⟨vs, H1, I1, r1, a, C, ws, ev, hl, T, ea, q⟩ => ?_) he hpl
  subst ev
  cases r1 with
  | @cons _ u0 _ ur ra rw' =>
    obtain rfl : u0 = Value.ref a := ra
    have hlen : ur.length ≤ sizeLine := by
      rw [← Paired.length rw', sizeLine_eq]
      omega
    exact oinit_ok T I1 ea hlen fun s' J => ⟨.non, H1, J, rfl, q⟩
/-- o.m(e, ..) that may raise -/
def tMethX (C : Addr) (m : Str) (sp : Sp) (E : L2.St → XK) (ta : TE) (t : TA) : TE := fun σ H Q => ta σ H fun x H1 => ∃ a dx fs, x = .ref a ∧ H1 a = some (.ins C dx fs) ∧ fs.lookup m = none ∧ t σ H1 fun vs H2 => sp (x :: vs) H2 Q (E σ)
theorem pe_methX {sp : Sp} {E : L2.St → XK} {pl : Sem Bool} (he : PE X o ta) (c : Cls X.K C) (hm : Meth X.K C m f) (F : FnOk X.prog X.w X.K X.mg X.base CX k f fd ps sp) (hr : Room k X.A) (hb : Binds X.K fd ps []) (hx : ∀ σ, PassesAt CX X σ (E σ)) (ha : PA X (e :: es) t)
    (hst : starEach (e :: es) X.env = (false, eval e X.env) :: starEach es X.env := by rfl) (hpl : (backTo pos (starEach es X.env)).any (·.1) = false := by rfl)
    (ht : eval (.Call (.Attribute o m apos) (e :: es) [] pos) X.env = (do
      let ov ← eval o X.env
      standAt apos.atName
      let (f, first) ← holding [ov] (getMethod ov m pl)
      callWith pos f first (backTo pos (starEach (e :: es) X.env)) (backToKw pos (keywordEach [] X.env))) := by rfl) :
    PE X (.Call (.Attribute o m apos) (e :: es) [] pos) (tMethX C m sp E ta t) := by
  refine ⟨fun pins s σ H Q I h => ?_⟩
  refine PySem.W.methodCall_KW (pl := pl) (thn (he.run pins s σ H _ I h) fun u s1 ⟨x, H1, I1, rx, a, dx, fs, ex, ea, l, q⟩ => ?_) ht
  subst ex
  obtain rfl : u = Value.ref a := rx
  refine getmeth_ok I1 ea c hm l ?_
  refine PySem.W.callWith_K (first := [.ref a]) (h₀ := X.base) I.ok.mod.kin hm.kp (thn (ha.run pos pins s1 σ H1 _ I1 q) fun us s2 ⟨vs, H2, I2, r, q2⟩ => ⟨I2.kIn, ?_⟩) hst hpl
  exact run_fnS (us := .ref a :: us) (vs := .ref a :: vs) F hr hb (hx σ) I2 (.cons rfl r) q2
end
/-- a def that is handed the caught exception, by its body -/
theorem fun_okH {P : Program} {w : World} {K : PySem.W.Frag} {mg : Str → Option Value} {base : Heap} {x qual : Str} {st : Stmt} {f : Addr} {fd : FuncData} {N ps : List Str} {k : Nat} {sp : Addr → Value → Option Addr → Sp} (F : Fun K x qual st f fd) (S : FnScope N ps (defScope st))
    (len : ∀ a c d vs H Q E, sp a c d vs H Q E → vs.length = ps.length)
    (hbody : ∀ (cdv : Value) (A : Around) (outer : List Env) (s : Shared) (H : Hp) (vs : List V) (Q : VK) (E : XK) (p : Addr × Obj) (c : Value) (d : Option Addr), Zc c d p.2 → (∃ vs, p.2.data = .fields vs) → L2H.RoomH k (A.deeper (envOfC qual (defScope st) s.heap.objs.size f cdv)) → sp p.1 c d vs H Q E →
      ∃ t, PSs (L2H.cxH CX0 P w K mg base N qual (defScope st) f cdv A outer s H E p).nox (defBody st) t ∧ t { nx := fun _ H' => Q .non H', rt := Q } (L2.start N vs) H) : FnX P w K mg base CX0 (k + 1) f fd ps sp := by
  obtain ⟨oc, od, kV, doc, pm, an, cdv, ct, osl, rfl, lk, hcd⟩ := F.ex
  refine fn_ofX lk hcd S len fun A outer s H vs Q E p c d hz hf hr hsp => ?_
  obtain ⟨t, h, q⟩ := hbody cdv A outer s H vs Q E p c d hz hf hr hsp
  exact ⟨t, h.nox, q⟩
/-- two promises in one -/
theorem fn_or {P : Program} {w : World} {K : PySem.W.Frag} {mg : Str → Option Value} {base : Heap} {CX : CXT} {j k : Nat} {f : Addr} {fd : FuncData} {ps : List Str} {s0 s1 : Sp} (F0 : FnOk P w K mg base CX0 j f fd ps s0) (F1 : FnOk P w K mg base CX k f fd ps s1) (h : j ≤ k) :
    FnOk P w K mg base CX k f fd ps (fun vs H Q E => s0 vs H Q E ∨ s1 vs H Q E) := by
  refine ⟨fun vs H Q E z => z.elim (F0.len _ _ _ _) (F1.len _ _ _ _), fun A outer s H args us vs Q E hr e0 hb r z => ?_⟩
  rcases z with z | z
  · refine codeAny_mono (F0.run A outer s H args us vs Q E (hr.mono h) e0 hb r z) fun r s' hq => ?_
    cases r with
    | error e => exact False.elim hq
    | ok fl => cases fl <;> exact hq
  · exact F1.run A outer s H args us vs Q E hr e0 hb r z
theorem kit_ref {K : PySem.W.Frag} {C : Addr} {t : Value} {b : Bool} (hc : PySem.W.isClsIn K C = true) (ht : PySem.W.typeIn K (.ref C) = some (.type "type")) (hs : PySem.W.subIn K t (.ref C) = some b) (hn : (t == .ref C) = true → b = true) : PySem.W.kitOne K t (.ref C) = some b := by
  unfold PySem.W.kitOne
  split
  · rename_i z
    rw [hn z]
  · have e2 : ((PySem.W.clsIn K C).isSome && PySem.W.typeIn K (.ref C) == some (.type "type")) = true := by
      have h2' : (PySem.W.clsIn K C).isSome = true := hc
      rw [h2', ht] <;> rfl
    show (if ((PySem.W.clsIn K C).isSome && PySem.W.typeIn K (.ref C) == some (.type "type")) = true then _ else none) = _
    rw [if_pos e2]
    exact hs
theorem kit_VE {K : PySem.W.Frag} {D : Addr} {b : Bool} (hs : PySem.W.subIn K (.ref D) (.type "ValueError") = some b) : PySem.W.kitOne K (.ref D) (.type "ValueError") = some b := by
  unfold PySem.W.kitOne
  rw [if_neg (by simp)]
  show (if PySem.W.kitMeta "ValueError" = true then _ else none) = _
  rw [if_pos (by decide +kernel)]
  exact hs
/-- what is said of a class of one's own that names errors -/
structure ErrC (K : PySem.W.Frag) (C : Addr) : Prop where
  ex : PySem.W.subIn K (.ref C) (.type "BaseException") = some true
  hd : PySem.W.hasDictIn K C = true
  ty : PySem.W.typeIn K (.ref C) = some (.type "type")
  ic : PySem.W.isClsIn K C = true
theorem ErrC.exm {K : PySem.W.Frag} {C : Addr} {t : Value} {b : Bool} (h : ErrC K C) (hs : PySem.W.subIn K t (.ref C) = some b) : PySem.W.exmOne K t (.ref C) = some b := PySem.W.exm_ref h.ex h.hd h.ty hs
theorem ErrC.kit {K : PySem.W.Frag} {C : Addr} {t : Value} {b : Bool} (h : ErrC K C) (hs : PySem.W.subIn K t (.ref C) = some b) (hn : (t == .ref C) = true → b = true) : PySem.W.kitOne K t (.ref C) = some b := kit_ref h.ic h.ty hs hn
/-- .. of which there are instances here -/
structure ErrI (K : PySem.W.Frag) (C : Addr) : Prop extends ErrC K C where
  ga : PySem.W.findIn K (.ref C) "__getattribute__" = some (some (.builtin "BaseException.__getattribute__"))
  gg : PySem.W.findIn K (.ref C) "__getattr__" = some none
  ca : PySem.W.findIn K (.ref C) "__class__" = some (some (.builtin "object.__class__"))
  cn : PySem.W.specialIn K (.builtin "object.__class__") "__get__" = some (some (.builtin "getset_descriptor.__get__"))
  ct : PySem.W.takesIn K (.builtin "object.__class__") = some true
  mo : PySem.W.mroIn K C (.type "object") = some true
theorem ErrI.isE {K : PySem.W.Frag} {C : Addr} (h : ErrI K C) : L2.ExcC K C := ⟨h.ga, h.gg, h.ex, h.hd, h.ca, h.cn, h.ct, h.mo⟩
theorem ErrI.xf {K : PySem.W.Frag} {C : Addr} (h : ErrI K C) : XfC K C := ⟨h.ga, h.gg, h.ex, h.hd⟩
theorem kIsX {X : Cx} {K : PySem.W.Frag} {D : Addr} {d : Option Addr} {p : Addr × Obj} (h : X.K = K) (T : L2.ExcC K D) (hp : p ∈ X.pn) (hz : Zc (.ref D) d p.2) (hf : ∃ vs, p.2.data = .fields vs) : CallR X (.builtin "isinstance") (rIsX K D p.1 d) := by
  subst h
  exact call_isX T hp hz hf
theorem w_isX {K : PySem.W.Frag} {H : Hp} {Q : VK} {D C a : Addr} {d : Option Addr} {b : Bool} (e : PySem.W.kitOne K (.ref D) (.ref C) = some b) (hd : ∀ dd, d = some dd → ∃ fs, H dd = some (.xd fs)) (q : Q (.bl b) H) : rIsX K D a d [.ref a, .ref C] H Q :=
  ⟨_, _, b, rfl, fun u r => r, e, hd, q⟩
theorem w_isXT {K : PySem.W.Frag} {H : Hp} {Q : VK} {D a : Addr} {T : String} {d : Option Addr} {b : Bool} (e : PySem.W.kitOne K (.ref D) (.type T) = some b) (hd : ∀ dd, d = some dd → ∃ fs, H dd = some (.xd fs)) (q : Q (.bl b) H) : rIsX K D a d [.ref a, .ty T] H Q :=
  ⟨_, _, b, rfl, fun u r => r, e, hd, q⟩
/-- two classes apart -/
theorem cls_ne {K : PySem.W.Frag} {D C : Addr} {b : Bool} (h1 : PySem.W.subIn K (.ref D) (.ref D) = some true) (h2 : PySem.W.subIn K (.ref D) (.ref C) = some b) : (Value.ref D == Value.ref C) = true → b = true := fun z => by
  have e : Value.ref D = Value.ref C := beq_iff_eq.mp z
  rw [← e, h1] at h2
  exact (Option.some.inj h2).symm
end
end Cw

namespace Cw
open PySem L2
/-! closures: objects known by their very content; a frame's cells lent to a callee -/
section
open PySem.Spec PyProof.Rows
def ExO (a : Addr) (o : Obj) : HO := .ext fun h => h.get? a = some o
theorem exO_ok {P : Program} {w : World} {H : Hp} {h : Heap} {a : Addr} {o : Obj} (e : h.get? a = some o) : ObjOk P w H h a (ExO a o) := ⟨e, ⟨_, e⟩, fun _ _ z st => st _ z⟩
theorem exO_at {P : Program} {w : World} {H : Hp} {h : Heap} {a : Addr} {o : Obj} (hok : HOk P w H h) (e : H a = some (ExO a o)) : h.get? a = some o := by
  obtain ⟨z, _, _⟩ := hok a _ e
  exact z
/-- the objects of L are told, are told no more -/
def lay (L : List (Addr × Obj)) (H : Hp) : Hp := fun b => match L.lookup b with
  | some o => some (ExO b o)
  | none => H b
def lift (L : List (Addr × Obj)) (H : Hp) : Hp := fun b => match L.lookup b with
  | some _ => none
  | none => H b
section
variable {L : List (Addr × Obj)} {H H2 : Hp} {b : Addr} {o : Obj}
theorem lay_in (h : L.lookup b = some o) : lay L H b = some (ExO b o) := by unfold lay; rw [h]
theorem lay_out (h : L.lookup b = none) : lay L H b = H b := by unfold lay; rw [h]
theorem lift_in (h : L.lookup b = some o) : lift L H b = none := by unfold lift; rw [h]
theorem lift_out (h : L.lookup b = none) : lift L H b = H b := by unfold lift; rw [h]
theorem lift_some {u : HO} (h : lift L H b = some u) : H b = some u ∧ L.lookup b = none := by
  cases q : L.lookup b with
  | none => rw [lift_out q] at h; exact ⟨h, rfl⟩
  | some o => rw [lift_in q] at h; cases h
/-- what L tells may be laid over H -/
def Lent (L : List (Addr × Obj)) (H : Hp) (h : Heap) : Prop := ∀ b o, L.lookup b = some o → H b = none ∧ h.get? b = some o
/-- .. lies there -/
def Laid (L : List (Addr × Obj)) (H : Hp) : Prop := ∀ b o, L.lookup b = some o → H b = some (ExO b o)
theorem laid_lay : Laid L (lay L H) := fun _ _ e => lay_in e
end
section
variable {P : Program} {w : World} {K : PySem.W.Frag} {mg : Str → Option Value} {base : Heap} {A : Around} {outer : List Env} {s s' : Shared} {L : List (Addr × Obj)} {H H2 : Hp} {h h' : Heap} {fs ex : List Addr}
theorem hok_lay (hok : HOk P w H h) (hc : Lent L H h) : HOk P w (lay L H) h := fun a u e => by
  have out : ∀ b v, H b = some v → L.lookup b = none := fun b v z => by
    cases q : L.lookup b with
    | none => rfl
    | some o => rw [(hc b o q).1] at z; cases z
  cases q : L.lookup a with
  | some o =>
    rw [lay_in q] at e
    cases e
    exact exO_ok (hc a o q).2
  | none =>
    rw [lay_out q] at e
    exact (hok a u e).stay (fun _ _ _ z => z) (fun b z => (lay_out (out b _ z)).trans z) fun b _ z => (lay_out (out b _ z)).trans z
theorem hok_lift (hok : HOk P w H h) (hx : Laid L H) : HOk P w (lift L H) h := fun a u e => by
  obtain ⟨e, _⟩ := lift_some e
  have out : ∀ b v, (∀ o, v ≠ ExO b o) → H b = some v → L.lookup b = none := fun b v nv z => by
    cases q : L.lookup b with
    | none => rfl
    | some o =>
      rw [hx b o q] at z
      exact absurd (Option.some.inj z).symm (nv o)
  exact (hok a u e).stay (fun _ _ _ z => z) (fun b z => (lift_out (out b _ (fun o q => by unfold ExO at q; cases q) z)).trans z) fun b _ z => (lift_out (out b _ (fun o q => by unfold ExO at q; cases q) z)).trans z
/-- behind a callee that was lent L -/
theorem un_back (u : Un fs ex (lay L H) H2 h h') (hc : Lent L H h) (hx : Laid L H2) (hok : HOk P w H2 h') : Un fs ex H (lift L H2) h h' where
  keep := fun b o e n nf nx => by
    cases q : L.lookup b with
    | none => exact u.keep b o e ((lay_out q).trans n) nf nx
    | some o2 =>
      have e2 := (hc b o2 q).2
      rw [e] at e2
      cases e2
      exact exO_at hok (hx b o q)
  slot := fun b o e n nf nx => by
    cases q : L.lookup b with
    | none => exact u.slot b o e ((lay_out q).trans n) nf nx
    | some o2 =>
      have e2 := (hc b o2 q).2
      rw [e] at e2
      cases e2
      exact ⟨o.slots, exO_at hok (hx b o q)⟩
  free := fun b o e n nx => by
    cases q : L.lookup b with
    | none => rw [lift_out q]; exact u.free b o e ((lay_out q).trans n) nx
    | some o2 => exact lift_in q
  there := u.there
  tups := fun b xs e => by
    cases q : L.lookup b with
    | none => rw [lift_out q]; exact u.tups b xs ((lay_out q).trans e)
    | some o2 => rw [(hc b o2 q).1] at e; cases e
  frzs := fun b o xs e => by
    cases q : L.lookup b with
    | none => rw [lift_out q]; exact u.frzs b o xs ((lay_out q).trans e)
    | some o2 => rw [(hc b o2 q).1] at e; cases e
  tbls := fun b ps e => by
    cases q : L.lookup b with
    | none => rw [lift_out q]; exact u.tbls b ps ((lay_out q).trans e)
    | some o2 => rw [(hc b o2 q).1] at e; cases e
theorem exO_frz {b : Addr} {o ob : Obj} {u : HO} : some (ExO b o) ≠ some (HO.frz ob u) := fun z => by unfold ExO at z; cases z
theorem exO_tup {b : Addr} {o : Obj} {xs : List V} : some (ExO b o) ≠ some (HO.tup xs) := fun z => by unfold ExO at z; cases z
theorem exO_tbl {b : Addr} {o : Obj} {ps : Array Value} : some (ExO b o) ≠ some (HO.tbl ps) := fun z => by unfold ExO at z; cases z
/-- behind a callee that L was hidden from -/
theorem un_over (u : Un fs ex (lift L H) H2 h h') (hx : Laid L H) : Un fs ex H (lay L H2) h h' where
  keep := fun b o e n nf nx => by
    cases q : L.lookup b with
    | none => exact u.keep b o e ((lift_out q).trans n) nf nx
    | some o2 => rw [hx b o2 q] at n; cases n
  slot := fun b o e n nf nx => by
    cases q : L.lookup b with
    | none => exact u.slot b o e ((lift_out q).trans n) nf nx
    | some o2 => rw [hx b o2 q] at n; cases n
  free := fun b o e n nx => by
    cases q : L.lookup b with
    | none => rw [lay_out q]; exact u.free b o e ((lift_out q).trans n) nx
    | some o2 => rw [hx b o2 q] at n; cases n
  there := u.there
  tups := fun b xs e => by
    cases q : L.lookup b with
    | none => rw [lay_out q]; exact u.tups b xs ((lift_out q).trans e)
    | some o2 => exact absurd ((hx b o2 q).symm.trans e) exO_tup
  frzs := fun b o xs e => by
    cases q : L.lookup b with
    | none => rw [lay_out q]; exact u.frzs b o xs ((lift_out q).trans e)
    | some o2 => exact absurd ((hx b o2 q).symm.trans e) exO_frz
  tbls := fun b ps e => by
    cases q : L.lookup b with
    | none => rw [lay_out q]; exact u.tbls b ps ((lift_out q).trans e)
    | some o2 => exact absurd ((hx b o2 q).symm.trans e) exO_tbl
theorem env_lay (e0 : Env0 P w K mg base A outer s H) (hc : Lent L H s.heap) (hb : ∀ b o, L.lookup b = some o → base.get? b = none ∧ b ∉ frs outer) : Env0 P w K mg base A outer s (lay L H) where
  frames := e0.frames
  mod := e0.mod
  bs := fun b o e => ⟨(e0.bs b o e).1, by
    cases q : L.lookup b with
    | none => rw [lay_out q]; exact (e0.bs b o e).2
    | some o2 => rw [(hb b o2 q).1] at e; cases e⟩
  bsz := e0.bsz
  funs := e0.funs
  frf := fun b m => by
    cases q : L.lookup b with
    | none => rw [lay_out q]; exact e0.frf b m
    | some o2 => exact absurd m (hb b o2 q).2
  hok := hok_lay e0.hok hc
  bare := e0.bare
theorem env_lift (e0 : Env0 P w K mg base A outer s H) (hx : Laid L H) : Env0 P w K mg base A outer s (lift L H) where
  frames := e0.frames
  mod := e0.mod
  bs := fun b o e => ⟨(e0.bs b o e).1, by
    cases q : L.lookup b with
    | none => rw [lift_out q]; exact (e0.bs b o e).2
    | some o2 => exact lift_in q⟩
  bsz := e0.bsz
  funs := e0.funs
  frf := fun b m => by
    cases q : L.lookup b with
    | none => rw [lift_out q]; exact e0.frf b m
    | some o2 => exact lift_in q
  hok := hok_lift e0.hok hx
  bare := e0.bare
/-- a call's end, of a callee that was lent L -/
theorem ce_back {Q : VK} {u : Value} (hc : Lent L H s.heap) (c : CE outer P w (lay L H) s (fun v H2 => Laid L H2 ∧ Q v (lift L H2)) u s') : CE outer P w H s Q u s' := by
  obtain ⟨v, H', os, bare, un, hok, r, hx, q⟩ := c
  exact ⟨v, _, os, bare, un_back un hc hx hok, hok_lift hok hx, r, q⟩
/-- .. of a callee that L was hidden from -/
theorem lent_after (e0 : Env0 P w K mg base A outer s H) (hx : Laid L H) (un : Un (frs outer) [] (lift L H) H2 s.heap s'.heap) : Lent L H2 s'.heap := fun b o e => by
  have g := exO_at e0.hok (hx b o e)
  have nf : b ∉ frs outer := fun m => by
    have z := e0.frf b m
    rw [hx b o e] at z
    cases z
  exact ⟨un.free b o g (lift_in e) (by simp), un.keep b o g (lift_in e) nf (by simp)⟩
theorem ce_over {Q : VK} {u : Value} (e0 : Env0 P w K mg base A outer s H) (hx : Laid L H) (c : CE outer P w (lift L H) s (fun v H2 => Q v (lay L H2)) u s') : CE outer P w H s Q u s' := by
  obtain ⟨v, H', os, bare, un, hok, r, q⟩ := c
  exact ⟨v, _, os, bare, un_over un hx, hok_lay hok (lent_after e0 hx un), r, q⟩
theorem cx_over {E : XK} {u : Value} (e0 : Env0 P w K mg base A outer s H) (hx : Laid L H) (c : L2.CX P w outer (lift L H) s (fun cls d H2 => E cls d (lay L H2)) u s') : L2.CX P w outer H s E u s' := by
  obtain ⟨a, B, H', cls, d, rfl, fl, hok, ub, na, os, ag, q⟩ := c
  have lent : ∀ b o, L.lookup b = some o → H' b = none ∧ B.get? b = some o := fun b o e => by
    have g := exO_at e0.hok (hx b o e)
    have nf : b ∉ frs outer := fun m => by
      have z := e0.frf b m
      rw [hx b o e] at z
      cases z
    exact ⟨ub.free b o g (lift_in e), ub.keep b o g (lift_in e) nf⟩
  refine ⟨a, B, lay L H', cls, d, rfl, fl, hok_lay hok lent, ⟨fun b o e n nf => ?_, ub.slot, fun b o e n => ?_, ub.there, fun b xs e => ?_, fun b o xs e => ?_, fun b ps e => ?_⟩, ?_, os, ag, q⟩
  · cases z : L.lookup b with
    | none => exact ub.keep b o e ((lift_out z).trans n) nf
    | some o2 => rw [hx b o2 z] at n; cases n
  · cases z : L.lookup b with
    | none => rw [lay_out z]; exact ub.free b o e ((lift_out z).trans n)
    | some o2 => rw [hx b o2 z] at n; cases n
  · cases z : L.lookup b with
    | none => rw [lay_out z]; exact ub.tups b xs ((lift_out z).trans e)
    | some o2 => exact absurd ((hx b o2 z).symm.trans e) exO_tup
  · cases z : L.lookup b with
    | none => rw [lay_out z]; exact ub.frzs b o xs ((lift_out z).trans e)
    | some o2 => exact absurd ((hx b o2 z).symm.trans e) exO_frz
  · cases z : L.lookup b with
    | none => rw [lay_out z]; exact ub.tbls b ps ((lift_out z).trans e)
    | some o2 => exact absurd ((hx b o2 z).symm.trans e) exO_tbl
  · cases z : L.lookup a with
    | none => rw [lay_out z]; exact na
    | some o2 =>
      have g := (lent a o2 z).2
      rw [fl.2.1] at g
      cases g
end
end
/-! lambdas: made, their code found in the maker's table -/
section
open PySem.Spec PyProof.Rows
abbrev lamObj (q : Str) (ps : Arguments) (body : Expr) (sc : Scope) (cl : List (Str × Addr)) (dV pm : Value) (c' : Addr) (ct : Value) : Obj :=
  { cls := .type "function", data := .func { PySem.W.kla_fn "<lambda>" q ps body sc cl pm (.ref c') ct with defaults := dV } }
section
variable {X : Cx} {pins : List (Addr × Obj)} {σ : L2.St} {H : Hp} {s : Shared} {M : Model} {A : Around} {E : Value → Shared → Prop}
theorem tabs_grow {T : List (Addr × Str)} {P c' : Addr} {q : Str} {tb : Array Value} {pos : Pos} (hT : LamX.Tabs T H) (hu : ∀ p ∈ T, p.1 = P → p.2 = q) (hP : H P = some (.tbl tb)) (ok : TriplesOk tb.toList) (nC : H c' = none) :
    LamX.Tabs T (upd (upd H P (.tbl (tb ++ #[rawInt pos.line, rawInt pos.col, .ref c']))) c' (LamX.CodeO c' q)) := by
  have stay : ∀ d u, (∀ ps, u ≠ .tbl ps) → H d = some u → upd (upd H P (.tbl (tb ++ #[rawInt pos.line, rawInt pos.col, .ref c']))) c' (LamX.CodeO c' q) d = some u := fun d u nt e => by
    have nd : d ≠ P := fun z => by
      rw [z, hP] at e
      exact nt tb (Option.some.inj e).symm
    rw [upd_ne (ne_of_none e nC), upd_ne nd]
    exact e
  rintro ⟨P2, q2⟩ hp
  obtain ⟨tb2, k1, k2, k3⟩ := hT _ hp
  by_cases hb : P2 = P
  · subst hb
    obtain rfl : q2 = q := hu _ hp rfl
    obtain rfl : tb = tb2 := by
      rw [hP] at k1
      cases k1
      rfl
    have el : (tb ++ #[rawInt pos.line, rawInt pos.col, Value.ref c']).toList = tb.toList ++ [rawInt pos.line, rawInt pos.col, .ref c'] := by simp
    refine ⟨_, (upd_ne (ne_of_none hP nC)).trans upd_same, by rw [el]; exact PySem.TriplesOk_snoc _ _ _ _ k2, fun p' cv z => ?_⟩
    rw [el] at z
    rcases LamX.among_app _ k2 z with z | z
    · obtain ⟨d, e1, e2⟩ := k3 p' cv z
      exact ⟨d, e1, stay d _ LamX.codeO_ne e2⟩
    · exact ⟨c', z, upd_same⟩
  · refine ⟨tb2, ?_, k2, fun p' cv z => ?_⟩
    · exact (upd_ne (ne_of_none k1 nC)).trans ((upd_ne hb).trans k1)
    · obtain ⟨d, e1, e2⟩ := k3 p' cv z
      exact ⟨d, e1, stay d _ LamX.codeO_ne e2⟩
theorem fcode {T : List (Addr × Str)} {c P : Addr} {q name : Str} {ps : Arguments} {sc : Scope} {fb : FuncBody} {pos : Pos} {n : Nat} {Q : Value → Shared → Prop} (I : Inv X pins σ H s) (TB : LamX.TabB X.base X.mg c P) (hcode : X.env.code = .ref c)
    (hm : (P, q) ∈ T) (hu : ∀ p ∈ T, p.1 = P → p.2 = q) (hT : LamX.Tabs T H)
    (h : ∀ c' H1 s', Inv X pins σ H1 s' → Fr [P] H H1 → LamX.Tabs T H1 → H1 c' = some (LamX.CodeO c' q) → Q (.ref c') s') :
    wpAny M A (functionCode X.env pos n name q ps sc fb) Q E s := by
  obtain ⟨tb, hP, ok, am⟩ := hT _ hm
  have gP : s.heap.get? P = some { cls := .none, data := .fields tb } := I.hok P _ hP
  have C := TB.code.keeps I.bk
  cases z : codeAmong pos tb.toList with
  | some cv =>
    obtain ⟨c', rfl, hc'⟩ := am pos cv z
    exact wpAny_functionCode_hit hcode (C.code gP ok) z (h c' H s I .refl hT hc')
  | none =>
    refine wpAny_functionCodeX hcode (C.code gP ok) (C.tab gP) z fun c' h' tk hx hge hlt _ rec ht2 _ => ?_
    obtain ⟨c2, oc, us, tq, e2, g1, g2, g3⟩ := rec
    cases e2
    have nC := I.hok.fresh hge
    have J := LamX.inv_table (t' := tk) (q := q) (more := #[rawInt pos.line, rawInt pos.col, .ref c']) (h' := h') I hP (fun b o nb e => hx b o nb e) ht2.2 hge ⟨oc, us, tq, g1, g2, g3⟩
    exact h c' _ _ J ((Fr.at (by simp)).trans (Fr.new ((upd_ne (fun z => ne_of_none hP nC z.symm)).trans nC))) (tabs_grow hT hu hP ok nC) upd_same
theorem lam_tail {T : List (Addr × Str)} {c P : Addr} {q : Str} {ps : Arguments} {body : Expr} {sc : Scope} {pos : Pos} {dV : Value} {Q : Value → Shared → Prop} (I : Inv X pins σ H s) (TB : LamX.TabB X.base X.mg c P) (hcode : X.env.code = .ref c)
    (hm : (P, q) ∈ T) (hu : ∀ p ∈ T, p.1 = P → p.2 = q) (hT : LamX.Tabs T H) (hfree : ∀ y ∈ sc.names, y.2 = .free → ∃ c, X.env.cells.lookup y.1 = some c)
    (h : ∀ (f c' : Addr) (pm ct : Value) (H1 : Hp) (s' : Shared), Inv X pins σ H1 s' → Fr [P] H H1 → LamX.Tabs T H1 → H f = none → H1 f = some (ExO f (lamObj q ps body sc (cloFrom X.env.cells sc.names []) dV pm c' ct)) → H1 c' = some (LamX.CodeO c' q) → Q (.ref f) s') :
    wpAny M A (makeTail "<lambda>" q ps (.expr body) sc X.env dV .none none pos pos.line) Q E s := by
  have fin : ∀ (ct : Value) (c' : Addr) (H1 : Hp) (s1 : Shared), Inv X pins σ H1 s1 → Fr [P] H H1 → LamX.Tabs T H1 → H1 c' = some (LamX.CodeO c' q) →
      Q (.ref s1.heap.objs.size) { s1 with heap := s1.heap.push (lamObj q ps body sc (cloFrom X.env.cells sc.names []) dV ((X.mg "__name__").getD .none) c' ct) } := fun ct c' H1 s1 J F T1 hc => by
    have nf := J.hok.fresh (Nat.le_refl s1.heap.objs.size)
    have J2 := J.laid (a := s1.heap.objs.size) (t' := s1.toks) (o := ExO s1.heap.objs.size (lamObj q ps body sc (cloFrom X.env.cells sc.names []) dV ((X.mg "__name__").getD .none) c' ct))
      (h' := s1.heap.push (lamObj q ps body sc (cloFrom X.env.cells sc.names []) dV ((X.mg "__name__").getD .none) c' ct)) (fun b u e => Heap.get?_push_of_some _ e) (Nat.le_refl _) (exO_ok (Heap.get?_push_size _ rfl))
    exact h _ c' _ ct _ _ J2 (F.trans (Fr.new nf)) (T1.ext fun b o e => (upd_ne (ne_of_none e nf)).trans e) (F.free nf) upd_same ((upd_ne (ne_of_none hc nf)).trans hc)
  unfold makeTail
  rw [closure_ok hfree, I.ok.glob]
  refine wpAny_bind (wpAny_pure ?_)
  generalize hcl : cloFrom X.env.cells sc.names [] = cl at fin
  cases cl with
  | nil =>
    simp only [List.isEmpty_nil, if_true]
    refine wpAny_bind (wpAny_pure (wpAny_bind (fcode I TB hcode hm hu hT fun c' H1 s1 J F T1 hc => ?_)))
    obtain ⟨bm, ob, x1, x2, _, _, x5, x6, x7, x8⟩ := TB.bm.keeps J.bk
    have gl := J.mod.glob.keeps J.bk
    refine wpAny_bind (wpAny_builtinsFor gl x1 x2 x5 x6 x7 x8 (wpAny_bind (wpAny_nsGet gl ?_)))
    exact wpAny_bind (wpAny_pure (wpAny_newObj_type (fin .none c' H1 s1 J F T1 hc) (by size_fits)))
  | cons y r =>
    simp only [List.isEmpty_cons, Bool.false_eq_true, if_false]
    refine wpAny_bind (wpAny_newTextTuple (wpAny_bind (fcode (I.kept (t' := s.toks) fun b o e => Heap.get?_push_of_some _ e) TB hcode hm hu hT fun c' H1 s1 J F T1 hc => ?_)))
    obtain ⟨bm, ob, x1, x2, _, _, x5, x6, x7, x8⟩ := TB.bm.keeps J.bk
    have gl := J.mod.glob.keeps J.bk
    refine wpAny_bind (wpAny_builtinsFor gl x1 x2 x5 x6 x7 x8 (wpAny_bind (wpAny_nsGet gl ?_)))
    exact wpAny_bind (wpAny_pure (wpAny_newObj_type (fin _ c' H1 s1 J F T1 hc) (by size_fits)))
end
/-! .. read -/
def tLam0 (T : List (Addr × Str)) (P : Addr) (q : Str) (ps : Arguments) (body : Expr) (sc : Scope) (cl : List (Str × Addr)) : TE := fun _ H Q => LamX.Tabs T H ∧ ∀ (f c' : Addr) (pm ct : Value) (H1 : Hp), Fr [P] H H1 → LamX.Tabs T H1 → H f = none →
  H1 f = some (ExO f (lamObj q ps body sc cl .none pm c' ct)) → H1 c' = some (LamX.CodeO c' q) → Q (.ref f) H1
def tLam1 (T : List (Addr × Str)) (P : Addr) (q : Str) (ps : Arguments) (body : Expr) (sc : Scope) (cl : List (Str × Addr)) : TE := fun _ H Q => LamX.Tabs T H ∧ ∀ (f c' d : Addr) (pm ct : Value) (H1 : Hp), Fr [P] H H1 → LamX.Tabs T H1 → H f = none → H d = none →
  H1 f = some (ExO f (lamObj q ps body sc cl (.ref d) pm c' ct)) → H1 c' = some (LamX.CodeO c' q) → H1 d = some (.tup [.int 0]) → Q (.ref f) H1
section
variable {X : Cx}
theorem pe_lam0 {T : List (Addr × Str)} {c P : Addr} {ps : Arguments} {body : Expr} {sc : Scope} {pos : Pos} (TB : LamX.TabB X.base X.mg c P) (hcode : X.env.code = .ref c) (hm : (P, X.env.qual ++ "<lambda>") ∈ T)
    (hu : ∀ p ∈ T, p.1 = P → p.2 = X.env.qual ++ "<lambda>") (L : ∀ y ∈ sc.names, y.2 = .free → X.env.scope.names.lookup y.1 = some .cell ∨ X.env.scope.names.lookup y.1 = some .free) (hdef : defaultsOf ps X.env = ([], [])) :
    PE X (.Lambda ps body sc pos) (tLam0 T P (X.env.qual ++ "<lambda>") ps body sc (cloFrom X.env.cells sc.names [])) := by
  refine ⟨fun pins s σ H Q I h => ?_⟩
  obtain ⟨hT, h⟩ := h
  have hfree : ∀ y ∈ sc.names, y.2 = .free → ∃ c, X.env.cells.lookup y.1 = some c := fun y hy e => (L y hy e).elim (fun z => I.ok.has _ (.inl z)) fun z => I.ok.has _ (.inr z)
  rw [arm_eval_Lambda, hdef]
  refine wpAny_bind (m := evalAll []) (wpAny_pure (wpAny_bind (wpAny_holding (m := evalAllOpt []) (wpAny_pure ?_))))
  rw [makeFunction_eq]
  simp only [List.zip_nil_right, List.filterMap_nil, List.isEmpty_nil, if_true, pure_bind]
  exact lam_tail I TB hcode hm hu hT hfree fun f c' pm ct H1 s' J F T1 nf gf gc => ⟨.ref f, H1, J, rfl, h f c' pm ct H1 F T1 nf gf gc⟩
theorem pe_lam1 {T : List (Addr × Str)} {c P : Addr} {ps : Arguments} {body : Expr} {sc : Scope} {pos dp : Pos} {j : Nat} (TB : LamX.TabB X.base X.mg c P) (hcode : X.env.code = .ref c) (hm : (P, X.env.qual ++ "<lambda>") ∈ T)
    (hu : ∀ p ∈ T, p.1 = P → p.2 = X.env.qual ++ "<lambda>") (L : ∀ y ∈ sc.names, y.2 = .free → X.env.scope.names.lookup y.1 = some .cell ∨ X.env.scope.names.lookup y.1 = some .free) (hdef : defaultsOf ps X.env = ([eval (.Constant (.int 0) j dp) X.env], [])) :
    PE X (.Lambda ps body sc pos) (tLam1 T P (X.env.qual ++ "<lambda>") ps body sc (cloFrom X.env.cells sc.names [])) := by
  refine ⟨fun pins s σ H Q I h => ?_⟩
  obtain ⟨hT, h⟩ := h
  have hfree : ∀ y ∈ sc.names, y.2 = .free → ∃ c, X.env.cells.lookup y.1 = some c := fun y hy e => (L y hy e).elim (fun z => I.ok.has _ (.inl z)) fun z => I.ok.has _ (.inr z)
  rw [arm_eval_Lambda, hdef]
  refine wpAny_bind (wpAny_evalAll_cons (thn ((pe_int (X := X)).run pins s σ H (fun v H1 => v = .int 0 ∧ H1 = H) I ⟨rfl, rfl⟩) fun u s1 ⟨v, H1, I1, r1, ev, eH⟩ => wpAny_evalAll_nil ?_))
  subst ev
  subst eH
  obtain ⟨tk, rfl⟩ := r1
  refine wpAny_bind (wpAny_holding (m := evalAllOpt []) (wpAny_pure ?_))
  rw [makeFunction_eq]
  simp only [List.zip_nil_right, List.filterMap_nil, List.isEmpty_nil, List.isEmpty_cons, Bool.false_eq_true, if_false, if_true, pure_bind]
  refine wpAny_bind (wpAny_newTextTuple ?_)
  have nf := I1.hok.fresh (Nat.le_refl s1.heap.objs.size)
  have J := I1.laid (a := s1.heap.objs.size) (t' := s1.toks) (o := .tup [.int 0]) (h' := s1.heap.push { cls := .type "tuple", data := .seq [Value.int 0 tk].toArray }) (fun b u e => Heap.get?_push_of_some _ e) (Nat.le_refl _)
    ⟨by show 1 ≤ sizeLine; decide, [Value.int 0 tk], .cons ⟨tk, rfl⟩ .nil, ⟨_, Heap.get?_push_size _ rfl, rfl, _, rfl⟩⟩
  have T1 : LamX.Tabs T (upd H1 s1.heap.objs.size (.tup [.int 0])) := hT.ext fun b o e => (upd_ne (ne_of_none e nf)).trans e
  exact lam_tail J TB hcode hm hu T1 hfree fun f c' pm ct H2 s' J2 F T2 ng gf gc => ⟨.ref f, H2, J2, rfl, h f c' s1.heap.objs.size pm ct H2 ((Fr.new nf).trans F) T2 (upd_none ng) nf gf gc (F.get upd_same (by
    obtain ⟨tb, hP, _⟩ := hT _ hm
    simp only [List.mem_singleton]
    exact fun z => ne_of_none hP nf z.symm))⟩
end
end
/-! cells -/
section
open PySem.Spec PyProof.Rows
structure Cells (cells : List (Str × Addr)) (zs : List (Str × Option V)) (L : List (Addr × Obj)) : Prop where
  inj : ∀ x y c, cells.lookup x = some c → cells.lookup y = some c → x = y
  dom : ∀ y v, (y, v) ∈ zs → ∃ c o x, cells.lookup y = some c ∧ L.lookup c = some o ∧ o.data = .cell x
  val : ∀ y v, (y, some v) ∈ zs → ∃ c o u, cells.lookup y = some c ∧ L.lookup c = some o ∧ o.data = .cell (some u) ∧ RelV v u
theorem lookup_fn {g : Addr → Option Obj} : ∀ {L : List (Addr × Obj)} {c : Addr} {o : Obj}, (∀ p ∈ L, g p.1 = some p.2) → (c, o) ∈ L → L.lookup c = some o
  | [], _, _, _, h => by cases h
  | (d, o2) :: r, c, o, hg, h => by
    by_cases e : c = d
    · subst e
      have h1 := hg (c, o2) (List.mem_cons_self ..)
      have h2 := hg (c, o) h
      rw [h1] at h2
      rw [List.lookup_cons_self]
      exact h2
    · rw [List.lookup_cons, show (c == d) = false from beq_eq_false_iff_ne.mpr e]
      exact lookup_fn (fun p hp => hg p (List.mem_cons_of_mem _ hp)) ((List.mem_cons.mp h).resolve_left fun z => e (Prod.mk.inj z).1)
theorem cells_list {g : Addr → Option Obj} {cells : List (Str × Addr)} : ∀ {pl : List (Str × Nat)}, (∀ p ∈ pl, ∃ c o, cells.lookup p.1 = some c ∧ g c = some o) →
    ∃ L : List (Addr × Obj), (∀ p ∈ L, g p.1 = some p.2 ∧ ∃ y, cells.lookup y = some p.1) ∧ ∀ p ∈ pl, ∃ c o, cells.lookup p.1 = some c ∧ (c, o) ∈ L
  | [], _ => ⟨[], by simp, by simp⟩
  | p :: r, h => by
    obtain ⟨L, h1, h2⟩ := cells_list (pl := r) fun q hq => h q (List.mem_cons_of_mem _ hq)
    obtain ⟨c, o, e1, e2⟩ := h p (List.mem_cons_self ..)
    refine ⟨(c, o) :: L, fun q hq => ?_, fun q hq => ?_⟩
    · rcases List.mem_cons.mp hq with rfl | hq
      · exact ⟨e2, _, e1⟩
      · exact h1 q hq
    · rcases List.mem_cons.mp hq with rfl | hq
      · exact ⟨c, o, e1, List.mem_cons_self ..⟩
      · obtain ⟨c2, o2, k1, k2⟩ := h2 q hq
        exact ⟨c2, o2, k1, List.mem_cons_of_mem _ k2⟩
theorem cells_get {X : Cx} {pins : List (Addr × Obj)} {σ : L2.St} {H : Hp} {s : Shared} (I : Inv X pins σ H s) {pl : List (Str × Nat)} (hk : ∀ p ∈ pl, X.N[p.2]? = some p.1 ∧ X.env.scope.names.lookup p.1 = some .cell) :
    ∃ L, Cells X.env.cells (pl.map fun p => (p.1, NdefX.slotAt σ p.2)) L ∧ ∀ b o, L.lookup b = some o → H b = none ∧ s.heap.get? b = some o ∧ ∃ y, X.env.cells.lookup y = some b := by
  have hc : ∀ p ∈ pl, ∃ c o, X.env.cells.lookup p.1 = some c ∧ s.heap.get? c = some o := fun p hp => by
    obtain ⟨c, e⟩ := I.ok.has p.1 (.inl (hk p hp).2)
    obtain ⟨v, o, e2, _⟩ := I.cell p.1 c e
    exact ⟨c, o, e, e2⟩
  obtain ⟨L, h1, h2⟩ := cells_list hc
  have hlk : ∀ {c o}, (c, o) ∈ L → L.lookup c = some o := fun h => lookup_fn (fun p hp => (h1 p hp).1) h
  refine ⟨L, ⟨I.ok.inj, fun y v hm => ?_, fun y v hm => ?_⟩, fun b o e => ?_⟩
  · obtain ⟨p, hp, e⟩ := List.mem_map.mp hm
    cases e
    obtain ⟨c, o, e1, e2⟩ := h2 p hp
    obtain ⟨x, o2, g1, g2⟩ := I.cell p.1 c e1
    have g3 := (h1 _ e2).1
    rw [g1] at g3
    cases g3
    exact ⟨c, o, x, e1, hlk e2, g2⟩
  · obtain ⟨p, hp, e⟩ := List.mem_map.mp hm
    obtain ⟨e0, e3⟩ := Prod.mk.inj e
    subst e0
    obtain ⟨c, o, e1, e2⟩ := h2 p hp
    have g3 := (h1 _ e2).1
    obtain ⟨m, _, hl⟩ := I.loc
    obtain ⟨u, ru, lk⟩ := hl p.2 p.1 v (hk p hp).1 (NdefX.slotAt_some e3) (.inr (.inl (hk p hp).2))
    have kc : X.env.kindOf p.1 = some .cell := (hk p hp).2
    rcases lk with ⟨z, _⟩ | ⟨_, c2, z1, o2, z2, z3⟩
    · rw [kc] at z
      cases z
    · rw [e1] at z1
      cases z1
      rw [g3] at z2
      cases z2
      exact ⟨c, o, u, e1, hlk e2, z3, ru⟩
  · have hm := PySem.W.mem_of_lookupK (K := L) e
    obtain ⟨g1, y, g2⟩ := h1 _ hm
    exact ⟨I.freeC y b g2, g1, y, g2⟩
/-! what is called without arguments -/
/-- called with no arguments in any heap that has D, f keeps sp -/
structure WOk (P : Program) (w : World) (K : PySem.W.Frag) (mg : Str → Option Value) (base : Heap) (CX : CXT) (k : Nat) (f : Addr) (D : List (Addr × HO)) (sp : Hp → VK → XK → Prop) : Prop where
  fn : ∃ (od : Option Addr) (sl : Array (Option Value)) (fd : FuncData), (f, ExO f ⟨.type "function", od, .func fd, sl⟩) ∈ D
  run : ∀ (A : Around) (outer : List Env) (s : Shared) (H : Hp) (Q : VK) (E : XK), Room k A → Env0 P w K mg base A outer s H → (∀ d ∈ D, H d.1 = some d.2) → sp H Q E → codeAny (model P w) A (.call (.ref f) ⟨[], []⟩) (CR CX outer P w H s Q E) s
def tCallW (P : Program) (w : World) (K : PySem.W.Frag) (mg : Str → Option Value) (base : Heap) (CX : CXT) (k i : Nat) (E : L2.St → XK) : TE := fun σ H Q => ∃ f D sp, σ[i]? = some (some (.ref f)) ∧ WOk P w K mg base CX k f D sp ∧ (∀ d ∈ D, H d.1 = some d.2) ∧ sp H Q (E σ)
theorem pe_callW {X : Cx} {CX : CXT} {k i : Nat} {x : Str} {E : L2.St → XK} {p pos : Pos} (hr : Room k X.A) (hN : X.N[i]? = some x) (hv : Vis X.env.scope x) (hx : ∀ σ, PassesAt CX X σ (E σ)) (hd : (x == ("__debug__" : Str)) = false := by decide) (hcd : (x == ("__classdict__" : Str)) = false := by decide) :
    PE X (.Call (.Name x p) [] [] pos) (tCallW X.prog X.w X.K X.mg X.base CX k i E) := by
  refine ⟨fun pins s σ H Q I h => ?_⟩
  obtain ⟨f, D, sp, hs, W, hD, h⟩ := h
  refine wpAny_Call_Name_kw (thn ((pe_var (pos := p) hN hv hd hcd).run pins s σ H (fun v H1 => v = .ref f ∧ H1 = H) I ⟨.ref f, hs, rfl, rfl⟩) fun u s1 ⟨v, H1, I1, r1, ev, eH⟩ => ?_)
  subst ev
  subst eH
  obtain rfl : u = Value.ref f := r1
  obtain ⟨od, sl, fd, hf⟩ := W.fn
  refine PySem.W.callWith_F0 (first := []) ⟨_, od, _, sl, exO_at I1.hok (hD _ hf)⟩ ?_
  refine wpAny_call (codeAny_mono (W.run X.A X.stack s1 H1 Q (E σ) hr I1.env0 hD h) fun r s' hq => ?_)
  cases r with
  | error e => exact hx σ pins H1 s1 e s' I1 hq
  | ok fl =>
    cases fl with
    | ret u => exact I1.after hq
    | next => exact hq.elim
    | brk => exact hq.elim
    | cont => exact hq.elim
/-- what hides L asks -/
def Hid (L : List (Addr × Obj)) (Q : VK) : VK := fun v H2 => (∀ b o, L.lookup b = some o → H2 b = none) → Q v (lay L H2)
def HidX (L : List (Addr × Obj)) (E : XK) : XK := fun c d H2 => (∀ b o, L.lookup b = some o → H2 b = none) → E c d (lay L H2)
section
variable {P : Program} {w : World} {K : PySem.W.Frag} {mg : Str → Option Value} {base : Heap}
theorem cells_at {H : Hp} {s : Shared} {cells : List (Str × Addr)} {sc : Scope} {N pn : List Str} {vz : List (Str × V)} {zs : List (Str × Option V)} {L : List (Addr × Obj)} (hok : HOk P w H s.heap) (S : NdefX.NScope N pn (vz.map (·.1)) sc) (C : Cells cells zs L)
    (hz : ∀ p ∈ vz, (p.1, some p.2) ∈ zs) (hx : Laid L H) : NdefX.CellsAt (cloFrom cells sc.names []) (vz.map (·.1)) (vz.map fun p => some p.2) s.heap (lift L H) := by
  have inz : ∀ y, (y, NameKind.free) ∈ sc.names → ∃ v, (y, some v) ∈ zs := fun y hy => by
    obtain ⟨p, hp, e⟩ := List.mem_map.mp (S.free _ hy rfl)
    exact ⟨p.2, by rw [← show p.1 = y from e]; exact hz p hp⟩
  have hfree : ∀ y ∈ sc.names, y.2 = .free → ∃ c, cells.lookup y.1 = some c := fun ⟨y, kd⟩ hy e => by
    obtain rfl : kd = .free := e
    obtain ⟨v, hv⟩ := inz y hy
    obtain ⟨c, _, _, h1, _⟩ := C.dom _ _ hv
    exact ⟨c, h1⟩
  have back : ∀ y c, (cloFrom cells sc.names []).lookup y = some c → (y, NameKind.free) ∈ sc.names ∧ cells.lookup y = some c := fun y c e => by
    refine ⟨?_, NdefX.clo_cm hfree e⟩
    rcases cloFrom_mem (PySem.mem_of_lookup e) with hm | ⟨h1, _⟩
    · cases hm
    · exact h1
  refine ⟨by simp, fun y c e => ?_, fun x y c e1 e2 => C.inj x y c (back x c e1).2 (back y c e2).2, fun i y e => ?_⟩
  · obtain ⟨hy, hc⟩ := back y c e
    obtain ⟨v, hv⟩ := inz y hy
    obtain ⟨c2, o, x, h1, h2, h3⟩ := C.dom _ _ hv
    rw [hc] at h1
    cases h1
    exact ⟨lift_in h2, x, o, exO_at hok (hx c o h2), h3⟩
  · rw [List.getElem?_map] at e
    cases ep : vz[i]? with
    | none => rw [ep] at e; cases e
    | some p =>
      rw [ep] at e
      obtain rfl : p.1 = y := Option.some.inj e
      have hp := List.mem_of_getElem? ep
      obtain ⟨c, o, u, h1, h2, h3, h4⟩ := C.val _ _ (hz p hp)
      have hy : (p.1, NameKind.free) ∈ sc.names := PySem.mem_of_lookup (S.frk p.1 (List.mem_map_of_mem hp))
      refine ⟨c, NdefX.clo_has hfree hy h1, fun v ev => ⟨u, ?_, o, exO_at hok (hx c o h2), h3⟩⟩
      rw [List.getElem?_map, ep] at ev
      obtain rfl : p.2 = v := Option.some.inj (Option.some.inj ev)
      exact h4
/-- a lambda by its body -/
theorem wok_lam {k : Nat} {f c' : Addr} {q : Str} {ps : Arguments} {body : Expr} {sc : Scope} {cells : List (Str × Addr)} {dV pm ct : Value} {N pn : List Str} {vz : List (Str × V)} {zs : List (Str × Option V)} {L : List (Addr × Obj)} {tb : XK → TE} {D : List (Addr × HO)} {pvs : List V}
    (S : NdefX.NScope N pn (vz.map (·.1)) sc) (C : Cells cells zs L) (hz : ∀ p ∈ vz, (p.1, some p.2) ∈ zs) (hl : pvs.length = pn.length)
    (hD1 : (f, ExO f (lamObj q ps body sc (cloFrom cells sc.names []) dV pm c' ct)) ∈ D) (hD2 : (c', LamX.CodeO c' q) ∈ D) (hD3 : ∀ b o, L.lookup b = some o → (b, ExO b o) ∈ D)
    (hb : ∀ (s : Shared) (H : Hp), HOk P w H s.heap → (∀ d ∈ D, H d.1 = some d.2) → ∃ us, Vals pvs us ∧ BindsTo s { PySem.W.kla_fn "<lambda>" q ps body sc (cloFrom cells sc.names []) pm (.ref c') ct with defaults := dV } ⟨[], []⟩ (pn.zip us))
    (hbody : ∀ (A : Around) (outer : List Env) (s : Shared) (H : Hp) (E : XK), Room k (A.deeper (NdefX.envF ⟨"<lambda>", q, ps, [], sc, cloFrom cells sc.names [], c'⟩ f s.heap.objs.size)) →
      PE (NdefX.ncx (L2.CX P w) P w K mg base N ⟨"<lambda>", q, ps, [], sc, cloFrom cells sc.names [], c'⟩ f A outer s H E) body (tb E)) :
    WOk P w K mg base (L2.CX P w) (k + 1) f D (fun H Q E => tb (HidX L E) (NdefX.startF N pvs (vz.map fun p => some p.2)) (lift L H) (Hid L Q)) := by
  refine ⟨⟨none, #[], _, hD1⟩, fun A outer s H Q E hr e0 hD h => ?_⟩
  have hx : Laid L H := fun b o e => hD _ (hD3 b o e)
  have e1 := env_lift e0 hx
  have gf := exO_at e0.hok (hD _ hD1)
  obtain ⟨us, rv, hbd⟩ := hb s H e0.hok hD
  have lim : s.heap.NoLimit := e0.mod.nolimit.keeps fun b o e => (e0.bs b o e).1
  have CA := cells_at e0.hok S C hz hx
  refine codeAny_mono (R := CR (L2.CX P w) outer P w (lift L H) s (Hid L Q) (HidX L E)) ?_ fun r s' hq => ?_
  · refine PySem.W.kla_callFunE hr.depth gf rfl S.co S.gen rfl (NdefX.codeO_at e0.hok (hD _ hD2)) (hbd _ _ _ _ ?_)
    refine wpAny_newFunctionEnv S.nocell (fun ⟨n, _⟩ hy => S.par n (List.of_mem_zip hy).1) (fun h1 hns hsb => ⟨lim.fresh _ hsb, ?_⟩) S.kind
    have kp : ∀ b o, s.heap.get? b = some o → h1.get? b = some o := fun b o e => hsb.extBut b o (Nat.ne_of_lt (Heap.lt_size e)) (Heap.get?_push_of_some _ e)
    have J : Inv (NdefX.ncx (L2.CX P w) P w K mg base N ⟨"<lambda>", q, ps, [], sc, cloFrom cells sc.names [], c'⟩ f A outer s (lift L H) (HidX L E)) [] (NdefX.startF N pvs (vz.map fun p => some p.2)) (lift L H) { s with heap := h1, toks := s.toks + (pn.zip us).length } :=
      NdefX.inv_startN S hr.hd e1 hl rv CA hns kp
    refine PySem.W.kla_codeExpr (wpAny_mono ((hbody A outer s (lift L H) (HidX L E) (hr.deeper _)).run [] _ _ _ _ J h) (fun u s' hq => ?_) fun e s' hq => hq)
    obtain ⟨v, H', J', rv', q'⟩ := hq
    exact ⟨v, H', J'.os, J'.bare, J'.base, J'.hok, rv', q'⟩
  · cases r with
    | error e =>
      obtain ⟨a, B, H', cls, d, rfl, fl, hok, ub, na, os, ag, q'⟩ := hq
      have lent : ∀ b o, L.lookup b = some o → H' b = none := fun b o e => ub.free b o (exO_at e0.hok (hx b o e)) (lift_in e)
      exact cx_over e0 hx ⟨a, B, H', cls, d, rfl, fl, hok, ub, na, os, ag, q' lent⟩
    | ok fl =>
      cases fl with
      | ret u =>
        obtain ⟨v, H', os, bare, un, hok, r, q'⟩ := hq
        exact ce_over e0 hx ⟨v, H', os, bare, un, hok, r, q' fun b o e => un.free b o (exO_at e0.hok (hx b o e)) (lift_in e) (by simp)⟩
      | next => exact hq.elim
      | brk => exact hq.elim
      | cont => exact hq.elim
theorem bind0 {fd : FuncData} {D : List (Addr × HO)} (h : bindArgs fd ⟨[], []⟩ = pure []) : ∀ (s : Shared) (H : Hp), HOk P w H s.heap → (∀ d ∈ D, H d.1 = some d.2) → ∃ us, Vals [] us ∧ BindsTo s fd ⟨[], []⟩ (([] : List Str).zip us) := fun s H _ _ => ⟨[], .nil, .of_eq h⟩
theorem bind1 {fd : FuncData} {D : List (Addr × HO)} {d : Addr} {x : Str} (hd : (d, HO.tup [.int 0]) ∈ D) (hf : fd.defaults = .ref d) (k : Option (Array Value) → Sem (List (Str × Value))) (h1 : bindArgs fd ⟨[], []⟩ = seqItems? fd.defaults >>= k) (h2 : ∀ t, k (some #[.int 0 t]) = pure [(x, .int 0 t)]) :
    ∀ (s : Shared) (H : Hp), HOk P w H s.heap → (∀ d ∈ D, H d.1 = some d.2) → ∃ us, Vals [.int 0] us ∧ BindsTo s fd ⟨[], []⟩ ([x].zip us) := fun s H hok hD => by
  obtain ⟨_, its, rv, ob, g1, g2, n, g3⟩ := hok d _ (hD _ hd)
  cases rv with
  | @cons _ u _ us r rr =>
    cases rr
    obtain ⟨t, rfl⟩ := r
    exact ⟨[.int 0 t], .cons ⟨t, rfl⟩ .nil, .of_defaults hf g1 g3 h1 (h2 t)⟩
end
end
/-! a def called that is lent the caller's cells; a def whose cells outlive it -/
section
open PySem.Spec PyProof.Rows
def tCallLend (cells : List (Str × Addr)) (pl : List (Str × Nat)) (sp : Sp) (t : TA) : TE := fun σ H Q => t σ H fun vs H1 => ∀ L, Cells cells (pl.map fun p => (p.1, NdefX.slotAt σ p.2)) L → (∀ b o, L.lookup b = some o → H1 b = none) →
  sp vs (lay L H1) (fun v H2 => Laid L H2 ∧ Q v (lift L H2)) E0
theorem pe_callLend {X : Cx} {k : Nat} {f : Addr} {fd : FuncData} {ps : List Str} {sp : Sp} {x : Str} {p pos : Pos} {e : Expr} {es : List Expr} {t : TA} {pl : List (Str × Nat)} (F : FnOk X.prog X.w X.K X.mg X.base CX0 k f fd ps sp) (hr : Room k X.A) (hg : Gl X x) (hm : X.mg x = some (.ref f))
    (hk : PySem.W.keepIn X.K (.ref f) = true) (hb : Binds X.K fd ps []) (hfn : ∀ y, X.fn y = true) (hpl : ∀ p ∈ pl, X.N[p.2]? = some p.1 ∧ X.env.scope.names.lookup p.1 = some .cell) (ha : PA X (e :: es) t)
    (hdb : (x == ("__debug__" : Str)) = false := by decide) (he : starEach (e :: es) X.env = (false, eval e X.env) :: starEach es X.env := by rfl) (hp2 : (backTo pos (starEach es X.env)).any (·.1) = false := by rfl) :
    PE X (.Call (.Name x p) (e :: es) [] pos) (tCallLend X.env.cells pl sp t) := by
  refine ⟨fun pins s σ H Q I h => ?_⟩
  refine wpAny_Call_Name_kw (ld_glob I hg hm ?_ hdb)
  refine PySem.W.callWith_K (h₀ := X.base) I.ok.mod.kin hk (thn (ha.run pos pins s σ H _ I h) fun us s1 ⟨vs, H1, I1, r, q⟩ => ⟨I1.kIn, ?_⟩) he hp2
  obtain ⟨L, C, hL⟩ := cells_get I1 hpl
  have q2 := q L C fun b o e => (hL b o e).1
  have lent : Lent L H1 s1.heap := fun b o e => ⟨(hL b o e).1, (hL b o e).2.1⟩
  have up : ∀ b o, L.lookup b = some o → X.s_0.heap.objs.size ≤ b ∧ b ≠ X.env.locals := fun b o e => by
    obtain ⟨_, _, y, hy⟩ := hL b o e
    exact ⟨I1.ok.cab y b (hfn y) hy, I1.cne y b hy⟩
  have e0 := env_lay I1.env0 lent fun b o e => by
    refine ⟨Heap.get?_none_of_le (Nat.le_trans I1.ok.bsz (up b o e).1), fun m => ?_⟩
    rcases List.mem_cons.mp (I1.stkSub b m) with z | z
    · exact (up b o e).2 z
    · obtain ⟨_, o2, z2, _⟩ := I1.ok.funs.mem z
      exact absurd (Nat.lt_of_lt_of_le (Heap.lt_size z2) (up b o e).1) (Nat.lt_irrefl _)
  have hl : us.length = ps.length := by rw [← r.length]; exact F.len _ _ _ _ q2
  have hbd := hb s1 us I1.kIn (by rw [List.append_nil]; exact hl)
  rw [List.append_nil] at hbd
  refine wpAny_call (codeAny_mono (F.run X.A X.stack s1 (lay L H1) ⟨us, []⟩ us vs _ _ hr e0 hbd r q2) fun r s' hq => ?_)
  cases r with
  | error e => exact (show False from hq).elim
  | ok fl =>
    cases fl with
    | ret u => exact I1.after (ce_back lent hq)
    | next => exact hq.elim
    | brk => exact hq.elim
    | cont => exact hq.elim
/-- a block that returns, the slots told -/
structure PSr (X : Cx) (b : List Stmt) (t : (V → L2.St → Hp → Prop) → L2.St → Hp → Prop) : Prop where
  run : ∀ (pins : List (Addr × Obj)) (s : Shared) (σ : L2.St) (H : Hp) (R : V → L2.St → Hp → Prop), Inv X pins σ H s → t R σ H →
    wpAny (model X.prog X.w) X.A (execs b X.env) (fun fl s' => ∃ u v σ' H', fl = .ret u ∧ Inv X pins σ' H' s' ∧ RelV v u ∧ R v σ' H') X.xe s
theorem psr_ret {X : Cx} {e : Expr} {te : TE} {pos : Pos} (he : PE X e te) : PSr X [.Return (some e) pos] (fun R σ H => te σ H fun v H' => R v σ H') := ⟨fun pins s σ H R I h =>
  wpAny_execs_cons (wpAny_Return_some (thn (he.run pins s σ H _ I h) fun u s1 ⟨v, H1, I1, r1, q1⟩ => ⟨u, v, σ, H1, rfl, I1, r1, q1⟩))⟩
theorem psr_cons {X : Cx} {st : Stmt} {rest : List Stmt} {t : TS} {u : (V → L2.St → Hp → Prop) → L2.St → Hp → Prop} (h1 : PS X st t) (h2 : PSr X rest u) : PSr X (st :: rest) (fun R σ H => t ⟨fun σ' H' => u R σ' H', fun _ _ => False, fun _ _ => False, fun _ _ => False⟩ σ H) := ⟨fun pins s σ H R I h => by
  refine wpAny_execs_cons (thn (h1.run pins s σ H _ I h) fun f s1 q => ?_)
  cases f with
  | next =>
    obtain ⟨σ', H', I', q⟩ := q
    exact h2.run pins s1 σ' H' R I' q
  | ret v =>
    obtain ⟨_, _, _, _, _, z⟩ := q
    exact z.elim
  | brk =>
    obtain ⟨_, _, _, z⟩ := q
    exact z.elim
  | cont =>
    obtain ⟨_, _, _, z⟩ := q
    exact z.elim⟩
section
variable {P : Program} {w : World} {K : PySem.W.Frag} {mg : Str → Option Value} {base : Heap} {x qual : Str} {st : Stmt} {f : Addr} {fd : FuncData} {N ps : List Str} {k : Nat} {sp : Sp} {c : Addr}
theorem fun_okD (F : Fun K x qual st f fd) (hc : fd.code = .ref c) (S : FnScope N ps (defScope st)) (len : ∀ vs H Q E, sp vs H Q E → vs.length = ps.length)
    (hbody : ∀ (A : Around) (outer : List Env) (s : Shared) (H : Hp) (vs : List V) (Q : VK) (E : XK), Room k (A.deeper (envOfC qual (defScope st) s.heap.objs.size f (.ref c))) → sp vs H Q E →
      ∃ t, PSs (cxOf CX0 P w K mg base N qual (defScope st) f (.ref c) A outer s H E).nox (defBody st) t ∧ t { nx := fun _ H' => Q .non H', rt := Q } (start N vs) H) : FnOk P w K mg base CX0 (k + 1) f fd ps sp := by
  obtain ⟨oc, od, kV, doc, pm, an, cdv, ct, osl, rfl, lk, hcd⟩ := F.ex
  obtain rfl : cdv = .ref c := hc
  refine fn_of lk hcd S len fun A outer s H vs Q E hr hsp => ?_
  obtain ⟨t, h, q⟩ := hbody A outer s H vs Q E hr hsp
  exact ⟨t, h.nox, q⟩
/-- behind the return its cells are told -/
theorem fun_okC {pl : List (Str × Nat)} (F : Fun K x qual st f fd) (hc : fd.code = .ref c) (S : FnScope N ps (defScope st)) (len : ∀ vs H Q E, sp vs H Q E → vs.length = ps.length) (hpl : ∀ p ∈ pl, N[p.2]? = some p.1 ∧ (defScope st).names.lookup p.1 = some .cell)
    (hbody : ∀ (A : Around) (outer : List Env) (s : Shared) (H : Hp) (vs : List V) (Q : VK) (E : XK), Room k (A.deeper (envOfC qual (defScope st) s.heap.objs.size f (.ref c))) → sp vs H Q E →
      ∃ t, PSr (cxOf CX0 P w K mg base N qual (defScope st) f (.ref c) A outer s H E).nox (defBody st) t ∧
        t (fun v σ H2 => ∀ L, Cells (cellsFrom (s.heap.objs.size + 1) (defScope st).names []) (pl.map fun p => (p.1, NdefX.slotAt σ p.2)) L → (∀ b o, L.lookup b = some o → H b = none ∧ H2 b = none) → Q v (lay L H2)) (start N vs) H) : FnOk P w K mg base CX0 (k + 1) f fd ps sp := by
  obtain ⟨oc, od, kV, doc, pm, an, cdv, ct, osl, rfl, lk, hcd⟩ := F.ex
  obtain rfl : cdv = .ref c := hc
  refine ⟨len, fun A outer s H args us vs Q E hr e0 hb r hsp => ?_⟩
  have hl := len _ _ _ _ hsp
  have KX : K.In s.heap := e0.mod.kin.keeps fun b o e => (e0.bs b o e).1
  have hkind : ∀ y ∈ ps.zip us, (defScope st).names.lookup y.1 = some .local ∨ ((defScope st).names.lookup y.1 = some .cell ∧ ((cellsFrom (s.heap.objs.size + 1) (defScope st).names []).lookup y.1).isSome = true) := fun ⟨n, v⟩ hy =>
    (S.par n (List.of_mem_zip hy).1).imp_right fun z => ⟨z, PySem.W.cellsFrom_some _ _ _ (.inl z)⟩
  refine codeAny_call_function hr.depth (KX _ _ lk) rfl S.co S.gen rfl (PySem.W.codeRec_of KX hcd) (hb _ _ _ _ (wpAny_newFunctionEnv_cells S.kind hkind fun env he s1 ic => ?_))
  subst he
  refine ⟨(e0.mod.nolimit.keeps fun b o e => (e0.bs b o e).1).keeps ic.toInCall.keep, codeAny_func ?_⟩
  obtain ⟨t, ht, hq⟩ := hbody A outer s H vs Q E (hr.deeper _) hsp
  have J0 := inv_start (CX := CX0) (w := w) (qual := qual) (f := f) (E := E) S hr.hd e0 hl r ic
  refine wpAny_mono (ht.run [] s1 (start N vs) H _ (J0.wish _) hq) (fun fl s' hs => ?_) fun e s' hs => hs.elim
  obtain ⟨u, v, σ', H', rfl, J, rv, q⟩ := hs
  obtain ⟨L, C, hL⟩ := cells_get J (pl := pl) hpl
  have old : ∀ b o, L.lookup b = some o → s.heap.objs.size ≤ b := fun b o e => by
    obtain ⟨_, _, y, hy⟩ := hL b o e
    exact J.ok.cab y b rfl hy
  have out : ∀ b, b < s.heap.objs.size → L.lookup b = none := fun b hb => by
    cases z : L.lookup b with
    | none => rfl
    | some o => exact absurd (Nat.lt_of_lt_of_le hb (old b o z)) (Nat.lt_irrefl _)
  have trd : ∀ {b u}, H b = some u → L.lookup b = none := fun e => out _ (e0.hok.lt e)
  have U := J.base
  refine ⟨v, lay L H', J.os, J.bare, ⟨U.keep, U.slot, fun b o e n nx => (lay_out (out b (Heap.lt_size e))).trans (U.free b o e n nx), U.there, fun b xs e => (lay_out (trd e)).trans (U.tups b xs e), fun b o xs e => (lay_out (trd e)).trans (U.frzs b o xs e), fun b ps e => ?_⟩,
    hok_lay J.hok fun b o e => ⟨(hL b o e).1, (hL b o e).2.1⟩, rv, q L C fun b o e => ⟨e0.hok.fresh (old b o e), (hL b o e).1⟩⟩
  obtain ⟨more, e2⟩ := U.tbls b ps e
  exact ⟨more, (lay_out (trd e)).trans e2⟩
end
end
/-! what is refused -/
inductive Bad where
  | rooms | row (p : Int) | rule | many
def Bad.word : Bad → Str
  | .rooms => Str.ofString "BadRooms"
  | .row _ => Str.ofString "BadRow"
  | .rule => Str.ofString "BadRule"
  | .many => Str.ofString "TooMany"
def Bad.place : Bad → Int
  | .row p => p
  | _ => 0
def Bad.at : Bad → Option Addr → Hp → Prop
  | .row p, d, H => ∃ dd, d = some dd ∧ H dd = some (.xd [("place", .int p)])
  | _, d, _ => d = none
def Bad.to (c : Bad → Addr) (b : Bad) (H : Hp) (E : XK) : Prop := ∀ d H', Fr [] H H' → b.at d H' → E (.ref (c b)) d H'
theorem Bad.to.step {c : Bad → Addr} {b : Bad} {H H1 : Hp} {E : XK} (h : Bad.to c b H E) (f : Fr [] H H1) : Bad.to c b H1 E := fun d H' f' a => h d H' (f.trans f') a
def dueD : Option Bad → PyData
  | none => .none
  | some b => .tuple [.str b.word, .int b.place]
def Wk (c : Bad → Addr) (o : Option Bad) (H : Hp) (Q : VK) (E : XK) : Prop := match o with
  | none => ∀ v H', Fr [] H H' → Q v H'
  | some b => Bad.to c b H E
section
variable {L : List (Addr × Obj)} {H H2 : Hp} {Q : VK} {E : XK} {c : Bad → Addr} {o : Option Bad} {b : Bad}
theorem lift_get {a : Addr} {u : HO} (hx : Laid L H) (e : H a = some u) (hu : ∀ o, u ≠ ExO a o) : lift L H a = some u := by
  cases q : L.lookup a with
  | none => exact (lift_out q).trans e
  | some o => exact absurd (Option.some.inj (e.symm.trans (hx a o q))) (hu o)
theorem fr_over (hx : Laid L H) (f : Fr [] (lift L H) H2) : Fr [] H (lay L H2) := by
  refine ⟨fun b u e _ => ?_, fun b e => ?_⟩
  · cases q : L.lookup b with
    | none => exact (lay_out q).trans (f.get0 ((lift_out q).trans e))
    | some o => exact (lay_in q).trans ((hx b o q).symm.trans e)
  · cases q : L.lookup b with
    | none => exact (lift_out q).symm.trans (f.free ((lay_out q).symm.trans e))
    | some o =>
      rw [lay_in q] at e
      cases e
theorem fr_back (hn : ∀ b o, L.lookup b = some o → H b = none) (f : Fr [] (lay L H) H2) : Fr [] H (lift L H2) := by
  refine ⟨fun b u e _ => ?_, fun b e => ?_⟩
  · cases q : L.lookup b with
    | none => exact (lift_out q).trans (f.get0 ((lay_out q).trans e))
    | some o =>
      rw [hn b o q] at e
      cases e
  · cases q : L.lookup b with
    | none => exact (lay_out q).symm.trans (f.free ((lift_out q).symm.trans e))
    | some o => exact hn b o q
theorem laid_fr {H' : Hp} (f : Fr [] (lay L H) H') : Laid L H' := fun _ _ e => f.get0 (lay_in e)
theorem Bad.at.lay {d : Option Addr} (h : b.at d H2) (free : ∀ a o, L.lookup a = some o → H2 a = none) : b.at d (lay L H2) := by
  cases b with
  | row p =>
    obtain ⟨dd, h1, h2⟩ := h
    refine ⟨dd, h1, ?_⟩
    cases q : L.lookup dd with
    | none => exact (lay_out q).trans h2
    | some o => rw [free dd o q] at h2; cases h2
  | rooms => exact h
  | rule => exact h
  | many => exact h
theorem Bad.to.hid (hx : Laid L H) (h : Bad.to c b H E) : Bad.to c b (lift L H) (HidX L E) := fun d H2 f a free => h d _ (fr_over hx f) (a.lay free)
theorem good_hid (hx : Laid L H) (h : ∀ v H', Fr [] H H' → Q v H') : ∀ v H', Fr [] (lift L H) H' → Hid L Q v H' := fun v H' f _ => h v _ (fr_over hx f)
end
section
variable {P : Program} {w : World} {K : PySem.W.Frag} {mg : Str → Option Value} {base : Heap} {k : Nat} {H H' : Hp} {f : Addr} {o : Option Bad} {c : Bad → Addr} {D : List (Addr × HO)} {sp sp' : Hp → VK → XK → Prop}
theorem WOk.imp {CX : CXT} (W : WOk P w K mg base CX k f D sp) (h : ∀ H Q E, (∀ d ∈ D, H d.1 = some d.2) → sp' H Q E → sp H Q E) : WOk P w K mg base CX k f D sp' := ⟨W.fn, fun A outer s H Q E hr e0 hD q => W.run A outer s H Q E hr e0 hD (h H Q E hD q)⟩
/-- f, called in H, ends as o says -/
def WorkAt (P : Program) (w : World) (K : PySem.W.Frag) (mg : Str → Option Value) (base : Heap) (c : Bad → Addr) (k : Nat) (H : Hp) (f : Addr) (o : Option Bad) : Prop :=
  ∃ D, WOk P w K mg base (L2.CX P w) k f D (Wk c o) ∧ ∀ d ∈ D, H d.1 = some d.2 ∧ ∀ ps, d.2 ≠ .tbl ps
theorem WorkAt.fr {W : List Addr} (h : WorkAt P w K mg base c k H f o) (fr : Fr W H H') (hW : ∀ a ∈ W, ∃ ps, H a = some (.tbl ps)) : WorkAt P w K mg base c k H' f o := by
  obtain ⟨D, h1, h2⟩ := h
  refine ⟨D, h1, fun d hd => ⟨fr.get (h2 d hd).1 fun m => ?_, (h2 d hd).2⟩⟩
  obtain ⟨ps, e⟩ := hW _ m
  rw [(h2 d hd).1] at e
  exact (h2 d hd).2 ps (Option.some.inj e)
theorem WorkAt.fr0 (h : WorkAt P w K mg base c k H f o) (fr : Fr [] H H') : WorkAt P w K mg base c k H' f o := h.fr fr (by simp)
theorem WorkAt.lay {L : List (Addr × Obj)} (h : WorkAt P w K mg base c k H f o) (hn : ∀ b o, L.lookup b = some o → H b = none) : WorkAt P w K mg base c k (lay L H) f o := by
  obtain ⟨D, h1, h2⟩ := h
  refine ⟨D, h1, fun d hd => ⟨?_, (h2 d hd).2⟩⟩
  cases q : L.lookup d.1 with
  | none => exact (lay_out q).trans (h2 d hd).1
  | some o =>
    have z := (h2 d hd).1
    rw [hn _ o q] at z
    cases z
end
/-! steps -/
section
variable {X : Cx} {st : Stmt} {rest : List Stmt} {t : TS} {σ : L2.St} {H : Hp} {nx : L2.St → Hp → Prop} {rt : VK} {bk ct : L2.St → Hp → Prop}
/-- a block whose first statement does not end -/
def tFirst (t : TS) : TS := fun D σ H => t ⟨fun _ _ => False, D.rt, D.bk, D.ct⟩ σ H
theorem pss_first (h : PS X st t) : PSs X (st :: rest) (tFirst t) := ⟨fun pins s σ H D I h' => wpAny_execs_cons (thn (h.run pins s σ H _ I h') fun f s1 q => by
  cases f with
  | next =>
    obtain ⟨_, _, _, z⟩ := q
    exact z.elim
  | ret v => exact q
  | brk => exact q
  | cont => exact q)⟩
theorem w_first (h : t ⟨fun _ _ => False, rt, bk, ct⟩ σ H) : tFirst t ⟨nx, rt, bk, ct⟩ σ H := h
theorem cdivW_ {i j : Int} (h1 : 0 < j) (h2 : j < 1606938044258990275541962092341162602522202993782792835301376) : CDivW i j := wide_div (b := 200) h1 (by omega) (by decide) (by decide)
end
def lamQ (q : Str) : Str := (q ++ ".<locals>.") ++ "<lambda>"
theorem walkT {l : PySem.W.OpenLaw} {q : Program} {loose : List Str} {XP : (Str → Option Value) → Heap → Prop} {d : DefRec} {K : Params → PySem.W.Frag} {as : List Addr} {e : ∀ P, as = (K P).map (·.1)} {ts : List Addr} {n : Nat} (hr : Room n callerA) (hn : l.most = some 63) (hdf : d.params.defaults = [])
    (F : ∀ (w : World) (mg : Str → Option Value) (fa : Addr) (h : Heap), (∀ P ∈ ts, h.get? P = some { cls := .none, data := .fields #[] }) → (K w.params).In h → h.Ns mainGlobals mg → mg d.name = some (.ref fa) → LamX.LawAtS l w (K w.params) CX0 n 63 "_law_script" mg fa h) :
    PySem.W.WalkO q loose XP (PySem.W.kmHook K as e ts).says l.row.toRowW d [] (fun f vs => PySem.call f vs) :=
  LamX.walk_ofTs (n := 63) (k := n) (x := "_law_script") (CX := fun _ => CX0) hn (by decide) hdf hr (fun w h Y => PySem.W.km_in_of Y) (fun w mg fa h Y KX G hm => F w mg fa h (PySem.W.km_tabs_of Y) KX G hm) fun _ _ _ _ _ z => z
/-! an own error whose __init__ is ValueError's, its base an own class -/
section
open PySem.Spec PyProof.Rows
structure OwnB (K : PySem.W.Frag) (C : Addr) : Prop where
  cls : ∃ nm q N bs bm sn sub ab col dd k0 k1 k2 k3 k5, K.lookup C = some (excClassObj nm q C N bs bm true sn sub ab col dd k0 k1 k2 k3 k5 "ValueError.__new__") ∧ PySem.HandSPX.refsVE bm = true
  ii : PySem.W.findIn K (.ref C) "__init__" = some (some (.builtin "ValueError.__init__"))
  kp : PySem.W.keepIn K (.ref C) = true
  ex : PySem.W.subIn K (.ref C) (.type "BaseException") = some true
  ty : PySem.W.typeIn K (.ref C) = some (.type "type")
theorem pmk_ownB {X : Cx} {C : Addr} {x m : Str} {j : Nat} {p p2 pos : Pos} (T : OwnB X.K C) (gC : X.mg x = some (.ref C)) (hg : Gl X x) (hdb : (x == ("__debug__" : Str)) = false := by decide) :
    PMk X (.Call (.Name x p) [.Constant (.str m) j p2] [] pos) (fun _ H Q => Q (.ref C) none H) := by
  intro pins s σ H Q I h
  obtain ⟨nm, qn, N, bs, bm, sn, sub, ab, col, dd, k0, k1, k2, k3, k5, hC, hbm⟩ := T.cls
  refine wpAny_Call_Name_kw (ld_glob I hg gC ?_ hdb)
  refine PySem.W.callWith_K (h₀ := X.base) I.ok.mod.kin T.kp (thn ((pa_cons (X := X) (e := .Constant (.str m) j p2) pe_str pa_nil).run pos pins s σ H (fun vs H1 => vs = [V.str m] ∧ H = H1) I ⟨rfl, rfl⟩) fun us s1 ⟨vs, H1, I1, r1, ev, eH⟩ => ⟨I1.kIn, ?_⟩)
  subst ev
  subst eH
  show wpAny _ _ (call (.ref C) us) _ _ _
  have hlen : us.length ≤ sizeLine := by
    rw [← r1.length]
    show 1 ≤ sizeLine
    decide
  have hi := PySem.W.looks_findIn (M := model X.prog X.w) I1.kIn T.ii
  have hc := I1.kIn _ _ hC
  have new1 : s1.heap.get? (s1.heap.objs.size + 1) = none := Heap.get?_none_of_le (Nat.le_succ _)
  obtain ⟨hh, g, d, tk, os⟩ := s1
  refine PySem.W.call_B PySem.F.excBase_ValueError (fun Z => PySem.HandSPX.refsVE_contains Z bm hbm) hc hi hlen fun h' k he ht => ?_
  exact ⟨_, _, _, ⟨hh, g, d, tk, os⟩, H, .ref C, none, rfl, I1, k, new1, he, ⟨rfl, rfl⟩, rfl, rfl, I1.hok.fresh (Nat.le_succ _), rfl, I1.bare, raises_own T.ex T.ty, h⟩
end
theorem row_end {c : Bad → Addr} {i : Int} {H : Hp} {E : XK} {C a d : Addr} (k : Bad.to c (.row i) H E) (hc : c (.row i) = C) (ha : H a = none) (hd : H d = none) :
    E (.ref C) (some d) (upd (del (upd (upd (upd H a (exo a C none)) d (exd d [("place", .int i)])) a (exo a C (some d))) a) d (.xd [("place", .int i)])) := by
  subst hc
  refine k (some d) _ ⟨fun b o hb _ => ?_, fun b hb => ?_⟩ ⟨d, rfl, upd_same⟩
  · have n1 : b ≠ a := ne_of_none hb ha
    have n2 : b ≠ d := ne_of_none hb hd
    rw [upd_ne n2, del_ne n1, upd_ne n1, upd_ne n2, upd_ne n1]
    exact hb
  · by_cases n2 : b = d
    · rw [n2]
      exact hd
    · by_cases n1 : b = a
      · rw [n1]
        exact ha
      · rwa [upd_ne n2, del_ne n1, upd_ne n1, upd_ne n2, upd_ne n1] at hb
end Cw

namespace Cw
open PySem L2
/-! a lambda as it stands in the heap, and what it does when called -/
section
open PySem.Spec PyProof.Rows
def LamIn0 (q : Str) (ps : Arguments) (body : Expr) (sc : Scope) (cl : List (Str × Addr)) (H : Hp) (f : Addr) : Prop := ∃ (pm : Value) (c' : Addr) (ct : Value), H f = some (ExO f (lamObj q ps body sc cl .none pm c' ct)) ∧ H c' = some (LamX.CodeO c' q)
def LamIn1 (q : Str) (ps : Arguments) (body : Expr) (sc : Scope) (cl : List (Str × Addr)) (H : Hp) (f : Addr) : Prop := ∃ (d : Addr) (pm : Value) (c' : Addr) (ct : Value), H f = some (ExO f (lamObj q ps body sc cl (.ref d) pm c' ct)) ∧ H c' = some (LamX.CodeO c' q) ∧ H d = some (.tup [.int 0])
theorem exO_nt {a : Addr} {o : Obj} (ps : Array Value) : ExO a o ≠ .tbl ps := fun z => by unfold ExO at z; cases z
theorem get_tbl {W : List Addr} {H H' : Hp} {b : Addr} {u : HO} (f : Fr W H H') (hW : ∀ a ∈ W, ∃ ps, H a = some (.tbl ps)) (h : H b = some u) (hu : ∀ ps, u ≠ .tbl ps) : H' b = some u := f.get h fun m => by
  obtain ⟨ps, e⟩ := hW b m
  rw [h] at e
  exact hu ps (Option.some.inj e)
section
variable {q : Str} {ps : Arguments} {body : Expr} {sc : Scope} {cl : List (Str × Addr)} {H H' : Hp} {f : Addr} {W : List Addr}
theorem LamIn0.fr (h : LamIn0 q ps body sc cl H f) (fr : Fr W H H') (hW : ∀ a ∈ W, ∃ ps, H a = some (.tbl ps)) : LamIn0 q ps body sc cl H' f := by
  obtain ⟨pm, c', ct, h1, h2⟩ := h
  exact ⟨pm, c', ct, get_tbl fr hW h1 exO_nt, get_tbl fr hW h2 LamX.codeO_ne⟩
theorem LamIn1.fr (h : LamIn1 q ps body sc cl H f) (fr : Fr W H H') (hW : ∀ a ∈ W, ∃ ps, H a = some (.tbl ps)) : LamIn1 q ps body sc cl H' f := by
  obtain ⟨d, pm, c', ct, h1, h2, h3⟩ := h
  exact ⟨d, pm, c', ct, get_tbl fr hW h1 exO_nt, get_tbl fr hW h2 LamX.codeO_ne, get_tbl fr hW h3 fun _ z => by cases z⟩
theorem tbl_of {T : List (Addr × Str)} {P : Addr} (hT : LamX.Tabs T H) (hm : (P, q) ∈ T) : ∀ a ∈ [P], ∃ ps, H a = some (.tbl ps) := fun a ha => by
  obtain rfl := List.mem_singleton.mp ha
  obtain ⟨ps, h, _⟩ := hT _ hm
  exact ⟨ps, h⟩
theorem tabs_fr {T : List (Addr × Str)} (hT : LamX.Tabs T H) (fr : Fr W H H') (hW : ∀ a ∈ W, ∃ xs, H a = some (.lst xs)) : LamX.Tabs T H' := fun p hp => by
  obtain ⟨tb, h1, h2, h3⟩ := hT p hp
  have keep : ∀ b u, H b = some u → (∀ xs, u ≠ .lst xs) → H' b = some u := fun b u e hu => fr.get e fun m => by
    obtain ⟨xs, z⟩ := hW b m
    rw [e] at z
    exact hu xs (Option.some.inj z)
  refine ⟨tb, keep _ _ h1 (fun _ z => by cases z), h2, fun pos cv hc => ?_⟩
  obtain ⟨c, e1, e2⟩ := h3 pos cv hc
  exact ⟨c, e1, keep _ _ e2 fun xs z => by unfold LamX.CodeO at z; cases z⟩
theorem tabs_fr0 {T : List (Addr × Str)} (hT : LamX.Tabs T H) (fr : Fr [] H H') : LamX.Tabs T H' := tabs_fr hT fr (by simp)
theorem tabs_box {T : List (Addr × Str)} {b c : Addr} (hT : LamX.Tabs T H) (hB : Box H b c) (fr : Fr [b, c] H H') : LamX.Tabs T H' := tabs_fr hT fr fun a ha => by
  obtain ⟨z, ms, h1, h2, _⟩ := hB
  simp only [List.mem_cons, List.not_mem_nil, or_false] at ha
  rcases ha with rfl | rfl
  · exact ⟨_, h1⟩
  · exact ⟨_, h2⟩
end
/-- L as promises -/
def lentD (L : List (Addr × Obj)) : List (Addr × HO) := L.filterMap fun p => (L.lookup p.1).map fun o => (p.1, ExO p.1 o)
theorem lentD_in {L : List (Addr × Obj)} {b : Addr} {o : Obj} (h : L.lookup b = some o) : (b, ExO b o) ∈ lentD L := List.mem_filterMap.mpr ⟨(b, o), PySem.W.mem_of_lookupK (K := L) h, by rw [h]; rfl⟩
theorem lentD_of {L : List (Addr × Obj)} {d : Addr × HO} (h : d ∈ lentD L) : ∃ o, L.lookup d.1 = some o ∧ d.2 = ExO d.1 o := by
  obtain ⟨p, hp, e⟩ := List.mem_filterMap.mp h
  cases q : L.lookup p.1 with
  | none => rw [q] at e; cases e
  | some o =>
    rw [q] at e
    obtain rfl := (Option.some.inj e)
    exact ⟨o, q, rfl⟩
section
variable {P : Program} {w : World} {K : PySem.W.Frag} {mg : Str → Option Value} {base : Heap} {c : Bad → Addr} {k : Nat} {H : Hp} {f : Addr} {o : Option Bad} {q : Str} {ps : Arguments} {body : Expr} {sc : Scope} {cells : List (Str × Addr)}
  {N : List Str} {vz : List (Str × V)} {zs : List (Str × Option V)} {L : List (Addr × Obj)} {tb : XK → TE} {D : List (Addr × HO)}
theorem work_at {dV pm ct : Value} {c' : Addr} {pn : List Str} {pvs : List V} {G : List (Addr × HO)} (h1 : H f = some (ExO f (lamObj q ps body sc (cloFrom cells sc.names []) dV pm c' ct))) (h2 : H c' = some (LamX.CodeO c' q)) (hG : ∀ d ∈ G, H d.1 = some d.2 ∧ ∀ ps, d.2 ≠ .tbl ps)
    (hb : ∀ (s : Shared) (H : Hp), HOk P w H s.heap → (∀ d ∈ G, H d.1 = some d.2) → ∃ us, Vals pvs us ∧ BindsTo s { PySem.W.kla_fn "<lambda>" q ps body sc (cloFrom cells sc.names []) pm (.ref c') ct with defaults := dV } ⟨[], []⟩ (pn.zip us))
    (S : NdefX.NScope N pn (vz.map (·.1)) sc) (hl : pvs.length = pn.length) (C : Cells cells zs L) (hz : ∀ p ∈ vz, (p.1, some p.2) ∈ zs) (hn : ∀ b o, L.lookup b = some o → H b = none) (hD : ∀ d ∈ D, H d.1 = some d.2 ∧ ∀ ps, d.2 ≠ .tbl ps)
    (hbody : ∀ (f c' : Addr) (A : Around) (outer : List Env) (s : Shared) (H : Hp) (E : XK), Room k (A.deeper (NdefX.envF ⟨"<lambda>", q, ps, [], sc, cloFrom cells sc.names [], c'⟩ f s.heap.objs.size)) →
      PE (NdefX.ncx (L2.CX P w) P w K mg base N ⟨"<lambda>", q, ps, [], sc, cloFrom cells sc.names [], c'⟩ f A outer s H E) body (tb E))
    (hsp : ∀ (H : Hp) (Q : VK) (E : XK), Laid L H → (∀ d ∈ D, H d.1 = some d.2) → Wk c o H Q E → tb (HidX L E) (NdefX.startF N pvs (vz.map fun p => some p.2)) (lift L H) (Hid L Q)) : WorkAt P w K mg base c (k + 1) (lay L H) f o := by
  have keep : ∀ {b u}, H b = some u → lay L H b = some u := fun {b u} e => by
    cases z : L.lookup b with
    | none => exact (lay_out z).trans e
    | some o => rw [hn b o z] at e; cases e
  refine ⟨(f, ExO f (lamObj q ps body sc (cloFrom cells sc.names []) dV pm c' ct)) :: (c', LamX.CodeO c' q) :: (G ++ (D ++ lentD L)), ?_, fun d hd => ?_⟩
  · refine (wok_lam (tb := tb) S C hz hl (List.mem_cons_self ..) (List.mem_cons_of_mem _ (List.mem_cons_self ..)) (fun b o e => ?_) (fun s H' hok hD' => hb s H' hok fun d hd => hD' d ?_) (hbody f c')).imp fun H' Q E hD' hw => ?_
    · exact List.mem_cons_of_mem _ (List.mem_cons_of_mem _ (List.mem_append_right _ (List.mem_append_right _ (lentD_in e))))
    · exact List.mem_cons_of_mem _ (List.mem_cons_of_mem _ (List.mem_append_left _ hd))
    · refine hsp H' Q E (fun b o e => hD' _ (List.mem_cons_of_mem _ (List.mem_cons_of_mem _ (List.mem_append_right _ (List.mem_append_right _ (lentD_in e)))))) (fun d hd => hD' d ?_) hw
      exact List.mem_cons_of_mem _ (List.mem_cons_of_mem _ (List.mem_append_right _ (List.mem_append_left _ hd)))
  · rcases List.mem_cons.mp hd with rfl | hd
    · exact ⟨keep h1, exO_nt⟩
    rcases List.mem_cons.mp hd with rfl | hd
    · exact ⟨keep h2, LamX.codeO_ne⟩
    rcases List.mem_append.mp hd with hd | hd
    · exact ⟨keep (hG d hd).1, (hG d hd).2⟩
    rcases List.mem_append.mp hd with hd | hd
    · exact ⟨keep (hD d hd).1, (hD d hd).2⟩
    · obtain ⟨o, e1, e2⟩ := lentD_of hd
      rw [e2]
      exact ⟨lay_in e1, exO_nt⟩
theorem work0 (h : LamIn0 q ps body sc (cloFrom cells sc.names []) H f) (S : NdefX.NScope N [] (vz.map (·.1)) sc) (C : Cells cells zs L) (hz : ∀ p ∈ vz, (p.1, some p.2) ∈ zs) (hn : ∀ b o, L.lookup b = some o → H b = none) (hD : ∀ d ∈ D, H d.1 = some d.2 ∧ ∀ ps, d.2 ≠ .tbl ps)
    (hb : ∀ (pm : Value) (c' : Addr) (ct : Value), bindArgs { PySem.W.kla_fn "<lambda>" q ps body sc (cloFrom cells sc.names []) pm (.ref c') ct with defaults := .none } ⟨[], []⟩ = pure [])
    (hbody : ∀ (f c' : Addr) (A : Around) (outer : List Env) (s : Shared) (H : Hp) (E : XK), Room k (A.deeper (NdefX.envF ⟨"<lambda>", q, ps, [], sc, cloFrom cells sc.names [], c'⟩ f s.heap.objs.size)) →
      PE (NdefX.ncx (L2.CX P w) P w K mg base N ⟨"<lambda>", q, ps, [], sc, cloFrom cells sc.names [], c'⟩ f A outer s H E) body (tb E))
    (hsp : ∀ (H : Hp) (Q : VK) (E : XK), Laid L H → (∀ d ∈ D, H d.1 = some d.2) → Wk c o H Q E → tb (HidX L E) (NdefX.startF N [] (vz.map fun p => some p.2)) (lift L H) (Hid L Q)) : WorkAt P w K mg base c (k + 1) (lay L H) f o := by
  obtain ⟨pm, c', ct, h1, h2⟩ := h
  exact work_at (G := []) h1 h2 (by simp) (bind0 (hb pm c' ct)) S rfl C hz hn hD hbody hsp
theorem work1 {x : Str} (h : LamIn1 q ps body sc (cloFrom cells sc.names []) H f) (S : NdefX.NScope N [x] (vz.map (·.1)) sc) (C : Cells cells zs L) (hz : ∀ p ∈ vz, (p.1, some p.2) ∈ zs) (hn : ∀ b o, L.lookup b = some o → H b = none) (hD : ∀ d ∈ D, H d.1 = some d.2 ∧ ∀ ps, d.2 ≠ .tbl ps)
    (hb : ∀ (d : Addr) (pm : Value) (c' : Addr) (ct : Value), ∃ kk : Option (Array Value) → Sem (List (Str × Value)), bindArgs { PySem.W.kla_fn "<lambda>" q ps body sc (cloFrom cells sc.names []) pm (.ref c') ct with defaults := .ref d } ⟨[], []⟩ = seqItems? (.ref d) >>= kk ∧ ∀ t, kk (some #[.int 0 t]) = pure [(x, .int 0 t)])
    (hbody : ∀ (f c' : Addr) (A : Around) (outer : List Env) (s : Shared) (H : Hp) (E : XK), Room k (A.deeper (NdefX.envF ⟨"<lambda>", q, ps, [], sc, cloFrom cells sc.names [], c'⟩ f s.heap.objs.size)) →
      PE (NdefX.ncx (L2.CX P w) P w K mg base N ⟨"<lambda>", q, ps, [], sc, cloFrom cells sc.names [], c'⟩ f A outer s H E) body (tb E))
    (hsp : ∀ (H : Hp) (Q : VK) (E : XK), Laid L H → (∀ d ∈ D, H d.1 = some d.2) → Wk c o H Q E → tb (HidX L E) (NdefX.startF N [.int 0] (vz.map fun p => some p.2)) (lift L H) (Hid L Q)) : WorkAt P w K mg base c (k + 1) (lay L H) f o := by
  obtain ⟨d, pm, c', ct, h1, h2, h3⟩ := h
  obtain ⟨kk, e1, e2⟩ := hb d pm c' ct
  refine work_at (G := [(d, .tup [.int 0])]) h1 h2 (fun e he => ?_) (bind1 (List.mem_singleton.mpr rfl) rfl kk e1 e2) S rfl C hz hn hD hbody hsp
  obtain rfl := List.mem_singleton.mp he
  exact ⟨h3, fun _ z => by cases z⟩
end
end
section
variable {L : List (Addr × Obj)} {H H2 : Hp} {W : List Addr}
theorem fr_lay (f : Fr W H H2) (hn : ∀ b o, L.lookup b = some o → H b = none) : Fr W H (lay L H2) := by
  refine ⟨fun b u e nw => ?_, fun b e => ?_⟩
  · cases q : L.lookup b with
    | none => exact (lay_out q).trans (f.get e nw)
    | some o => rw [hn b o q] at e; cases e
  · cases q : L.lookup b with
    | none => exact f.free ((lay_out q).symm.trans e)
    | some o => rw [lay_in q] at e; cases e
theorem lay_keep (hn : ∀ b o, L.lookup b = some o → H b = none) {b : Addr} {u : HO} (e : H b = some u) : lay L H b = some u := by
  cases q : L.lookup b with
  | none => exact (lay_out q).trans e
  | some o => rw [hn b o q] at e; cases e
theorem exO_nl {a : Addr} {xs : List V} : ∀ o, HO.lst xs ≠ ExO a o := fun o z => by unfold ExO at z; cases z
theorem two_tabs {A B : Addr} {x y : Str} (hne : A ≠ B) : ∀ p ∈ [(A, x), (B, y)], p.1 = A → p.2 = x := fun p hp e => by
  simp only [List.mem_cons, List.not_mem_nil, or_false] at hp
  rcases hp with rfl | rfl
  · rfl
  · exact absurd e.symm hne
theorem two_tabs' {A B : Addr} {x y : Str} (hne : A ≠ B) : ∀ p ∈ [(A, x), (B, y)], p.1 = B → p.2 = y := fun p hp e => by
  simp only [List.mem_cons, List.not_mem_nil, or_false] at hp
  rcases hp with rfl | rfl
  · exact absurd e hne
  · rfl
end
section
variable {T : List (Addr × Str)} {P : Addr} {q : Str} {ps : Arguments} {body : Expr} {sc : Scope} {cl : List (Str × Addr)} {σ : L2.St} {H : Hp} {Q : VK}
theorem w_lam0 (hT : LamX.Tabs T H) (h : ∀ f H1, Fr [P] H H1 → LamX.Tabs T H1 → H f = none → LamIn0 q ps body sc cl H1 f → Q (.ref f) H1) : tLam0 T P q ps body sc cl σ H Q :=
  ⟨hT, fun f c' pm ct H1 F T1 nf gf gc => h f H1 F T1 nf ⟨pm, c', ct, gf, gc⟩⟩
theorem w_lam1 (hT : LamX.Tabs T H) (h : ∀ f H1, Fr [P] H H1 → LamX.Tabs T H1 → H f = none → LamIn1 q ps body sc cl H1 f → Q (.ref f) H1) : tLam1 T P q ps body sc cl σ H Q :=
  ⟨hT, fun f c' d pm ct H1 F T1 nf nd gf gc gd => h f H1 F T1 nf ⟨d, pm, c', ct, gf, gc, gd⟩⟩
end
/-! what the law knows all along -/
structure NowL (T : List (Addr × Str)) (b q : Addr) (cs : List (Addr × HO)) (H : Hp) : Prop where
  bx : Box H b q
  ta : LamX.Tabs T H
  co : ∀ x ∈ cs, H x.1 = some x.2
  ap : ∀ x ∈ cs, x.1 ∉ [b, q]
  nt : ∀ x ∈ cs, ∀ ps, x.2 ≠ .tbl ps
section
variable {T : List (Addr × Str)} {b q P p : Addr} {cs : List (Addr × HO)} {H H' : Hp} {o : HO} {y : Str}
theorem NowL.take (h : NowL T b q cs H) (f : Fr [b, q] H H') (B : Box H' b q) : NowL T b q cs H' := ⟨B, tabs_box h.ta h.bx f, fun x hx => f.get (h.co x hx) (h.ap x hx), h.ap, h.nt⟩
theorem NowL.fr0 (h : NowL T b q cs H) (f : Fr [] H H') : NowL T b q cs H' := ⟨h.bx.keep0 f, tabs_fr0 h.ta f, fun x hx => f.get0 (h.co x hx), h.ap, h.nt⟩
theorem NowL.tbl (h : NowL T b q cs H) (hm : (P, y) ∈ T) (f : Fr [P] H H') (T' : LamX.Tabs T H') : NowL T b q cs H' := by
  have hP := tbl_of h.ta hm
  refine ⟨?_, T', fun x hx => get_tbl f hP (h.co x hx) (h.nt x hx), h.ap, h.nt⟩
  obtain ⟨z, ms, h1, h2, r⟩ := h.bx
  exact ⟨z, ms, get_tbl f hP h1 (fun _ e => by cases e), get_tbl f hP h2 (fun _ e => by cases e), r⟩
theorem NowL.add (h : NowL T b q cs H) (hp : H p = none) (ho : ∀ ps, o ≠ .tbl ps) : NowL T b q ((p, o) :: cs) (upd H p o) := by
  have h0 := h.fr0 (Fr.new (o := o) hp)
  have nb := h.bx.nin hp
  refine ⟨h0.bx, h0.ta, fun x hx => ?_, fun x hx => ?_, fun x hx => ?_⟩
  · rcases List.mem_cons.mp hx with rfl | hx
    · exact upd_same
    · exact h0.co x hx
  · rcases List.mem_cons.mp hx with rfl | hx
    · exact nb
    · exact h.ap x hx
  · rcases List.mem_cons.mp hx with rfl | hx
    · exact ho
    · exact h.nt x hx
theorem NowL.had (h : NowL T b q cs H) (hp : H p = some o) (np : p ∉ [b, q]) (ho : ∀ ps, o ≠ .tbl ps) : NowL T b q ((p, o) :: cs) H := by
  refine ⟨h.bx, h.ta, fun x hx => ?_, fun x hx => ?_, fun x hx => ?_⟩
  · rcases List.mem_cons.mp hx with rfl | hx
    · exact hp
    · exact h.co x hx
  · rcases List.mem_cons.mp hx with rfl | hx
    · exact np
    · exact h.ap x hx
  · rcases List.mem_cons.mp hx with rfl | hx
    · exact ho
    · exact h.nt x hx
theorem NowL.sub {cs' : List (Addr × HO)} (h : NowL T b q cs H) (hs : ∀ x ∈ cs', x ∈ cs) : NowL T b q cs' H := ⟨h.bx, h.ta, fun x hx => h.co x (hs x hx), fun x hx => h.ap x (hs x hx), fun x hx => h.nt x (hs x hx)⟩
end
theorem w_lend {cells : List (Str × Addr)} {pl : List (Str × Nat)} {sp : Sp} {t : TA} {σ : L2.St} {H : Hp} {Q : VK} (h : t σ H fun vs H1 => ∀ L, Cells cells (pl.map fun p => (p.1, NdefX.slotAt σ p.2)) L → (∀ b o, L.lookup b = some o → H1 b = none) →
    sp vs (lay L H1) (fun v H2 => Laid L H2 ∧ Q v (lift L H2)) E0) : tCallLend cells pl sp t σ H Q := h
theorem w_pow58 {H : Hp} {Q : VK} (h : ∀ y : Int, 0 < y → y < 1606938044258990275541962092341162602522202993782792835301376 → Q (.int y) H) : rI CPow (fun i j => .int (i ^ j.toNat)) (.int 10) (.int 58) H Q :=
  w_I (show CPow 10 58 by unfold CPow; decide) (h _ (by decide) (by decide))
theorem cut_to' (ns : List Int) (k : Nat) : cutV (ns.map V.int) none (some (k : Int)) = (ns.take k).map V.int := by
  have e : cutV (ns.map V.int) (some ((0 : Nat) : Int)) (some (k : Int)) = cutV (ns.map V.int) none (some (k : Int)) := by
    unfold cutV
    simp [HT.sIx]
  rw [← e, cut_mid, List.drop_zero, ← List.map_take]
theorem rep_one (k : Nat) (v : V) : (List.replicate k [v]).flatten = List.replicate k v := by
  induction k with
  | zero => rfl
  | succ k ih => rw [List.replicate_succ, List.flatten_cons, ih, List.replicate_succ]; rfl
theorem sq_liftL {K : PySem.W.Frag} {L : List (Addr × Obj)} {H : Hp} {a : Addr} {xs : List V} (hx : Laid L H) (h : SqL K H a xs) : SqL K (lift L H) a xs := by
  rcases h with (h | ⟨o, h⟩) | h
  · exact .inl (.inl (lift_get hx h exO_nl))
  · exact .inl (.inr ⟨o, lift_get hx h fun o2 z => by unfold ExO at z; cases z⟩)
  · exact .inr h
theorem sq_liftT {K : PySem.W.Frag} {L : List (Addr × Obj)} {H : Hp} {a : Addr} {xs : List V} (hx : Laid L H) (h : SqT K H a xs) : SqT K (lift L H) a xs := by
  rcases h with (h | ⟨o, h⟩) | h
  · exact .inl (.inl (lift_get hx h fun o2 z => by unfold ExO at z; cases z))
  · exact .inl (.inr ⟨o, lift_get hx h fun o2 z => by unfold ExO at z; cases z⟩)
  · exact .inr h
theorem dp_lift {K : PySem.W.Frag} {L : List (Addr × Obj)} {H : Hp} (hx : Laid L H) : ∀ (d : PyData) (v : V), Dp K H v d → Dp K (lift L H) v d := fun d v h =>
  Dp.rec (motive_1 := fun v d _ => Dp K (lift L H) v d) (motive_2 := fun vs ds _ => DpAll K (lift L H) vs ds) .non .bl .int .str (fun h _ ih => .lst (sq_liftL hx h) ih) (fun h _ ih => .tup (sq_liftT hx h) ih) .nil (fun _ _ a b => .cons a b) h
theorem due_lay (o : Option Bad) : (dueD o).canLay0 = true := by
  have h : ∀ b : Bad, PyData.strOk b.word = true := fun b => by
    cases b
    · exact (by decide +kernel : PyData.strOk (Str.ofString "BadRooms") = true)
    · exact (by decide +kernel : PyData.strOk (Str.ofString "BadRow") = true)
    · exact (by decide +kernel : PyData.strOk (Str.ofString "BadRule") = true)
    · exact (by decide +kernel : PyData.strOk (Str.ofString "TooMany") = true)
  cases o <;> simp [dueD, PyData.canLay0, PyData.canLayAll0, h]
end Cw

namespace Cw
open PySem L2
/-! the text by places -/
def top (i : Nat) : Stmt := PySem.Challenge.pw_clockhand_k01_refused.main.body.getD i (.Pass ⟨0, 0, 0, 0⟩)
abbrev s_BadRow_init : Stmt := inClass (top 3) 0
abbrev N_BadRow_init : List Str := ["self", "place"]
theorem sc_BadRow_init : FnScope N_BadRow_init ["self", "place"] (defScope s_BadRow_init) := ⟨rfl, rfl, rfl, by decide +kernel, rfl, by decide +kernel, by decide +kernel⟩
abbrev s_need_rooms : Stmt := top 10
abbrev N_need_rooms : List Str := ["rooms"]
theorem sc_need_rooms : FnScope N_need_rooms ["rooms"] (defScope s_need_rooms) := ⟨rfl, rfl, rfl, by decide +kernel, rfl, by decide +kernel, by decide +kernel⟩
abbrev s_is_page : Stmt := top 11
abbrev N_is_page : List Str := ["page"]
theorem sc_is_page : FnScope N_is_page ["page"] (defScope s_is_page) := ⟨rfl, rfl, rfl, by decide +kernel, rfl, by decide +kernel, by decide +kernel⟩
abbrev s_need_row : Stmt := top 12
abbrev N_need_row : List Str := ["row", "place", "page"]
theorem sc_need_row : FnScope N_need_row ["row"] (defScope s_need_row) := ⟨rfl, rfl, rfl, by decide +kernel, rfl, by decide +kernel, by decide +kernel⟩
abbrev s_need_both : Stmt := top 13
abbrev N_need_both : List Str := ["rooms", "row"]
theorem sc_need_both : FnScope N_need_both ["rooms", "row"] (defScope s_need_both) := ⟨rfl, rfl, rfl, by decide +kernel, rfl, by decide +kernel, by decide +kernel⟩
abbrev s_Dial_init : Stmt := inClass (top 15) 0
abbrev N_Dial_init : List Str := ["self", "rooms", "room"]
theorem sc_Dial_init : FnScope N_Dial_init ["self", "rooms"] (defScope s_Dial_init) := ⟨rfl, rfl, rfl, by decide +kernel, rfl, by decide +kernel, by decide +kernel⟩
abbrev s_Dial_ask : Stmt := inClass (top 15) 1
abbrev N_Dial_ask : List Str := ["self", "page", "passed", "gone"]
theorem sc_Dial_ask : FnScope N_Dial_ask ["self", "page"] (defScope s_Dial_ask) := ⟨rfl, rfl, rfl, by decide +kernel, rfl, by decide +kernel, by decide +kernel⟩
abbrev s_Dial_pages : Stmt := inClass (top 15) 2
abbrev N_Dial_pages : List Str := ["self"]
theorem sc_Dial_pages : FnScope N_Dial_pages ["self"] (defScope s_Dial_pages) := ⟨rfl, rfl, rfl, by decide +kernel, rfl, by decide +kernel, by decide +kernel⟩
abbrev s_Dial_looked : Stmt := inClass (top 15) 3
abbrev N_Dial_looked : List Str := ["self"]
theorem sc_Dial_looked : FnScope N_Dial_looked ["self"] (defScope s_Dial_looked) := ⟨rfl, rfl, rfl, by decide +kernel, rfl, by decide +kernel, by decide +kernel⟩
abbrev s_Dial_points : Stmt := inClass (top 15) 4
abbrev N_Dial_points : List Str := ["self"]
theorem sc_Dial_points : FnScope N_Dial_points ["self"] (defScope s_Dial_points) := ⟨rfl, rfl, rfl, by decide +kernel, rfl, by decide +kernel, by decide +kernel⟩
abbrev s_Dial_lacked : Stmt := inClass (top 15) 5
abbrev N_Dial_lacked : List Str := ["self"]
theorem sc_Dial_lacked : FnScope N_Dial_lacked ["self"] (defScope s_Dial_lacked) := ⟨rfl, rfl, rfl, by decide +kernel, rfl, by decide +kernel, by decide +kernel⟩
abbrev s_round_told : Stmt := top 16
abbrev N_round_told : List Str := ["rooms", "row", "dial", "page"]
theorem sc_round_told : FnScope N_round_told ["rooms", "row"] (defScope s_round_told) := ⟨rfl, rfl, rfl, by decide +kernel, rfl, by decide +kernel, by decide +kernel⟩
abbrev s_told : Stmt := top 17
abbrev N_told : List Str := ["rooms", "row"]
theorem sc_told : FnScope N_told ["rooms", "row"] (defScope s_told) := ⟨rfl, rfl, rfl, by decide +kernel, rfl, by decide +kernel, by decide +kernel⟩
abbrev s_next_ask : Stmt := top 19
abbrev N_next_ask : List Str := ["row", "place", "page"]
theorem sc_next_ask : FnScope N_next_ask ["row", "place", "page"] (defScope s_next_ask) := ⟨rfl, rfl, rfl, by decide +kernel, rfl, by decide +kernel, by decide +kernel⟩
abbrev s_farthest : Stmt := top 20
abbrev N_farthest : List Str := ["row", "place", "kept", "page"]
theorem sc_farthest : FnScope N_farthest ["row", "place", "kept"] (defScope s_farthest) := ⟨rfl, rfl, rfl, by decide +kernel, rfl, by decide +kernel, by decide +kernel⟩
abbrev s_gone_through : Stmt := top 21
abbrev N_gone_through : List Str := ["rooms", "row", "kept", "lacks", "gone", "place", "page"]
theorem sc_gone_through : FnScope N_gone_through ["rooms", "row"] (defScope s_gone_through) := ⟨rfl, rfl, rfl, by decide +kernel, rfl, by decide +kernel, by decide +kernel⟩
abbrev s_best : Stmt := top 22
abbrev N_best : List Str := ["rooms", "row"]
theorem sc_best : FnScope N_best ["rooms", "row"] (defScope s_best) := ⟨rfl, rfl, rfl, by decide +kernel, rfl, by decide +kernel, by decide +kernel⟩
abbrev s_spells_of : Stmt := top 24
abbrev N_spells_of : List Str := ["row", "last", "found", "place", "page"]
theorem sc_spells_of : FnScope N_spells_of ["row"] (defScope s_spells_of) := ⟨rfl, rfl, rfl, by decide +kernel, rfl, by decide +kernel, by decide +kernel⟩
abbrev s_between : Stmt := top 25
abbrev N_between : List Str := ["spells", "low", "high", "spell"]
theorem sc_between : FnScope N_between ["spells", "low", "high"] (defScope s_between) := ⟨rfl, rfl, rfl, by decide +kernel, rfl, by decide +kernel, by decide +kernel⟩
abbrev s_least_paper : Stmt := top 26
abbrev N_least_paper : List Str := ["rooms", "row", "spells", "known", "high", "some", "low", "cost", "let", "places"]
theorem sc_least_paper : FnScope N_least_paper ["rooms", "row"] (defScope s_least_paper) := ⟨rfl, rfl, rfl, by decide +kernel, rfl, by decide +kernel, by decide +kernel⟩
abbrev s_shown_by : Stmt := top 27
abbrev N_shown_by : List Str := ["rooms", "row", "places", "free", "spell", "place"]
theorem sc_shown_by : FnScope N_shown_by ["rooms", "row", "places"] (defScope s_shown_by) := ⟨rfl, rfl, rfl, by decide +kernel, rfl, by decide +kernel, by decide +kernel⟩
abbrev s_spells : Stmt := top 28
abbrev N_spells : List Str := ["row"]
theorem sc_spells : FnScope N_spells ["row"] (defScope s_spells) := ⟨rfl, rfl, rfl, by decide +kernel, rfl, by decide +kernel, by decide +kernel⟩
abbrev s_paper : Stmt := top 29
abbrev N_paper : List Str := ["rooms", "row"]
theorem sc_paper : FnScope N_paper ["rooms", "row"] (defScope s_paper) := ⟨rfl, rfl, rfl, by decide +kernel, rfl, by decide +kernel, by decide +kernel⟩
abbrev s_shown : Stmt := top 30
abbrev N_shown : List Str := ["rooms", "row", "places", "place"]
theorem sc_shown : FnScope N_shown ["rooms", "row", "places"] (defScope s_shown) := ⟨rfl, rfl, rfl, by decide +kernel, rfl, by decide +kernel, by decide +kernel⟩
abbrev s_need_rule : Stmt := top 36
abbrev N_need_rule : List Str := ["rule"]
theorem sc_need_rule : FnScope N_need_rule ["rule"] (defScope s_need_rule) := ⟨rfl, rfl, rfl, by decide +kernel, rfl, by decide +kernel, by decide +kernel⟩
abbrev s_by_row : Stmt := top 37
abbrev N_by_row : List Str := ["rooms", "row", "rule", "kept", "found", "page"]
theorem sc_by_row : FnScope N_by_row ["rooms", "row", "rule"] (defScope s_by_row) := ⟨rfl, rfl, rfl, by decide +kernel, rfl, by decide +kernel, by decide +kernel⟩
abbrev s_all_lacking : Stmt := top 38
abbrev N_all_lacking : List Str := ["rooms", "row", "rule", "one"]
theorem sc_all_lacking : FnScope N_all_lacking ["rooms", "row", "rule"] (defScope s_all_lacking) := ⟨rfl, rfl, rfl, by decide +kernel, rfl, by decide +kernel, by decide +kernel⟩
abbrev s_lacking : Stmt := top 39
abbrev N_lacking : List Str := ["rooms", "row", "rule", "place", "one"]
theorem sc_lacking : FnScope N_lacking ["rooms", "row", "rule"] (defScope s_lacking) := ⟨rfl, rfl, rfl, by decide +kernel, rfl, by decide +kernel, by decide +kernel⟩
abbrev s_all_stretches : Stmt := top 41
abbrev N_all_stretches : List Str := ["rooms", "row", "found", "begin", "place"]
theorem sc_all_stretches : FnScope N_all_stretches ["rooms", "row"] (defScope s_all_stretches) := ⟨rfl, rfl, rfl, by decide +kernel, rfl, by decide +kernel, by decide +kernel⟩
abbrev s_stretches : Stmt := top 42
abbrev N_stretches : List Str := ["rooms", "row"]
theorem sc_stretches : FnScope N_stretches ["rooms", "row"] (defScope s_stretches) := ⟨rfl, rfl, rfl, by decide +kernel, rfl, by decide +kernel, by decide +kernel⟩
abbrev s_lacking_in : Stmt := top 43
abbrev N_lacking_in : List Str := ["rooms", "row", "rule", "lacks", "begin", "end", "place"]
theorem sc_lacking_in : FnScope N_lacking_in ["rooms", "row", "rule"] (defScope s_lacking_in) := ⟨rfl, rfl, rfl, by decide +kernel, rfl, by decide +kernel, by decide +kernel⟩
abbrev s_all_rows : Stmt := top 46
abbrev N_all_rows : List Str := ["pages", "long", "found", "turn", "longer", "row", "page"]
theorem sc_all_rows : FnScope N_all_rows ["pages", "long"] (defScope s_all_rows) := ⟨rfl, rfl, rfl, by decide +kernel, rfl, by decide +kernel, by decide +kernel⟩
abbrev s_more_of : Stmt := top 47
abbrev N_more_of : List Str := ["rooms", "row", "rule"]
theorem sc_more_of : FnScope N_more_of ["rooms", "row", "rule"] (defScope s_more_of) := ⟨rfl, rfl, rfl, by decide +kernel, rfl, by decide +kernel, by decide +kernel⟩
abbrev s_need_size : Stmt := top 48
abbrev N_need_size : List Str := ["pages", "long", "rows", "turn"]
theorem sc_need_size : FnScope N_need_size ["pages", "long"] (defScope s_need_size) := ⟨rfl, rfl, rfl, by decide +kernel, rfl, by decide +kernel, by decide +kernel⟩
abbrev s_worst : Stmt := top 49
abbrev N_worst : List Str := ["rooms", "pages", "long", "rule", "most", "first", "row", "more"]
theorem sc_worst : FnScope N_worst ["rooms", "pages", "long", "rule"] (defScope s_worst) := ⟨rfl, rfl, rfl, by decide +kernel, rfl, by decide +kernel, by decide +kernel⟩
abbrev s_l_begun : Stmt := top 51
abbrev N_l_begun : List Str := ["_law_script", "_law_stirred", "_law_cell"]
theorem sc_l_begun : FnScope N_l_begun ["_law_script"] (defScope s_l_begun) := ⟨rfl, rfl, rfl, by decide +kernel, rfl, by decide +kernel, by decide +kernel⟩
abbrev s_l_take : Stmt := top 52
abbrev N_l_take : List Str := ["_law_box", "_law_many", "_law_number"]
theorem sc_l_take : FnScope N_l_take ["_law_box", "_law_many"] (defScope s_l_take) := ⟨rfl, rfl, rfl, by decide +kernel, rfl, by decide +kernel, by decide +kernel⟩
abbrev s_l_alike : Stmt := top 53
abbrev N_l_alike : List Str := ["_law_found", "_law_due", "_law_k"]
theorem sc_l_alike : FnScope N_l_alike ["_law_found", "_law_due"] (defScope s_l_alike) := ⟨rfl, rfl, rfl, by decide +kernel, rfl, by decide +kernel, by decide +kernel⟩
abbrev s_l_class : Stmt := top 54
abbrev N_l_class : List Str := ["_law_e", "_law_kinds", "_law_words"]
theorem sc_l_class : FnScope N_l_class ["_law_e"] (defScope s_l_class) := ⟨rfl, rfl, rfl, by decide +kernel, rfl, by decide +kernel, by decide +kernel⟩
abbrev s_l_row : Stmt := top 55
abbrev N_l_row : List Str := ["_law_box", "_law_most", "_law_pages", "_law_found", "_law_way", "_law_turn", "_law_page"]
theorem sc_l_row : FnScope N_l_row ["_law_box", "_law_most"] (defScope s_l_row) := ⟨rfl, rfl, rfl, by decide +kernel, rfl, by decide +kernel, by decide +kernel⟩
abbrev s_l_refused : Stmt := top 56
abbrev N_l_refused : List Str := ["_law_work", "_law_e", "_law_word"]
theorem sc_l_refused : FnScope N_l_refused ["_law_work"] (defScope s_l_refused) := ⟨rfl, rfl, rfl, by decide +kernel, rfl, by decide +kernel, by decide +kernel⟩
abbrev s_l_all : Stmt := top 57
abbrev N_l_all : List Str := ["_law_works_here", "_law_due", "_law_work"]
theorem sc_l_all : FnScope N_l_all ["_law_works_here", "_law_due"] (defScope s_l_all) := ⟨rfl, rfl, rfl, by decide +kernel, rfl, by decide +kernel, by decide +kernel⟩
abbrev s_l_works : Stmt := top 58
abbrev N_l_works : List Str := ["_law_rooms", "_law_row_here", "_law_rule", "_law_places", "_law_works_here"]
theorem sc_l_works : FnScope N_l_works ["_law_rooms", "_law_row_here", "_law_rule", "_law_places"] (defScope s_l_works) := ⟨rfl, rfl, rfl, by decide +kernel, rfl, by decide +kernel, by decide +kernel⟩
abbrev s_l_law : Stmt := top 59
abbrev N_l_law : List Str := ["_law_script", "_law_box", "_law_rooms", "_law_row_here", "_law_out", "_law_at", "_law_bad", "_law_none", "_law_works_here", "_law_long", "_law_places", "_law_rule", "_law_some", "_law_pages"]
theorem sc_l_law : FnScope N_l_law ["_law_script"] (defScope s_l_law) := ⟨rfl, rfl, rfl, by decide +kernel, rfl, by decide +kernel, by decide +kernel⟩
/-- where the defs stand -/
structure Ad where
  a_BadRow_init : Addr
  d_BadRow_init : FuncData
  a_need_rooms : Addr
  d_need_rooms : FuncData
  a_is_page : Addr
  d_is_page : FuncData
  a_need_row : Addr
  d_need_row : FuncData
  a_need_both : Addr
  d_need_both : FuncData
  a_Dial_init : Addr
  d_Dial_init : FuncData
  a_Dial_ask : Addr
  d_Dial_ask : FuncData
  a_Dial_pages : Addr
  d_Dial_pages : FuncData
  a_Dial_looked : Addr
  d_Dial_looked : FuncData
  a_Dial_points : Addr
  d_Dial_points : FuncData
  a_Dial_lacked : Addr
  d_Dial_lacked : FuncData
  a_round_told : Addr
  d_round_told : FuncData
  a_told : Addr
  d_told : FuncData
  a_next_ask : Addr
  d_next_ask : FuncData
  a_farthest : Addr
  d_farthest : FuncData
  a_gone_through : Addr
  d_gone_through : FuncData
  a_best : Addr
  d_best : FuncData
  a_spells_of : Addr
  d_spells_of : FuncData
  a_between : Addr
  d_between : FuncData
  a_least_paper : Addr
  d_least_paper : FuncData
  a_shown_by : Addr
  d_shown_by : FuncData
  a_spells : Addr
  d_spells : FuncData
  a_paper : Addr
  d_paper : FuncData
  a_shown : Addr
  d_shown : FuncData
  a_need_rule : Addr
  d_need_rule : FuncData
  a_by_row : Addr
  d_by_row : FuncData
  a_all_lacking : Addr
  d_all_lacking : FuncData
  a_lacking : Addr
  d_lacking : FuncData
  a_all_stretches : Addr
  d_all_stretches : FuncData
  a_stretches : Addr
  d_stretches : FuncData
  a_lacking_in : Addr
  d_lacking_in : FuncData
  a_all_rows : Addr
  d_all_rows : FuncData
  a_more_of : Addr
  d_more_of : FuncData
  a_need_size : Addr
  d_need_size : FuncData
  a_worst : Addr
  d_worst : FuncData
  a_l_begun : Addr
  d_l_begun : FuncData
  a_l_take : Addr
  d_l_take : FuncData
  a_l_alike : Addr
  d_l_alike : FuncData
  a_l_class : Addr
  d_l_class : FuncData
  a_l_row : Addr
  d_l_row : FuncData
  a_l_refused : Addr
  d_l_refused : FuncData
  a_l_all : Addr
  d_l_all : FuncData
  a_l_works : Addr
  d_l_works : FuncData
  a_l_law : Addr
  d_l_law : FuncData
  t_MOST_ROOMS : Tok
  t_MOST_PAGES : Tok
  t_MOST_ASKS : Tok
  t_HAND : Tok
  t_UNSEEN : Tok
  a_RULES : Addr
  t_MOST_ROWS : Tok
  C_Dial : Addr
  C_PageError : Addr
  C_BadRooms : Addr
  C_BadRow : Addr
  C_BadRule : Addr
  C_TooMany : Addr
/-- what the top has written -/
structure Txt (K : PySem.W.Frag) (mg : Str → Option Value) (ad : Ad) : Prop where
  F_BadRow_init : Fun K "__init__" "BadRow.__init__" s_BadRow_init ad.a_BadRow_init ad.d_BadRow_init
  b_BadRow_init : Binds K ad.d_BadRow_init ["self", "place"] []
  ii_BadRow : PySem.W.findIn K (.ref ad.C_BadRow) "__init__" = some (some (.ref ad.a_BadRow_init))
  ti_BadRow : PySem.W.typeIn K (.ref ad.a_BadRow_init) = some (.type "function")
  F_need_rooms : Fun K "need_rooms" "need_rooms" s_need_rooms ad.a_need_rooms ad.d_need_rooms
  b_need_rooms : Binds K ad.d_need_rooms ["rooms"] []
  m_need_rooms : mg "need_rooms" = some (.ref ad.a_need_rooms)
  F_is_page : Fun K "is_page" "is_page" s_is_page ad.a_is_page ad.d_is_page
  b_is_page : Binds K ad.d_is_page ["page"] []
  m_is_page : mg "is_page" = some (.ref ad.a_is_page)
  F_need_row : Fun K "need_row" "need_row" s_need_row ad.a_need_row ad.d_need_row
  b_need_row : Binds K ad.d_need_row ["row"] []
  m_need_row : mg "need_row" = some (.ref ad.a_need_row)
  F_need_both : Fun K "need_both" "need_both" s_need_both ad.a_need_both ad.d_need_both
  b_need_both : Binds K ad.d_need_both ["rooms", "row"] []
  m_need_both : mg "need_both" = some (.ref ad.a_need_both)
  F_Dial_init : Fun K "__init__" "Dial.__init__" s_Dial_init ad.a_Dial_init ad.d_Dial_init
  b_Dial_init : Binds K ad.d_Dial_init ["self", "rooms"] []
  mk_Dial : Mk K ad.C_Dial ad.a_Dial_init
  F_Dial_ask : Fun K "ask" "Dial.ask" s_Dial_ask ad.a_Dial_ask ad.d_Dial_ask
  b_Dial_ask : Binds K ad.d_Dial_ask ["self", "page"] []
  mt_Dial_ask : Meth K ad.C_Dial "ask" ad.a_Dial_ask
  F_Dial_pages : Fun K "pages" "Dial.pages" s_Dial_pages ad.a_Dial_pages ad.d_Dial_pages
  b_Dial_pages : Binds K ad.d_Dial_pages ["self"] []
  mt_Dial_pages : Meth K ad.C_Dial "pages" ad.a_Dial_pages
  F_Dial_looked : Fun K "looked" "Dial.looked" s_Dial_looked ad.a_Dial_looked ad.d_Dial_looked
  b_Dial_looked : Binds K ad.d_Dial_looked ["self"] []
  mt_Dial_looked : Meth K ad.C_Dial "looked" ad.a_Dial_looked
  F_Dial_points : Fun K "points" "Dial.points" s_Dial_points ad.a_Dial_points ad.d_Dial_points
  b_Dial_points : Binds K ad.d_Dial_points ["self"] []
  mt_Dial_points : Meth K ad.C_Dial "points" ad.a_Dial_points
  F_Dial_lacked : Fun K "lacked" "Dial.lacked" s_Dial_lacked ad.a_Dial_lacked ad.d_Dial_lacked
  b_Dial_lacked : Binds K ad.d_Dial_lacked ["self"] []
  mt_Dial_lacked : Meth K ad.C_Dial "lacked" ad.a_Dial_lacked
  F_round_told : Fun K "round_told" "round_told" s_round_told ad.a_round_told ad.d_round_told
  b_round_told : Binds K ad.d_round_told ["rooms", "row"] []
  m_round_told : mg "round_told" = some (.ref ad.a_round_told)
  F_told : Fun K "told" "told" s_told ad.a_told ad.d_told
  b_told : Binds K ad.d_told ["rooms", "row"] []
  m_told : mg "told" = some (.ref ad.a_told)
  F_next_ask : Fun K "next_ask" "next_ask" s_next_ask ad.a_next_ask ad.d_next_ask
  b_next_ask : Binds K ad.d_next_ask ["row", "place", "page"] []
  m_next_ask : mg "next_ask" = some (.ref ad.a_next_ask)
  F_farthest : Fun K "farthest" "farthest" s_farthest ad.a_farthest ad.d_farthest
  b_farthest : Binds K ad.d_farthest ["row", "place", "kept"] []
  m_farthest : mg "farthest" = some (.ref ad.a_farthest)
  F_gone_through : Fun K "gone_through" "gone_through" s_gone_through ad.a_gone_through ad.d_gone_through
  b_gone_through : Binds K ad.d_gone_through ["rooms", "row"] []
  m_gone_through : mg "gone_through" = some (.ref ad.a_gone_through)
  F_best : Fun K "best" "best" s_best ad.a_best ad.d_best
  b_best : Binds K ad.d_best ["rooms", "row"] []
  m_best : mg "best" = some (.ref ad.a_best)
  F_spells_of : Fun K "spells_of" "spells_of" s_spells_of ad.a_spells_of ad.d_spells_of
  b_spells_of : Binds K ad.d_spells_of ["row"] []
  m_spells_of : mg "spells_of" = some (.ref ad.a_spells_of)
  F_between : Fun K "between" "between" s_between ad.a_between ad.d_between
  b_between : Binds K ad.d_between ["spells", "low", "high"] []
  m_between : mg "between" = some (.ref ad.a_between)
  F_least_paper : Fun K "least_paper" "least_paper" s_least_paper ad.a_least_paper ad.d_least_paper
  b_least_paper : Binds K ad.d_least_paper ["rooms", "row"] []
  m_least_paper : mg "least_paper" = some (.ref ad.a_least_paper)
  F_shown_by : Fun K "shown_by" "shown_by" s_shown_by ad.a_shown_by ad.d_shown_by
  b_shown_by : Binds K ad.d_shown_by ["rooms", "row", "places"] []
  m_shown_by : mg "shown_by" = some (.ref ad.a_shown_by)
  F_spells : Fun K "spells" "spells" s_spells ad.a_spells ad.d_spells
  b_spells : Binds K ad.d_spells ["row"] []
  m_spells : mg "spells" = some (.ref ad.a_spells)
  F_paper : Fun K "paper" "paper" s_paper ad.a_paper ad.d_paper
  b_paper : Binds K ad.d_paper ["rooms", "row"] []
  m_paper : mg "paper" = some (.ref ad.a_paper)
  F_shown : Fun K "shown" "shown" s_shown ad.a_shown ad.d_shown
  b_shown : Binds K ad.d_shown ["rooms", "row", "places"] []
  m_shown : mg "shown" = some (.ref ad.a_shown)
  F_need_rule : Fun K "need_rule" "need_rule" s_need_rule ad.a_need_rule ad.d_need_rule
  b_need_rule : Binds K ad.d_need_rule ["rule"] []
  m_need_rule : mg "need_rule" = some (.ref ad.a_need_rule)
  F_by_row : Fun K "by_row" "by_row" s_by_row ad.a_by_row ad.d_by_row
  b_by_row : Binds K ad.d_by_row ["rooms", "row", "rule"] []
  m_by_row : mg "by_row" = some (.ref ad.a_by_row)
  F_all_lacking : Fun K "all_lacking" "all_lacking" s_all_lacking ad.a_all_lacking ad.d_all_lacking
  b_all_lacking : Binds K ad.d_all_lacking ["rooms", "row", "rule"] []
  m_all_lacking : mg "all_lacking" = some (.ref ad.a_all_lacking)
  F_lacking : Fun K "lacking" "lacking" s_lacking ad.a_lacking ad.d_lacking
  b_lacking : Binds K ad.d_lacking ["rooms", "row", "rule"] []
  m_lacking : mg "lacking" = some (.ref ad.a_lacking)
  F_all_stretches : Fun K "all_stretches" "all_stretches" s_all_stretches ad.a_all_stretches ad.d_all_stretches
  b_all_stretches : Binds K ad.d_all_stretches ["rooms", "row"] []
  m_all_stretches : mg "all_stretches" = some (.ref ad.a_all_stretches)
  F_stretches : Fun K "stretches" "stretches" s_stretches ad.a_stretches ad.d_stretches
  b_stretches : Binds K ad.d_stretches ["rooms", "row"] []
  m_stretches : mg "stretches" = some (.ref ad.a_stretches)
  F_lacking_in : Fun K "lacking_in" "lacking_in" s_lacking_in ad.a_lacking_in ad.d_lacking_in
  b_lacking_in : Binds K ad.d_lacking_in ["rooms", "row", "rule"] []
  m_lacking_in : mg "lacking_in" = some (.ref ad.a_lacking_in)
  F_all_rows : Fun K "all_rows" "all_rows" s_all_rows ad.a_all_rows ad.d_all_rows
  b_all_rows : Binds K ad.d_all_rows ["pages", "long"] []
  m_all_rows : mg "all_rows" = some (.ref ad.a_all_rows)
  F_more_of : Fun K "more_of" "more_of" s_more_of ad.a_more_of ad.d_more_of
  b_more_of : Binds K ad.d_more_of ["rooms", "row", "rule"] []
  m_more_of : mg "more_of" = some (.ref ad.a_more_of)
  F_need_size : Fun K "need_size" "need_size" s_need_size ad.a_need_size ad.d_need_size
  b_need_size : Binds K ad.d_need_size ["pages", "long"] []
  m_need_size : mg "need_size" = some (.ref ad.a_need_size)
  F_worst : Fun K "worst" "worst" s_worst ad.a_worst ad.d_worst
  b_worst : Binds K ad.d_worst ["rooms", "pages", "long", "rule"] []
  m_worst : mg "worst" = some (.ref ad.a_worst)
  F_l_begun : Fun K "_law_begun" "_law_begun" s_l_begun ad.a_l_begun ad.d_l_begun
  b_l_begun : Binds K ad.d_l_begun ["_law_script"] []
  m_l_begun : mg "_law_begun" = some (.ref ad.a_l_begun)
  F_l_take : Fun K "_law_take" "_law_take" s_l_take ad.a_l_take ad.d_l_take
  b_l_take : Binds K ad.d_l_take ["_law_box", "_law_many"] []
  m_l_take : mg "_law_take" = some (.ref ad.a_l_take)
  F_l_alike : Fun K "_law_alike" "_law_alike" s_l_alike ad.a_l_alike ad.d_l_alike
  b_l_alike : Binds K ad.d_l_alike ["_law_found", "_law_due"] []
  m_l_alike : mg "_law_alike" = some (.ref ad.a_l_alike)
  F_l_class : Fun K "_law_class" "_law_class" s_l_class ad.a_l_class ad.d_l_class
  b_l_class : Binds K ad.d_l_class ["_law_e"] []
  m_l_class : mg "_law_class" = some (.ref ad.a_l_class)
  F_l_row : Fun K "_law_row" "_law_row" s_l_row ad.a_l_row ad.d_l_row
  b_l_row : Binds K ad.d_l_row ["_law_box", "_law_most"] []
  m_l_row : mg "_law_row" = some (.ref ad.a_l_row)
  F_l_refused : Fun K "_law_refused" "_law_refused" s_l_refused ad.a_l_refused ad.d_l_refused
  b_l_refused : Binds K ad.d_l_refused ["_law_work"] []
  m_l_refused : mg "_law_refused" = some (.ref ad.a_l_refused)
  F_l_all : Fun K "_law_all" "_law_all" s_l_all ad.a_l_all ad.d_l_all
  b_l_all : Binds K ad.d_l_all ["_law_works_here", "_law_due"] []
  m_l_all : mg "_law_all" = some (.ref ad.a_l_all)
  F_l_works : Fun K "_law_works" "_law_works" s_l_works ad.a_l_works ad.d_l_works
  b_l_works : Binds K ad.d_l_works ["_law_rooms", "_law_row_here", "_law_rule", "_law_places"] []
  m_l_works : mg "_law_works" = some (.ref ad.a_l_works)
  F_l_law : Fun K "law" "law" s_l_law ad.a_l_law ad.d_l_law
  b_l_law : Binds K ad.d_l_law ["_law_script"] []
  m_l_law : mg "law" = some (.ref ad.a_l_law)
  m_MOST_ROOMS : mg "MOST_ROOMS" = some (.int 8 ad.t_MOST_ROOMS)
  m_MOST_PAGES : mg "MOST_PAGES" = some (.int 12 ad.t_MOST_PAGES)
  m_MOST_ASKS : mg "MOST_ASKS" = some (.int 100 ad.t_MOST_ASKS)
  m_HAND : mg "HAND" = some (.str (Str.ofString "hand") ad.t_HAND)
  m_UNSEEN : mg "UNSEEN" = some (.str (Str.ofString "unseen") ad.t_UNSEEN)
  m_RULES : mg "RULES" = some (.ref ad.a_RULES)
  k_RULES : ∃ xs : List V, xs = [.str (Str.ofString "hand"), .str (Str.ofString "unseen"), .str (Str.ofString "first")] ∧ ∀ H, SqT K H ad.a_RULES xs
  m_MOST_ROWS : mg "MOST_ROWS" = some (.int 5000 ad.t_MOST_ROWS)
  cl_Dial : Cls K ad.C_Dial
  m_Dial : mg "Dial" = some (.ref ad.C_Dial)
  n_Dial_here : NoAttr K ad.C_Dial "here"
  n_Dial_seen : NoAttr K ad.C_Dial "seen"
  n_Dial_hand : NoAttr K ad.C_Dial "hand"
  n_Dial_lacks : NoAttr K ad.C_Dial "lacks"
  m_PageError : mg "PageError" = some (.ref ad.C_PageError)
  er_PageError : ErrC K ad.C_PageError
  m_BadRooms : mg "BadRooms" = some (.ref ad.C_BadRooms)
  er_BadRooms : ErrI K ad.C_BadRooms
  s_BadRooms_PageError : PySem.W.subIn K (.ref ad.C_BadRooms) (.ref ad.C_PageError) = some true
  s_BadRooms_BadRooms : PySem.W.subIn K (.ref ad.C_BadRooms) (.ref ad.C_BadRooms) = some true
  s_BadRooms_BadRow : PySem.W.subIn K (.ref ad.C_BadRooms) (.ref ad.C_BadRow) = some false
  s_BadRooms_BadRule : PySem.W.subIn K (.ref ad.C_BadRooms) (.ref ad.C_BadRule) = some false
  s_BadRooms_TooMany : PySem.W.subIn K (.ref ad.C_BadRooms) (.ref ad.C_TooMany) = some false
  s_BadRooms_VE : PySem.W.subIn K (.ref ad.C_BadRooms) (.type "ValueError") = some true
  ow_BadRooms : OwnB K ad.C_BadRooms
  m_BadRow : mg "BadRow" = some (.ref ad.C_BadRow)
  er_BadRow : ErrI K ad.C_BadRow
  s_BadRow_PageError : PySem.W.subIn K (.ref ad.C_BadRow) (.ref ad.C_PageError) = some true
  s_BadRow_BadRooms : PySem.W.subIn K (.ref ad.C_BadRow) (.ref ad.C_BadRooms) = some false
  s_BadRow_BadRow : PySem.W.subIn K (.ref ad.C_BadRow) (.ref ad.C_BadRow) = some true
  s_BadRow_BadRule : PySem.W.subIn K (.ref ad.C_BadRow) (.ref ad.C_BadRule) = some false
  s_BadRow_TooMany : PySem.W.subIn K (.ref ad.C_BadRow) (.ref ad.C_TooMany) = some false
  s_BadRow_VE : PySem.W.subIn K (.ref ad.C_BadRow) (.type "ValueError") = some true
  ox_BadRow : OexC K ad.C_BadRow
  n_BadRow_place : PySem.W.findIn K (.ref ad.C_BadRow) "place" = some none
  m_BadRule : mg "BadRule" = some (.ref ad.C_BadRule)
  er_BadRule : ErrI K ad.C_BadRule
  s_BadRule_PageError : PySem.W.subIn K (.ref ad.C_BadRule) (.ref ad.C_PageError) = some true
  s_BadRule_BadRooms : PySem.W.subIn K (.ref ad.C_BadRule) (.ref ad.C_BadRooms) = some false
  s_BadRule_BadRow : PySem.W.subIn K (.ref ad.C_BadRule) (.ref ad.C_BadRow) = some false
  s_BadRule_BadRule : PySem.W.subIn K (.ref ad.C_BadRule) (.ref ad.C_BadRule) = some true
  s_BadRule_TooMany : PySem.W.subIn K (.ref ad.C_BadRule) (.ref ad.C_TooMany) = some false
  s_BadRule_VE : PySem.W.subIn K (.ref ad.C_BadRule) (.type "ValueError") = some true
  ow_BadRule : OwnB K ad.C_BadRule
  m_TooMany : mg "TooMany" = some (.ref ad.C_TooMany)
  er_TooMany : ErrI K ad.C_TooMany
  s_TooMany_PageError : PySem.W.subIn K (.ref ad.C_TooMany) (.ref ad.C_PageError) = some true
  s_TooMany_BadRooms : PySem.W.subIn K (.ref ad.C_TooMany) (.ref ad.C_BadRooms) = some false
  s_TooMany_BadRow : PySem.W.subIn K (.ref ad.C_TooMany) (.ref ad.C_BadRow) = some false
  s_TooMany_BadRule : PySem.W.subIn K (.ref ad.C_TooMany) (.ref ad.C_BadRule) = some false
  s_TooMany_TooMany : PySem.W.subIn K (.ref ad.C_TooMany) (.ref ad.C_TooMany) = some true
  s_TooMany_VE : PySem.W.subIn K (.ref ad.C_TooMany) (.type "ValueError") = some true
  ow_TooMany : OwnB K ad.C_TooMany
  rd_PageError : PySem.W.readsIn K ad.C_PageError (.type "type") = true
  sg_PageError : PySem.W.specialIn K (.ref ad.C_PageError) "__getattribute__" = some (some (.builtin "type.__getattribute__"))
  fc_PageError : PySem.W.findCls K (.ref ad.C_PageError) (.type "type") "__init__" = some (.val (.builtin "ValueError.__init__"))
  z_ValueError : mg "ValueError" = none
  z_len : mg "len" = none
  z_int : mg "int" = none
  z_min : mg "min" = none
  z_list : mg "list" = none
  z_sorted : mg "sorted" = none
  z_set : mg "set" = none
  z_tuple : mg "tuple" = none
  z_isinstance : mg "isinstance" = none
  z_range : mg "range" = none
  z_enumerate : mg "enumerate" = none
  z_bool : mg "bool" = none
  z_str : mg "str" = none

/-! the stepping words: one row a key -/
local macro_rules | `(tactic| walk_at "cw ne") => `(tactic| first
  | assumption
  | ((with_reducible apply ne_s); assumption)
  | ((with_reducible apply ne_n); (· assumption); (walk_at "cw at"))
  | ((with_reducible apply ne_n'); (· assumption); (walk_at "cw at")))
local macro_rules | `(tactic| walk_at "cw at") => `(tactic| first
  | assumption
  | with_reducible exact upd_same
  | ((with_reducible apply at_ne); (· walk_at "cw ne"); (walk_at "cw at"))
  | ((with_reducible apply Fr.get0); (· assumption); (walk_at "cw at")))
local macro_rules | `(tactic| walk_at "cw sq") => `(tactic| first
  | assumption
  | ((with_reducible apply SqL.of); (walk_at "cw at"))
  | ((with_reducible apply SqT.of); (walk_at "cw at"))
  | ((with_reducible apply sq_new); (· walk_at "cw sq"); (· assumption))
  | ((with_reducible apply st_new); (· walk_at "cw sq"); (· assumption))
  | ((with_reducible apply Fr.seqL); (· assumption); (walk_at "cw sq"))
  | ((with_reducible apply Fr.seqT); (· assumption); (walk_at "cw sq")))
local macro_rules | `(tactic| walk_at "cw sz") => `(tactic| first
  | (show _ ≤ sizeLine; exact sz_le (by first | decide | omega | (simp only [List.length_append, List.length_map, List.length_cons, List.length_nil]; omega)))
  | (show _ < sizeLine; exact sz_lt (by first | decide | omega | (simp only [List.length_append, List.length_map, List.length_cons, List.length_nil]; omega))))
local macro_rules | `(tactic| walk_at "cw num") => `(tactic| first
  | ((with_reducible apply cpos_); omega)
  | ((with_reducible apply cdiv_) <;> omega)
  | ((with_reducible apply cmul_l) <;> omega)
  | ((with_reducible apply cmul_r) <;> omega))
local macro_rules | `(tactic| walk_at "cw ix") => `(tactic| first
  | exact rfl
  | assumption
  | with_reducible exact atI_0
  | exact atI_nat (by assumption))
local macro_rules | `(tactic| walk_at "cw ixn") => `(tactic| first
  | assumption
  | with_reducible exact ixN_0
  | with_reducible exact ixN_1
  | exact ixN_nat (by assumption))
local macro_rules | `(tactic| walk_at "cw set") => `(tactic| first
  | (simp only [List.set_cons_zero, List.set_cons_succ]; exact rfl)
  | exact rfl)
local macro_rules | `(tactic| walk_at "cw ty") => `(tactic| first
  | with_reducible exact .base .non
  | with_reducible exact .base (.bl _)
  | with_reducible exact .base (.int _)
  | with_reducible exact .base (.str _)
  | ((with_reducible apply ty_L); walk_at "cw sq")
  | ((with_reducible apply ty_T); walk_at "cw sq"))
local macro_rules | `(tactic| walk_at "cw kit") => `(tactic| first
  | with_reducible exact kb_NoneType_bool
  | with_reducible exact kb_NoneType_int
  | with_reducible exact kb_NoneType_str
  | with_reducible exact kb_NoneType_tuple
  | with_reducible exact kb_NoneType_list
  | with_reducible exact kb_bool_bool
  | with_reducible exact kb_bool_int
  | with_reducible exact kb_bool_str
  | with_reducible exact kb_bool_tuple
  | with_reducible exact kb_bool_list
  | with_reducible exact kb_int_bool
  | with_reducible exact kb_int_int
  | with_reducible exact kb_int_str
  | with_reducible exact kb_int_tuple
  | with_reducible exact kb_int_list
  | with_reducible exact kb_str_bool
  | with_reducible exact kb_str_int
  | with_reducible exact kb_str_str
  | with_reducible exact kb_str_tuple
  | with_reducible exact kb_str_list
  | with_reducible exact kb_list_bool
  | with_reducible exact kb_list_int
  | with_reducible exact kb_list_str
  | with_reducible exact kb_list_tuple
  | with_reducible exact kb_list_list
  | with_reducible exact kb_tuple_bool
  | with_reducible exact kb_tuple_int
  | with_reducible exact kb_tuple_str
  | with_reducible exact kb_tuple_tuple
  | with_reducible exact kb_tuple_list)
local macro_rules | `(tactic| walk_at "cw yes") => `(tactic| first
  | with_reducible rfl
  | assumption
  | omega)
local macro_rules | `(tactic| walk_at "cw no") => `(tactic| first
  | assumption
  | (intro cwh; cases cwh; done)
  | omega)
local macro_rules | `(tactic| walk_at "cw1") => `(tactic| first
  | with_reducible apply w_seq
  | with_reducible apply w_asg
  | with_reducible apply w_gn
  | ((with_reducible apply w_var); (· exact rfl))
  | with_reducible apply w_c
  | with_reducible apply w_op
  | with_reducible apply w_I0
  | ((with_reducible apply w_I); (· walk_at "cw num"))
  | with_reducible apply w_cb
  | with_reducible apply w_cons
  | with_reducible apply w_nil
  | with_reducible apply w_test
  | with_reducible apply w_B
  | with_reducible apply w_isbl
  | with_reducible apply w_ifS
  | with_reducible apply iteT
  | with_reducible apply iteF
  | with_reducible apply ite_nf
  | with_reducible apply ite_nt
  | with_reducible apply w_eqI
  | with_reducible apply w_neI
  | with_reducible apply w_eqB
  | with_reducible apply w_neB
  | with_reducible apply w_eqS
  | ((with_reducible apply w_ixL); (· walk_at "cw sq"); (· walk_at "cw ix"))
  | ((with_reducible apply w_ixT); (· walk_at "cw sq"); (· walk_at "cw ix"))
  | with_reducible apply w_and
  | with_reducible apply w_or
  | with_reducible apply w_not
  | with_reducible apply w_notV
  | with_reducible apply w_andV
  | with_reducible apply w_orV
  | with_reducible apply w_if
  | with_reducible apply w_isN
  | with_reducible apply w_notN
  | with_reducible apply w_chain
  | with_reducible apply w_un
  | with_reducible apply w_U
  | with_reducible apply w_drop
  | with_reducible apply w_ret
  | with_reducible apply w_next
  | with_reducible apply w_brk
  | with_reducible apply w_cont
  | with_reducible apply w_sub
  | ((with_reducible apply w_pop0); (· walk_at "cw at"); (· first | omega | (simp only [List.length_map]; omega)))
  | ((with_reducible apply w_gTup); (· walk_at "cw sq"); (· exact rfl))
  | with_reducible apply w_gCons
  | with_reducible apply w_gNil
  | with_reducible apply w_yes
  | ((with_reducible apply w_wipe); (· exact rfl))
  | with_reducible apply w_iEnum
  | with_reducible apply w_lc
  | with_reducible apply w_for
  | with_reducible apply w_iList
  | with_reducible apply w_iRng1
  | with_reducible apply w_iRng2
  | with_reducible apply w_lst
  | with_reducible apply w_tup
  | with_reducible apply w_call
  | with_reducible apply w_bm
  | with_reducible apply w_bm0
  | ((with_reducible apply w_tyL); (· walk_at "cw sq"))
  | ((with_reducible apply w_append); (· walk_at "cw at"); (· walk_at "cw sz"))
  | ((with_reducible apply w_lenL); (· walk_at "cw sq"))
  | ((with_reducible apply w_isi); (· walk_at "cw ty"); (· walk_at "cw kit"))
  | ((with_reducible apply w_lenT); (· walk_at "cw sq"))
  | ((with_reducible apply w_ixQL); (· walk_at "cw sq"); (· walk_at "cw ix"))
  | ((with_reducible apply w_ixQT); (· walk_at "cw sq"); (· walk_at "cw ix"))
  | ((with_reducible apply ite_dT); (· walk_at "cw yes"))
  | ((with_reducible apply ite_dF); (· walk_at "cw no"))
  | ((with_reducible apply ite_nT); (· walk_at "cw no"))
  | ((with_reducible apply ite_nF); (· walk_at "cw yes"))
  | with_reducible apply w_intB
  | with_reducible apply w_intI
  | with_reducible apply w_min2
  | ((with_reducible apply w_setL); (· walk_at "cw at"); (· walk_at "cw ixn"); (· walk_at "cw set"))
  | ((with_reducible apply w_listL); (· walk_at "cw sq"); intro lp lpn)
  | ((with_reducible apply w_new); (· walk_at "cw sz"); intro np npn)
  | ((with_reducible apply w_eqD0); (· walk_at "cw sq"); (· walk_at "cw sq"))
  | ((with_reducible apply w_neD0); (· walk_at "cw sq"); (· walk_at "cw sq"))
  | ((with_reducible apply w_neDI); (· walk_at "cw sq"); (· walk_at "cw sq"))
  | ((with_reducible apply w_eqDI); (· walk_at "cw sq"); (· walk_at "cw sq")))
local macro_rules | `(tactic| walk_at "cw") => `(tactic| repeat walk_at "cw1")
local macro_rules | `(tactic| walk_at "cw if") => `(tactic| first
  | with_reducible apply ite_d
  | with_reducible apply ite_nd
  | with_reducible apply ite_b)

local macro_rules | `(tactic| walk_at "cw attr") => `(tactic| first
  | with_reducible exact Txt.n_Dial_here (by assumption)
  | with_reducible exact Txt.n_Dial_seen (by assumption)
  | with_reducible exact Txt.n_Dial_hand (by assumption)
  | with_reducible exact Txt.n_Dial_lacks (by assumption))
local macro_rules | `(tactic| walk_at "cw lk") => `(tactic| first
  | with_reducible exact lk_here _ _ _ _
  | with_reducible exact lk_seen _ _ _ _
  | with_reducible exact lk_hand _ _ _ _
  | with_reducible exact lk_lacks _ _ _ _)
local macro_rules | `(tactic| walk_at "cw put") => `(tactic| first
  | with_reducible exact dfl_hand _ _ _ _ _
  | with_reducible exact dfl_lacks _ _ _ _ _)
local macro_rules | `(tactic| walk_at "cw dk") => `(tactic| first
  | with_reducible exact ddl_pages _ _ _ _
  | with_reducible exact ddl_marks _ _ _ _
  | with_reducible exact ddl_hand _ _ _ _
  | with_reducible exact ddl_lacks _ _ _ _)
local macro_rules | `(tactic| walk_at "cw dp") => `(tactic| first
  | with_reducible exact ddl_putH _ _ _ _ _
  | with_reducible exact ddl_putL _ _ _ _ _)
local macro_rules | `(tactic| walk_at "cw2") => `(tactic| first
  | walk_at "cw1"
  | with_reducible apply w_fld
  | ((with_reducible apply w_fldR); (· walk_at "cw at"); (· exact Txt.cl_Dial (by assumption)); (· walk_at "cw attr"); (· walk_at "cw lk"))
  | with_reducible apply w_sFld
  | ((with_reducible apply w_sFldR); (· walk_at "cw at"); (· exact Txt.cl_Dial (by assumption)); (· walk_at "cw attr"); (· exact dfl_len _ _ _ _); (· walk_at "cw put"))
  | with_reducible apply w_aug
  | ((with_reducible apply w_augR); (· walk_at "cw at"); (· exact Txt.cl_Dial (by assumption)); (· walk_at "cw attr"); (· walk_at "cw lk"))
  | with_reducible apply w_rAdd
  | ((with_reducible apply w_augS); (· walk_at "cw at"); (· exact dfl_len _ _ _ _); (· walk_at "cw put"))
  | ((with_reducible apply w_inI); (· walk_at "cw sq"))
  | ((with_reducible apply w_niI); (· walk_at "cw sq"))
  | with_reducible apply w_sl
  | with_reducible apply w_part
  | with_reducible apply w_nopart
  | with_reducible apply w_isInt
  | ((with_reducible apply w_slL); (· walk_at "cw sq"); intro slp slpn)
  | ((with_reducible apply w_cat); (· walk_at "cw at"); (· walk_at "cw at"); (· walk_at "cw sz"); intro ctp ctpn)
  | with_reducible apply w_dget
  | ((with_reducible apply w_dgetS); (· walk_at "cw at"); (· walk_at "cw dk"))
  | with_reducible apply w_dput
  | ((with_reducible apply w_dputS); (· walk_at "cw at"); (· exact ddl_len _ _ _ _); (· walk_at "cw dp"))
  | ((with_reducible apply w_rep); (· walk_at "cw at"); (· omega); (· omega); (· exact (by decide)); intro rpp rppn)
  | ((with_reducible apply w_disp); intro dpp dppn)
  | with_reducible apply w_pairs
  | with_reducible apply w_pairs0
  | with_reducible apply w_make
  | with_reducible apply w_meth)
local macro_rules | `(tactic| walk_at "cwd") => `(tactic| repeat walk_at "cw2")

local macro_rules | `(tactic| walk_at "cw3") => `(tactic| first
  | walk_at "cw2"
  | with_reducible apply w_lenSetD)
local macro_rules | `(tactic| walk_at "cws") => `(tactic| repeat walk_at "cw3")

local macro_rules | `(tactic| walk_at "cw len") => `(tactic| first
  | omega
  | (simp only [List.length_append, List.length_map, List.length_cons, List.length_nil] at *; omega))
local macro_rules | `(tactic| walk_at "cw4") => `(tactic| first
  | ((with_reducible apply w_slFrom); (· walk_at "cw sq"); intro slp slpn)
  | ((with_reducible apply w_slMid); (· walk_at "cw sq"); intro slp slpn)
  | ((with_reducible apply w_sorted); (· walk_at "cw sq"); (· walk_at "cw len"); intro srp srpn)
  | walk_at "cw3")
local macro_rules | `(tactic| walk_at "cwb") => `(tactic| repeat walk_at "cw4")

local macro_rules | `(tactic| walk_at "cw5") => `(tactic| first
  | ((with_reducible apply w_slLast); (· walk_at "cw sq"); intro slp slpn)
  | walk_at "cw4"
  | ((with_reducible apply w_dnewK); intro dkp dkpn)
  | with_reducible apply ite_some
  | with_reducible apply ite_none
  | with_reducible apply w_dIn
  | ((with_reducible apply w_dInI); (· walk_at "cw at"))
  | ((with_reducible apply w_dgetI); (· walk_at "cw at"); (· assumption))
  | ((with_reducible apply w_dputI); (· walk_at "cw at"); (· walk_at "cw sz"))
  | ((with_reducible apply w_setOf); (· walk_at "cw sq"); (· walk_at "cw len"); intro sop sopn soc socn)
  | ((with_reducible apply w_sortSet); (· walk_at "cw at"); (· walk_at "cw len"); intro ssp sspn))
local macro_rules | `(tactic| walk_at "cwp") => `(tactic| repeat walk_at "cw5")

local macro_rules | `(tactic| walk_at "cw6") => `(tactic| first
  | walk_at "cw5"
  | with_reducible apply w_iKeys
  | with_reducible apply w_iTup
  | ((with_reducible apply w_dnewT); intro dtp dtpn)
  | ((with_reducible apply w_disp1T); intro ddp ddpn)
  | ((with_reducible apply w_niT); (· walk_at "cw sq"))
  | ((with_reducible apply w_sortTI); (· walk_at "cw sq"); (· walk_at "cw len"); intro stp stpn)
  | ((with_reducible apply w_tupOf); (· walk_at "cw sq"); intro top topn)
  | with_reducible apply w_get2
  | ((with_reducible apply w_isD); (· walk_at "cw at"))
  | ((with_reducible apply w_getT); (· walk_at "cw at"); (· walk_at "cw at"))
  | ((with_reducible apply w_dgetF); (· walk_at "cw at"); (· walk_at "cw at"); (· assumption))
  | ((with_reducible apply w_dputT); (· walk_at "cw at"); (· walk_at "cw at"); (· walk_at "cw len")))
local macro_rules | `(tactic| walk_at "cwf") => `(tactic| repeat walk_at "cw6")

local macro_rules | `(tactic| walk_at "cw7") => `(tactic| first
  | walk_at "cw6"
  | ((with_reducible apply w_countB); (· walk_at "cw sq")))
local macro_rules | `(tactic| walk_at "cwk") => `(tactic| repeat walk_at "cw7")

local macro_rules | `(tactic| walk_at "cw num") => `(tactic| ((with_reducible apply cdivW_) <;> omega))
local macro_rules | `(tactic| walk_at "cw9") => `(tactic| first
  | walk_at "cw7"
  | with_reducible apply w_first
  | with_reducible apply w_lend)
local macro_rules | `(tactic| walk_at "cwx") => `(tactic| repeat walk_at "cw9")

section
variable {P : Program} {w : World} {K : PySem.W.Frag} {mg : Str → Option Value} {base : Heap} {ad : Ad}
/-! BadRow.__init__ -/
def sp_BadRow_init (C : Addr) : Sp := fun vs H Q _ => ∃ (a : Addr) (x : Int), vs = [.ref a, .int x] ∧ H a = some (exo a C none) ∧ ∀ d, H d = none → d ≠ a → Q .non (upd (upd H d (exd d [("place", .int x)])) a (exo a C (some d)))
theorem ok_BadRow_init (T : Txt K mg ad) : FnOk P w K mg base CX0 1 ad.a_BadRow_init ad.d_BadRow_init ["self", "place"] (sp_BadRow_init ad.C_BadRow) := by
  refine T.F_BadRow_init.ok sc_BadRow_init (fun vs H Q E h => ?_) (fun cdv A outer s H vs Q E hr h => ?_)
  · obtain ⟨a, x, rfl, _⟩ := h
    rfl
  obtain ⟨a, x, rfl, ha, k⟩ := h
  refine ⟨_, (pss_cons (ps_expr (pe_ownInit (by rfl) T.m_PageError T.rd_PageError T.sg_PageError T.fc_PageError (pa_cons (pv 0) (pa_cons pe_str pa_nil))))
    (pss_one (ps_ost (pv 0) (pv 1)))), ?_⟩
  try dsimp only [L2.cxOf, L2.Cx.nox]
  walk_at "cw"
  dsimp only [tVeI]
  walk_at "cw"
  refine ⟨a, ad.C_BadRow, _, rfl, by decide, T.ox_BadRow, ha, ?_⟩
  walk_at "cw"
  dsimp only [tOst]
  walk_at "cw"
  exact ⟨a, ad.C_BadRow, rfl, T.ox_BadRow, T.n_BadRow_place, .inl ⟨ha, fun d h1 h2 => k d h1 h2⟩⟩

/-- the classes -/
def cls (ad : Ad) : Bad → Addr
  | .rooms => ad.C_BadRooms
  | .row _ => ad.C_BadRow
  | .rule => ad.C_BadRule
  | .many => ad.C_TooMany

/-! need_rooms -/
def sp_need_rooms : Sp := fun vs H Q _ => ∃ r : Int, vs = [.int r] ∧ 1 ≤ r ∧ r ≤ 8 ∧ Q .non H
theorem c_need_rooms {H : Hp} {Q : VK} {E : XK} {r : Int} (h1 : 1 ≤ r) (h2 : r ≤ 8) (q : Q .non H) : sp_need_rooms ([.int r] ++ []) H Q E := ⟨r, rfl, h1, h2, q⟩
theorem ok_need_rooms (T : Txt K mg ad) : FnOk P w K mg base CX0 1 ad.a_need_rooms ad.d_need_rooms ["rooms"] sp_need_rooms := by
  refine T.F_need_rooms.ok sc_need_rooms (fun vs H Q E h => ?_) (fun cdv A outer s H vs Q E hr h => ?_)
  · obtain ⟨r, rfl, _⟩ := h
    rfl
  obtain ⟨r, rfl, h1, h2, q⟩ := h
  refine ⟨_, (pss_one (ps_if (pt_not (pt_chain op_le op_le pe_int (pv 0) (pe_glob (v := .int 8) rfl T.m_MOST_ROOMS ⟨_, rfl⟩))) (pss_one ps_never) pss_nil)), ?_⟩
  try dsimp only [L2.cxOf, L2.Cx.nox]
  walk_at "cw"
  exact q

def sp_need_roomsN (c : Bad → Addr) : Sp := fun vs H _ E => ∃ r : Int, vs = [.int r] ∧ ¬ (1 ≤ r ∧ r ≤ 8) ∧ Bad.to c .rooms H E
theorem ok_need_roomsN (T : Txt K mg ad) : FnOk P w K mg base (L2.CX P w) 1 ad.a_need_rooms ad.d_need_rooms ["rooms"] (sp_need_roomsN (cls ad)) := by
  refine T.F_need_rooms.okX sc_need_rooms (fun vs H Q E h => ?_) (fun cdv A outer s H vs Q E hr h => ?_)
  · obtain ⟨r, rfl, _⟩ := h
    rfl
  obtain ⟨r, rfl, hn, k⟩ := h
  refine ⟨_, (pss_one (ps_if (pt_not (pt_chain op_le op_le pe_int (pv 0) (pe_glob (v := .int 8) rfl T.m_MOST_ROOMS ⟨_, rfl⟩))) (pss_one (ps_raise rfl (takes_of rfl rfl rfl rfl) (pmk_ownB T.ow_BadRooms T.m_BadRooms (by rfl)))) pss_nil)), ?_⟩
  try dsimp only [L2.cxOf]
  walk_at "cwx"
  walk_at "cw if" <;> intro e1
  · walk_at "cwx"
    exact k none H .refl rfl
  · walk_at "cwx"
    exact k none H .refl rfl
def sp_need_roomsX (c : Bad → Addr) : Sp := fun vs H Q E => sp_need_rooms vs H Q E ∨ sp_need_roomsN c vs H Q E
theorem ok_need_roomsX (T : Txt K mg ad) : FnOk P w K mg base (L2.CX P w) 1 ad.a_need_rooms ad.d_need_rooms ["rooms"] (sp_need_roomsX (cls ad)) := fn_or (ok_need_rooms T) (ok_need_roomsN T) (by decide)

/-! is_page -/
def sp_is_page : Sp := fun vs H Q _ => ∃ x : Int, vs = [.int x] ∧ Q (.bl (decide (0 ≤ x ∧ x < 12))) H
theorem c_is_page {H : Hp} {Q : VK} {E : XK} {x : Int} (h1 : 0 ≤ x) (h2 : x < 12) (q : Q (.bl true) H) : sp_is_page ([.int x] ++ []) H Q E := ⟨x, rfl, by rw [decide_eq_true ⟨h1, h2⟩]; exact q⟩
theorem c_is_page_no {H : Hp} {Q : VK} {E : XK} {x : Int} (h : ¬ (0 ≤ x ∧ x < 12)) (q : Q (.bl false) H) : sp_is_page ([.int x] ++ []) H Q E := ⟨x, rfl, by rw [decide_eq_false h]; exact q⟩
theorem ok_is_page (T : Txt K mg ad) : FnOk P w K mg base CX0 1 ad.a_is_page ad.d_is_page ["page"] sp_is_page := by
  refine T.F_is_page.ok sc_is_page (fun vs H Q E h => ?_) (fun cdv A outer s H vs Q E hr h => ?_)
  · obtain ⟨x, rfl, _⟩ := h
    rfl
  obtain ⟨x, rfl, q⟩ := h
  refine ⟨_, (pss_one (ps_ret (pe_chain op_le op_lt pe_int (pv 0) (pe_glob (v := .int 12) rfl T.m_MOST_PAGES ⟨_, rfl⟩)))), ?_⟩
  try dsimp only [L2.cxOf, L2.Cx.nox]
  walk_at "cw"
  walk_at "cw if" <;> intro e
  · walk_at "cw"
    have z : decide (x < 12) = decide (0 ≤ x ∧ x < 12) := by
      by_cases h : x < 12
      · rw [decide_eq_true h, decide_eq_true ⟨e, h⟩]
      · rw [decide_eq_false h, decide_eq_false fun z => h z.2]
    rw [z]
    exact q
  · walk_at "cw"
    rw [decide_eq_false fun z : 0 ≤ x ∧ x < 12 => e z.1] at q
    exact q

/-! need_row -/
/-- a row that may be handed in -/
def RowOk (ns : List Int) : Prop := ns.length ≤ 100 ∧ ∀ x ∈ ns, 0 ≤ x ∧ x < 12
def sp_need_row (K : PySem.W.Frag) : Sp := fun vs H Q _ => ∃ (a : Addr) (ns : List Int), vs = [.ref a] ∧ SqL K H a (ns.map V.int) ∧ RowOk ns ∧ ∀ H', Fr [] H H' → Q .non H'
theorem c_need_row {H : Hp} {Q : VK} {E : XK} {a : Addr} {ns : List Int} (h : SqL K H a (ns.map V.int)) (hr : RowOk ns) (q : ∀ H', Fr [] H H' → Q .non H') : sp_need_row K ([.ref a] ++ []) H Q E := ⟨a, ns, rfl, h, hr, q⟩
theorem ok_need_row (T : Txt K mg ad) : FnOk P w K mg base CX0 2 ad.a_need_row ad.d_need_row ["row"] (sp_need_row K) := by
  refine T.F_need_row.ok sc_need_row (fun vs H Q E h => ?_) (fun cdv A outer s H vs Q E hr h => ?_)
  · obtain ⟨a, ns, rfl, _⟩ := h
    rfl
  obtain ⟨a, ns, rfl, hS, ⟨hl, hp⟩, k⟩ := h
  refine ⟨_, (pss_one (ps_for PassesOwn.never rfl (kIE (K := K) rfl (pi_enum (by rfl) T.z_enumerate (pa_cons (pv 0) pa_nil))) (kTup (K := K) (n := 2) rfl (pg_tup (by rfl) (pgs_cons (pg_name (i := 1) sc_need_row.nd rfl (by first | exact Or.inl rfl | exact Or.inr rfl)) (pgs_cons (pg_name (i := 2) sc_need_row.nd rfl (by first | exact Or.inl rfl | exact Or.inr rfl)) pgs_nil)))) (pss_one (ps_if (PW.pt (pw_or (pt_cmpR op_ge (pv 1) (pe_glob (v := .int 100) rfl T.m_MOST_ASKS ⟨_, rfl⟩) (nomark _)) (pw_or1 (pt_not (pt_val (pe_call (ok_is_page T) (hr.mono (by decide)) (by rfl) T.m_is_page T.F_is_page.kp T.b_is_page .nil pass0 (pa_cons (pv 2) pa_nil))))))) (pss_one ps_never) pss_nil)))), ?_⟩
  try dsimp only [L2.cxOf, L2.Cx.nox]
  walk_at "cw"
  refine f_enum (ns.map V.int) hS (fun i σ H' => ∃ v1 v2 : Option V, σ = [some (.ref a), v1, v2] ∧ Fr [] H H') ⟨none, none, rfl, .refl⟩ (fun i σ H' _ ⟨_, _, _, f⟩ => f.seqL hS) ?_ ?_
  · rintro i x t σ H' hi ⟨v1, v2, rfl, f⟩ ht
    obtain ⟨z, hz, rfl⟩ := int_at hi
    have hzl := (List.getElem?_eq_some_iff.mp hz).1
    obtain ⟨z0, z1⟩ := hp z (List.mem_of_getElem? hz)
    walk_at "cw"
    refine c_is_page z0 z1 ?_
    walk_at "cw"
    exact ⟨_, _, rfl, f.more (Fr.new ht)⟩
  · rintro σ H' ⟨v1, v2, rfl, f⟩
    exact k H' f

/-- the place of the first bad one -/
def RowBad (ns : List Int) (i : Nat) : Prop := i ≤ 100 ∧ ∃ z, ns[i]? = some z ∧ (100 ≤ i ∨ ¬ (0 ≤ z ∧ z < 12)) ∧ ∀ (j : Nat) y, j < i → ns[j]? = some y → 0 ≤ y ∧ y < 12
def sp_need_rowN (K : PySem.W.Frag) (c : Bad → Addr) : Sp := fun vs H _ E => ∃ (a : Addr) (ns : List Int) (i : Nat), vs = [.ref a] ∧ SqL K H a (ns.map V.int) ∧ RowBad ns i ∧ Bad.to c (.row i) H E
theorem ok_need_rowN (T : Txt K mg ad) : FnOk P w K mg base (L2.CX P w) 3 ad.a_need_row ad.d_need_row ["row"] (sp_need_rowN K (cls ad)) := by
  refine T.F_need_row.okX sc_need_row (fun vs H Q E h => ?_) (fun cdv A outer s H vs Q E hr h => ?_)
  · obtain ⟨a, ns, i, rfl, _⟩ := h
    rfl
  obtain ⟨a, ns, i0, rfl, hS, ⟨hi0, zb, hzb, hbad, hgood⟩, k⟩ := h
  have hlen := (List.getElem?_eq_some_iff.mp hzb).1
  refine ⟨_, (pss_one (ps_for (passes_of rfl) rfl (kIE (K := K) rfl (pi_enum (by rfl) T.z_enumerate (pa_cons (pv 0) pa_nil))) (kTup (K := K) (n := 2) rfl (pg_tup (by rfl) (pgs_cons (pg_name (i := 1) sc_need_row.nd rfl (by first | exact Or.inl rfl | exact Or.inr rfl)) (pgs_cons (pg_name (i := 2) sc_need_row.nd rfl (by first | exact Or.inl rfl | exact Or.inr rfl)) pgs_nil)))) (pss_one (ps_if (PW.pt (pw_or (pt_cmpR op_ge (pv 1) (pe_glob (v := .int 100) rfl T.m_MOST_ASKS ⟨_, rfl⟩) (nomark _)) (pw_or1 (pt_not (pt_val (pe_call (ok_is_page T) (hr.mono (by decide)) (by rfl) T.m_is_page T.F_is_page.kp T.b_is_page .nil pass0 (pa_cons (pv 2) pa_nil))))))) (pss_one (ps_raise rfl (takes_of rfl rfl rfl rfl) (pmk_oex T.ox_BadRow T.ii_BadRow T.ti_BadRow (ok_BadRow_init T) (hr.mono (by decide)) T.b_BadRow_init .nil pass0 (by rfl) T.m_BadRow (pa_cons (pv 1) pa_nil)))) pss_nil)))), ?_⟩
  try dsimp only [L2.cxOf]
  walk_at "cwx"
  refine f_enum (ns.map V.int) hS (fun i σ H' => ∃ v1 v2 : Option V, σ = [some (.ref a), v1, v2] ∧ Fr [] H H' ∧ i ≤ i0) ⟨none, none, rfl, .refl, Nat.zero_le _⟩ (fun i σ H' _ ⟨_, _, _, f, _⟩ => f.seqL hS) ?_ ?_
  · rintro i x t σ H' hi ⟨v1, v2, rfl, f, hle⟩ ht
    obtain ⟨z, hz, rfl⟩ := int_at hi
    have F : Fr [] H (upd H' t (.tup [.int (i : Int), .int z])) := f.more (Fr.new ht)
    by_cases hii : i = i0
    · subst hii
      rw [hz] at hzb
      cases hzb
      walk_at "cwx"
      walk_at "cw if" <;> intro e1
      · walk_at "cwx"
        dsimp only [tMkO]
        walk_at "cwx"
        refine ⟨by simp, fun b hb => ⟨b, _, rfl, upd_same, fun d h1 h2 => ⟨rfl, d, _, upd_same, (upd_ne h2).trans upd_same, (upd_ne h2).symm.trans h1, ?_⟩⟩⟩
        exact row_end (k.step F) rfl hb ((upd_ne h2).symm.trans h1)
      · walk_at "cwx"
        refine c_is_page_no (hbad.resolve_left (by omega)) ?_
        walk_at "cwx"
        dsimp only [tMkO]
        walk_at "cwx"
        refine ⟨by simp, fun b hb => ⟨b, _, rfl, upd_same, fun d h1 h2 => ⟨rfl, d, _, upd_same, (upd_ne h2).trans upd_same, (upd_ne h2).symm.trans h1, ?_⟩⟩⟩
        exact row_end (k.step F) rfl hb ((upd_ne h2).symm.trans h1)
    · have hlt : i < i0 := by omega
      obtain ⟨z0, z1⟩ := hgood i z hlt hz
      walk_at "cwx"
      refine c_is_page z0 z1 ?_
      walk_at "cwx"
      exact ⟨_, _, rfl, F, by omega⟩
  · rintro σ H' ⟨v1, v2, rfl, f, hle⟩
    rw [List.length_map] at hle
    omega
def sp_need_rowX (K : PySem.W.Frag) (c : Bad → Addr) : Sp := fun vs H Q E => sp_need_row K vs H Q E ∨ sp_need_rowN K c vs H Q E
theorem ok_need_rowX (T : Txt K mg ad) : FnOk P w K mg base (L2.CX P w) 3 ad.a_need_row ad.d_need_row ["row"] (sp_need_rowX K (cls ad)) := fn_or (ok_need_row T) (ok_need_rowN T) (by decide)

/-! need_both -/
def sp_need_both (K : PySem.W.Frag) : Sp := fun vs H Q _ => ∃ (r : Int) (a : Addr) (ns : List Int), vs = [.int r, .ref a] ∧ 1 ≤ r ∧ r ≤ 8 ∧ SqL K H a (ns.map V.int) ∧ RowOk ns ∧ ∀ H', Fr [] H H' → Q .non H'
theorem c_need_both {H : Hp} {Q : VK} {E : XK} {r : Int} {a : Addr} {ns : List Int} (h1 : 1 ≤ r) (h2 : r ≤ 8) (h : SqL K H a (ns.map V.int)) (hr : RowOk ns) (q : ∀ H', Fr [] H H' → Q .non H') : sp_need_both K ([.int r, .ref a] ++ []) H Q E := ⟨r, a, ns, rfl, h1, h2, h, hr, q⟩
theorem ok_need_both (T : Txt K mg ad) : FnOk P w K mg base CX0 3 ad.a_need_both ad.d_need_both ["rooms", "row"] (sp_need_both K) := by
  refine T.F_need_both.ok sc_need_both (fun vs H Q E h => ?_) (fun cdv A outer s H vs Q E hr h => ?_)
  · obtain ⟨r, a, ns, rfl, _⟩ := h
    rfl
  obtain ⟨r, a, ns, rfl, h1, h2, hS, hR, k⟩ := h
  refine ⟨_, (pss_cons (ps_expr (pe_call (ok_need_rooms T) (hr.mono (by decide)) (by rfl) T.m_need_rooms T.F_need_rooms.kp T.b_need_rooms .nil pass0 (pa_cons (pv 0) pa_nil)))
    (pss_one (ps_expr (pe_call (ok_need_row T) (hr.mono (by decide)) (by rfl) T.m_need_row T.F_need_row.kp T.b_need_row .nil pass0 (pa_cons (pv 1) pa_nil))))), ?_⟩
  try dsimp only [L2.cxOf, L2.Cx.nox]
  walk_at "cw"
  refine c_need_rooms h1 h2 ?_
  walk_at "cw"
  refine c_need_row hS hR fun H' f => ?_
  exact k H' f

/-- what is refused of rooms and a row -/
def BadBoth (n : Int) (ns : List Int) : Bad → Prop
  | .rooms => ¬ (1 ≤ n ∧ n ≤ 8)
  | .row p => (1 ≤ n ∧ n ≤ 8) ∧ ∃ i : Nat, p = (i : Int) ∧ RowBad ns i
  | _ => False
def sp_bothN (K : PySem.W.Frag) (c : Bad → Addr) : Sp := fun vs H _ E => ∃ (r : Int) (a : Addr) (ns : List Int) (b : Bad), vs = [.int r, .ref a] ∧ SqL K H a (ns.map V.int) ∧ BadBoth r ns b ∧ Bad.to c b H E
theorem c_bothN {K : PySem.W.Frag} {c : Bad → Addr} {H : Hp} {Q : VK} {E : XK} {r : Int} {a : Addr} {ns : List Int} {b : Bad} (h : SqL K H a (ns.map V.int)) (hb : BadBoth r ns b) (k : Bad.to c b H E) : sp_bothN K c ([.int r, .ref a] ++ []) H Q E := ⟨r, a, ns, b, rfl, h, hb, k⟩
theorem ok_need_bothN (T : Txt K mg ad) : FnOk P w K mg base (L2.CX P w) 4 ad.a_need_both ad.d_need_both ["rooms", "row"] (sp_bothN K (cls ad)) := by
  refine T.F_need_both.okX sc_need_both (fun vs H Q E h => ?_) (fun cdv A outer s H vs Q E hr h => ?_)
  · obtain ⟨r, a, ns, b, rfl, _⟩ := h
    rfl
  obtain ⟨r, a, ns, b, rfl, hS, hb, k⟩ := h
  refine ⟨_, (pss_cons (ps_expr (pe_call (ok_need_roomsX T) (hr.mono (by decide)) (by rfl) T.m_need_rooms T.F_need_rooms.kp T.b_need_rooms .nil (passes_call (takes_of rfl rfl rfl rfl) (fun _ _ _ _ h => h)) (pa_cons (pv 0) pa_nil)))
    (pss_first (ps_expr (pe_call (ok_need_rowX T) (hr.mono (by decide)) (by rfl) T.m_need_row T.F_need_row.kp T.b_need_row .nil (passes_call (takes_of rfl rfl rfl rfl) (fun _ _ _ _ h => h)) (pa_cons (pv 1) pa_nil))))), ?_⟩
  try dsimp only [L2.cxOf]
  walk_at "cwx"
  cases b with
  | rooms => exact .inr ⟨r, rfl, hb, k⟩
  | row p =>
    obtain ⟨⟨h1, h2⟩, i, rfl, hi⟩ := hb
    refine .inl (c_need_rooms (E := E) h1 h2 ?_)
    walk_at "cwx"
    exact .inr ⟨a, ns, i, rfl, hS, hi, k⟩
  | rule => exact hb.elim
  | many => exact hb.elim
def sp_need_bothX (K : PySem.W.Frag) (c : Bad → Addr) : Sp := fun vs H Q E => sp_need_both K vs H Q E ∨ sp_bothN K c vs H Q E
theorem ok_need_bothX (T : Txt K mg ad) : FnOk P w K mg base (L2.CX P w) 4 ad.a_need_both ad.d_need_both ["rooms", "row"] (sp_need_bothX K (cls ad)) := fn_or (ok_need_both T) (ok_need_bothN T) (by decide)

/-! Dial.__init__ -/
def sp_Dial_init (C : Addr) : Sp := fun vs H Q _ => ∃ (p dx : Addr) (n : Int), vs = [.ref p, .int n] ∧ H p = some (.ins C dx []) ∧ 1 ≤ n ∧ n ≤ 8 ∧
  ∀ a b H', Fr [p] H H' → H a = none → H b = none → a ≠ b → DialAt C H' p a b (Dl.new n.toNat) → Q .non H'
theorem ok_Dial_init (T : Txt K mg ad) : FnOk P w K mg base CX0 2 ad.a_Dial_init ad.d_Dial_init ["self", "rooms"] (sp_Dial_init ad.C_Dial) := by
  refine T.F_Dial_init.ok sc_Dial_init (fun vs H Q E h => ?_) (fun cdv A outer s H vs Q E hr h => ?_)
  · obtain ⟨p, dx, n, rfl, _⟩ := h
    rfl
  obtain ⟨p, dx, n, rfl, hp, n0, n8, k⟩ := h
  refine ⟨_, (pss_cons (ps_expr (pe_call (ok_need_rooms T) (hr.mono (by decide)) (by rfl) T.m_need_rooms T.F_need_rooms.kp T.b_need_rooms .nil pass0 (pa_cons (pv 1) pa_nil)))
    (pss_cons (ps_fld (pv 0) (pe_lc (own := [("room", 2)]) (by rfl) sc_Dial_init.nd (pi_range1 (by rfl) T.z_range (pa_cons (pv 1) pa_nil)) (blkOk_by (own := [("room", 2)]) (N := N_Dial_init) (sc := defScope s_Dial_init) (by decide +kernel)) (fun _ _ _ _ _ => (pg_name (i := 2) sc_Dial_init.nd rfl (by first | exact Or.inl rfl | exact Or.inr rfl))) (fun _ _ _ _ _ => pts_nil) (fun _ _ _ _ _ => pe_non)) rfl)
    (pss_cons (ps_fld (pv 0) (pe_lc (own := [("room", 2)]) (by rfl) sc_Dial_init.nd (pi_range1 (by rfl) T.z_range (pa_cons (pv 1) pa_nil)) (blkOk_by (own := [("room", 2)]) (N := N_Dial_init) (sc := defScope s_Dial_init) (by decide +kernel)) (fun _ _ _ _ _ => (pg_name (i := 2) sc_Dial_init.nd rfl (by first | exact Or.inl rfl | exact Or.inr rfl))) (fun _ _ _ _ _ => pts_nil) (fun _ _ _ _ _ => pe_bl)) rfl)
    (pss_cons (ps_fld (pv 0) pe_int rfl)
    (pss_one (ps_fld (pv 0) pe_int rfl)))))), ?_⟩
  try dsimp only [L2.cxOf, L2.Cx.nox]
  walk_at "cwd"
  refine c_need_rooms n0 n8 ?_
  walk_at "cwd"
  refine l_rng1 (j := n) (by omega) (by omega) (fun D i acc H' => Fr [] H H' ∧ acc = List.replicate i V.non) (fun D hD => ⟨Fr.new hD, rfl⟩) ?_ ?_
  · rintro D i acc H' hD hi ⟨f, rfl⟩ hacc hl
    walk_at "cwd"
    exact lc_end hacc (by simp) (by omega) ⟨f.comp (W1 := [D]) (Fr.at (by simp)) (by simp [hD]), by rw [List.replicate_succ']⟩
  rintro a acc H1 ha ⟨f1, rfl⟩ h1 _
  walk_at "cwd"
  refine w_sFldR (f1.get0 hp) T.cl_Dial T.n_Dial_here (by decide) rfl ?_
  walk_at "cwd"
  generalize hE : upd H1 p (.ins ad.C_Dial dx (putF "here" (.ref a) [])) = H2
  have hp1 := f1.get0 hp
  have F2 : Fr [p] H1 H2 := hE ▸ Fr.at (by simp)
  have nap : a ≠ p := fun e => by rw [e, hp] at ha; cases ha
  have h2 : H2 p = some (.ins ad.C_Dial dx (putF "here" (.ref a) [])) := hE ▸ upd_same
  have h2a : H2 a = some (.lst (List.replicate n.toNat V.non)) := F2.get h1 (by simp [nap])
  clear hE
  refine l_rng1 (j := n) (by omega) (by omega) (fun D i acc H' => Fr [] H2 H' ∧ acc = List.replicate i (V.bl false)) (fun D hD => ⟨Fr.new hD, rfl⟩) ?_ ?_
  · rintro D i acc H' hD hi ⟨f, rfl⟩ hacc hl
    walk_at "cwd"
    exact lc_end hacc (by simp) (by omega) ⟨f.comp (W1 := [D]) (Fr.at (by simp)) (by simp [hD]), by rw [List.replicate_succ']⟩
  rintro b acc H3 hb ⟨f3, rfl⟩ h3 _
  walk_at "cwd"
  have nbp : b ≠ p := ne_s (ne_of_none h2 hb)
  have nab : a ≠ b := ne_of_none h2a hb
  refine w_sFldR (f3.get0 h2) T.cl_Dial T.n_Dial_seen (by simp [putF]) rfl ?_
  walk_at "cwd"
  refine w_sFldR upd_same T.cl_Dial T.n_Dial_hand (by simp [putF, str_hs]) rfl ?_
  walk_at "cwd"
  refine w_sFldR upd_same T.cl_Dial T.n_Dial_lacks (by simp [putF, str_hs, str_hh, str_sh]) (dfl_made a b 0 0) ?_
  rw [upd_upd, upd_upd]
  have F : Fr [p] H H3 := (f1.of0.trans F2).more f3
  refine k a b _ (F.trans (Fr.at (by simp))) ha (f1.free (F2.free hb)) nab ⟨⟨dx, upd_same⟩, ?_, ?_⟩
  · rw [upd_ne nap, f3.get0 h2a]; simp [Dl.new, oV]
  · rw [upd_ne nbp, h3]; simp [Dl.new]

def sp_Dial_initN (c : Bad → Addr) : Sp := fun vs H _ E => ∃ (p : Addr) (n : Int), vs = [.ref p, .int n] ∧ ¬ (1 ≤ n ∧ n ≤ 8) ∧ Bad.to c .rooms H E
theorem ok_Dial_initN (T : Txt K mg ad) : FnOk P w K mg base (L2.CX P w) 2 ad.a_Dial_init ad.d_Dial_init ["self", "rooms"] (sp_Dial_initN (cls ad)) := by
  refine T.F_Dial_init.okX sc_Dial_init (fun vs H Q E h => ?_) (fun cdv A outer s H vs Q E hr h => ?_)
  · obtain ⟨p, n, rfl, _⟩ := h
    rfl
  obtain ⟨p, n, rfl, hn, k⟩ := h
  refine ⟨_, (pss_first (ps_expr (pe_call (ok_need_roomsX T) (hr.mono (by decide)) (by rfl) T.m_need_rooms T.F_need_rooms.kp T.b_need_rooms .nil (passes_call (takes_of rfl rfl rfl rfl) (fun _ _ _ _ h => h)) (pa_cons (pv 1) pa_nil)))), ?_⟩
  try dsimp only [L2.cxOf]
  walk_at "cwx"
  exact .inr ⟨n, rfl, hn, k⟩
def sp_Dial_initX (C : Addr) (c : Bad → Addr) : Sp := fun vs H Q E => sp_Dial_init C vs H Q E ∨ sp_Dial_initN c vs H Q E
theorem ok_Dial_initX (T : Txt K mg ad) : FnOk P w K mg base (L2.CX P w) 2 ad.a_Dial_init ad.d_Dial_init ["self", "rooms"] (sp_Dial_initX ad.C_Dial (cls ad)) := fn_or (ok_Dial_init T) (ok_Dial_initN T) (by decide)

/-! Dial.ask -/
def sp_Dial_ask (C : Addr) : Sp := fun vs H Q _ => ∃ (p a b : Addr) (d : Dl) (n : Nat) (x : Int), vs = [.ref p, .int x] ∧ DialAt C H p a b d ∧ d.Wf n ∧ p ≠ a ∧ p ≠ b ∧ a ≠ b ∧ 0 ≤ x ∧ x < 12 ∧
  ∀ t q H', Fr [p, a, b] H H' → DialAt C H' p a b (d.ask x).1 → H t = none → H q = none → H' t = some (.tup (toldV (d.ask x).2 q)) → H' q = some (.lst (natsV (d.ask x).2.passed)) → Q (.ref t) H'
theorem ok_Dial_ask (T : Txt K mg ad) : FnOk P w K mg base CX0 2 ad.a_Dial_ask ad.d_Dial_ask ["self", "page"] (sp_Dial_ask ad.C_Dial) := by
  refine T.F_Dial_ask.ok sc_Dial_ask (fun vs H Q E h => ?_) (fun cdv A outer s H vs Q E hr h => ?_)
  · obtain ⟨p, a, b, d, n, x, rfl, _⟩ := h
    rfl
  obtain ⟨p, a, b, d, n, x, rfl, hD, hW, npa, npb, nab, x0, x1, k⟩ := h
  obtain ⟨⟨dx, h1⟩, h2, h3⟩ := id hD
  obtain ⟨n0, n8, hl, sl, hd, mk⟩ := id hW
  have hml : (d.here.map oV).length = n := by rw [List.length_map]; exact hl
  refine ⟨_, (pss_cons (ps_if (pt_not (pt_val (pe_call (ok_is_page T) (hr.mono (by decide)) (by rfl) T.m_is_page T.F_is_page.kp T.b_is_page .nil pass0 (pa_cons (pv 1) pa_nil)))) (pss_one ps_never) pss_nil)
    (pss_cons (ps_if (pt_cmpR (kIn K rfl) (pv 1) (kFld (K := K) rfl (pe_fld (pv 0) rfl)) (by with_unfolding_all rfl)) (pss_cons (ps_asg pe_bl (pg_sub (kFld (K := K) rfl (pe_fld (pv 0) rfl)) (kBM (K := K) rfl (pe_bm PySem.F.plainAttrs_list PySem.F.slot_list_index PySem.F.type_list_index (kIndex K rfl) (kFld (K := K) rfl (pe_fld (pv 0) rfl)) (pa_cons (pv 1) pa_nil))) set_list))
    (pss_one (ps_ret (pe_tup (pa_cons pe_bl (pa_cons pe_non (pa_cons (pe_lst pa_nil) pa_nil))))))) pss_nil)
    (pss_cons (ps_set (i := 2) sc_Dial_ask.nd rfl (by first | exact Or.inl rfl | exact Or.inr rfl) (pe_lst pa_nil))
    (C8.pss_cut (ps_while PassesOwn.never (PW.pt (pw_and (pt_cmpR op_notN1 (pe_ix (kIxL K rfl) (kFld (K := K) rfl (pe_fld (pv 0) rfl)) (kFld (K := K) rfl (pe_fld (pv 0) rfl)) (fun _ _ => rfl)) pe_non (nomark _)) (pw_and1 (pt_val (pe_ix (kIxL K rfl) (kFld (K := K) rfl (pe_fld (pv 0) rfl)) (kFld (K := K) rfl (pe_fld (pv 0) rfl)) (fun _ _ => rfl)))))) (pss_cons (ps_asg pe_bl (pg_sub (kFld (K := K) rfl (pe_fld (pv 0) rfl)) (kFld (K := K) rfl (pe_fld (pv 0) rfl)) set_list))
    (pss_cons (ps_expr (kBM (K := K) rfl (pe_bm PySem.F.plainAttrs_list PySem.F.slot_list_append PySem.F.type_list_append mt_append (pv 2) (pa_cons (kFld (K := K) rfl (pe_fld (pv 0) rfl)) pa_nil))))
    (pss_one (ps_fld (pv 0) (pe_op op_mod (pe_op op_add (kFld (K := K) rfl (pe_fld (pv 0) rfl)) pe_int) (pe_callB (kLen K rfl) (by rfl) T.z_len (by decide +kernel) (pa_cons (kFld (K := K) rfl (pe_fld (pv 0) rfl)) pa_nil))) rfl)))))
    (pss_cons (ps_set (i := 3) sc_Dial_ask.nd rfl (by first | exact Or.inl rfl | exact Or.inr rfl) (pe_ix (kIxL K rfl) (kFld (K := K) rfl (pe_fld (pv 0) rfl)) (kFld (K := K) rfl (pe_fld (pv 0) rfl)) (fun _ _ => rfl)))
    (pss_cons (ps_asg (pv 1) (pg_sub (kFld (K := K) rfl (pe_fld (pv 0) rfl)) (kFld (K := K) rfl (pe_fld (pv 0) rfl)) set_list))
    (pss_cons (ps_asg pe_bl (pg_sub (kFld (K := K) rfl (pe_fld (pv 0) rfl)) (kFld (K := K) rfl (pe_fld (pv 0) rfl)) set_list))
    (pss_cons (ps_fld (pv 0) (pe_op op_mod (pe_op op_add (kFld (K := K) rfl (pe_fld (pv 0) rfl)) pe_int) (pe_callB (kLen K rfl) (by rfl) T.z_len (by decide +kernel) (pa_cons (kFld (K := K) rfl (pe_fld (pv 0) rfl)) pa_nil))) rfl)
    (pss_cons (ps_fldaug (pv 0) pe_int in_add)
    (pss_one (ps_ret (pe_tup (pa_cons pe_bl (pa_cons (pv 3) (pa_cons (pv 2) pa_nil))))))))))))))), ?_⟩
  try dsimp only [L2.cxOf, L2.Cx.nox]
  walk_at "cwd"
  refine c_is_page x0 x1 ?_
  walk_at "cwd"
  refine w_inL (SqL.of h2) rfl (flat_oV _) (in_oV x d.here) ?_
  walk_at "cwd"
  walk_at "cw if" <;> intro e
  · walk_at "cwd"
    refine w_index (SqL.of h2) e ?_
    have hj := List.idxOf_lt_length_iff.mpr e
    refine w_setL h3 (ixN_nat (by rw [List.length_map]; omega)) rfl ?_
    walk_at "cwd"
    rename_i q hq t ht
    have ea : d.ask x = ({ d with seen := d.seen.set (d.here.idxOf (some x)) true }, ⟨false, none, []⟩) := by unfold Dl.ask; rw [if_pos e]
    rw [ea] at k
    have hq0 : H q = none := upd_none hq
    have ht0 : H t = none := upd_none (upd_none ht)
    have ntq : q ≠ t := ne_of_none upd_same ht
    have nq : ∀ c o, H c = some o → c ≠ q := fun c o h => ne_of_none h hq0
    have nt : ∀ c o, H c = some o → c ≠ t := fun c o h => ne_of_none h ht0
    refine k t q _ (((Fr.at (by simp)).trans (Fr.new hq)).trans (Fr.new ht)) ⟨⟨dx, ?_⟩, ?_, ?_⟩ ht0 hq0 upd_same ?_
    · rw [upd_ne (nt p _ h1), upd_ne (nq p _ h1), upd_ne npb]; exact h1
    · rw [upd_ne (nt a _ h2), upd_ne (nq a _ h2), upd_ne nab]; exact h2
    · rw [upd_ne (nt b _ h3), upd_ne (nq b _ h3), upd_same, List.map_set]
    · rw [upd_ne ntq]; exact upd_same
  · walk_at "cwd"
    rename_i q hq
    have npq : p ≠ q := ne_of_none h1 hq
    have naq : a ≠ q := ne_of_none h2 hq
    have nbq : b ≠ q := ne_of_none h3 hq
    refine w_cut (fun σ H' => ∃ v, σ = [some (.ref p), some (.int x), some (.ref q), v] ∧ Fr [p, a, b] H H' ∧ H' p = some (.ins ad.C_Dial dx (dfl a b d.spin.2.1 d.lacks)) ∧ H' a = some (.lst (d.here.map oV)) ∧
      H' b = some (.lst (d.spin.1.map V.bl)) ∧ H' q = some (.lst (natsV d.spin.2.2))) ?_ ?_
    · refine f_while (fun m σ H' => ∃ (sc : List Bool) (hc : Nat) (pc : List Nat), m = sc.count true ∧ σ = [some (.ref p), some (.int x), some (.ref q), none] ∧ Fr [p, a, b] H H' ∧
        H' p = some (.ins ad.C_Dial dx (dfl a b hc d.lacks)) ∧ H' a = some (.lst (d.here.map oV)) ∧ H' b = some (.lst (sc.map V.bl)) ∧ H' q = some (.lst (natsV pc)) ∧ sc.length = n ∧ hc < n ∧ pc.length + sc.count true ≤ 8 ∧
        (∀ i : Nat, sc[i]? = some true → d.seen[i]? = some true) ∧ ((Cw.spin n (sc.count true) sc hc).1, (Cw.spin n (sc.count true) sc hc).2.1, pc ++ (Cw.spin n (sc.count true) sc hc).2.2) = d.spin)
        (d.seen.count true) ⟨d.seen, d.hand, [], rfl, rfl, Fr.new hq, ?_, ?_, ?_, upd_same, sl, hd, ?_, fun _ h => h, ?_⟩ ?_
      · rw [upd_ne npq]; exact h1
      · rw [upd_ne naq]; exact h2
      · rw [upd_ne nbq]; exact h3
      · have := List.count_le_length (a := true) (l := d.seen)
        simp
        omega
      · unfold Dl.spin
        rw [hl]
        simp
      rintro m σ H1 ⟨sc, hc, pc, rfl, rfl, F, g1, g2, g3, g4, cl, ch, cz, cs, ce⟩
      have hat : atI (d.here.map oV) (hc : Int) = some (oV d.here[hc]) := atI_nat (by rw [List.getElem?_map, List.getElem?_eq_getElem (by omega)]; rfl)
      have sat : atI (sc.map V.bl) (hc : Int) = some (.bl sc[hc]) := atI_nat (by rw [List.getElem?_map, List.getElem?_eq_getElem (by omega)]; rfl)
      have gs : sc[hc]? = some sc[hc] := List.getElem?_eq_getElem (by omega)
      -- the hand stops
      have fin : ¬ sc[hc]? = some true → ∃ v, [some (V.ref p), some (.int x), some (.ref q), none] = [some (.ref p), some (.int x), some (.ref q), v] ∧ Fr [p, a, b] H H1 ∧ H1 p = some (.ins ad.C_Dial dx (dfl a b d.spin.2.1 d.lacks)) ∧ H1 a = some (.lst (d.here.map oV)) ∧
          H1 b = some (.lst (d.spin.1.map V.bl)) ∧ H1 q = some (.lst (natsV d.spin.2.2)) := fun z => by
        rw [spin_stop z] at ce
        rw [← ce]
        exact ⟨none, rfl, F, g1, g2, g3, by simpa using g4⟩
      walk_at "cwd"
      walk_at "cw if" <;> intro e1
      · walk_at "cwd"
        walk_at "cw if" <;> intro e2
        · rw [e2] at gs
          walk_at "cwd"
          refine w_turn ?_
          have co := count_off gs
          have go := spin_go (n := n) gs
          walk_at "cwd"
          refine w_setL g3 (ixN_nat (by rw [List.length_map]; omega)) List.map_set.symm ?_
          have nqb : q ≠ b := ne_s nbq
          have nqp : q ≠ p := ne_s npq
          walk_at "cwd"
          refine w_append (xs := natsV pc) (by walk_at "cw at") (sz_lt (by simp [natsV]; omega)) ?_
          walk_at "cwd"
          refine ⟨p, _, dx, _, rfl, (by walk_at "cw at"), T.cl_Dial, T.n_Dial_hand, dfl_len _ _ _ _, ?_⟩
          have em : ((hc : Int) + 1) % (n : Int) = (((hc + 1) % n : Nat) : Int) := by rw [Int.natCast_emod, Int.natCast_add]; rfl
          rw [hml, dfl_hand, em]
          rw [go] at ce
          refine ⟨(sc.set hc false).count true, by omega, sc.set hc false, (hc + 1) % n, pc ++ [hc], rfl, rfl, ?_, upd_same, ?_, ?_, ?_, by simp [cl], Nat.mod_lt _ n0, by simp; omega, fun i hi => ?_, ?_⟩
          · exact ((F.trans (Fr.at (by simp))).comp (W1 := [q]) (Fr.at (by simp)) (by simp [hq])).trans (Fr.at (by simp))
          · rw [upd_ne (ne_s npa), upd_ne naq, upd_ne nab]; exact g2
          · rw [upd_ne (ne_s npb), upd_ne nbq, upd_same]
          · rw [upd_ne nqp, upd_same]; simp [natsV]
          · by_cases hi' : i = hc
            · rw [hi', List.getElem?_set_self (by omega)] at hi; cases hi
            · rw [List.getElem?_set_ne (fun z => hi' z.symm)] at hi; exact cs i hi
          · rw [← ce]; simp
        · walk_at "cwd"
          exact fin (by rw [gs, e2]; simp)
      · walk_at "cwd"
        refine fin fun z => ?_
        obtain ⟨y, hy⟩ := mk hc (cs hc z)
        rw [List.getElem?_eq_getElem (by omega)] at hy
        rw [Option.some.inj hy] at e1
        cases e1
    · rintro σ H1 ⟨v, rfl, F, g1, g2, g3, g4⟩
      have hf := spin_facts n0 (d.seen.count true) d.seen d.hand (Nat.le_refl _) sl hd
      have es : d.spin = Cw.spin n (d.seen.count true) d.seen d.hand := by unfold Dl.spin; rw [hl]
      rw [← es] at hf
      obtain ⟨f1, f2, f3, f4⟩ := hf
      have hat : atI (d.here.map oV) (d.spin.2.1 : Int) = some (oV (d.here[d.spin.2.1]?).join) := atI_nat (by rw [List.getElem?_map, List.getElem?_eq_getElem (by omega)]; rfl)
      walk_at "cwd"
      refine w_setL g2 (ixN_nat (by rw [List.length_map]; omega)) (show (d.here.map oV).set d.spin.2.1 (oV (some x)) = _ from List.map_set.symm) ?_
      walk_at "cwd"
      refine w_setL (xs := d.spin.1.map V.bl) (by walk_at "cw at") (ixN_nat (by rw [List.length_map]; omega)) List.map_set.symm ?_
      walk_at "cwd"
      have hml2 : ((d.here.set d.spin.2.1 (some x)).map oV).length = n := by rw [List.length_map, List.length_set]; exact hl
      rw [hml2]
      walk_at "cwd"
      rename_i t ht
      have em : ((d.spin.2.1 : Int) + 1) % (n : Int) = (((d.spin.2.1 + 1) % d.here.length : Nat) : Int) := by rw [hl, Int.natCast_emod, Int.natCast_add]; rfl
      have ea : d.ask x = (⟨d.here.set d.spin.2.1 (some x), d.spin.1.set d.spin.2.1 true, (d.spin.2.1 + 1) % d.here.length, d.lacks + 1⟩, ⟨true, (d.here[d.spin.2.1]?).join, d.spin.2.2⟩) := by unfold Dl.ask; rw [if_neg e]
      rw [ea] at k
      have ht1 : H1 t = none := upd_none (upd_none (upd_none (upd_none ht)))
      have ntp : p ≠ t := ne_of_none g1 ht1
      have nta : a ≠ t := ne_of_none g2 ht1
      have ntb : b ≠ t := ne_of_none g3 ht1
      have ntq : q ≠ t := ne_of_none g4 ht1
      refine k t q _ (((((F.trans (Fr.at (by simp))).trans (Fr.at (by simp))).trans (Fr.at (by simp))).trans (Fr.at (by simp))).trans (Fr.new ht)) ⟨⟨dx, ?_⟩, ?_, ?_⟩ (F.free ht1) hq upd_same ?_
      · rw [upd_ne ntp, upd_same, em]; rfl
      · rw [upd_ne nta, upd_ne (ne_s npa), upd_ne (ne_s npa), upd_ne nab, upd_same]
      · rw [upd_ne ntb, upd_ne (ne_s npb), upd_ne (ne_s npb), upd_same]
      · rw [upd_ne ntq, upd_ne (ne_s npq), upd_ne (ne_s npq), upd_ne (ne_s nbq), upd_ne (ne_s naq)]; exact g4
/-! .. of what is no page -/
def sp_Dial_askN (CB : Addr) : Sp := fun vs H _ E => ∃ (p : Addr) (x : Int), vs = [.ref p, .int x] ∧ ¬ (0 ≤ x ∧ x < 12) ∧ ∀ d H', Fr [] H H' → H d = none → H' d = some (.xd [("place", .int 0)]) → E (.ref CB) (some d) H'
theorem ok_Dial_askN (T : Txt K mg ad) : FnOk P w K mg base (L2.CX P w) 3 ad.a_Dial_ask ad.d_Dial_ask ["self", "page"] (sp_Dial_askN ad.C_BadRow) := by
  refine T.F_Dial_ask.okX sc_Dial_ask (fun vs H Q E h => ?_) (fun cdv A outer s H vs Q E hr h => ?_)
  · obtain ⟨p, x, rfl, _⟩ := h
    rfl
  obtain ⟨p, x, rfl, hx, k⟩ := h
  refine ⟨_, (pss_cons (ps_if (pt_not (pt_val (pe_call (ok_is_page T) (hr.mono (by decide)) (by rfl) T.m_is_page T.F_is_page.kp T.b_is_page .nil pass0 (pa_cons (pv 1) pa_nil)))) (pss_one (ps_raise rfl (takes_of rfl rfl rfl rfl) (pmk_oex T.ox_BadRow T.ii_BadRow T.ti_BadRow (ok_BadRow_init T) (hr.mono (by decide)) T.b_BadRow_init .nil pass0 (by rfl) T.m_BadRow (pa_cons pe_int pa_nil)))) pss_nil)
    (pss_cons (ps_if (pt_cmpR (kIn K rfl) (pv 1) (kFld (K := K) rfl (pe_fld (pv 0) rfl)) (by with_unfolding_all rfl)) (pss_cons (ps_asg pe_bl (pg_sub (kFld (K := K) rfl (pe_fld (pv 0) rfl)) (kBM (K := K) rfl (pe_bm PySem.F.plainAttrs_list PySem.F.slot_list_index PySem.F.type_list_index (kIndex K rfl) (kFld (K := K) rfl (pe_fld (pv 0) rfl)) (pa_cons (pv 1) pa_nil))) set_list))
    (pss_one (ps_ret (pe_tup (pa_cons pe_bl (pa_cons pe_non (pa_cons (pe_lst pa_nil) pa_nil))))))) pss_nil)
    (pss_cons (ps_set (i := 2) sc_Dial_ask.nd rfl (by first | exact Or.inl rfl | exact Or.inr rfl) (pe_lst pa_nil))
    (C8.pss_cut (ps_while (passes_of rfl) (PW.pt (pw_and (pt_cmpR op_notN1 (pe_ix (kIxL K rfl) (kFld (K := K) rfl (pe_fld (pv 0) rfl)) (kFld (K := K) rfl (pe_fld (pv 0) rfl)) (fun _ _ => rfl)) pe_non (nomark _)) (pw_and1 (pt_val (pe_ix (kIxL K rfl) (kFld (K := K) rfl (pe_fld (pv 0) rfl)) (kFld (K := K) rfl (pe_fld (pv 0) rfl)) (fun _ _ => rfl)))))) (pss_cons (ps_asg pe_bl (pg_sub (kFld (K := K) rfl (pe_fld (pv 0) rfl)) (kFld (K := K) rfl (pe_fld (pv 0) rfl)) set_list))
    (pss_cons (ps_expr (kBM (K := K) rfl (pe_bm PySem.F.plainAttrs_list PySem.F.slot_list_append PySem.F.type_list_append mt_append (pv 2) (pa_cons (kFld (K := K) rfl (pe_fld (pv 0) rfl)) pa_nil))))
    (pss_one (ps_fld (pv 0) (pe_op op_mod (pe_op op_add (kFld (K := K) rfl (pe_fld (pv 0) rfl)) pe_int) (pe_callB (kLen K rfl) (by rfl) T.z_len (by decide +kernel) (pa_cons (kFld (K := K) rfl (pe_fld (pv 0) rfl)) pa_nil))) rfl)))))
    (pss_cons (ps_set (i := 3) sc_Dial_ask.nd rfl (by first | exact Or.inl rfl | exact Or.inr rfl) (pe_ix (kIxL K rfl) (kFld (K := K) rfl (pe_fld (pv 0) rfl)) (kFld (K := K) rfl (pe_fld (pv 0) rfl)) (fun _ _ => rfl)))
    (pss_cons (ps_asg (pv 1) (pg_sub (kFld (K := K) rfl (pe_fld (pv 0) rfl)) (kFld (K := K) rfl (pe_fld (pv 0) rfl)) set_list))
    (pss_cons (ps_asg pe_bl (pg_sub (kFld (K := K) rfl (pe_fld (pv 0) rfl)) (kFld (K := K) rfl (pe_fld (pv 0) rfl)) set_list))
    (pss_cons (ps_fld (pv 0) (pe_op op_mod (pe_op op_add (kFld (K := K) rfl (pe_fld (pv 0) rfl)) pe_int) (pe_callB (kLen K rfl) (by rfl) T.z_len (by decide +kernel) (pa_cons (kFld (K := K) rfl (pe_fld (pv 0) rfl)) pa_nil))) rfl)
    (pss_cons (ps_fldaug (pv 0) pe_int in_add)
    (pss_one (ps_ret (pe_tup (pa_cons pe_bl (pa_cons (pv 3) (pa_cons (pv 2) pa_nil))))))))))))))), ?_⟩
  try dsimp only [L2.cxOf]
  walk_at "cwd"
  refine c_is_page_no hx ?_
  walk_at "cwd"
  dsimp only [tMkO]
  walk_at "cwd"
  refine ⟨by decide, fun a ha => ⟨a, 0, rfl, upd_same, fun d h1 h2 => ⟨rfl, d, [("place", .int 0)], upd_same, ?_, ?_, ?_⟩⟩⟩
  · rw [upd_ne h2, upd_same]
  · rwa [upd_ne h2] at h1
  · have hd : H d = none := by rwa [upd_ne h2] at h1
    refine k d _ ⟨fun b o hb _ => ?_, fun b hb => ?_⟩ hd upd_same
    · have n1 : b ≠ a := fun z => by rw [z, ha] at hb; cases hb
      have n2 : b ≠ d := fun z => by rw [z, hd] at hb; cases hb
      rw [upd_ne n2, del_ne n1, upd_ne n1, upd_ne n2, upd_ne n1]
      exact hb
    · by_cases n2 : b = d
      · rw [n2]
        exact hd
      · by_cases n1 : b = a
        · rw [n1]
          exact ha
        · rwa [upd_ne n2, del_ne n1, upd_ne n1, upd_ne n2, upd_ne n1] at hb
def sp_Dial_askX (C CB : Addr) : Sp := fun vs H Q E => sp_Dial_ask C vs H Q E ∨ sp_Dial_askN CB vs H Q E
theorem ok_Dial_askX (T : Txt K mg ad) : FnOk P w K mg base (L2.CX P w) 3 ad.a_Dial_ask ad.d_Dial_ask ["self", "page"] (sp_Dial_askX ad.C_Dial ad.C_BadRow) := fn_or (ok_Dial_ask T) (ok_Dial_askN T) (by decide)

/-! round_told -/
def sp_round_told (K : PySem.W.Frag) : Sp := fun vs H Q _ => ∃ (n : Int) (a : Addr) (ns : List Int), vs = [.int n, .ref a] ∧ 1 ≤ n ∧ n ≤ 8 ∧ SqL K H a (ns.map V.int) ∧ RowOk ns ∧
  ∀ p xs H', Fr [] H H' → H p = none → H' p = some (.lst xs) → TlAt H H' xs (askAll (Dl.new n.toNat) ns) → Q (.ref p) H'
theorem c_round_told {H : Hp} {Q : VK} {E : XK} {n : Int} {a : Addr} {ns : List Int} (n0 : 1 ≤ n) (n8 : n ≤ 8) (h : SqL K H a (ns.map V.int)) (hR : RowOk ns)
    (k : ∀ p xs H', Fr [] H H' → H p = none → H' p = some (.lst xs) → TlAt H H' xs (askAll (Dl.new n.toNat) ns) → Q (.ref p) H') : sp_round_told K ([.int n, .ref a] ++ []) H Q E := ⟨n, a, ns, rfl, n0, n8, h, hR, k⟩
theorem ok_round_told (T : Txt K mg ad) : FnOk P w K mg base CX0 4 ad.a_round_told ad.d_round_told ["rooms", "row"] (sp_round_told K) := by
  refine T.F_round_told.ok sc_round_told (fun vs H Q E h => ?_) (fun cdv A outer s H vs Q E hr h => ?_)
  · obtain ⟨n, a, ns, rfl, _⟩ := h
    rfl
  obtain ⟨n, a, ns, rfl, n0, n8, hS, ⟨hz, hp⟩, k⟩ := h
  refine ⟨_, (pss_cons (ps_set (i := 2) sc_round_told.nd rfl (by first | exact Or.inl rfl | exact Or.inr rfl) (pe_make T.mk_Dial (ok_Dial_init T) (hr.mono (by decide)) (by rfl) T.m_Dial T.b_Dial_init .nil pass0 (pa_cons (pv 0) pa_nil)))
    (pss_one (ps_ret (pe_lc (own := [("page", 3)]) (by rfl) sc_round_told.nd (kIL (K := K) rfl (pi_list (pv 1))) (blkOk_by (own := [("page", 3)]) (N := N_round_told) (sc := defScope s_round_told) (by decide +kernel)) (fun _ _ _ _ _ => (pg_name (i := 3) sc_round_told.nd rfl (by first | exact Or.inl rfl | exact Or.inr rfl))) (fun _ _ _ _ _ => pts_nil) (fun _ _ _ _ _ => (pe_meth (pv 2) T.cl_Dial T.mt_Dial_ask (ok_Dial_ask T) (hr.mono (by decide)) T.b_Dial_ask .nil pass0 (pa_cons (pv 3) pa_nil))))))), ?_⟩
  try dsimp only [L2.cxOf, L2.Cx.nox]
  walk_at "cwd"
  intro x dx hx hdx ndx
  refine ⟨x, dx, n, rfl, upd_same, n0, n8, fun u v H1 f1 hu hv nuv D1 => ⟨rfl, ?_⟩⟩
  have f0 : Fr [] H (upd (upd H dx (.own x)) x (.ins ad.C_Dial dx [])) := (Fr.new hdx).trans (Fr.new ((upd_ne (ne_s ndx)).trans hx))
  have F1 : Fr [] H H1 := f0.comp f1 (by simp [hx])
  have nxu : x ≠ u := ne_of_none upd_same hu
  have nxv : x ≠ v := ne_of_none upd_same hv
  obtain ⟨⟨dx1, g1⟩, g2, g3⟩ := id D1
  have hu0 : H u = none := f0.free hu
  have hv0 : H v = none := f0.free hv
  walk_at "cwd"
  refine l_list (ns.map V.int) (F1.seqL hS) (fun D i acc H' => Fr [] H H' ∧ Fr [x, u, v, D] (upd H1 D (.lst [])) H' ∧ DialAt ad.C_Dial H' x u v (endAll (Dl.new n.toNat) (ns.take i)) ∧ TlAt (upd H1 D (.lst [])) H' acc (askAll (Dl.new n.toNat) (ns.take i)))
    (fun D hD => ⟨F1.more (Fr.new hD), .refl, D1.keep0 (Fr.new hD), .nil⟩) (fun D i acc H' hD h _ => h.1.seqL hS) ?_ ?_
  · rintro D i y acc H' hD hi ⟨F, F2, hd, hn⟩ hacc hl
    obtain ⟨z, hz', rfl⟩ := int_at hi
    have hzl := (List.getElem?_eq_some_iff.mp hz').1
    obtain ⟨z0, z1⟩ := hp z (List.mem_of_getElem? hz')
    have W := endAll_wf (Dl.new n.toNat) (ns.take i) (Dl.Wf.new (n := n.toNat) (by omega) (by omega))
    obtain ⟨⟨dx2, k1⟩, k2, k3⟩ := id hd
    walk_at "cwd"
    refine w_methR k1 (lk_no _ _ _ _ (by decide +kernel) (by decide +kernel) (by decide +kernel) (by decide +kernel)) ?_
    walk_at "cwd"
    refine ⟨x, u, v, _, n.toNat, z, rfl, hd, W, nxu, nxv, nuv, z0, z1, fun t q H4 f4 D4 ht hq e1 e2 => ?_⟩
    have nD : D ∉ [x, u, v] := by
      simp only [List.mem_cons, List.not_mem_nil, or_false, not_or]
      exact ⟨fun e => ne_of_none g1 hD e.symm, fun e => ne_of_none g2 hD e.symm, fun e => ne_of_none g3 hD e.symm⟩
    have tk : ∀ w ∈ [x, u, v], upd H1 D (.lst []) w ≠ none := by
      intro w hw
      simp only [List.mem_cons, List.not_mem_nil, or_false] at hw
      rcases hw with rfl | rfl | rfl
      · exact ne_of_some ((upd_ne (ne_of_none g1 hD)).trans g1)
      · exact ne_of_some ((upd_ne (ne_of_none g2 hD)).trans g2)
      · exact ne_of_some ((upd_ne (ne_of_none g3 hD)).trans g3)
    have tD : upd H1 D (.lst []) D ≠ none := ne_of_some upd_same
    have ht1 := F2.free ht
    have hq1 := F2.free hq
    refine lc_end (f4.get hacc nD) hl (by omega) ⟨?_, ?_, ?_, ?_⟩
    · refine Fr.loc (F.comp f4 fun w m => ?_) (F1.free hD)
      simp only [List.mem_cons, List.not_mem_nil, or_false] at m
      rcases m with rfl | rfl | rfl
      · exact .inr hx
      · exact .inr hu0
      · exact .inr hv0
    · refine (F2.trans (f4.mono (W' := [x, u, v, D]) fun w m => ?_)).trans (Fr.at (by simp))
      simp only [List.mem_cons, List.not_mem_nil, or_false] at m ⊢
      rcases m with h | h | h <;> simp [h]
    · rw [take_snoc hz', endAll_app]
      exact D4.keep (W := [D]) (Fr.at (by simp)) (by simp; exact fun e => nD (by simp [e])) (by simp; exact fun e => nD (by simp [e])) (by simp; exact fun e => nD (by simp [e]))
    · rw [take_snoc hz', askAll_app]
      refine TlAt.step (W := [D]) (TlAt.snoc (hn.step tk f4) ht1 hq1 e1 e2) (by simpa using tD) (Fr.at (by simp))
  · rintro D acc H' hD ⟨F, F2, hd, hn⟩ hacc hl
    rw [List.length_map, List.take_length] at hn
    exact k D acc H' F (F1.free hD) hacc ((hn.base (Fr.new hD : Fr [] H1 _)).base F1)

/-! told -/
def sp_told (K : PySem.W.Frag) : Sp := fun vs H Q _ => ∃ (n : Int) (a : Addr) (ns : List Int), vs = [.int n, .ref a] ∧ 1 ≤ n ∧ n ≤ 8 ∧ SqL K H a (ns.map V.int) ∧ RowOk ns ∧
  ∀ p xs H', Fr [] H H' → H p = none → H' p = some (.lst xs) → TlAt H H' xs (askAll (Dl.new n.toNat) ns) → Q (.ref p) H'
theorem c_told {H : Hp} {Q : VK} {E : XK} {n : Int} {a : Addr} {ns : List Int} (n0 : 1 ≤ n) (n8 : n ≤ 8) (h : SqL K H a (ns.map V.int)) (hR : RowOk ns)
    (k : ∀ p xs H', Fr [] H H' → H p = none → H' p = some (.lst xs) → TlAt H H' xs (askAll (Dl.new n.toNat) ns) → Q (.ref p) H') : sp_told K ([.int n, .ref a] ++ []) H Q E := ⟨n, a, ns, rfl, n0, n8, h, hR, k⟩
theorem ok_told (T : Txt K mg ad) : FnOk P w K mg base CX0 5 ad.a_told ad.d_told ["rooms", "row"] (sp_told K) := by
  refine T.F_told.ok sc_told (fun vs H Q E h => ?_) (fun cdv A outer s H vs Q E hr h => ?_)
  · obtain ⟨n, a, ns, rfl, _⟩ := h
    rfl
  obtain ⟨n, a, ns, rfl, n0, n8, hS, hR, k⟩ := h
  refine ⟨_, (pss_cons (ps_expr (pe_call (ok_need_both T) (hr.mono (by decide)) (by rfl) T.m_need_both T.F_need_both.kp T.b_need_both .nil pass0 (pa_cons (pv 0) (pa_cons (pv 1) pa_nil))))
    (pss_one (ps_ret (pe_call (ok_round_told T) (hr.mono (by decide)) (by rfl) T.m_round_told T.F_round_told.kp T.b_round_told .nil pass0 (pa_cons (pv 0) (pa_cons (pv 1) pa_nil)))))), ?_⟩
  walk_at "cwd"
  refine c_need_both n0 n8 hS hR fun H1 f1 => ?_
  walk_at "cwd"
  refine c_round_told n0 n8 (f1.seqL hS) hR fun p xs H2 f2 hp hx hn => ?_
  exact k p xs H2 (f1.trans f2) (f1.free hp) hx (hn.base f1)

theorem ok_toldN (T : Txt K mg ad) : FnOk P w K mg base (L2.CX P w) 5 ad.a_told ad.d_told ["rooms", "row"] (sp_bothN K (cls ad)) := by
  refine T.F_told.okX sc_told (fun vs H Q E h => ?_) (fun cdv A outer s H vs Q E hr h => ?_)
  · obtain ⟨r, a, ns, b, rfl, _⟩ := h
    rfl
  obtain ⟨r, a, ns, b, rfl, hS, hb, k⟩ := h
  refine ⟨_, (pss_first (ps_expr (pe_call (ok_need_bothX T) (hr.mono (by decide)) (by rfl) T.m_need_both T.F_need_both.kp T.b_need_both .nil (passes_call (takes_of rfl rfl rfl rfl) (fun _ _ _ _ h => h)) (pa_cons (pv 0) (pa_cons (pv 1) pa_nil))))), ?_⟩
  try dsimp only [L2.cxOf]
  walk_at "cwx"
  exact .inr (c_bothN hS hb k)
def sp_toldX (K : PySem.W.Frag) (c : Bad → Addr) : Sp := fun vs H Q E => sp_told K vs H Q E ∨ sp_bothN K c vs H Q E
theorem ok_toldX (T : Txt K mg ad) : FnOk P w K mg base (L2.CX P w) 5 ad.a_told ad.d_told ["rooms", "row"] (sp_toldX K (cls ad)) := fn_or (ok_told T) (ok_toldN T) (by decide)

/-! next_ask -/
def sp_next_ask (K : PySem.W.Frag) : Sp := fun vs H Q _ => ∃ (a : Addr) (i : Nat) (y : Int) (ns : List Int), vs = [.ref a, .int i, .int y] ∧ SqL K H a (ns.map V.int) ∧ i ≤ ns.length ∧ ∀ H', Fr [] H H' → Q (.int ((i + (ns.drop i).idxOf y : Nat) : Int)) H'
theorem c_next_ask {H : Hp} {Q : VK} {E : XK} {a : Addr} {i : Nat} {y : Int} {ns : List Int} (h : SqL K H a (ns.map V.int)) (hi : i ≤ ns.length) (k : ∀ H', Fr [] H H' → Q (.int ((i + (ns.drop i).idxOf y : Nat) : Int)) H') :
    sp_next_ask K ([.ref a, .int i, .int y] ++ []) H Q E := ⟨a, i, y, ns, rfl, h, hi, k⟩
theorem ok_next_ask (T : Txt K mg ad) : FnOk P w K mg base CX0 1 ad.a_next_ask ad.d_next_ask ["row", "place", "page"] (sp_next_ask K) := by
  refine T.F_next_ask.ok sc_next_ask (fun vs H Q E h => ?_) (fun cdv A outer s H vs Q E hr h => ?_)
  · obtain ⟨a, i, y, ns, rfl, _⟩ := h
    rfl
  obtain ⟨a, i, y, ns, rfl, hS, hi, k⟩ := h
  refine ⟨_, (pss_one (ps_ret (pe_ifExp (pt_cmpR (kIn K rfl) (pv 2) (pe_slice (kSlL K rfl) (pv 0) (po_some (pv 1)) po_none) (by with_unfolding_all rfl)) (kBM (K := K) rfl (pe_bm PySem.F.plainAttrs_list PySem.F.slot_list_index PySem.F.type_list_index (kIndex3 K rfl) (pv 0) (pa_cons (pv 2) (pa_cons (pv 1) pa_nil)))) (pe_callB (kLen K rfl) (by rfl) T.z_len (by decide +kernel) (pa_cons (pv 0) pa_nil))))), ?_⟩
  walk_at "cwb"
  rename_i sp hsp
  have hS2 := (Fr.new (o := .lst ((ns.drop i).map V.int)) hsp).seqL hS
  walk_at "cw if" <;> intro e
  · walk_at "cwb"
    refine w_index3 hS2 e ?_
    exact k _ (Fr.new hsp)
  · walk_at "cwb"
    have e1 : (ns.map V.int).length = i + (ns.drop i).idxOf y := by
      rw [List.idxOf_eq_length e, List.length_drop, List.length_map]
      omega
    rw [e1]
    exact k _ (Fr.new hsp)

/-! farthest -/
def sp_farthest (K : PySem.W.Frag) : Sp := fun vs H Q _ => ∃ (a : Addr) (i : Nat) (b : Addr) (ns kept : List Int), vs = [.ref a, .int i, .ref b] ∧ SqL K H a (ns.map V.int) ∧ i ≤ ns.length ∧ ns.length ≤ 100 ∧ SqL K H b (kept.map V.int) ∧ kept ≠ [] ∧ kept.length ≤ 100 ∧
  ∀ H', Fr [] H H' → Q (.int (far (ns.drop i) kept)) H'
theorem c_farthest {H : Hp} {Q : VK} {E : XK} {a : Addr} {i : Nat} {b : Addr} {ns kept : List Int} (h : SqL K H a (ns.map V.int)) (hi : i ≤ ns.length) (hl : ns.length ≤ 100) (hb : SqL K H b (kept.map V.int)) (hk : kept ≠ []) (hkl : kept.length ≤ 100)
    (k : ∀ H', Fr [] H H' → Q (.int (far (ns.drop i) kept)) H') : sp_farthest K ([.ref a, .int i, .ref b] ++ []) H Q E := ⟨a, i, b, ns, kept, rfl, h, hi, hl, hb, hk, hkl, k⟩
theorem ok_farthest (T : Txt K mg ad) : FnOk P w K mg base CX0 2 ad.a_farthest ad.d_farthest ["row", "place", "kept"] (sp_farthest K) := by
  refine T.F_farthest.ok sc_farthest (fun vs H Q E h => ?_) (fun cdv A outer s H vs Q E hr h => ?_)
  · obtain ⟨a, i, b, ns, kept, rfl, _⟩ := h
    rfl
  obtain ⟨a, i, b, ns, kept, rfl, hS, hi, hl, hb, hk, hkl, k⟩ := h
  refine ⟨_, (pss_one (ps_ret (pe_ix (kIxT K rfl) (pe_callB (kMinD K rfl rfl hr.units) (by rfl) T.z_min (by decide +kernel) (pa_cons (pe_lc (own := [("page", 3)]) (by rfl) sc_farthest.nd (kIL (K := K) rfl (pi_list (pv 2))) (blkOk_by (own := [("page", 3)]) (N := N_farthest) (sc := defScope s_farthest) (by decide +kernel)) (fun _ _ _ _ _ => (pg_name (i := 3) sc_farthest.nd rfl (by first | exact Or.inl rfl | exact Or.inr rfl))) (fun _ _ _ _ _ => pts_nil) (fun _ _ _ _ _ => (pe_tup (pa_cons (pe_op op_sub pe_int (pe_call (ok_next_ask T) (hr.mono (by decide)) (by rfl) T.m_next_ask T.F_next_ask.kp T.b_next_ask .nil pass0 (pa_cons (pv 0) (pa_cons (pv 1) (pa_cons (pv 3) pa_nil))))) (pa_cons (pv 3) pa_nil))))) pa_nil)) pe_int (fun _ _ => rfl)))), ?_⟩
  walk_at "cwb"
  refine l_list (kept.map V.int) hb (fun D j acc H' => Fr [] H H' ∧ PairsAt H H' acc ((kept.take j).map fun y => (0 - ((i + (ns.drop i).idxOf y : Nat) : Int), y))) (fun D hD => ⟨Fr.new hD, .nil⟩) (fun D j acc H' hD h _ => h.1.seqL hb) ?_ ?_
  · rintro D j x acc H' hD hj ⟨F, hn⟩ hacc hla
    obtain ⟨y, hy, rfl⟩ := int_at hj
    walk_at "cwb"
    refine c_next_ask (F.seqL hS) hi fun H2 f2 => ?_
    walk_at "cwb"
    rename_i t ht
    have hDt : D ≠ t := ne_n ht (f2.get0 hacc)
    refine lc_end ((upd_ne hDt).trans (f2.get0 hacc)) hla (by have := (List.getElem?_eq_some_iff.mp hy).1; omega) ⟨((F.trans f2).trans (Fr.new ht)).loc hD, ?_⟩
    rw [take_snoc hy, List.map_append]
    refine PairsAt.snoc ?_ ((F.trans f2).free ht) ((upd_ne (ne_s hDt)).trans upd_same)
    refine (hn.fr (W := []) (f2.trans (Fr.new ht)) (by simp)).fr (W := [D]) (Fr.at (List.mem_singleton.mpr rfl)) fun w hw => ?_
    rw [List.mem_singleton.mp hw]
    exact ⟨acc, (upd_ne hDt).trans (f2.get0 hacc)⟩
  · rintro D acc H' hD ⟨F, hn⟩ hacc hla
    rw [List.length_map, List.take_length] at hn
    walk_at "cwb"
    have hf := far_spec (ns.drop i) hk
    refine w_minP (SqL.of hacc) hn.nwa.now (List.mem_map.mpr ⟨far (ns.drop i) kept, hf.1, rfl⟩) ?_ fun t ht => ?_
    · intro y hy
      obtain ⟨x, hx, rfl⟩ := List.mem_map.mp hy
      have := hf.2 x hx
      simp only
      omega
    · walk_at "cwb"
      exact k H' F

/-! gone_through -/
def sp_gone_through (K : PySem.W.Frag) : Sp := fun vs H Q _ => ∃ (n : Int) (a : Addr) (ns : List Int), vs = [.int n, .ref a] ∧ 1 ≤ n ∧ n ≤ 8 ∧ SqL K H a (ns.map V.int) ∧ ns.length ≤ 100 ∧
  ∀ t l g xs H', Fr [] H H' → H t = none → H l = none → H g = none → l ≠ g → H' t = some (.tup [.ref l, .ref g]) → H' l = some (.lst ((bst n.toNat ns ns).lacks.map V.int)) → H' g = some (.lst xs) → PairsAt H H' xs (bst n.toNat ns ns).gone → Q (.ref t) H'
theorem c_gone_through {H : Hp} {Q : VK} {E : XK} {n : Int} {a : Addr} {ns : List Int} (n0 : 1 ≤ n) (n8 : n ≤ 8) (h : SqL K H a (ns.map V.int)) (hl : ns.length ≤ 100)
    (k : ∀ t l g xs H', Fr [] H H' → H t = none → H l = none → H g = none → l ≠ g → H' t = some (.tup [.ref l, .ref g]) → H' l = some (.lst ((bst n.toNat ns ns).lacks.map V.int)) → H' g = some (.lst xs) → PairsAt H H' xs (bst n.toNat ns ns).gone → Q (.ref t) H') :
    sp_gone_through K ([.int n, .ref a] ++ []) H Q E := ⟨n, a, ns, rfl, n0, n8, h, hl, k⟩
def goneI (H0 : Hp) (n : Int) (a kp l g : Addr) (v5 v6 : Option V) (kept lacks : List Int) (gone : List (Int × Int)) : L2.St → Hp → Prop := fun σ H => ∃ (xs : List V), σ = [some (.int n), some (.ref a), some (.ref kp), some (.ref l), some (.ref g), v5, v6] ∧
  Fr [] H0 H ∧ H kp = some (.lst (kept.map V.int)) ∧ H l = some (.lst (lacks.map V.int)) ∧ H g = some (.lst xs) ∧ PairsAt H0 H xs gone
theorem goneI.gl {H0 H : Hp} {n : Int} {a kp l g : Addr} {v5 v6 : Option V} {kept lacks : List Int} {gone : List (Int × Int)} {σ : L2.St} (h : goneI H0 n a kp l g v5 v6 kept lacks gone σ H) : True := trivial
theorem ok_gone_through (T : Txt K mg ad) : FnOk P w K mg base CX0 3 ad.a_gone_through ad.d_gone_through ["rooms", "row"] (sp_gone_through K) := by
  refine T.F_gone_through.ok sc_gone_through (fun vs H Q E h => ?_) (fun cdv A outer s H vs Q E hr h => ?_)
  · obtain ⟨n, a, ns, rfl, _⟩ := h
    rfl
  obtain ⟨n, a, ns, rfl, n0, n8, hS, hl, k⟩ := h
  refine ⟨_, (pss_cons (ps_set (i := 2) sc_gone_through.nd rfl (by first | exact Or.inl rfl | exact Or.inr rfl) (pe_lst pa_nil))
    (pss_cons (ps_set (i := 3) sc_gone_through.nd rfl (by first | exact Or.inl rfl | exact Or.inr rfl) (pe_lst pa_nil))
    (pss_cons (ps_set (i := 4) sc_gone_through.nd rfl (by first | exact Or.inl rfl | exact Or.inr rfl) (pe_lst pa_nil))
    (pss_cons (ps_for PassesOwn.never rfl (kIE (K := K) rfl (pi_enum (by rfl) T.z_enumerate (pa_cons (pv 1) pa_nil))) (kTup (K := K) (n := 2) rfl (pg_tup (by rfl) (pgs_cons (pg_name (i := 5) sc_gone_through.nd rfl (by first | exact Or.inl rfl | exact Or.inr rfl)) (pgs_cons (pg_name (i := 6) sc_gone_through.nd rfl (by first | exact Or.inl rfl | exact Or.inr rfl)) pgs_nil)))) (pss_one (ps_if (pt_cmpR (kNi K rfl) (pv 6) (pv 2) (by with_unfolding_all rfl)) (pss_cons (ps_expr (kBM (K := K) rfl (pe_bm PySem.F.plainAttrs_list PySem.F.slot_list_append PySem.F.type_list_append mt_append (pv 3) (pa_cons (pv 5) pa_nil))))
    (C8.pss_cut (ps_if (pt_cmpR op_eq (pe_callB (kLen K rfl) (by rfl) T.z_len (by decide +kernel) (pa_cons (pv 2) pa_nil)) (pv 0) (nomark _)) (pss_cons (ps_expr (kBM (K := K) rfl (pe_bm PySem.F.plainAttrs_list PySem.F.slot_list_append PySem.F.type_list_append mt_append (pv 4) (pa_cons (pe_tup (pa_cons (pv 5) (pa_cons (pe_call (ok_farthest T) (hr.mono (by decide)) (by rfl) T.m_farthest T.F_farthest.kp T.b_farthest .nil pass0 (pa_cons (pv 1) (pa_cons (pv 5) (pa_cons (pv 2) pa_nil)))) pa_nil))) pa_nil))))
    (pss_one (ps_expr (kBM (K := K) rfl (pe_bm PySem.F.plainAttrs_list PySem.F.slot_list_remove PySem.F.type_list_remove mt_remove (pv 2) (pa_cons (pe_ix (kIxT K rfl) (pe_ix (kIxL K rfl) (pv 4) (pe_un un_neg pe_int) (fun _ _ => rfl)) pe_int (fun _ _ => rfl)) pa_nil)))))) pss_nil)
    (pss_one (ps_expr (kBM (K := K) rfl (pe_bm PySem.F.plainAttrs_list PySem.F.slot_list_append PySem.F.type_list_append mt_append (pv 2) (pa_cons (pv 6) pa_nil))))))) pss_nil)))
    (pss_one (ps_ret (pe_tup (pa_cons (pv 3) (pa_cons (pv 4) pa_nil))))))))), ?_⟩
  walk_at "cwb"
  rename_i kp hkp l hl' g hg
  have hk0 : H kp = none := hkp
  have hl0 : H l = none := upd_none hl'
  have hg0 : H g = none := upd_none (upd_none hg)
  have nkl : kp ≠ l := ne_of_none upd_same hl'
  have nlg : l ≠ g := ne_n hg upd_same
  have nkg : kp ≠ g := ne_n hg ((upd_ne nkl).trans upd_same)
  refine f_enum (ns.map V.int) ((((Fr.new hkp).trans (Fr.new hl')).trans (Fr.new hg)).seqL hS) (fun i σ H' => ∃ v5 v6, goneI H n a kp l g v5 v6 (bst n.toNat ns (ns.take i)).kept (bst n.toNat ns (ns.take i)).lacks (bst n.toNat ns (ns.take i)).gone σ H')
    ⟨_, _, [], rfl, ((Fr.new hkp).trans (Fr.new hl')).trans (Fr.new hg), (upd_ne nkg).trans ((upd_ne nkl).trans upd_same), (upd_ne nlg).trans upd_same, upd_same, .nil⟩ (fun i σ H' _ ⟨_, _, _, _, f, _⟩ => f.seqL hS) ?_ ?_
  · rintro i y tt σ H' hi ⟨v5, v6, xs, rfl, F, g1, g2, g3, gp⟩ htt
    obtain ⟨x, hx, rfl⟩ := int_at hi
    have hxl := (List.getElem?_eq_some_iff.mp hx).1
    obtain ⟨b1, b2, b3, b4, b5, b6⟩ := bst_ok (rooms := n.toNat) (by omega) ns (ns.take i)
    have bn : (bst n.toNat ns (ns.take i)).n = i := by rw [b1, List.length_take]; omega
    have hxsl := gp.1
    rw [List.length_take] at b5 b6
    rw [take_snoc hx, bst_snoc]
    generalize bst n.toNat ns (ns.take i) = s at *
    walk_at "cwb"
    walk_at "cw if" <;> intro e
    · walk_at "cwb"
      have nkt : kp ≠ tt := ne_n htt g1
      have nlt : l ≠ tt := ne_n htt g2
      have ngt : g ≠ tt := ne_n htt g3
      generalize hE : upd (upd H' tt (.tup [.int i, .int x])) l (.lst (s.lacks.map V.int ++ [V.int i])) = H5
      have F5 : Fr [] H H5 := hE ▸ (F.trans (Fr.new htt)).loc hl0
      have k1 : H5 kp = some (.lst (s.kept.map V.int)) := hE ▸ (upd_ne nkl).trans ((upd_ne nkt).trans g1)
      have k2 : H5 l = some (.lst ((s.lacks ++ [(i : Int)]).map V.int)) := by rw [← hE, List.map_append]; exact upd_same
      have k3 : H5 g = some (.lst xs) := hE ▸ (upd_ne (ne_s nlg)).trans ((upd_ne ngt).trans g3)
      have kp5 : PairsAt H H5 xs s.gone := hE ▸ (gp.upN htt).upL ((upd_ne nlt).trans g2)
      clear hE
      by_cases e2 : s.kept.length = n.toNat
      · have es : bstep n.toNat ns s x = ⟨s.kept.erase (far (ns.drop s.n) s.kept) ++ [x], s.lacks ++ [(s.n : Int)], s.gone ++ [((s.n : Int), far (ns.drop s.n) s.kept)], s.n + 1⟩ := (if_neg e).trans (if_pos e2)
        rw [es, bn]
        have hne : s.kept ≠ [] := fun z => by rw [z] at e2; simp at e2; omega
        have hf := far_spec (ns.drop i) hne
        refine w_cut (goneI H n a kp l g (some (.int i)) (some (.int x)) (s.kept.erase (far (ns.drop i) s.kept)) (s.lacks ++ [(i : Int)]) (s.gone ++ [((i : Int), far (ns.drop i) s.kept)])) ?_ ?_
        · have hS5 := F5.seqL hS
          walk_at "cwb"
          refine ite_dT (by rw [List.length_map]; omega) ?_
          walk_at "cwb"
          refine c_farthest hS5 (by omega) hl (SqL.of k1) hne (by omega) fun H6 f6 => ?_
          have k1 := f6.get0 k1
          have k2 := f6.get0 k2
          have k3 := f6.get0 k3
          have kp6 := kp5.fr0 f6
          walk_at "cwb"
          rename_i t ht
          have nkt' : kp ≠ t := ne_n ht k1
          have ngt' : g ≠ t := ne_n ht k3
          have nlt' : l ≠ t := ne_n ht k2
          refine w_ixL (SqL.of upd_same) (atI_neg1 List.getLast?_concat) ?_
          walk_at "cwb"
          refine w_remI ((upd_ne nkg).trans ((upd_ne nkt').trans k1)) hf.1 ?_
          walk_at "cwb"
          have kpt : PairsAt H (upd (upd H6 t (.tup [.int i, .int (far (ns.drop i) s.kept)])) g (.lst (xs ++ [.ref t]))) (xs ++ [.ref t]) (s.gone ++ [((i : Int), far (ns.drop i) s.kept)]) :=
            ((kp6.upN ht).upL ((upd_ne ngt').trans k3)).snoc ((F5.trans f6).free ht) ((upd_ne (ne_s ngt')).trans upd_same)
          exact ⟨_, rfl, (((F5.trans f6).trans (Fr.new ht)).loc hg0).loc hk0, upd_same, (upd_ne (ne_s nkl)).trans ((upd_ne nlg).trans ((upd_ne nlt').trans k2)), (upd_ne (ne_s nkg)).trans upd_same,
            kpt.upL ((upd_ne nkg).trans ((upd_ne nkt').trans k1))⟩
        · rintro σ H6 ⟨xs, rfl, F, g1, g2, g3, gp⟩
          have hle : (s.kept.erase (far (ns.drop i) s.kept)).length ≤ 8 := by rw [List.length_erase_of_mem hf.1]; omega
          walk_at "cwb"
          refine ⟨_, _, xs, rfl, F.loc hk0, by rw [List.map_append]; exact upd_same, (upd_ne (ne_s nkl)).trans g2, (upd_ne (ne_s nkg)).trans g3, gp.upL g1⟩
      · have es : bstep n.toNat ns s x = ⟨s.kept ++ [x], s.lacks ++ [(s.n : Int)], s.gone, s.n + 1⟩ := (if_neg e).trans (if_neg e2)
        rw [es, bn]
        refine w_cut (goneI H n a kp l g (some (.int i)) (some (.int x)) s.kept (s.lacks ++ [(i : Int)]) s.gone) ?_ ?_
        · walk_at "cwb"
          refine ite_dF (by rw [List.length_map]; omega) ?_
          walk_at "cwb"
          exact ⟨xs, rfl, F5, k1, k2, k3, kp5⟩
        · rintro σ H6 ⟨xs, rfl, F, g1, g2, g3, gp⟩
          walk_at "cwb"
          refine ⟨_, _, xs, rfl, F.loc hk0, by rw [List.map_append]; exact upd_same, (upd_ne (ne_s nkl)).trans g2, (upd_ne (ne_s nkg)).trans g3, gp.upL g1⟩
    · walk_at "cwb"
      have es : bstep n.toNat ns s x = ⟨s.kept, s.lacks, s.gone, s.n + 1⟩ := if_pos (Classical.not_not.mp e)
      rw [es]
      exact ⟨_, _, xs, rfl, F.trans (Fr.new htt), (upd_ne (ne_n htt g1)).trans g1, (upd_ne (ne_n htt g2)).trans g2, (upd_ne (ne_n htt g3)).trans g3, gp.upN htt⟩
  · rintro σ H' ⟨v5, v6, xs, rfl, F, g1, g2, g3, gp⟩
    rw [List.length_map, List.take_length] at g1 g2 gp
    walk_at "cwb"
    rename_i t ht
    exact k t l g xs _ (F.trans (Fr.new ht)) (F.free ht) hl0 hg0 nlg upd_same ((upd_ne (ne_n ht g2)).trans g2) ((upd_ne (ne_n ht g3)).trans g3) (gp.upN ht)

/-! best -/
def sp_best (K : PySem.W.Frag) : Sp := fun vs H Q _ => ∃ (n : Int) (a : Addr) (ns : List Int), vs = [.int n, .ref a] ∧ 1 ≤ n ∧ n ≤ 8 ∧ SqL K H a (ns.map V.int) ∧ RowOk ns ∧
  ∀ t l g xs H', Fr [] H H' → H t = none → H l = none → H g = none → l ≠ g → H' t = some (.tup [.ref l, .ref g]) → H' l = some (.lst ((bst n.toNat ns ns).lacks.map V.int)) → H' g = some (.lst xs) → PairsAt H H' xs (bst n.toNat ns ns).gone → Q (.ref t) H'
theorem c_best {H : Hp} {Q : VK} {E : XK} {n : Int} {a : Addr} {ns : List Int} (n0 : 1 ≤ n) (n8 : n ≤ 8) (h : SqL K H a (ns.map V.int)) (hR : RowOk ns)
    (k : ∀ t l g xs H', Fr [] H H' → H t = none → H l = none → H g = none → l ≠ g → H' t = some (.tup [.ref l, .ref g]) → H' l = some (.lst ((bst n.toNat ns ns).lacks.map V.int)) → H' g = some (.lst xs) → PairsAt H H' xs (bst n.toNat ns ns).gone → Q (.ref t) H') :
    sp_best K ([.int n, .ref a] ++ []) H Q E := ⟨n, a, ns, rfl, n0, n8, h, hR, k⟩
theorem ok_best (T : Txt K mg ad) : FnOk P w K mg base CX0 4 ad.a_best ad.d_best ["rooms", "row"] (sp_best K) := by
  refine T.F_best.ok sc_best (fun vs H Q E h => ?_) (fun cdv A outer s H vs Q E hr h => ?_)
  · obtain ⟨n, a, ns, rfl, _⟩ := h
    rfl
  obtain ⟨n, a, ns, rfl, n0, n8, hS, hR, k⟩ := h
  refine ⟨_, (pss_cons (ps_expr (pe_call (ok_need_both T) (hr.mono (by decide)) (by rfl) T.m_need_both T.F_need_both.kp T.b_need_both .nil pass0 (pa_cons (pv 0) (pa_cons (pv 1) pa_nil))))
    (pss_one (ps_ret (pe_call (ok_gone_through T) (hr.mono (by decide)) (by rfl) T.m_gone_through T.F_gone_through.kp T.b_gone_through .nil pass0 (pa_cons (pv 0) (pa_cons (pv 1) pa_nil)))))), ?_⟩
  walk_at "cwb"
  refine c_need_both n0 n8 hS hR fun H1 f1 => ?_
  walk_at "cwb"
  refine c_gone_through n0 n8 (f1.seqL hS) hR.1 fun t l g xs H2 f2 h1 h2 h3 hn h4 h5 h6 h7 => ?_
  exact k t l g xs H2 (f1.trans f2) (f1.free h1) (f1.free h2) (f1.free h3) hn h4 h5 h6 (h7.base f1)

theorem ok_bestN (T : Txt K mg ad) : FnOk P w K mg base (L2.CX P w) 5 ad.a_best ad.d_best ["rooms", "row"] (sp_bothN K (cls ad)) := by
  refine T.F_best.okX sc_best (fun vs H Q E h => ?_) (fun cdv A outer s H vs Q E hr h => ?_)
  · obtain ⟨r, a, ns, b, rfl, _⟩ := h
    rfl
  obtain ⟨r, a, ns, b, rfl, hS, hb, k⟩ := h
  refine ⟨_, (pss_first (ps_expr (pe_call (ok_need_bothX T) (hr.mono (by decide)) (by rfl) T.m_need_both T.F_need_both.kp T.b_need_both .nil (passes_call (takes_of rfl rfl rfl rfl) (fun _ _ _ _ h => h)) (pa_cons (pv 0) (pa_cons (pv 1) pa_nil))))), ?_⟩
  try dsimp only [L2.cxOf]
  walk_at "cwx"
  exact .inr (c_bothN hS hb k)
def sp_bestX (K : PySem.W.Frag) (c : Bad → Addr) : Sp := fun vs H Q E => sp_best K vs H Q E ∨ sp_bothN K c vs H Q E
theorem ok_bestX (T : Txt K mg ad) : FnOk P w K mg base (L2.CX P w) 5 ad.a_best ad.d_best ["rooms", "row"] (sp_bestX K (cls ad)) := fn_or (ok_best T) (ok_bestN T) (by decide)

/-! spells_of -/
def sp_spells_of (K : PySem.W.Frag) : Sp := fun vs H Q _ => ∃ (a : Addr) (ns : List Int), vs = [.ref a] ∧ SqL K H a (ns.map V.int) ∧ ns.length ≤ 100 ∧
  ∀ p xs H', Fr [] H H' → H p = none → H' p = some (.lst xs) → PairsAt H H' xs (spellsM ns) → Q (.ref p) H'
theorem c_spells_of {H : Hp} {Q : VK} {E : XK} {a : Addr} {ns : List Int} (h : SqL K H a (ns.map V.int)) (hl : ns.length ≤ 100)
    (k : ∀ p xs H', Fr [] H H' → H p = none → H' p = some (.lst xs) → PairsAt H H' xs (spellsM ns) → Q (.ref p) H') : sp_spells_of K ([.ref a] ++ []) H Q E := ⟨a, ns, rfl, h, hl, k⟩
def spellsI (H0 : Hp) (a d f : Addr) (v3 v4 : Option V) (ns : List Int) (out : List (Int × Int)) : L2.St → Hp → Prop := fun σ H => ∃ (xs : List V) (kvs : List (Key × V)), σ = [some (.ref a), some (.ref d), some (.ref f), v3, v4] ∧
  Fr [] H0 H ∧ H d = some (.dK kvs) ∧ (∀ x : Int, valV kvs (.inl x) = (lastAt ns x).map fun j : Nat => V.int (j : Int)) ∧ kvs.length ≤ ns.length ∧ H f = some (.lst xs) ∧ PairsAt H0 H xs out
theorem ok_spells_of (T : Txt K mg ad) : FnOk P w K mg base CX0 1 ad.a_spells_of ad.d_spells_of ["row"] (sp_spells_of K) := by
  refine T.F_spells_of.ok sc_spells_of (fun vs H Q E h => ?_) (fun cdv A outer s H vs Q E hr h => ?_)
  · obtain ⟨a, ns, rfl, _⟩ := h
    rfl
  obtain ⟨a, ns, rfl, hS, hl, k⟩ := h
  have hu := hu_of hr
  refine ⟨_, (pss_cons (ps_set (i := 1) sc_spells_of.nd rfl (by first | exact Or.inl rfl | exact Or.inr rfl) pe_dnewK)
    (pss_cons (ps_set (i := 2) sc_spells_of.nd rfl (by first | exact Or.inl rfl | exact Or.inr rfl) (pe_lst pa_nil))
    (pss_cons (ps_for PassesOwn.never rfl (kIE (K := K) rfl (pi_enum (by rfl) T.z_enumerate (pa_cons (pv 0) pa_nil))) (kTup (K := K) (n := 2) rfl (pg_tup (by rfl) (pgs_cons (pg_name (i := 3) sc_spells_of.nd rfl (by first | exact Or.inl rfl | exact Or.inr rfl)) (pgs_cons (pg_name (i := 4) sc_spells_of.nd rfl (by first | exact Or.inl rfl | exact Or.inr rfl)) pgs_nil)))) (C8.pss_cut (ps_if (pt_cmp (pc_din hu (pv 4) (pv 1))) (pss_one (ps_expr (kBM (K := K) rfl (pe_bm PySem.F.plainAttrs_list PySem.F.slot_list_append PySem.F.type_list_append mt_append (pv 2) (pa_cons (pe_tup (pa_cons (pe_dget hu (pv 1) (pv 4) (fun _ _ => rfl)) (pa_cons (pv 3) pa_nil))) pa_nil))))) pss_nil)
    (pss_one (ps_dput hu (pv 1) (pv 4) (pv 3) rfl))))
    (pss_one (ps_ret (pv 2)))))), ?_⟩
  walk_at "cwp"
  rename_i d hd f hf
  have hd0 : H d = none := hd
  have hf0 : H f = none := upd_none hf
  have ndf : d ≠ f := ne_of_none upd_same hf
  refine f_enum (ns.map V.int) (((Fr.new hd).trans (Fr.new hf)).seqL hS) (fun i σ H' => ∃ v3 v4, spellsI H a d f v3 v4 (ns.take i) (spellsTo ns i) σ H')
    ⟨_, _, [], [], rfl, (Fr.new hd).trans (Fr.new hf), (upd_ne ndf).trans upd_same, fun x => rfl, Nat.le_refl _, upd_same, .nil⟩ (fun i σ H' _ ⟨_, _, _, _, _, f, _⟩ => f.seqL hS) ?_ ?_
  · rintro i y tt σ H' hi ⟨v3, v4, xs, kvs, rfl, F, g1, hv, hkl, g2, gp⟩ htt
    obtain ⟨x, hx, rfl⟩ := int_at hi
    have hxl := (List.getElem?_eq_some_iff.mp hx).1
    have hsl := spellsTo_len ns i
    have hxsl := gp.1
    have hgd : ns.getD i 0 = x := by rw [List.getD_eq_getElem?_getD, hx]; rfl
    rw [List.length_take] at hkl
    have ndt : d ≠ tt := ne_n htt g1
    have nft : f ≠ tt := ne_n htt g2
    have hvx := hv x
    walk_at "cwp"
    refine w_cut (spellsI H a d f (some (.int i)) (some (.int x)) (ns.take i) (spellsTo ns (i + 1))) ?_ ?_
    · rw [spellsTo_succ]
      walk_at "cwp"
      cases hla : lastAt (ns.take i) x with
      | none =>
        have hv0 : valV kvs (Sum.inl x) = none := by rw [hvx, hla]; rfl
        have hs0 : spellAt ns i = [] := by unfold spellAt; rw [hgd, hla]
        rw [hv0, hs0, List.append_nil]
        walk_at "cwp"
        exact ⟨xs, kvs, rfl, F.trans (Fr.new htt), (upd_ne ndt).trans g1, hv, by rw [List.length_take]; omega, (upd_ne nft).trans g2, gp.upN htt⟩
      | some b =>
        have hv0 : valV kvs (Sum.inl x) = some (V.int (b : Int)) := by rw [hvx, hla]; rfl
        have hs0 : spellAt ns i = [((b : Int), (i : Int))] := by unfold spellAt; rw [hgd, hla]
        rw [hv0, hs0]
        walk_at "cwp"
        rename_i t ht
        have g1' : (upd H' tt (.tup [.int i, .int x])) d = some (.dK kvs) := (upd_ne ndt).trans g1
        have g2' : (upd H' tt (.tup [.int i, .int x])) f = some (.lst xs) := (upd_ne nft).trans g2
        have nft' : f ≠ t := ne_n ht g2'
        have ndt' : d ≠ t := ne_n ht g1'
        refine ⟨_, kvs, rfl, (((F.trans (Fr.new htt)).trans (Fr.new ht)).loc hf0), (upd_ne ndf).trans ((upd_ne ndt').trans g1'), hv, by rw [List.length_take]; omega, upd_same, ?_⟩
        exact (((gp.upN htt).upN ht).upL ((upd_ne nft').trans g2')).snoc ((F.trans (Fr.new htt)).free ht) ((upd_ne (ne_s nft')).trans upd_same)
    · rintro σ H6 ⟨xs, kvs, rfl, F, g1, hv, hkl, g2, gp⟩
      rw [List.length_take] at hkl
      walk_at "cwp"
      refine ⟨_, _, xs, _, rfl, F.loc hd0, upd_same, fun z => ?_, ?_, (upd_ne (ne_s ndf)).trans g2, ?_⟩
      · rw [L2.valV_put, take_snoc hx, lastAt_snoc, hv z, List.length_take, Nat.min_eq_left (by omega)]
        by_cases hz : z = x
        · subst hz; rw [if_pos rfl, if_pos rfl]; rfl
        · rw [if_neg (fun e => hz (Sum.inl.inj e)), if_neg (fun e => hz e.symm)]
      · have := length_putK kvs (Sum.inl x) (V.int i)
        rw [List.length_take]
        omega
      · exact gp.upD g1
  · rintro σ H' ⟨v3, v4, xs, kvs, rfl, F, g1, hv, hkl, g2, gp⟩
    rw [List.length_map] at gp
    walk_at "cwp"
    exact k f xs H' F hf0 g2 gp

/-! between -/
def sp_between (K : PySem.W.Frag) : Sp := fun vs H Q _ => ∃ (a : Addr) (xs : List V) (ps : List (Int × Int)) (lo hi : Int), vs = [.ref a, .int lo, .int hi] ∧ SqL K H a xs ∧ DpAll K H xs (ps.map pairD) ∧ ps.length ≤ 100 ∧
  ∀ H', Fr [] H H' → Q (.int ((ps.filter fun e => decide (lo ≤ e.1 ∧ e.2 ≤ hi)).length : Nat)) H'
theorem c_between {H : Hp} {Q : VK} {E : XK} {a : Addr} {xs : List V} {ps : List (Int × Int)} {lo hi : Int} (h : SqL K H a xs) (hd : DpAll K H xs (ps.map pairD)) (hl : ps.length ≤ 100)
    (k : ∀ H', Fr [] H H' → Q (.int ((ps.filter fun e => decide (lo ≤ e.1 ∧ e.2 ≤ hi)).length : Nat)) H') : sp_between K ([.ref a, .int lo, .int hi] ++ []) H Q E := ⟨a, xs, ps, lo, hi, rfl, h, hd, hl, k⟩
theorem ok_between (T : Txt K mg ad) : FnOk P w K mg base CX0 1 ad.a_between ad.d_between ["spells", "low", "high"] (sp_between K) := by
  refine T.F_between.ok sc_between (fun vs H Q E h => ?_) (fun cdv A outer s H vs Q E hr h => ?_)
  · obtain ⟨a, xs, ps, lo, hi, rfl, _⟩ := h
    rfl
  obtain ⟨a, xs, ps, lo, hi, rfl, hS, hD, hl, k⟩ := h
  refine ⟨_, (pss_one (ps_ret (pe_callB (kLen K rfl) (by rfl) T.z_len (by decide +kernel) (pa_cons (pe_lc (own := [("spell", 3)]) (by rfl) sc_between.nd (kIL (K := K) rfl (pi_list (pv 0))) (blkOk_by (own := [("spell", 3)]) (N := N_between) (sc := defScope s_between) (by decide +kernel)) (fun _ _ _ _ _ => (pg_name (i := 3) sc_between.nd rfl (by first | exact Or.inl rfl | exact Or.inr rfl))) (fun _ _ _ _ _ => pts_one (PW.pt (pw_and (pt_cmpR op_le (pv 1) (pe_ix (kIxT K rfl) (pv 3) pe_int (fun _ _ => rfl)) (nomark _)) (pw_and1 (pt_cmpR op_le (pe_ix (kIxT K rfl) (pv 3) pe_int (fun _ _ => rfl)) (pv 2) (nomark _)))))) (fun _ _ _ _ _ => (pv 3))) pa_nil)))), ?_⟩
  have hxl := dpall_len hD
  rw [List.length_map] at hxl
  walk_at "cwp"
  refine l_list xs hS (fun D i acc H' => Fr [] H H' ∧ acc.length = ((ps.take i).filter fun e => decide (lo ≤ e.1 ∧ e.2 ≤ hi)).length) (fun D hD => ⟨Fr.new hD, by simp⟩) (fun D i acc H' hD h _ => h.1.seqL hS) ?_ ?_
  · rintro D i y acc H' hD' hi' ⟨F, hal⟩ hacc hla
    have hil := (List.getElem?_eq_some_iff.mp hi').1
    obtain ⟨e, he⟩ : ∃ e, ps[i]? = some e := ⟨ps[i], List.getElem?_eq_getElem (by omega)⟩
    obtain ⟨y', hy, hdp⟩ := dpall_get hD (i := i) (d := pairD e) (by rw [List.getElem?_map, he]; rfl)
    rw [hi'] at hy
    cases hy
    obtain ⟨t, rfl, ht⟩ := dp_pair hdp
    have ht' := F.seqT ht
    have ef : (ps.take (i + 1)).filter (fun e => decide (lo ≤ e.1 ∧ e.2 ≤ hi)) = (ps.take i).filter (fun e => decide (lo ≤ e.1 ∧ e.2 ≤ hi)) ++ (if lo ≤ e.1 ∧ e.2 ≤ hi then [e] else []) := by
      rw [take_snoc he, List.filter_append]
      congr 1
      by_cases h : lo ≤ e.1 ∧ e.2 ≤ hi
      · rw [if_pos h]; exact List.filter_cons_of_pos (by simpa using h)
      · rw [if_neg h]; exact List.filter_cons_of_neg (by simpa using h)
    walk_at "cwp"
    walk_at "cw if" <;> intro c1
    · walk_at "cwp"
      walk_at "cw if" <;> intro c2
      · walk_at "cwp"
        refine lc_end hacc hla (by omega) ⟨F.loc hD', ?_⟩
        rw [ef, if_pos ⟨c1, c2⟩, List.length_append, List.length_append, hal]
        rfl
      · exact ⟨acc, ⟨F, by rw [ef, if_neg (fun z => c2 z.2), List.append_nil]; exact hal⟩, hacc, by omega⟩
    · walk_at "cwp"
      exact ⟨acc, ⟨F, by rw [ef, if_neg (fun z => c1 z.1), List.append_nil]; exact hal⟩, hacc, by omega⟩
  · rintro D acc H' hD' ⟨F, hal⟩ hacc hla
    rw [hxl, List.take_length] at hal
    walk_at "cwp"
    rw [hal]
    exact k H' F

/-! least_paper -/
def sp_least_paper (K : PySem.W.Frag) : Sp := fun vs H Q _ => ∃ (n : Int) (a : Addr) (ns : List Int), vs = [.int n, .ref a] ∧ 1 ≤ n ∧ n ≤ 8 ∧ SqL K H a (ns.map V.int) ∧ ns.length ≤ 100 ∧
  ∀ p ps c H', Fr [] H H' → H p = none → H' p = some (.lst (ps.map V.int)) → Known n.toNat ns ns.length (c, ps) → Q (.ref p) H'
theorem c_least_paper {H : Hp} {Q : VK} {E : XK} {n : Int} {a : Addr} {ns : List Int} (n0 : 1 ≤ n) (n8 : n ≤ 8) (h : SqL K H a (ns.map V.int)) (hl : ns.length ≤ 100)
    (k : ∀ p ps c H', Fr [] H H' → H p = none → H' p = some (.lst (ps.map V.int)) → Known n.toNat ns ns.length (c, ps) → Q (.ref p) H') : sp_least_paper K ([.int n, .ref a] ++ []) H Q E := ⟨n, a, ns, rfl, n0, n8, h, hl, k⟩
theorem ok_least_paper (T : Txt K mg ad) : FnOk P w K mg base CX0 2 ad.a_least_paper ad.d_least_paper ["rooms", "row"] (sp_least_paper K) := by
  refine T.F_least_paper.ok sc_least_paper (fun vs H Q E h => ?_) (fun cdv A outer s H vs Q E hr h => ?_)
  · obtain ⟨n, a, ns, rfl, _⟩ := h
    rfl
  obtain ⟨n, a, ns, rfl, n0, n8, hS, hl, k⟩ := h
  refine ⟨_, (pss_cons (ps_set (i := 2) sc_least_paper.nd rfl (by first | exact Or.inl rfl | exact Or.inr rfl) (pe_call (ok_spells_of T) (hr.mono (by decide)) (by rfl) T.m_spells_of T.F_spells_of.kp T.b_spells_of .nil pass0 (pa_cons (pv 1) pa_nil)))
    (pss_cons (ps_set (i := 3) sc_least_paper.nd rfl (by first | exact Or.inl rfl | exact Or.inr rfl) (pe_lst (pa_cons (pe_tup (pa_cons pe_int (pa_cons (pe_lst pa_nil) pa_nil))) pa_nil)))
    (pss_cons (ps_for PassesOwn.never rfl (pi_range2 (by rfl) T.z_range (pa_cons pe_int (pa_cons (pe_op op_add (pe_callB (kLen K rfl) (by rfl) T.z_len (by decide +kernel) (pa_cons (pv 1) pa_nil)) pe_int) pa_nil))) (pg_name (i := 4) sc_least_paper.nd rfl (by first | exact Or.inl rfl | exact Or.inr rfl)) (pss_cons (ps_set (i := 5) sc_least_paper.nd rfl (by first | exact Or.inl rfl | exact Or.inr rfl) (pe_lst pa_nil))
    (pss_cons (ps_for PassesOwn.never rfl (pi_range1 (by rfl) T.z_range (pa_cons (pv 4) pa_nil)) (pg_name (i := 6) sc_least_paper.nd rfl (by first | exact Or.inl rfl | exact Or.inr rfl)) (pss_cons (ps_asg (pe_ix (kIxL K rfl) (pv 3) (pv 6) (fun _ _ => rfl)) (kTup (K := K) (n := 2) rfl (pg_tup (by rfl) (pgs_cons (pg_name (i := 8) sc_least_paper.nd rfl (by first | exact Or.inl rfl | exact Or.inr rfl)) (pgs_cons (pg_name (i := 9) sc_least_paper.nd rfl (by first | exact Or.inl rfl | exact Or.inr rfl)) pgs_nil)))))
    (pss_cons (ps_set (i := 7) sc_least_paper.nd rfl (by first | exact Or.inl rfl | exact Or.inr rfl) (pe_op op_mul (pe_op op_sub (pv 0) pe_int) (pe_callTy cr_int (by rfl) T.z_int (by decide +kernel) (pa_cons (pe_cmpR op_lt (pv 4) (pe_callB (kLen K rfl) (by rfl) T.z_len (by decide +kernel) (pa_cons (pv 1) pa_nil)) (nomark _)) pa_nil))))
    (pss_one (ps_expr (kBM (K := K) rfl (pe_bm PySem.F.plainAttrs_list PySem.F.slot_list_append PySem.F.type_list_append mt_append (pv 5) (pa_cons (pe_tup (pa_cons (pe_op op_add (pe_op op_add (pv 8) (pe_call (ok_between T) (hr.mono (by decide)) (by rfl) T.m_between T.F_between.kp T.b_between .nil pass0 (pa_cons (pv 2) (pa_cons (pv 6) (pa_cons (pv 4) pa_nil))))) (pv 7)) (pa_cons (pe_op op_cat (pv 9) (pe_op op_rep (pe_lst (pa_cons (pv 4) pa_nil)) (pe_callTy cr_int (by rfl) T.z_int (by decide +kernel) (pa_cons (pe_cmpR op_lt (pv 4) (pe_callB (kLen K rfl) (by rfl) T.z_len (by decide +kernel) (pa_cons (pv 1) pa_nil)) (nomark _)) pa_nil)))) pa_nil))) pa_nil))))))))
    (pss_one (ps_expr (kBM (K := K) rfl (pe_bm PySem.F.plainAttrs_list PySem.F.slot_list_append PySem.F.type_list_append mt_append (pv 3) (pa_cons (pe_callB (kMinD K rfl rfl hr.units) (by rfl) T.z_min (by decide +kernel) (pa_cons (pv 5) pa_nil)) pa_nil))))))))
    (pss_one (ps_ret (pe_ix (kIxT K rfl) (pe_ix (kIxL K rfl) (pv 3) (pe_un un_neg pe_int) (fun _ _ => rfl)) pe_int (fun _ _ => rfl))))))), ?_⟩
  walk_at "cwp"
  refine c_spells_of hS hl fun sp sxs H1 f1 hsp hsx hP => ?_
  walk_at "cwp"
  rename_i l0 hl0 t0 ht0 kk hkk
  have nlt : l0 ≠ t0 := ne_of_none upd_same ht0
  have ntk : t0 ≠ kk := ne_n hkk upd_same
  have nlk : l0 ≠ kk := ne_n hkk ((upd_ne nlt).trans upd_same)
  have F2 : Fr [] H1 (upd (upd (upd H1 l0 (.lst [])) t0 (.tup [.int 0, .ref l0])) kk (.lst [.ref t0])) := ((Fr.new hl0).trans (Fr.new ht0)).trans (Fr.new hkk)
  have gk : (upd (upd (upd H1 l0 (.lst [])) t0 (.tup [.int 0, .ref l0])) kk (.lst [.ref t0])) kk = some (.lst [.ref t0]) := upd_same
  have gt : (upd (upd (upd H1 l0 (.lst [])) t0 (.tup [.int 0, .ref l0])) kk (.lst [.ref t0])) t0 = some (.tup [.int 0, .ref l0]) := (upd_ne ntk).trans upd_same
  have gl : (upd (upd (upd H1 l0 (.lst [])) t0 (.tup [.int 0, .ref l0])) kk (.lst [.ref t0])) l0 = some (.lst ([].map V.int)) := (upd_ne nlk).trans ((upd_ne nlt).trans upd_same)
  have kk0 : H1 kk = none := upd_none (upd_none hkk)
  have t00 : H1 t0 = none := upd_none ht0
  generalize (upd (upd (upd H1 l0 (.lst [])) t0 (.tup [.int 0, .ref l0])) kk (.lst [.ref t0])) = H2 at *
  have C0 : CutsAt [kk] H1 H2 ([] ++ [.ref t0]) ([] ++ [(0, [])]) := CutsAt.nil.snoc t00 hl0 (by simpa using ntk) (by simpa using nlk) gt gl
  have hml : (ns.map V.int).length = ns.length := List.length_map _
  have hpl := hP.1
  have hspl : (spellsM ns).length ≤ 100 := by have := spellsTo_len ns ns.length; unfold spellsM; omega
  refine f_rng2 (by omega) (by omega) (by omega) (by omega) (fun i σ H' => ∃ kxs kn v4 v5 v6 v7 v8 v9, σ = [some (.int n), some (.ref a), some (.ref sp), some (.ref kk), v4, v5, v6, v7, v8, v9] ∧ Fr [] H1 H' ∧ H' kk = some (.lst kxs) ∧ CutsAt [kk] H1 H' kxs kn ∧
    kn.length = i + 1 ∧ ∀ (j : Nat) (e : Int × List Int), kn[j]? = some e → Known n.toNat ns j e) ⟨_, _, _, _, _, _, _, _, rfl, F2, gk, C0, rfl, ?_⟩ ?_ ?_
  · intro j e he
    match j, he with
    | 0, he =>
      obtain rfl := Option.some.inj he
      exact known_zero _ _
  · rintro i σ H3 hi ⟨kxs, kn, v4, v5, v6, v7, v8, v9, rfl, F3, g3, C3, hkl, hkn⟩
    have hkx := C3.1
    walk_at "cwp"
    rename_i sm hsm
    have nks : kk ≠ sm := ne_n hsm g3
    have F4 : Fr [] H1 (upd H3 sm (.lst [])) := F3.trans (Fr.new hsm)
    have g4 : (upd H3 sm (.lst [])) kk = some (.lst kxs) := (upd_ne nks).trans g3
    have s4 : (upd H3 sm (.lst [])) sm = some (.lst []) := upd_same
    have sm0 : H1 sm = none := F3.free hsm
    have C4 : CutsAt [sm, kk] H1 (upd H3 sm (.lst [])) kxs kn := (C3.add hsm).fr0 (Fr.new hsm)
    generalize upd H3 sm (.lst []) = H4 at *
    have e1 : (1 : Int) + (i : Int) = ((i + 1 : Nat) : Int) := by omega
    rw [e1]
    refine f_rng1 (by omega) (by omega) (fun j σ H' => ∃ ys v6 v7 v8 v9, σ = [some (.int n), some (.ref a), some (.ref sp), some (.ref kk), some (.int (i + 1 : Nat)), some (.ref sm), v6, v7, v8, v9] ∧ Fr [] H1 H' ∧ H' kk = some (.lst kxs) ∧ H' sm = some (.lst ys) ∧
      CutsAt [sm, kk] H1 H' kxs kn ∧ CutsAt [sm, kk] H1 H' ys (edges n.toNat ns kn (i + 1) j)) ⟨[], _, _, _, _, rfl, F4, g4, s4, C4, .nil⟩ ?_ ?_
    · rintro j σ H5 hj ⟨ys, v6, v7, v8, v9, rfl, F5, g5, s5, C5, D5⟩
      obtain ⟨e, he⟩ : ∃ e, kn[j]? = some e := ⟨kn[j], List.getElem?_eq_getElem (by omega)⟩
      obtain ⟨t, l, x1, x2, x3, x4, x5, x6, x7⟩ := C5.2 j e he
      have hat : atI kxs (j : Int) = some (.ref t) := atI_nat x1
      have hS5 := (f1.trans F5).seqL hS
      have hyl := D5.1
      rw [edges_len] at hyl
      walk_at "cwp"
      have hpo := path_ok (hkn j e he).1
      have hel : e.2.length ≤ 100 := by
        have := rising_len e.2 0 (ns.length : Int) hpo.up (fun x hx => by have := hpo.mem x hx; omega) (by omega)
        omega
      refine c_between (SqL.of (F5.get0 hsx)) (hP.fr0 F5).nwa.now hspl fun H6 f6 => ?_
      rw [show ((spellsM ns).filter fun e => decide ((j : Int) ≤ e.1 ∧ e.2 ≤ ((i + 1 : Nat) : Int))).length = btw ns j (i + 1) from rfl]
      have g6 := f6.get0 g5
      have s6 := f6.get0 s5
      have l6 := f6.get0 x7
      have hS6 := f6.seqL hS5
      walk_at "cwp"
      rename_i hl1 hhl1
      have hb : (decide (((i + 1 : Nat) : Int) < ((ns.map V.int).length : Int))) = decide (i + 1 < ns.length) := by
        by_cases h : i + 1 < ns.length
        · rw [decide_eq_true h, decide_eq_true (by omega)]
        · rw [decide_eq_false h, decide_eq_false (by omega)]
      rw [hb]
      have nll : l ≠ hl1 := ne_n hhl1 l6
      refine w_rep1 upd_same (by split <;> omega) (by split <;> omega) fun rp hrp => ?_
      have er : List.replicate (if decide (i + 1 < ns.length) = true then (1 : Int) else 0).toNat (V.int ((i + 1 : Nat) : Int)) = (if i + 1 < ns.length then [((i + 1 : Nat) : Int)] else []).map V.int := by
        by_cases h : i + 1 < ns.length
        · rw [if_pos h, if_pos (decide_eq_true h)]; rfl
        · rw [if_neg h, if_neg (by simpa using h)]; rfl
      rw [er]
      have F7 : Fr [] H6 (upd (upd H6 hl1 (.lst [V.int (i + 1 : Nat)])) rp (.lst ((if i + 1 < ns.length then [((i + 1 : Nat) : Int)] else []).map V.int))) := (Fr.new hhl1).trans (Fr.new hrp)
      have r7 : (upd (upd H6 hl1 (.lst [V.int (i + 1 : Nat)])) rp (.lst ((if i + 1 < ns.length then [((i + 1 : Nat) : Int)] else []).map V.int))) rp = some (.lst ((if i + 1 < ns.length then [((i + 1 : Nat) : Int)] else []).map V.int)) := upd_same
      generalize (upd (upd H6 hl1 (.lst [V.int (i + 1 : Nat)])) rp (.lst ((if i + 1 < ns.length then [((i + 1 : Nat) : Int)] else []).map V.int))) = H7 at *
      have hrl : ((if i + 1 < ns.length then [((i + 1 : Nat) : Int)] else []).map V.int).length ≤ 1 := by split <;> simp
      refine w_cat (F7.get0 l6) r7 (sz_le (by rw [List.length_map]; omega)) fun np hnp => ?_
      rw [← List.map_append]
      walk_at "cwp"
      rename_i tp htp
      have t8 := (upd_same (H := upd H7 np (.lst ((e.2 ++ if i + 1 < ns.length then [((i + 1 : Nat) : Int)] else []).map V.int))) (a := tp) (o := .tup [.int (e.1 + (btw ns j (i + 1) : Int) + (n - 1) * (if decide (i + 1 < ns.length) = true then 1 else 0)), .ref np]))
      have F57 := f6.trans F7
      have F8 : Fr [] H5 (upd (upd H7 np (.lst ((e.2 ++ if i + 1 < ns.length then [((i + 1 : Nat) : Int)] else []).map V.int))) tp (.tup [.int (e.1 + (btw ns j (i + 1) : Int) + (n - 1) * (if decide (i + 1 < ns.length) = true then 1 else 0)), .ref np])) := (F57.trans (Fr.new hnp)).trans (Fr.new htp)
      have nnt : np ≠ tp := ne_n htp upd_same
      have n8 : (upd (upd H7 np (.lst ((e.2 ++ if i + 1 < ns.length then [((i + 1 : Nat) : Int)] else []).map V.int))) tp (.tup [.int (e.1 + (btw ns j (i + 1) : Int) + (n - 1) * (if decide (i + 1 < ns.length) = true then 1 else 0)), .ref np])) np = some (.lst ((e.2 ++ if i + 1 < ns.length then [((i + 1 : Nat) : Int)] else []).map V.int)) := (upd_ne nnt).trans upd_same
      have np0 : H5 np = none := F57.free hnp
      have tp0 : H5 tp = none := (F57.trans (Fr.new hnp)).free htp
      generalize (upd (upd H7 np (.lst ((e.2 ++ if i + 1 < ns.length then [((i + 1 : Nat) : Int)] else []).map V.int))) tp (.tup [.int (e.1 + (btw ns j (i + 1) : Int) + (n - 1) * (if decide (i + 1 < ns.length) = true then 1 else 0)), .ref np])) = H8 at *
      have s8 := F8.get0 s5
      have g8 := F8.get0 g5
      have nA : ∀ z, H5 z = none → z ∉ [sm, kk] := fun z hz m => by
        rcases List.mem_cons.mp m with m | m
        · rw [m, s5] at hz; cases hz
        · rw [List.mem_singleton.mp m, g5] at hz; cases hz
      refine ⟨ys ++ [.ref tp], _, _, _, _, rfl, (F5.trans F8).loc sm0, (upd_ne nks).trans g8, upd_same, (C5.fr0 F8).fr (W := [sm]) (Fr.at (by simp)) (by simp), ?_⟩
      rw [edges_succ, show kn.getD j (0, []) = e from by rw [List.getD_eq_getElem?_getD, he]; rfl]
      have ee : edge n.toNat ns e j (i + 1) = (e.1 + (btw ns j (i + 1) : Int) + (n - 1) * (if decide (i + 1 < ns.length) = true then 1 else 0), e.2 ++ if i + 1 < ns.length then [((i + 1 : Nat) : Int)] else []) := by
        unfold edge
        have : (n.toNat : Int) = n := by omega
        rw [this]
        by_cases h : i + 1 < ns.length
        · rw [if_pos h, if_pos h, if_pos (decide_eq_true h), Int.mul_one]
        · rw [if_neg h, if_neg h, if_neg (by simpa using h), Int.mul_zero]
      rw [ee]
      exact ((D5.fr0 F8).snoc (F5.free tp0) (F5.free np0) (nA _ tp0) (nA _ np0) t8 n8).fr (W := [sm]) (Fr.at (by simp)) (by simp)
    · rintro σ H5 ⟨ys, v6, v7, v8, v9, rfl, F5, g5, s5, C5, D5⟩
      have e2 : ((i + 1 : Nat) : Int).toNat = i + 1 := Int.toNat_natCast _
      rw [e2] at D5
      walk_at "cwp"
      obtain ⟨k, ks, hks⟩ : ∃ k ks, edges n.toNat ns kn (i + 1) (i + 1) = k :: ks := by
        cases h : edges n.toNat ns kn (i + 1) (i + 1) with
        | nil => have := edges_len n.toNat ns kn (i + 1) (i + 1); rw [h] at this; cases this
        | cons k ks => exact ⟨k, ks, rfl⟩
      have hmin := known_min (Nat.succ_pos i) (by omega) hkl hkn hks
      rw [hks] at D5
      refine w_minC (SqL.of s5) D5 fun m v hv hm => ?_
      obtain ⟨t, l, y1, y2, y3, y4, y5, y6, y7⟩ := D5.2 m _ hm
      rw [hv] at y1
      obtain rfl := Option.some.inj y1
      refine w_nil ?_
      refine w_append g5 (sz_lt (by omega)) ?_
      walk_at "cwp"
      have hsub : ∀ z : Addr, z ∉ [sm, kk] → z ∉ [kk] := fun z hz m => hz (List.mem_cons_of_mem _ m)
      refine ⟨kxs ++ [.ref t], kn ++ [PySem.W.minOf k ks], _, _, _, _, _, _, rfl, F5.loc kk0, upd_same, (((C5.less (by simp)).snoc y2 y3 (hsub _ y4) (hsub _ y5) y6 y7).fr (W := [kk]) (Fr.at (by simp)) (by simp)), by simp [hkl], ?_⟩
      intro j e he
      rcases Nat.lt_or_ge j kn.length with lt | ge
      · rw [List.getElem?_append_left lt] at he
        exact hkn j e he
      · rw [List.getElem?_append_right ge] at he
        have hj : j - kn.length = 0 := by
          have := (List.getElem?_eq_some_iff.mp he).1
          simp at this
          omega
        rw [hj] at he
        obtain rfl := Option.some.inj he
        have : j = i + 1 := by omega
        rw [this]
        exact hmin
  · rintro σ H3 ⟨kxs, kn, v4, v5, v6, v7, v8, v9, rfl, F3, g3, C3, hkl, hkn⟩
    have hlen : kn.length = ns.length + 1 := by omega
    obtain ⟨e, he⟩ : ∃ e, kn[ns.length]? = some e := ⟨kn[ns.length], List.getElem?_eq_getElem (by omega)⟩
    obtain ⟨t, l, y1, y2, y3, y4, y5, y6, y7⟩ := C3.2 _ e he
    have hkx := C3.1
    have hlast : kxs.getLast? = some (.ref t) := by
      rw [List.getLast?_eq_getElem?]
      rw [show kxs.length - 1 = ns.length by omega]
      exact y1
    walk_at "cwp"
    refine w_ixL (SqL.of g3) (atI_neg1 hlast) ?_
    refine w_ixT (SqT.of y6) (atI_nat (j := 1) rfl) ?_
    walk_at "cwp"
    exact k l e.2 e.1 H3 (f1.trans F3) (f1.free y3) y7 (hkn _ e he)

/-! shown_by -/
def sp_shown_by (K : PySem.W.Frag) : Sp := fun vs H Q _ => ∃ (n : Int) (a b : Addr) (ns ps : List Int), vs = [.int n, .ref a, .ref b] ∧ 1 ≤ n ∧ n ≤ 8 ∧ SqL K H a (ns.map V.int) ∧ ns.length ≤ 100 ∧ SqL K H b (ps.map V.int) ∧ ps.length ≤ 100 ∧
  ∀ H', Fr [] H H' → Q (.int (shownM n ns ps)) H'
theorem c_shown_by {H : Hp} {Q : VK} {E : XK} {n : Int} {a b : Addr} {ns ps : List Int} (n0 : 1 ≤ n) (n8 : n ≤ 8) (h : SqL K H a (ns.map V.int)) (hl : ns.length ≤ 100) (hb : SqL K H b (ps.map V.int)) (hp : ps.length ≤ 100)
    (k : ∀ H', Fr [] H H' → Q (.int (shownM n ns ps)) H') : sp_shown_by K ([.int n, .ref a, .ref b] ++ []) H Q E := ⟨n, a, b, ns, ps, rfl, n0, n8, h, hl, hb, hp, k⟩
theorem ok_shown_by (T : Txt K mg ad) : FnOk P w K mg base CX0 2 ad.a_shown_by ad.d_shown_by ["rooms", "row", "places"] (sp_shown_by K) := by
  refine T.F_shown_by.ok sc_shown_by (fun vs H Q E h => ?_) (fun cdv A outer s H vs Q E hr h => ?_)
  · obtain ⟨n, a, b, ns, ps, rfl, _⟩ := h
    rfl
  obtain ⟨n, a, b, ns, ps, rfl, n0, n8, hS, hl, hb, hp, k⟩ := h
  refine ⟨_, (pss_cons (ps_setLc (i := 3) (own := [("spell", 4)]) (by rfl) sc_shown_by.nd rfl rfl (sw_true rfl rfl rfl (by decide +kernel)) (kIL (K := K) rfl (pi_list (pe_call (ok_spells_of T) (hr.mono (by decide)) (by rfl) T.m_spells_of T.F_spells_of.kp T.b_spells_of .nil pass0 (pa_cons (pv 1) pa_nil)))) (blkOk_by (own := [("spell", 4)]) (N := N_shown_by) (sc := defScope s_shown_by) (by decide +kernel)) (fun _ _ _ _ _ => (pg_name (i := 4) sc_shown_by.nd rfl (by first | exact Or.inl rfl | exact Or.inr rfl))) (fun _ _ _ _ _ => pts_one (pt_cmpR (kEqD K rfl hr.units) (pe_lc (own := [("place", 5)]) (by rfl) sc_shown_by.nd (kIL (K := K) rfl (pi_list (pv 2))) (blkOk_by (own := [("place", 5)]) (N := N_shown_by) (sc := (relS { kind := PySem.ScopeKind.function, names := [ (PySem.Str.ofString ".0", PySem.NameKind.local), (PySem.Str.ofString "spell", PySem.NameKind.cell), (PySem.Str.ofString "places", PySem.NameKind.free)], isGenerator := false, isCoroutine := false, more := [] : PySem.Scope } (defScope s_shown_by))) (by decide +kernel)) (fun _ _ _ _ _ => (pg_name (i := 5) sc_shown_by.nd rfl (by first | exact Or.inl rfl | exact Or.inr rfl))) (fun _ _ _ _ _ => pts_one (pt_chain op_lt op_lt (pe_ix (kIxT K rfl) (pv 4) pe_int (fun _ _ => rfl)) (pv 5) (pe_ix (kIxT K rfl) (pv 4) pe_int (fun _ _ => rfl)))) (fun _ _ _ _ _ => (pv 5))) (pe_lst pa_nil) (nomark _))) (fun _ _ _ _ _ => (pv 4)))
    (pss_one (ps_ret (pe_op op_sub (pe_op op_sub (pe_callB (kLen K rfl) (by rfl) T.z_len (by decide +kernel) (pa_cons (pv 1) pa_nil)) (pe_callB (kLen K rfl) (by rfl) T.z_len (by decide +kernel) (pa_cons (pv 3) pa_nil))) (pe_op op_mul (pe_op op_sub (pv 0) pe_int) (pe_callB (kLen K rfl) (by rfl) T.z_len (by decide +kernel) (pa_cons (pv 2) pa_nil))))))), ?_⟩
  walk_at "cwp"
  refine c_spells_of hS hl fun p xs H1 f1 hp0 hx hP => ?_
  walk_at "cwp"
  have hsl := spellsTo_len ns ns.length
  refine l_list xs (SqL.of hx) (fun D i acc H' => Fr [] H1 H' ∧ acc.length = (((spellsM ns).take i).filter (isFree ps)).length) (fun D hD => ⟨Fr.new hD, by simp⟩) (fun D i acc H' hD h _ => SqL.of (h.1.get0 hx)) ?_ ?_
  · rintro D i y acc H' hD hi ⟨F, hal⟩ hacc hla
    have hil := (List.getElem?_eq_some_iff.mp hi).1
    rw [hP.1] at hil
    obtain ⟨e, he⟩ : ∃ e, (spellsM ns)[i]? = some e := ⟨(spellsM ns)[i], List.getElem?_eq_getElem hil⟩
    obtain ⟨t, ht1, ht2, ht3⟩ := hP.2 i e he
    rw [hi] at ht1
    cases ht1
    have htt := F.get0 ht3
    have hb' := (f1.trans F).seqL hb
    have hsp : (spellsM ns).length ≤ 100 := by have := hsl; unfold spellsM; omega
    walk_at "cwp"
    refine l_filter ps (fun p => decide (e.1 < p ∧ p < e.2)) hb' ?_ ?_
    · intro D2 j2 y2 H2 hD2 hy2 F2 I2
      have hj2 := (List.getElem?_eq_some_iff.mp hy2).1
      have ht2' := F2.get0 htt
      walk_at "cwp"
      walk_at "cw if" <;> intro c1
      · walk_at "cwp"
        walk_at "cw if" <;> intro c2
        · walk_at "cwp"
          exact lf_yes I2 hD2 hy2 (decide_eq_true ⟨c1, c2⟩) (by omega) .refl
        · exact lf_no I2 hy2 (decide_eq_false fun z => c2 z.2) .refl
      · walk_at "cwp"
        exact lf_no I2 hy2 (decide_eq_false fun z => c1 z.1) .refl
    · intro D2 H2 hD2 F2 hD2'
      walk_at "cwp"
      rename_i em hem
      have ef : ((spellsM ns).take (i + 1)).filter (isFree ps) = ((spellsM ns).take i).filter (isFree ps) ++ (if isFree ps e = true then [e] else []) := by
        rw [take_snoc he, List.filter_append]
        congr 1
        by_cases h : isFree ps e = true
        · rw [if_pos h, List.filter_cons_of_pos h]; rfl
        · rw [if_neg h, List.filter_cons_of_neg h]; rfl
      have F5 : Fr [] H' (upd H2 em (.lst [])) := F2.trans (Fr.new hem)
      walk_at "cw if" <;> intro c1
      · walk_at "cwp"
        have hfe : isFree ps e = true := decide_eq_true c1
        refine lc_end (F5.get0 hacc) hla (by omega) ⟨(F.trans F5).loc hD, ?_⟩
        rw [ef, if_pos hfe, List.length_append, List.length_append, hal]
        rfl
      · have hfe : isFree ps e = false := decide_eq_false c1
        refine ⟨acc, ⟨F.trans F5, ?_⟩, F5.get0 hacc, by omega⟩
        rw [ef, hfe, hal]
        simp
  · rintro D acc H' hD ⟨F, hal⟩ hacc hla
    have hS' := (f1.trans F).seqL hS
    have hb' := (f1.trans F).seqL hb
    walk_at "cwp"
    rw [hP.1, List.take_length] at hal
    have z := k H' (f1.trans F)
    unfold shownM at z
    rw [List.length_map, List.length_map, hal]
    exact z

/-! spells -/
def sp_spells (K : PySem.W.Frag) : Sp := fun vs H Q _ => ∃ (a : Addr) (ns : List Int), vs = [.ref a] ∧ SqL K H a (ns.map V.int) ∧ RowOk ns ∧
  ∀ p xs H', Fr [] H H' → H p = none → H' p = some (.lst xs) → PairsAt H H' xs (spellsM ns) → Q (.ref p) H'
theorem c_spells {H : Hp} {Q : VK} {E : XK} {a : Addr} {ns : List Int} (h : SqL K H a (ns.map V.int)) (hR : RowOk ns)
    (k : ∀ p xs H', Fr [] H H' → H p = none → H' p = some (.lst xs) → PairsAt H H' xs (spellsM ns) → Q (.ref p) H') : sp_spells K ([.ref a] ++ []) H Q E := ⟨a, ns, rfl, h, hR, k⟩
theorem ok_spells (T : Txt K mg ad) : FnOk P w K mg base CX0 4 ad.a_spells ad.d_spells ["row"] (sp_spells K) := by
  refine T.F_spells.ok sc_spells (fun vs H Q E h => ?_) (fun cdv A outer s H vs Q E hr h => ?_)
  · obtain ⟨a, ns, rfl, _⟩ := h
    rfl
  obtain ⟨a, ns, rfl, hS, hR, k⟩ := h
  refine ⟨_, (pss_cons (ps_expr (pe_call (ok_need_both T) (hr.mono (by decide)) (by rfl) T.m_need_both T.F_need_both.kp T.b_need_both .nil pass0 (pa_cons pe_int (pa_cons (pv 0) pa_nil))))
    (pss_one (ps_ret (pe_call (ok_spells_of T) (hr.mono (by decide)) (by rfl) T.m_spells_of T.F_spells_of.kp T.b_spells_of .nil pass0 (pa_cons (pv 0) pa_nil))))), ?_⟩
  walk_at "cwp"
  refine c_need_both (by omega) (by omega) hS hR fun H1 f1 => ?_
  walk_at "cwp"
  refine c_spells_of (f1.seqL hS) hR.1 fun p xs H2 f2 h1 h2 h3 => ?_
  exact k p xs H2 (f1.trans f2) (f1.free h1) h2 (h3.base f1)

def sp_spellsN (K : PySem.W.Frag) (c : Bad → Addr) : Sp := fun vs H _ E => ∃ (a : Addr) (ns : List Int) (b : Bad), vs = [.ref a] ∧ SqL K H a (ns.map V.int) ∧ BadBoth 1 ns b ∧ Bad.to c b H E
theorem ok_spellsN (T : Txt K mg ad) : FnOk P w K mg base (L2.CX P w) 5 ad.a_spells ad.d_spells ["row"] (sp_spellsN K (cls ad)) := by
  refine T.F_spells.okX sc_spells (fun vs H Q E h => ?_) (fun cdv A outer s H vs Q E hr h => ?_)
  · obtain ⟨a, ns, b, rfl, _⟩ := h
    rfl
  obtain ⟨a, ns, b, rfl, hS, hb, k⟩ := h
  refine ⟨_, (pss_first (ps_expr (pe_call (ok_need_bothX T) (hr.mono (by decide)) (by rfl) T.m_need_both T.F_need_both.kp T.b_need_both .nil (passes_call (takes_of rfl rfl rfl rfl) (fun _ _ _ _ h => h)) (pa_cons pe_int (pa_cons (pv 0) pa_nil))))), ?_⟩
  try dsimp only [L2.cxOf]
  walk_at "cwx"
  exact .inr (c_bothN hS hb k)
def sp_spellsX (K : PySem.W.Frag) (c : Bad → Addr) : Sp := fun vs H Q E => sp_spells K vs H Q E ∨ sp_spellsN K c vs H Q E
theorem ok_spellsX (T : Txt K mg ad) : FnOk P w K mg base (L2.CX P w) 5 ad.a_spells ad.d_spells ["row"] (sp_spellsX K (cls ad)) := fn_or (ok_spells T) (ok_spellsN T) (by decide)

/-! paper -/
def sp_paper (K : PySem.W.Frag) : Sp := fun vs H Q _ => ∃ (n : Int) (a : Addr) (ns : List Int), vs = [.int n, .ref a] ∧ 1 ≤ n ∧ n ≤ 8 ∧ SqL K H a (ns.map V.int) ∧ RowOk ns ∧
  ∀ p ps H', Fr [] H H' → H p = none → H' p = some (.lst (ps.map V.int)) → PapOk ns ps → shownM n ns ps = (bestN n.toNat ns : Int) → Q (.ref p) H'
theorem c_paper {H : Hp} {Q : VK} {E : XK} {n : Int} {a : Addr} {ns : List Int} (n0 : 1 ≤ n) (n8 : n ≤ 8) (h : SqL K H a (ns.map V.int)) (hR : RowOk ns)
    (k : ∀ p ps H', Fr [] H H' → H p = none → H' p = some (.lst (ps.map V.int)) → PapOk ns ps → shownM n ns ps = (bestN n.toNat ns : Int) → Q (.ref p) H') : sp_paper K ([.int n, .ref a] ++ []) H Q E := ⟨n, a, ns, rfl, n0, n8, h, hR, k⟩
theorem ok_paper (T : Txt K mg ad) : FnOk P w K mg base CX0 4 ad.a_paper ad.d_paper ["rooms", "row"] (sp_paper K) := by
  refine T.F_paper.ok sc_paper (fun vs H Q E h => ?_) (fun cdv A outer s H vs Q E hr h => ?_)
  · obtain ⟨n, a, ns, rfl, _⟩ := h
    rfl
  obtain ⟨n, a, ns, rfl, n0, n8, hS, hR, k⟩ := h
  refine ⟨_, (pss_cons (ps_expr (pe_call (ok_need_both T) (hr.mono (by decide)) (by rfl) T.m_need_both T.F_need_both.kp T.b_need_both .nil pass0 (pa_cons (pv 0) (pa_cons (pv 1) pa_nil))))
    (pss_one (ps_ret (pe_call (ok_least_paper T) (hr.mono (by decide)) (by rfl) T.m_least_paper T.F_least_paper.kp T.b_least_paper .nil pass0 (pa_cons (pv 0) (pa_cons (pv 1) pa_nil)))))), ?_⟩
  walk_at "cwp"
  refine c_need_both n0 n8 hS hR fun H1 f1 => ?_
  walk_at "cwp"
  refine c_least_paper n0 n8 (f1.seqL hS) hR.1 fun p ps c H2 f2 hp h2 hk => ?_
  have hb := paper_best (by omega) hk
  have hn : (n.toNat : Int) = n := by omega
  rw [hn] at hb
  walk_at "cwp"
  exact k p ps H2 (f1.trans f2) (f1.free hp) h2 hb.1 hb.2.2

theorem ok_paperN (T : Txt K mg ad) : FnOk P w K mg base (L2.CX P w) 5 ad.a_paper ad.d_paper ["rooms", "row"] (sp_bothN K (cls ad)) := by
  refine T.F_paper.okX sc_paper (fun vs H Q E h => ?_) (fun cdv A outer s H vs Q E hr h => ?_)
  · obtain ⟨r, a, ns, b, rfl, _⟩ := h
    rfl
  obtain ⟨r, a, ns, b, rfl, hS, hb, k⟩ := h
  refine ⟨_, (pss_first (ps_expr (pe_call (ok_need_bothX T) (hr.mono (by decide)) (by rfl) T.m_need_both T.F_need_both.kp T.b_need_both .nil (passes_call (takes_of rfl rfl rfl rfl) (fun _ _ _ _ h => h)) (pa_cons (pv 0) (pa_cons (pv 1) pa_nil))))), ?_⟩
  try dsimp only [L2.cxOf]
  walk_at "cwx"
  exact .inr (c_bothN hS hb k)
def sp_paperX (K : PySem.W.Frag) (c : Bad → Addr) : Sp := fun vs H Q E => sp_paper K vs H Q E ∨ sp_bothN K c vs H Q E
theorem ok_paperX (T : Txt K mg ad) : FnOk P w K mg base (L2.CX P w) 5 ad.a_paper ad.d_paper ["rooms", "row"] (sp_paperX K (cls ad)) := fn_or (ok_paper T) (ok_paperN T) (by decide)

/-! shown -/
def sp_shown (K : PySem.W.Frag) : Sp := fun vs H Q _ => ∃ (n : Int) (a b : Addr) (ns ps : List Int), vs = [.int n, .ref a, .ref b] ∧ 1 ≤ n ∧ n ≤ 8 ∧ SqL K H a (ns.map V.int) ∧ RowOk ns ∧ SqL K H b (ps.map V.int) ∧ PapOk ns ps ∧
  ∀ H', Fr [] H H' → Q (.int (shownM n ns ps)) H'
theorem c_shown {H : Hp} {Q : VK} {E : XK} {n : Int} {a b : Addr} {ns ps : List Int} (n0 : 1 ≤ n) (n8 : n ≤ 8) (h : SqL K H a (ns.map V.int)) (hR : RowOk ns) (hb : SqL K H b (ps.map V.int)) (hp : PapOk ns ps)
    (k : ∀ H', Fr [] H H' → Q (.int (shownM n ns ps)) H') : sp_shown K ([.int n, .ref a, .ref b] ++ []) H Q E := ⟨n, a, b, ns, ps, rfl, n0, n8, h, hR, hb, hp, k⟩
theorem ok_shown (T : Txt K mg ad) : FnOk P w K mg base CX0 4 ad.a_shown ad.d_shown ["rooms", "row", "places"] (sp_shown K) := by
  refine T.F_shown.ok sc_shown (fun vs H Q E h => ?_) (fun cdv A outer s H vs Q E hr h => ?_)
  · obtain ⟨n, a, b, ns, ps, rfl, _⟩ := h
    rfl
  obtain ⟨n, a, b, ns, ps, rfl, n0, n8, hS, hR, hb, hp, k⟩ := h
  refine ⟨_, (pss_cons (ps_expr (pe_call (ok_need_both T) (hr.mono (by decide)) (by rfl) T.m_need_both T.F_need_both.kp T.b_need_both .nil pass0 (pa_cons (pv 0) (pa_cons (pv 1) pa_nil))))
    (pss_cons (ps_if (PW.pt (pw_or (pt_cmpR (kNeD K rfl hr.units) (pv 2) (pe_callB (kSortSet w rfl rfl) (by rfl) T.z_sorted (by decide +kernel) (pa_cons (pe_callTy (kSetL K w rfl rfl rfl) (by rfl) T.z_set (by decide +kernel) (pa_cons (pv 2) pa_nil)) pa_nil)) (nomark _)) (pw_or1 (pt_cmpR (kNeD K rfl hr.units) (pe_lc (own := [("place", 3)]) (by rfl) sc_shown.nd (kIL (K := K) rfl (pi_list (pv 2))) (blkOk_by (own := [("place", 3)]) (N := N_shown) (sc := defScope s_shown) (by decide +kernel)) (fun _ _ _ _ _ => (pg_name (i := 3) sc_shown.nd rfl (by first | exact Or.inl rfl | exact Or.inr rfl))) (fun _ _ _ _ _ => pts_one (pt_not (pt_chain op_le op_lt pe_int (pv 3) (pe_callB (kLen K rfl) (by rfl) T.z_len (by decide +kernel) (pa_cons (pv 1) pa_nil))))) (fun _ _ _ _ _ => (pv 3))) (pe_lst pa_nil) (nomark _))))) (pss_one ps_never) pss_nil)
    (pss_one (ps_ret (pe_call (ok_shown_by T) (hr.mono (by decide)) (by rfl) T.m_shown_by T.F_shown_by.kp T.b_shown_by .nil pass0 (pa_cons (pv 0) (pa_cons (pv 1) (pa_cons (pv 2) pa_nil)))))))), ?_⟩
  walk_at "cwp"
  refine c_need_both n0 n8 hS hR fun H1 f1 => ?_
  have hpl := hp.len hR.1
  have hb1 := f1.seqL hb
  walk_at "cwp"
  rename_i so hso sc hsc sp hsp
  have eu : ps = uniq ps := (uniq_lt hp.1).symm
  refine ite_nF eu ?_
  have F2 : Fr [] H1 (upd (upd H1 so (SetO w so (fun j => decide (j ∈ ps)) sc)) sp (.lst ((uniq ps).map V.int))) := (Fr.new hso).trans (Fr.new hsp)
  have hb2 := F2.seqL hb1
  have hS2 := (f1.trans F2).seqL hS
  generalize (upd (upd H1 so (SetO w so (fun j => decide (j ∈ ps)) sc)) sp (.lst ((uniq ps).map V.int))) = H2 at *
  walk_at "cwp"
  refine l_filter ps (fun _ => false) hb2 ?_ ?_
  · intro D i y H3 hD hy F3 I3
    have hS3 := F3.seqL hS2
    have hyb := hp.2 y (List.mem_of_getElem? hy)
    walk_at "cwp"
    refine ite_nF (by rw [List.length_map]; exact hyb.2) ?_
    exact lf_no I3 hy rfl .refl
  · intro D H3 hD F3 hD3
    have e0 : ps.filter (fun _ => false) = [] := List.filter_eq_nil_iff.mpr (by simp)
    rw [e0] at hD3
    walk_at "cwp"
    rename_i em hem
    have F4 := F3.trans (Fr.new (o := .lst []) hem)
    exact c_shown_by n0 n8 (F4.seqL hS2) hR.1 (F4.seqL hb2) hpl fun H5 f5 => k H5 (((f1.trans F2).trans F4).trans f5)

/-- no rising list of places of the row -/
def PapBad (ns ps : List Int) : Prop := ps ≠ uniq ps ∨ ∃ p ∈ ps, ¬ (0 ≤ p ∧ p < ns.length)
def sp_shownN (K : PySem.W.Frag) (c : Bad → Addr) : Sp := fun vs H _ E => ∃ (r : Int) (a p : Addr) (ns ps : List Int) (b : Bad), vs = [.int r, .ref a, .ref p] ∧ SqL K H a (ns.map V.int) ∧ SqL K H p (ps.map V.int) ∧ ps.length ≤ 100 ∧
  (BadBoth r ns b ∨ (1 ≤ r ∧ r ≤ 8 ∧ RowOk ns ∧ PapBad ns ps ∧ b = .row ns.length)) ∧ Bad.to c b H E
theorem ok_shownN (T : Txt K mg ad) : FnOk P w K mg base (L2.CX P w) 5 ad.a_shown ad.d_shown ["rooms", "row", "places"] (sp_shownN K (cls ad)) := by
  refine T.F_shown.okX sc_shown (fun vs H Q E h => ?_) (fun cdv A outer s H vs Q E hr h => ?_)
  · obtain ⟨r, a, p, ns, ps, b, rfl, _⟩ := h
    rfl
  obtain ⟨r, a, p, ns, ps, b, rfl, hS, hP, hpl, hb, k⟩ := h
  refine ⟨_, (pss_cons (ps_expr (pe_call (ok_need_bothX T) (hr.mono (by decide)) (by rfl) T.m_need_both T.F_need_both.kp T.b_need_both .nil (passes_call (takes_of rfl rfl rfl rfl) (fun _ _ _ _ h => h)) (pa_cons (pv 0) (pa_cons (pv 1) pa_nil))))
    (pss_first (ps_if (PW.pt (pw_or (pt_cmpR (kNeD K rfl hr.units) (pv 2) (pe_callB (kSortSet w rfl rfl) (by rfl) T.z_sorted (by decide +kernel) (pa_cons (pe_callTy (kSetL K w rfl rfl rfl) (by rfl) T.z_set (by decide +kernel) (pa_cons (pv 2) pa_nil)) pa_nil)) (nomark _)) (pw_or1 (pt_cmpR (kNeD K rfl hr.units) (pe_lc (own := [("place", 3)]) (by rfl) sc_shown.nd (kIL (K := K) rfl (pi_list (pv 2))) (blkOk_by (own := [("place", 3)]) (N := N_shown) (sc := defScope s_shown) (by decide +kernel)) (fun _ _ _ _ _ => (pg_name (i := 3) sc_shown.nd rfl (by first | exact Or.inl rfl | exact Or.inr rfl))) (fun _ _ _ _ _ => pts_one (pt_not (pt_chain op_le op_lt pe_int (pv 3) (pe_callB (kLen K rfl) (by rfl) T.z_len (by decide +kernel) (pa_cons (pv 1) pa_nil))))) (fun _ _ _ _ _ => (pv 3))) (pe_lst pa_nil) (nomark _))))) (pss_one (ps_raise rfl (takes_of rfl rfl rfl rfl) (pmk_oex T.ox_BadRow T.ii_BadRow T.ti_BadRow (ok_BadRow_init T) (hr.mono (by decide)) T.b_BadRow_init .nil pass0 (by rfl) T.m_BadRow (pa_cons (pe_callB (kLen K rfl) (by rfl) T.z_len (by decide +kernel) (pa_cons (pv 1) pa_nil)) pa_nil)))) pss_nil))), ?_⟩
  try dsimp only [L2.cxOf]
  walk_at "cwx"
  rcases hb with hb | ⟨n0, n8, hR, hbad, rfl⟩
  · exact .inr (c_bothN hS hb k)
  refine .inl (c_need_both (E := E) n0 n8 hS hR fun H1 f1 => ?_)
  have hb1 := f1.seqL hP
  walk_at "cwx"
  rename_i so hso sc hsc sp hsp
  have F2 : Fr [] H1 (upd (upd H1 so (SetO w so (fun j => decide (j ∈ ps)) sc)) sp (.lst ((uniq ps).map V.int))) := (Fr.new hso).trans (Fr.new hsp)
  have hb2 := F2.seqL hb1
  have hS2 := (f1.trans F2).seqL hS
  have k2 := k.step (f1.trans F2)
  generalize (upd (upd H1 so (SetO w so (fun j => decide (j ∈ ps)) sc)) sp (.lst ((uniq ps).map V.int))) = H2 at *
  have hl100 := hR.1
  walk_at "cw if" <;> intro eu
  · walk_at "cwx"
    dsimp only [tMkO]
    walk_at "cwx"
    refine ⟨by simp, fun b hb => ⟨b, _, rfl, upd_same, fun d h1 h2 => ⟨rfl, d, _, upd_same, (upd_ne h2).trans upd_same, (upd_ne h2).symm.trans h1, ?_⟩⟩⟩
    rw [List.length_map]
    exact row_end k2 rfl hb ((upd_ne h2).symm.trans h1)
  · walk_at "cwx"
    refine l_filter ps (fun z => decide (¬ (0 ≤ z ∧ z < (ns.length : Int)))) hb2 ?_ ?_
    · intro D i y H3 hD hy F3 I3
      have hS3 := F3.seqL hS2
      have hil := (List.getElem?_eq_some_iff.mp hy).1
      walk_at "cwx"
      walk_at "cw if" <;> intro e1
      · walk_at "cwx"
        rw [List.length_map]
        walk_at "cw if" <;> intro e2
        · walk_at "cwx"
          exact lf_yes I3 hD hy (decide_eq_true fun z => e2 z.2) (by omega) .refl
        · exact lf_no I3 hy (decide_eq_false fun z => z ⟨e1, e2⟩) .refl
      · walk_at "cwx"
        exact lf_yes I3 hD hy (decide_eq_true fun z => e1 z.1) (by omega) .refl
    · intro D H3 hD F3 hD3
      walk_at "cwx"
      rename_i em hem
      obtain ⟨z, hz, hzb⟩ := hbad.resolve_left (fun h => h eu)
      have hne : ps.filter (fun z => decide (¬ (0 ≤ z ∧ z < (ns.length : Int)))) ≠ [] := fun e => by
        have := List.filter_eq_nil_iff.mp e z hz
        exact this (decide_eq_true hzb)
      have F4 := F3.trans (Fr.new (o := .lst []) hem)
      have k4 := k2.step F4
      have hS4 := F4.seqL hS2
      walk_at "cwx"
      dsimp only [tMkO]
      walk_at "cwx"
      refine ⟨by simp, fun b hb => ⟨b, _, rfl, upd_same, fun d h1 h2 => ⟨rfl, d, _, upd_same, (upd_ne h2).trans upd_same, (upd_ne h2).symm.trans h1, ?_⟩⟩⟩
      rw [List.length_map]
      exact row_end k4 rfl hb ((upd_ne h2).symm.trans h1)
def sp_shownX (K : PySem.W.Frag) (c : Bad → Addr) : Sp := fun vs H Q E => sp_shown K vs H Q E ∨ sp_shownN K c vs H Q E
theorem ok_shownX (T : Txt K mg ad) : FnOk P w K mg base (L2.CX P w) 5 ad.a_shown ad.d_shown ["rooms", "row", "places"] (sp_shownX K (cls ad)) := fn_or (ok_shown T) (ok_shownN T) (by decide)

/-! need_rule -/
/-- the rules' names -/
def IsRule (z : Str) : Prop := z = Str.ofString "hand" ∨ z = Str.ofString "unseen" ∨ z = Str.ofString "first"
theorem rule_ne1 : ¬ (Str.ofString "unseen" = Str.ofString "hand") := by decide +kernel
theorem rule_ne2 : ¬ (Str.ofString "first" = Str.ofString "hand") := by decide +kernel
theorem rule_ne3 : ¬ (Str.ofString "first" = Str.ofString "unseen") := by decide +kernel
def sp_need_rule : Sp := fun vs H Q _ => ∃ z : Str, vs = [.str z] ∧ IsRule z ∧ Q .non H
theorem c_need_rule {H : Hp} {Q : VK} {E : XK} {z : Str} (h : IsRule z) (q : Q .non H) : sp_need_rule ([.str z] ++ []) H Q E := ⟨z, rfl, h, q⟩
theorem ok_need_rule (T : Txt K mg ad) : FnOk P w K mg base CX0 1 ad.a_need_rule ad.d_need_rule ["rule"] sp_need_rule := by
  refine T.F_need_rule.ok sc_need_rule (fun vs H Q E h => ?_) (fun cdv A outer s H vs Q E hr h => ?_)
  · obtain ⟨z, rfl, _⟩ := h
    rfl
  obtain ⟨z, rfl, hz, q⟩ := h
  refine ⟨_, (pss_one (ps_if (pt_cmpR (kNi K rfl) (pv 0) (pe_glob (v := .ref ad.a_RULES) rfl T.m_RULES rfl) (by with_unfolding_all rfl)) (pss_one ps_never) pss_nil)), ?_⟩
  try dsimp only [L2.cxOf, L2.Cx.nox]
  obtain ⟨xs, hx, hT⟩ := T.k_RULES
  walk_at "cw"
  refine ⟨ad.a_RULES, xs, rfl, .inr (hT H), rfl, by rw [hx]; rfl, ?_⟩
  have e : inV (.str z) xs = true := by
    rw [hx]
    rcases hz with rfl | rfl | rfl <;> simp [inV, eqV]
  rw [if_pos rfl, e]
  walk_at "cw"
  exact q

def sp_need_ruleN (c : Bad → Addr) : Sp := fun vs H _ E => ∃ z : Str, vs = [.str z] ∧ ¬ IsRule z ∧ Bad.to c .rule H E
theorem ok_need_ruleN (T : Txt K mg ad) : FnOk P w K mg base (L2.CX P w) 1 ad.a_need_rule ad.d_need_rule ["rule"] (sp_need_ruleN (cls ad)) := by
  refine T.F_need_rule.okX sc_need_rule (fun vs H Q E h => ?_) (fun cdv A outer s H vs Q E hr h => ?_)
  · obtain ⟨z, rfl, _⟩ := h
    rfl
  obtain ⟨z, rfl, hz, k⟩ := h
  refine ⟨_, (pss_one (ps_if (pt_cmpR (kNi K rfl) (pv 0) (pe_glob (v := .ref ad.a_RULES) rfl T.m_RULES rfl) (by with_unfolding_all rfl)) (pss_one (ps_raise rfl (takes_of rfl rfl rfl rfl) (pmk_ownB T.ow_BadRule T.m_BadRule (by rfl)))) pss_nil)), ?_⟩
  try dsimp only [L2.cxOf]
  obtain ⟨xs, hx, hT⟩ := T.k_RULES
  walk_at "cwx"
  refine ⟨ad.a_RULES, xs, rfl, .inr (hT H), rfl, by rw [hx]; rfl, ?_⟩
  have e : inV (.str z) xs = false := by
    rw [hx]
    have h1 : z ≠ Str.ofString "hand" := fun e => hz (.inl e)
    have h2 : z ≠ Str.ofString "unseen" := fun e => hz (.inr (.inl e))
    have h3 : z ≠ Str.ofString "first" := fun e => hz (.inr (.inr e))
    simp [inV, eqV, h1.symm, h2.symm, h3.symm]
  rw [if_pos rfl, e]
  walk_at "cwx"
  exact k none H .refl rfl
def sp_need_ruleX (c : Bad → Addr) : Sp := fun vs H Q E => sp_need_rule vs H Q E ∨ sp_need_ruleN c vs H Q E
theorem ok_need_ruleX (T : Txt K mg ad) : FnOk P w K mg base (L2.CX P w) 1 ad.a_need_rule ad.d_need_rule ["rule"] (sp_need_ruleX (cls ad)) := fn_or (ok_need_rule T) (ok_need_ruleN T) (by decide)

/-! by_row -/
def sp_by_row (K : PySem.W.Frag) : Sp := fun vs H Q _ => ∃ (n : Int) (a : Addr) (z : Str) (ns : List Int), vs = [.int n, .ref a, .str z] ∧ 1 ≤ n ∧ n ≤ 8 ∧ SqL K H a (ns.map V.int) ∧ ns.length ≤ 100 ∧
  ∀ p H', Fr [] H H' → H p = none → H' p = some (.lst ((keepAll n.toNat (decide (z = Str.ofString "unseen")) [] ns).map V.bl)) → Q (.ref p) H'
theorem c_by_row {H : Hp} {Q : VK} {E : XK} {n : Int} {a : Addr} {z : Str} {ns : List Int} (n0 : 1 ≤ n) (n8 : n ≤ 8) (h : SqL K H a (ns.map V.int)) (hz : ns.length ≤ 100)
    (k : ∀ p H', Fr [] H H' → H p = none → H' p = some (.lst ((keepAll n.toNat (decide (z = Str.ofString "unseen")) [] ns).map V.bl)) → Q (.ref p) H') : sp_by_row K ([.int n, .ref a, .str z] ++ []) H Q E := ⟨n, a, z, ns, rfl, n0, n8, h, hz, k⟩
def byRow_mid (H0 : Hp) (n : Int) (a : Addr) (z : Str) (f : Addr) (x : Int) (bs : List Bool) (kept : List Int) : L2.St → Hp → Prop := fun σ H => ∃ kp, σ = [some (.int n), some (.ref a), some (.str z), some (.ref kp), some (.ref f), some (.int x)] ∧
  Fr [] H0 H ∧ H0 kp = none ∧ kp ≠ f ∧ H kp = some (.lst (kept.map V.int)) ∧ H f = some (.lst (bs.map V.bl))
theorem ok_by_row (T : Txt K mg ad) : FnOk P w K mg base CX0 1 ad.a_by_row ad.d_by_row ["rooms", "row", "rule"] (sp_by_row K) := by
  refine T.F_by_row.ok sc_by_row (fun vs H Q E h => ?_) (fun cdv A outer s H vs Q E hr h => ?_)
  · obtain ⟨n, a, z, ns, rfl, _⟩ := h
    rfl
  obtain ⟨n, a, z, ns, rfl, n0, n8, hS, hz, k⟩ := h
  refine ⟨_, (pss_cons (ps_set (i := 3) sc_by_row.nd rfl (by first | exact Or.inl rfl | exact Or.inr rfl) (pe_lst pa_nil))
    (pss_cons (ps_set (i := 4) sc_by_row.nd rfl (by first | exact Or.inl rfl | exact Or.inr rfl) (pe_lst pa_nil))
    (pss_cons (ps_for PassesOwn.never rfl (kIL (K := K) rfl (pi_list (pv 1))) (pg_name (i := 5) sc_by_row.nd rfl (by first | exact Or.inl rfl | exact Or.inr rfl)) (pss_cons (ps_expr (kBM (K := K) rfl (pe_bm PySem.F.plainAttrs_list PySem.F.slot_list_append PySem.F.type_list_append mt_append (pv 4) (pa_cons (pe_cmpR (kNi K rfl) (pv 5) (pv 3) (by with_unfolding_all rfl)) pa_nil))))
    (C8.pss_cut (ps_if (PW.pt (pw_and (pt_cmpR (kIn K rfl) (pv 5) (pv 3) (by with_unfolding_all rfl)) (pw_and1 (pt_cmpR op_eq (pv 2) (pe_glob (v := .str (Str.ofString "unseen")) rfl T.m_UNSEEN ⟨_, rfl⟩) (nomark _))))) (pss_cons (ps_expr (kBM (K := K) rfl (pe_bm PySem.F.plainAttrs_list PySem.F.slot_list_remove PySem.F.type_list_remove mt_remove (pv 3) (pa_cons (pv 5) pa_nil))))
    (pss_one (ps_expr (kBM (K := K) rfl (pe_bm PySem.F.plainAttrs_list PySem.F.slot_list_append PySem.F.type_list_append mt_append (pv 3) (pa_cons (pv 5) pa_nil)))))) pss_nil)
    (pss_one (ps_if (pt_cmpR (kNi K rfl) (pv 5) (pv 3) (by with_unfolding_all rfl)) (pss_one (ps_set (i := 3) sc_by_row.nd rfl (by first | exact Or.inl rfl | exact Or.inr rfl) (pe_slice (kSlL K rfl) (pe_op op_cat (pv 3) (pe_lst (pa_cons (pv 5) pa_nil))) (po_some (pe_un un_neg (pv 0))) po_none))) pss_nil)))))
    (pss_one (ps_ret (pv 4)))))), ?_⟩
  try dsimp only [L2.cxOf, L2.Cx.nox]
  walk_at "cwd"
  rename_i kp hkp f hf
  have hf0 : H f = none := upd_none hf
  have nkf : kp ≠ f := ne_of_none upd_same hf
  refine f_list (ns.map V.int) (fun i σ H' => ∃ (kp : Addr) (v : Option V), σ = [some (.int n), some (.ref a), some (.str z), some (.ref kp), some (.ref f), v] ∧ Fr [] H H' ∧ H kp = none ∧ kp ≠ f ∧
    H' kp = some (.lst ((keepEnd n.toNat (decide (z = Str.ofString "unseen")) [] (ns.take i)).map V.int)) ∧ H' f = some (.lst ((keepAll n.toNat (decide (z = Str.ofString "unseen")) [] (ns.take i)).map V.bl)))
    ⟨kp, none, rfl, (Fr.new hkp).trans (Fr.new hf), hkp, nkf, (upd_ne nkf).trans upd_same, upd_same⟩ (fun i σ H' _ ⟨_, _, _, f, _⟩ => f.seqL hS) ?_ ?_
  · rintro i y σ H' hi ⟨kp, v, rfl, F, hkp, nkf, h1, h2⟩
    obtain ⟨x, hx, rfl⟩ := int_at hi
    have hxl := (List.getElem?_eq_some_iff.mp hx).1
    have hk := keepEnd_ok (rooms := n.toNat) (by omega) (decide (z = Str.ofString "unseen")) [] (ns.take i) ⟨List.nodup_nil, Nat.zero_le _⟩
    have hbl : (keepAll n.toNat (decide (z = Str.ofString "unseen")) [] (ns.take i)).length = i := by rw [keepAll_len, List.length_take]; omega
    have est : keepEnd n.toNat (decide (z = Str.ofString "unseen")) [] (ns.take (i + 1)) = keepS n.toNat (decide (z = Str.ofString "unseen")) (keepEnd n.toNat (decide (z = Str.ofString "unseen")) [] (ns.take i)) x := by
      rw [take_snoc hx, keepEnd_app]; rfl
    have ebs : keepAll n.toNat (decide (z = Str.ofString "unseen")) [] (ns.take (i + 1)) = keepAll n.toNat (decide (z = Str.ofString "unseen")) [] (ns.take i) ++ [decide (x ∉ keepEnd n.toNat (decide (z = Str.ofString "unseen")) [] (ns.take i))] := by
      rw [take_snoc hx, keepAll_app]; rfl
    rw [est, ebs]
    generalize keepEnd n.toNat (decide (z = Str.ofString "unseen")) [] (ns.take i) = kept at *
    generalize keepAll n.toNat (decide (z = Str.ofString "unseen")) [] (ns.take i) = bs at *
    obtain ⟨nd, le⟩ := hk
    walk_at "cwd"
    refine w_cut (byRow_mid H n a z f x (bs ++ [decide (x ∉ kept)]) (if x ∈ kept then keepS n.toNat (decide (z = Str.ofString "unseen")) kept x else kept)) ?_ ?_
    · walk_at "cwd"
      walk_at "cw if" <;> intro e
      · walk_at "cwd"
        walk_at "cw if" <;> intro e2
        · walk_at "cwd"
          refine w_remI (by walk_at "cw at") e ?_
          have hle := List.length_erase_of_mem e
          walk_at "cwd"
          rw [upd_upd]
          refine ⟨kp, rfl, (F.loc hf0).loc hkp, hkp, nkf, upd_same.trans ?_, (upd_ne (ne_s nkf)).trans (upd_same.trans (by simp))⟩
          rw [if_pos e]
          unfold keepS
          rw [if_pos e, decide_eq_true e2]
          simp
        · walk_at "cwd"
          refine ⟨kp, rfl, F.loc hf0, hkp, nkf, (upd_ne nkf).trans (h1.trans ?_), upd_same.trans (by simp)⟩
          rw [if_pos e]
          unfold keepS
          rw [if_pos e, decide_eq_false e2]
          simp
      · walk_at "cwd"
        exact ⟨kp, rfl, F.loc hf0, hkp, nkf, (upd_ne nkf).trans (h1.trans (by rw [if_neg e])), upd_same.trans (by simp)⟩
    rintro σ H2 ⟨kq, rfl, F2, hkq, nkq, g1, g2⟩
    by_cases e : x ∈ kept
    · rw [if_pos e] at g1
      have e' : x ∈ keepS n.toNat (decide (z = Str.ofString "unseen")) kept x := by
        unfold keepS
        rw [if_pos e]
        split
        · simp
        · exact e
      walk_at "cwd"
      refine ite_dF (fun q => q e') ?_
      walk_at "cwd"
      exact ⟨kq, _, rfl, F2, hkq, nkq, g1, g2⟩
    · rw [if_neg e] at g1
      walk_at "cwd"
      rename_i p1 hp1 p2 hp2 p3 hp3
      have hp3' : H2 p3 = none := upd_none (upd_none hp3)
      refine ⟨p3, _, rfl, ((F2.more (Fr.new hp1)).more (Fr.new hp2)).more (Fr.new hp3), F2.free hp3', fun q => ne_of_none g2 hp3' q.symm, upd_same.trans ?_, ?_⟩
      · rw [cut_last _ (by omega)]
        have el : kept.map V.int ++ [V.int x] = (kept ++ [x]).map V.int := by simp
        rw [el, ← List.map_drop, List.length_map]
        unfold keepS
        rw [if_neg e]
        congr 3
        rw [List.length_append, List.drop_append_of_le_length]
        · congr 2
          simp
          split <;> omega
        · simp
          omega
      · rw [upd_ne (ne_of_none g2 hp3'), upd_ne (ne_of_none g2 (upd_none hp2)), upd_ne (ne_of_none g2 hp1)]
        exact g2
  · rintro σ H' ⟨kp, v, rfl, F, hkp, nkf, h1, h2⟩
    rw [List.length_map, List.take_length] at h2
    walk_at "cwd"
    exact k f H' F hf0 h2

/-! all_lacking -/
def sp_all_lacking (K : PySem.W.Frag) : Sp := fun vs H Q _ => ∃ (n : Int) (a : Addr) (z : Str) (ns : List Int), vs = [.int n, .ref a, .str z] ∧ 1 ≤ n ∧ n ≤ 8 ∧ SqL K H a (ns.map V.int) ∧ RowOk ns ∧
  ∀ p H', Fr [] H H' → H p = none → H' p = some (.lst ((lackB n.toNat z ns).map V.bl)) → Q (.ref p) H'
theorem c_all_lacking {H : Hp} {Q : VK} {E : XK} {n : Int} {a : Addr} {z : Str} {ns : List Int} (n0 : 1 ≤ n) (n8 : n ≤ 8) (h : SqL K H a (ns.map V.int)) (hR : RowOk ns)
    (k : ∀ p H', Fr [] H H' → H p = none → H' p = some (.lst ((lackB n.toNat z ns).map V.bl)) → Q (.ref p) H') : sp_all_lacking K ([.int n, .ref a, .str z] ++ []) H Q E := ⟨n, a, z, ns, rfl, n0, n8, h, hR, k⟩
theorem ok_all_lacking (T : Txt K mg ad) : FnOk P w K mg base CX0 5 ad.a_all_lacking ad.d_all_lacking ["rooms", "row", "rule"] (sp_all_lacking K) := by
  refine T.F_all_lacking.ok sc_all_lacking (fun vs H Q E h => ?_) (fun cdv A outer s H vs Q E hr h => ?_)
  · obtain ⟨n, a, z, ns, rfl, _⟩ := h
    rfl
  obtain ⟨n, a, z, ns, rfl, n0, n8, hS, hR, k⟩ := h
  unfold lackB at k
  refine ⟨_, (pss_cons (ps_if (pt_cmpR op_eq (pv 2) (pe_glob (v := .str (Str.ofString "hand")) rfl T.m_HAND ⟨_, rfl⟩) (nomark _)) (pss_one (ps_ret (pe_lc (own := [("one", 3)]) (by rfl) sc_all_lacking.nd (kIL (K := K) rfl (pi_list (pe_call (ok_round_told T) (hr.mono (by decide)) (by rfl) T.m_round_told T.F_round_told.kp T.b_round_told .nil pass0 (pa_cons (pv 0) (pa_cons (pv 1) pa_nil))))) (blkOk_by (own := [("one", 3)]) (N := N_all_lacking) (sc := defScope s_all_lacking) (by decide +kernel)) (fun _ _ _ _ _ => (pg_name (i := 3) sc_all_lacking.nd rfl (by first | exact Or.inl rfl | exact Or.inr rfl))) (fun _ _ _ _ _ => pts_nil) (fun _ _ _ _ _ => (pe_ix (kIxT K rfl) (pv 3) pe_int (fun _ _ => rfl)))))) pss_nil)
    (pss_one (ps_ret (pe_call (ok_by_row T) (hr.mono (by decide)) (by rfl) T.m_by_row T.F_by_row.kp T.b_by_row .nil pass0 (pa_cons (pv 0) (pa_cons (pv 1) (pa_cons (pv 2) pa_nil))))))), ?_⟩
  try dsimp only [L2.cxOf, L2.Cx.nox]
  walk_at "cwd"
  walk_at "cw if" <;> intro e
  · rw [if_pos e] at k
    walk_at "cwd"
    refine c_round_told n0 n8 hS hR fun p xs H1 f1 hp hx hn0 => ?_
    have hn := hn0.nwa (K := K)
    walk_at "cwd"
    have hlen := dpall_len hn.now
    refine l_list xs (SqL.of hx) (fun D i acc H' => Fr [] H1 H' ∧ acc = (((askAll (Dl.new n.toNat) ns).map Tl.lack).take i).map V.bl) (fun D hD => ⟨Fr.new hD, rfl⟩) (fun D i acc H' hD h _ => h.1.seqL (SqL.of hx)) ?_ ?_
    · rintro D i y acc H' hD hi ⟨F, rfl⟩ hacc hl
      have hil := (List.getElem?_eq_some_iff.mp hi).1
      rw [hlen, List.length_map] at hil
      have hd : ((askAll (Dl.new n.toNat) ns).map tlD)[i]? = some (tlD (askAll (Dl.new n.toNat) ns)[i]) := by rw [List.getElem?_map, List.getElem?_eq_getElem hil]; rfl
      obtain ⟨y', hy, hdp⟩ := dpall_get hn.now hd
      rw [hi] at hy
      cases hy
      have hdp' := F.dp _ _ hdp
      unfold tlD at hdp'
      cases hdp' with
      | @tup t zs _ hsq hza =>
      cases hza with
      | @cons v1 vr _ _ hv1 hvr =>
      cases hv1
      have hb : ((askAll (Dl.new n.toNat) ns).map Tl.lack)[i]? = some (askAll (Dl.new n.toNat) ns)[i].lack := by rw [List.getElem?_map, List.getElem?_eq_getElem hil]; rfl
      walk_at "cwd"
      have hr100 := hR.1
      rw [askAll_len] at hil
      exact lc_end hacc hl (by omega) ⟨F.loc hD, by rw [take_snoc hb, List.map_append]; rfl⟩
    · rintro D acc H' hD ⟨F, rfl⟩ hacc hl
      rw [List.take_of_length_le (by rw [hlen, List.length_map, List.length_map]; omega)] at hacc
      exact k D H' (f1.trans F) (f1.free hD) hacc
  · rw [if_neg e] at k
    walk_at "cwd"
    exact c_by_row n0 n8 hS hR.1 k

/-! lacking -/
def sp_lacking (K : PySem.W.Frag) : Sp := fun vs H Q _ => ∃ (n : Int) (a : Addr) (z : Str) (ns : List Int), vs = [.int n, .ref a, .str z] ∧ 1 ≤ n ∧ n ≤ 8 ∧ IsRule z ∧ SqL K H a (ns.map V.int) ∧ RowOk ns ∧
  ∀ p H', Fr [] H H' → H p = none → H' p = some (.lst ((places (lackB n.toNat z ns)).map V.int)) → Q (.ref p) H'
theorem c_lacking {H : Hp} {Q : VK} {E : XK} {n : Int} {a : Addr} {z : Str} {ns : List Int} (n0 : 1 ≤ n) (n8 : n ≤ 8) (hz : IsRule z) (h : SqL K H a (ns.map V.int)) (hR : RowOk ns)
    (k : ∀ p H', Fr [] H H' → H p = none → H' p = some (.lst ((places (lackB n.toNat z ns)).map V.int)) → Q (.ref p) H') : sp_lacking K ([.int n, .ref a, .str z] ++ []) H Q E := ⟨n, a, z, ns, rfl, n0, n8, hz, h, hR, k⟩
theorem ok_lacking (T : Txt K mg ad) : FnOk P w K mg base CX0 6 ad.a_lacking ad.d_lacking ["rooms", "row", "rule"] (sp_lacking K) := by
  refine T.F_lacking.ok sc_lacking (fun vs H Q E h => ?_) (fun cdv A outer s H vs Q E hr h => ?_)
  · obtain ⟨n, a, z, ns, rfl, _⟩ := h
    rfl
  obtain ⟨n, a, z, ns, rfl, n0, n8, hz, hS, hR, k⟩ := h
  refine ⟨_, (pss_cons (ps_expr (pe_call (ok_need_both T) (hr.mono (by decide)) (by rfl) T.m_need_both T.F_need_both.kp T.b_need_both .nil pass0 (pa_cons (pv 0) (pa_cons (pv 1) pa_nil))))
    (pss_cons (ps_expr (pe_call (ok_need_rule T) (hr.mono (by decide)) (by rfl) T.m_need_rule T.F_need_rule.kp T.b_need_rule .nil pass0 (pa_cons (pv 2) pa_nil)))
    (pss_one (ps_ret (pe_lc (own := [("place", 3), ("one", 4)]) (by rfl) sc_lacking.nd (kIE (K := K) rfl (pi_enum (by rfl) T.z_enumerate (pa_cons (pe_call (ok_all_lacking T) (hr.mono (by decide)) (by rfl) T.m_all_lacking T.F_all_lacking.kp T.b_all_lacking .nil pass0 (pa_cons (pv 0) (pa_cons (pv 1) (pa_cons (pv 2) pa_nil)))) pa_nil))) (blkOk_by (own := [("place", 3), ("one", 4)]) (N := N_lacking) (sc := defScope s_lacking) (by decide +kernel)) (fun _ _ _ _ _ => (kTup (K := K) (n := 2) rfl (pg_tup (by rfl) (pgs_cons (pg_name (i := 3) sc_lacking.nd rfl (by first | exact Or.inl rfl | exact Or.inr rfl)) (pgs_cons (pg_name (i := 4) sc_lacking.nd rfl (by first | exact Or.inl rfl | exact Or.inr rfl)) pgs_nil))))) (fun _ _ _ _ _ => pts_one (pt_val (pv 4))) (fun _ _ _ _ _ => (pv 3))))))), ?_⟩
  try dsimp only [L2.cxOf, L2.Cx.nox]
  walk_at "cwd"
  refine c_need_both n0 n8 hS hR fun H1 f1 => ?_
  walk_at "cwd"
  refine c_need_rule hz ?_
  walk_at "cwd"
  refine c_all_lacking n0 n8 (f1.seqL hS) hR fun p H2 f2 hp hx => ?_
  walk_at "cwd"
  have hbl := lackB_len n.toNat z ns
  generalize lackB n.toNat z ns = bs at *
  refine l_enum (bs.map V.bl) (SqL.of hx) (fun D i acc H' => Fr [] H2 H' ∧ acc = (places (bs.take i)).map V.int) (fun D hD => ⟨Fr.new hD, rfl⟩) (fun D i acc H' hD h _ => h.1.seqL (SqL.of hx)) ?_ ?_
  · rintro D i y t acc H' hD hi ⟨F, rfl⟩ hacc hl ht
    rw [List.getElem?_map] at hi
    obtain ⟨b, hb, rfl⟩ := Option.map_eq_some_iff.mp hi
    have hil := (List.getElem?_eq_some_iff.mp hb).1
    have hr100 := hR.1
    have hti : (bs.take i).length = i := by rw [List.length_take]; omega
    have eb : places (bs.take (i + 1)) = places (bs.take i) ++ (if b then [(i : Int)] else []) := by rw [take_snoc hb, places_snoc, hti]
    have nDt : D ≠ t := ne_of_none hacc ht
    walk_at "cwd"
    walk_at "cw if" <;> intro e
    · walk_at "cwd"
      exact lc_end ((upd_ne nDt).trans hacc) hl (by omega) ⟨(F.more (Fr.new ht)).loc hD, by rw [eb, if_pos e, List.map_append]; rfl⟩
    · walk_at "cwd"
      exact ⟨_, ⟨F.more (Fr.new ht), by rw [eb, e]; simp⟩, (upd_ne nDt).trans hacc, by omega⟩
  · rintro D acc H' hD ⟨F, rfl⟩ hacc hl
    rw [List.length_map, List.take_length] at hacc
    exact k D H' ((f1.trans f2).trans F) (f1.free (f2.free hD)) hacc

def sp_lackingN (K : PySem.W.Frag) (c : Bad → Addr) : Sp := fun vs H _ E => ∃ (r : Int) (a : Addr) (z : Str) (ns : List Int) (b : Bad), vs = [.int r, .ref a, .str z] ∧ SqL K H a (ns.map V.int) ∧ (BadBoth r ns b ∨ (1 ≤ r ∧ r ≤ 8 ∧ RowOk ns ∧ ¬ IsRule z ∧ b = .rule)) ∧ Bad.to c b H E
theorem ok_lackingN (T : Txt K mg ad) : FnOk P w K mg base (L2.CX P w) 6 ad.a_lacking ad.d_lacking ["rooms", "row", "rule"] (sp_lackingN K (cls ad)) := by
  refine T.F_lacking.okX sc_lacking (fun vs H Q E h => ?_) (fun cdv A outer s H vs Q E hr h => ?_)
  · obtain ⟨r, a, z, ns, b, rfl, _⟩ := h
    rfl
  obtain ⟨r, a, z, ns, b, rfl, hS, hb, k⟩ := h
  refine ⟨_, (pss_cons (ps_expr (pe_call (ok_need_bothX T) (hr.mono (by decide)) (by rfl) T.m_need_both T.F_need_both.kp T.b_need_both .nil (passes_call (takes_of rfl rfl rfl rfl) (fun _ _ _ _ h => h)) (pa_cons (pv 0) (pa_cons (pv 1) pa_nil))))
    (pss_first (ps_expr (pe_call (ok_need_ruleX T) (hr.mono (by decide)) (by rfl) T.m_need_rule T.F_need_rule.kp T.b_need_rule .nil (passes_call (takes_of rfl rfl rfl rfl) (fun _ _ _ _ h => h)) (pa_cons (pv 2) pa_nil))))), ?_⟩
  try dsimp only [L2.cxOf]
  walk_at "cwx"
  rcases hb with hb | ⟨h1, h2, hR, hz, rfl⟩
  · exact .inr (c_bothN hS hb k)
  · refine .inl (c_need_both (E := E) h1 h2 hS hR fun H1 f1 => ?_)
    walk_at "cwx"
    exact .inr ⟨z, rfl, hz, k.step f1⟩
def sp_lackingX (K : PySem.W.Frag) (c : Bad → Addr) : Sp := fun vs H Q E => sp_lacking K vs H Q E ∨ sp_lackingN K c vs H Q E
theorem ok_lackingX (T : Txt K mg ad) : FnOk P w K mg base (L2.CX P w) 6 ad.a_lacking ad.d_lacking ["rooms", "row", "rule"] (sp_lackingX K (cls ad)) := fn_or (ok_lacking T) (ok_lackingN T) (by decide)

/-! all_stretches -/
def sp_all_stretches (K : PySem.W.Frag) : Sp := fun vs H Q _ => ∃ (n : Int) (a : Addr) (ns : List Int), vs = [.int n, .ref a] ∧ 1 ≤ n ∧ n ≤ 8 ∧ SqL K H a (ns.map V.int) ∧ ns.length ≤ 100 ∧
  ∀ p xs H', Fr [] H H' → H p = none → H' p = some (.lst xs) → NwA K H H' xs ((parts n.toNat ns).map pairD) → Q (.ref p) H'
theorem c_all_stretches {H : Hp} {Q : VK} {E : XK} {n : Int} {a : Addr} {ns : List Int} (n0 : 1 ≤ n) (n8 : n ≤ 8) (h : SqL K H a (ns.map V.int)) (hl : ns.length ≤ 100)
    (k : ∀ p xs H', Fr [] H H' → H p = none → H' p = some (.lst xs) → NwA K H H' xs ((parts n.toNat ns).map pairD) → Q (.ref p) H') : sp_all_stretches K ([.int n, .ref a] ++ []) H Q E := ⟨n, a, ns, rfl, n0, n8, h, hl, k⟩
/-- what is found ahead of a turn -/
def strAt (n : Nat) (ns : List Int) (i : Nat) : List (Int × Int) × Int := if i < ns.length then ((cst n (ns.take (i + 1))).out, ((cst n (ns.take (i + 1))).b : Int)) else (parts n ns, (ns.length : Int))
theorem ok_all_stretches (T : Txt K mg ad) : FnOk P w K mg base CX0 1 ad.a_all_stretches ad.d_all_stretches ["rooms", "row"] (sp_all_stretches K) := by
  refine T.F_all_stretches.ok sc_all_stretches (fun vs H Q E h => ?_) (fun cdv A outer s H vs Q E hr h => ?_)
  · obtain ⟨n, a, ns, rfl, _⟩ := h
    rfl
  obtain ⟨n, a, ns, rfl, n0, n8, hS, hl, k⟩ := h
  refine ⟨_, (pss_cons (ps_set (i := 2) sc_all_stretches.nd rfl (by first | exact Or.inl rfl | exact Or.inr rfl) (pe_lst pa_nil))
    (pss_cons (ps_set (i := 3) sc_all_stretches.nd rfl (by first | exact Or.inl rfl | exact Or.inr rfl) pe_int)
    (pss_cons (ps_for PassesOwn.never rfl (pi_range2 (by rfl) T.z_range (pa_cons pe_int (pa_cons (pe_op op_add (pe_callB (kLen K rfl) (by rfl) T.z_len (by decide +kernel) (pa_cons (pv 1) pa_nil)) pe_int) pa_nil))) (pg_name (i := 4) sc_all_stretches.nd rfl (by first | exact Or.inl rfl | exact Or.inr rfl)) (pss_one (ps_if (PW.pt (pw_or (pt_cmpR op_eq (pv 4) (pe_callB (kLen K rfl) (by rfl) T.z_len (by decide +kernel) (pa_cons (pv 1) pa_nil)) (nomark _)) (pw_or1 (pt_cmpR op_gt (pe_lenSetD (K := K) rfl (by rfl) T.z_len (by rfl) T.z_set (pe_slice (kSlL K rfl) (pv 1) (po_some (pv 3)) (po_some (pe_op op_add (pv 4) pe_int)))) (pv 0) (nomark _))))) (pss_cons (ps_expr (kBM (K := K) rfl (pe_bm PySem.F.plainAttrs_list PySem.F.slot_list_append PySem.F.type_list_append mt_append (pv 2) (pa_cons (pe_tup (pa_cons (pv 3) (pa_cons (pv 4) pa_nil))) pa_nil))))
    (pss_one (ps_set (i := 3) sc_all_stretches.nd rfl (by first | exact Or.inl rfl | exact Or.inr rfl) (pv 4)))) pss_nil)))
    (pss_one (ps_ret (pv 2)))))), ?_⟩
  walk_at "cws"
  rename_i f hf
  have hml : (ns.map V.int).length = ns.length := List.length_map _
  generalize hE : upd H f (.lst []) = H1
  have F1 : Fr [] H H1 := hE ▸ Fr.new hf
  have h1 : H1 f = some (.lst []) := hE ▸ upd_same
  clear hE
  have tk : ∀ w ∈ [f], H1 w ≠ none := by simp [h1]
  refine f_rng2 (lo := 1) (hi := ((ns.map V.int).length : Int) + 1) (by decide) (by decide) (by omega) (by omega) (fun i σ H' => ∃ (v : Option V) (xs : List V), σ = [some (.int n), some (.ref a), some (.ref f), some (.int (strAt n.toNat ns i).2), v] ∧ Fr [] H H' ∧ Fr [f] H1 H' ∧
    H' f = some (.lst xs) ∧ xs.length ≤ i ∧ NwA K H1 H' xs ((strAt n.toNat ns i).1.map pairD)) ⟨none, [], ?_, F1, .refl, h1, Nat.le_refl _, ?_⟩ ?_ ?_
  · unfold strAt
    split
    · rename_i hp
      have : (cst n.toNat (ns.take (0 + 1))).b = 0 := by
        cases ns with
        | nil => simp at hp
        | cons x r =>
          have e : cst n.toNat ((x :: r).take (0 + 1)) = cstep n.toNat ⟨[], 0, [], 0⟩ x := rfl
          rw [e]
          unfold cstep
          split <;> rfl
      rw [this]; rfl
    · rename_i hp
      have : ns = [] := List.eq_nil_of_length_eq_zero (by omega)
      subst this
      rfl
  · unfold strAt
    split
    · rename_i hp
      have : (cst n.toNat (ns.take (0 + 1))).out = [] := by
        cases ns with
        | nil => simp at hp
        | cons x r =>
          have e : cst n.toNat ((x :: r).take (0 + 1)) = cstep n.toNat ⟨[], 0, [], 0⟩ x := rfl
          rw [e]
          unfold cstep
          rw [if_neg (by simp [firsts]; omega)]
      rw [this]; exact .nil
    · rename_i hp
      have : ns = [] := List.eq_nil_of_length_eq_zero (by omega)
      subst this
      exact .nil
  · rintro i σ H2 hi ⟨v, xs, rfl, F, F2, g1, gl, gn⟩
    have hil : i < ns.length := by omega
    have hsq := F.seqL hS
    have eS : strAt n.toNat ns i = ((cst n.toNat (ns.take (i + 1))).out, ((cst n.toNat (ns.take (i + 1))).b : Int)) := if_pos hil
    rw [eS] at gn ⊢
    have hok := cst_ok (rooms := n.toNat) (by omega) (ns.take (i + 1))
    obtain ⟨c1, c2, c3, c4, c5, c6, c7⟩ := hok
    -- a stretch is told
    have app : ∀ H2 : Hp, Fr [] H H2 → Fr [f] H1 H2 → H2 f = some (.lst xs) → NwA K H1 H2 xs ((cst n.toNat (ns.take (i + 1))).out.map pairD) → ∀ p, H2 p = none → ∀ (v' : Option V) (q : Int) (nb : Int) (out' : List (Int × Int)), q = 1 + (i : Int) → strAt n.toNat ns (i + 1) = (out', nb) → out' = (cst n.toNat (ns.take (i + 1))).out ++ [(((cst n.toNat (ns.take (i + 1))).b : Int), q)] →
        ∃ (v : Option V) (ys : List V), [some (V.int n), some (.ref a), some (.ref f), some (.int nb), v'] = [some (.int n), some (.ref a), some (.ref f), some (.int (strAt n.toNat ns (i + 1)).2), v] ∧
          Fr [] H (upd (upd H2 p (.tup [.int (cst n.toNat (ns.take (i + 1))).b, .int q])) f (.lst (xs ++ [.ref p]))) ∧ Fr [f] H1 (upd (upd H2 p (.tup [.int (cst n.toNat (ns.take (i + 1))).b, .int q])) f (.lst (xs ++ [.ref p]))) ∧
          (upd (upd H2 p (.tup [.int (cst n.toNat (ns.take (i + 1))).b, .int q])) f (.lst (xs ++ [.ref p]))) f = some (.lst ys) ∧ ys.length ≤ i + 1 ∧ NwA K H1 (upd (upd H2 p (.tup [.int (cst n.toNat (ns.take (i + 1))).b, .int q])) f (.lst (xs ++ [.ref p]))) ys ((strAt n.toNat ns (i + 1)).1.map pairD) := by
      intro H2 F F2 g1 gn p hp v' q nb out' hq e1 e2
      have npf : p ≠ f := ne_s (ne_of_none g1 hp)
      rw [e1]
      refine ⟨v', xs ++ [.ref p], rfl, (F.more (Fr.new hp)).loc hf, (F2.trans (Fr.new hp)).trans (Fr.at (by simp)), upd_same, by simp; omega, ?_⟩
      show NwA K H1 _ _ (out'.map pairD)
      rw [e2, List.map_append]
      exact NwA.step (W := [f]) (NwA.snoc (gn.step (W := []) (by simp) (Fr.new hp)) (nw_pair (F2.free hp) upd_same)) tk (Fr.at (by simp))
    have ht100 : ((ns.take (i + 2)).drop (cst n.toNat (ns.take (i + 1))).b).length ≤ 4000 := by simp; omega
    walk_at "cws"
    walk_at "cw if" <;> intro e
    · walk_at "cws"
      rename_i p hp
      have hne : ns ≠ [] := by intro z; subst z; simp at hil
      have htk : ns.take (i + 1) = ns := List.take_of_length_le (by omega)
      refine app H2 F F2 g1 gn p hp _ (1 + (i : Int)) (1 + (i : Int)) (parts n.toNat ns) rfl ?_ ?_
      · unfold strAt
        rw [if_neg (by omega)]
        rw [show (ns.length : Int) = 1 + (i : Int) by omega]
      · unfold parts
        rw [if_neg hne, htk, show (ns.length : Int) = 1 + (i : Int) by omega]
    · have hi2 : i + 1 < ns.length := by omega
      obtain ⟨x, hx⟩ : ∃ x, ns[i + 1]? = some x := ⟨ns[i + 1], List.getElem?_eq_getElem hi2⟩
      have e2 : ns.take (i + 2) = ns.take (i + 1) ++ [x] := take_snoc hx
      have eT : strAt n.toNat ns (i + 1) = ((cst n.toNat (ns.take (i + 2))).out, ((cst n.toNat (ns.take (i + 2))).b : Int)) := if_pos hi2
      have cl : (ns.take (i + 1)).length = i + 1 := by rw [List.length_take]; omega
      rw [cl] at c1
      have eseg : (ns.take (i + 2)).drop (cst n.toNat (ns.take (i + 1))).b = (cst n.toNat (ns.take (i + 1))).seg ++ [x] := by
        rw [e2, List.drop_append_of_le_length (by omega), c3]
      walk_at "cws"
      rename_i p hp
      refine ⟨p, (ns.take (i + 2)).drop (cst n.toNat (ns.take (i + 1))).b, rfl, SqL.of (upd_same.trans ?_), ht100, ?_⟩
      · rw [show 1 + (i : Int) + 1 = ((i + 2 : Nat) : Int) by omega]
        show some (HO.lst (cutV _ (some (((cst n.toNat (ns.take (i + 1))).b : Nat) : Int)) _)) = _
        rw [cut_ints]
      rw [eseg]
      have ov := over_rooms (rooms := n.toNat) (x := x) c4
      have hnn : ((n.toNat : Nat) : Int) = n := by omega
      rw [hnn] at ov
      walk_at "cws"
      have npf : f ≠ p := ne_of_none g1 hp
      have F' := F.more (Fr.new hp (o := .lst (cutV (ns.map V.int) (some ((cst n.toNat (ns.take (i + 1))).b : Int)) (some (1 + (i : Int) + 1)))))
      walk_at "cw if" <;> intro e3
      · have o := ov.mp e3
        have est : cst n.toNat (ns.take (i + 2)) = ⟨(cst n.toNat (ns.take (i + 1))).out ++ [(((cst n.toNat (ns.take (i + 1))).b : Int), ((cst n.toNat (ns.take (i + 1))).n : Int))], (cst n.toNat (ns.take (i + 1))).n, [x], (cst n.toNat (ns.take (i + 1))).n + 1⟩ := by
          rw [e2, cst_snoc]
          unfold cstep
          rw [if_pos o]
        walk_at "cws"
        rename_i p3 hp3
        refine app _ F' (F2.trans (Fr.new hp)) ((upd_ne npf).trans g1) (gn.step (W := []) (by simp) (Fr.new hp)) p3 hp3 _ (1 + (i : Int)) (1 + (i : Int)) (cst n.toNat (ns.take (i + 2))).out rfl ?_ ?_
        · rw [eT, est, c1]
          show (_, (((i + 1 : Nat) : Int))) = _
          rw [show ((i + 1 : Nat) : Int) = 1 + (i : Int) by omega]
        · rw [est, c1]
          show _ ++ [(_, (((i + 1 : Nat) : Int)))] = _
          rw [show ((i + 1 : Nat) : Int) = 1 + (i : Int) by omega]
      · have o := fun z => e3 (ov.mpr z)
        have est : cst n.toNat (ns.take (i + 2)) = ⟨(cst n.toNat (ns.take (i + 1))).out, (cst n.toNat (ns.take (i + 1))).b, (cst n.toNat (ns.take (i + 1))).seg ++ [x], (cst n.toNat (ns.take (i + 1))).n + 1⟩ := by
          rw [e2, cst_snoc]
          unfold cstep
          rw [if_neg o]
        walk_at "cws"
        rw [eT, est]
        exact ⟨_, xs, rfl, F', F2.trans (Fr.new hp), (upd_ne npf).trans g1, by omega, gn.step (W := []) (by simp) (Fr.new hp)⟩
  · rintro σ H2 ⟨v, xs, rfl, F, F2, g1, gl, gn⟩
    have eS : strAt n.toNat ns (((ns.map V.int).length : Int) + 1 - 1).toNat = (parts n.toNat ns, (ns.length : Int)) := if_neg (by omega)
    rw [eS] at gn ⊢
    walk_at "cws"
    exact k f xs H2 F hf g1 (gn.base F1)

/-! stretches -/
def sp_stretches (K : PySem.W.Frag) : Sp := fun vs H Q _ => ∃ (n : Int) (a : Addr) (ns : List Int), vs = [.int n, .ref a] ∧ 1 ≤ n ∧ n ≤ 8 ∧ SqL K H a (ns.map V.int) ∧ RowOk ns ∧
  ∀ p xs H', Fr [] H H' → H p = none → H' p = some (.lst xs) → NwA K H H' xs ((parts n.toNat ns).map pairD) → Q (.ref p) H'
theorem c_stretches {H : Hp} {Q : VK} {E : XK} {n : Int} {a : Addr} {ns : List Int} (n0 : 1 ≤ n) (n8 : n ≤ 8) (h : SqL K H a (ns.map V.int)) (hR : RowOk ns)
    (k : ∀ p xs H', Fr [] H H' → H p = none → H' p = some (.lst xs) → NwA K H H' xs ((parts n.toNat ns).map pairD) → Q (.ref p) H') : sp_stretches K ([.int n, .ref a] ++ []) H Q E := ⟨n, a, ns, rfl, n0, n8, h, hR, k⟩
theorem ok_stretches (T : Txt K mg ad) : FnOk P w K mg base CX0 4 ad.a_stretches ad.d_stretches ["rooms", "row"] (sp_stretches K) := by
  refine T.F_stretches.ok sc_stretches (fun vs H Q E h => ?_) (fun cdv A outer s H vs Q E hr h => ?_)
  · obtain ⟨n, a, ns, rfl, _⟩ := h
    rfl
  obtain ⟨n, a, ns, rfl, n0, n8, hS, hR, k⟩ := h
  refine ⟨_, (pss_cons (ps_expr (pe_call (ok_need_both T) (hr.mono (by decide)) (by rfl) T.m_need_both T.F_need_both.kp T.b_need_both .nil pass0 (pa_cons (pv 0) (pa_cons (pv 1) pa_nil))))
    (pss_one (ps_ret (pe_call (ok_all_stretches T) (hr.mono (by decide)) (by rfl) T.m_all_stretches T.F_all_stretches.kp T.b_all_stretches .nil pass0 (pa_cons (pv 0) (pa_cons (pv 1) pa_nil)))))), ?_⟩
  walk_at "cws"
  refine c_need_both n0 n8 hS hR fun H1 f1 => ?_
  walk_at "cws"
  refine c_all_stretches n0 n8 (f1.seqL hS) hR.1 fun p xs H2 f2 hp hx hn => ?_
  exact k p xs H2 (f1.trans f2) (f1.free hp) hx (hn.base f1)

theorem ok_stretchesN (T : Txt K mg ad) : FnOk P w K mg base (L2.CX P w) 5 ad.a_stretches ad.d_stretches ["rooms", "row"] (sp_bothN K (cls ad)) := by
  refine T.F_stretches.okX sc_stretches (fun vs H Q E h => ?_) (fun cdv A outer s H vs Q E hr h => ?_)
  · obtain ⟨r, a, ns, b, rfl, _⟩ := h
    rfl
  obtain ⟨r, a, ns, b, rfl, hS, hb, k⟩ := h
  refine ⟨_, (pss_first (ps_expr (pe_call (ok_need_bothX T) (hr.mono (by decide)) (by rfl) T.m_need_both T.F_need_both.kp T.b_need_both .nil (passes_call (takes_of rfl rfl rfl rfl) (fun _ _ _ _ h => h)) (pa_cons (pv 0) (pa_cons (pv 1) pa_nil))))), ?_⟩
  try dsimp only [L2.cxOf]
  walk_at "cwx"
  exact .inr (c_bothN hS hb k)
def sp_stretchesX (K : PySem.W.Frag) (c : Bad → Addr) : Sp := fun vs H Q E => sp_stretches K vs H Q E ∨ sp_bothN K c vs H Q E
theorem ok_stretchesX (T : Txt K mg ad) : FnOk P w K mg base (L2.CX P w) 5 ad.a_stretches ad.d_stretches ["rooms", "row"] (sp_stretchesX K (cls ad)) := fn_or (ok_stretches T) (ok_stretchesN T) (by decide)

/-! lacking_in -/
def sp_lacking_in (K : PySem.W.Frag) : Sp := fun vs H Q _ => ∃ (n : Int) (a : Addr) (z : Str) (ns : List Int), vs = [.int n, .ref a, .str z] ∧ 1 ≤ n ∧ n ≤ 8 ∧ IsRule z ∧ SqL K H a (ns.map V.int) ∧ RowOk ns ∧
  ∀ p H', Fr [] H H' → H p = none → H' p = some (.lst ((counts (lackB n.toNat z ns) (parts n.toNat ns)).map V.int)) → Q (.ref p) H'
theorem c_lacking_in {H : Hp} {Q : VK} {E : XK} {n : Int} {a : Addr} {z : Str} {ns : List Int} (n0 : 1 ≤ n) (n8 : n ≤ 8) (hz : IsRule z) (h : SqL K H a (ns.map V.int)) (hR : RowOk ns)
    (k : ∀ p H', Fr [] H H' → H p = none → H' p = some (.lst ((counts (lackB n.toNat z ns) (parts n.toNat ns)).map V.int)) → Q (.ref p) H') : sp_lacking_in K ([.int n, .ref a, .str z] ++ []) H Q E := ⟨n, a, z, ns, rfl, n0, n8, hz, h, hR, k⟩
theorem ok_lacking_in (T : Txt K mg ad) : FnOk P w K mg base CX0 6 ad.a_lacking_in ad.d_lacking_in ["rooms", "row", "rule"] (sp_lacking_in K) := by
  refine T.F_lacking_in.ok sc_lacking_in (fun vs H Q E h => ?_) (fun cdv A outer s H vs Q E hr h => ?_)
  · obtain ⟨n, a, z, ns, rfl, _⟩ := h
    rfl
  obtain ⟨n, a, z, ns, rfl, n0, n8, hz, hS, hR, k⟩ := h
  refine ⟨_, (pss_cons (ps_expr (pe_call (ok_need_both T) (hr.mono (by decide)) (by rfl) T.m_need_both T.F_need_both.kp T.b_need_both .nil pass0 (pa_cons (pv 0) (pa_cons (pv 1) pa_nil))))
    (pss_cons (ps_expr (pe_call (ok_need_rule T) (hr.mono (by decide)) (by rfl) T.m_need_rule T.F_need_rule.kp T.b_need_rule .nil pass0 (pa_cons (pv 2) pa_nil)))
    (pss_cons (ps_set (i := 3) sc_lacking_in.nd rfl (by first | exact Or.inl rfl | exact Or.inr rfl) (pe_call (ok_all_lacking T) (hr.mono (by decide)) (by rfl) T.m_all_lacking T.F_all_lacking.kp T.b_all_lacking .nil pass0 (pa_cons (pv 0) (pa_cons (pv 1) (pa_cons (pv 2) pa_nil)))))
    (pss_one (ps_ret (pe_lc (own := [("begin", 4), ("end", 5)]) (by rfl) sc_lacking_in.nd (kIL (K := K) rfl (pi_list (pe_call (ok_all_stretches T) (hr.mono (by decide)) (by rfl) T.m_all_stretches T.F_all_stretches.kp T.b_all_stretches .nil pass0 (pa_cons (pv 0) (pa_cons (pv 1) pa_nil))))) (blkOk_by (own := [("begin", 4), ("end", 5)]) (N := N_lacking_in) (sc := defScope s_lacking_in) (by decide +kernel)) (fun _ _ _ _ _ => (kTup (K := K) (n := 2) rfl (pg_tup (by rfl) (pgs_cons (pg_name (i := 4) sc_lacking_in.nd rfl (by first | exact Or.inl rfl | exact Or.inr rfl)) (pgs_cons (pg_name (i := 5) sc_lacking_in.nd rfl (by first | exact Or.inl rfl | exact Or.inr rfl)) pgs_nil))))) (fun _ _ _ _ _ => pts_nil) (fun _ _ _ _ _ => (pe_callB (kLen K rfl) (by rfl) T.z_len (by decide +kernel) (pa_cons (pe_lc (own := [("place", 6)]) (by rfl) sc_lacking_in.nd (pi_range2 (by rfl) T.z_range (pa_cons (pv 4) (pa_cons (pv 5) pa_nil))) (blkOk_by (own := [("place", 6)]) (N := N_lacking_in) (sc := (relS { kind := PySem.ScopeKind.function, names := [ (PySem.Str.ofString ".0", PySem.NameKind.local), (PySem.Str.ofString "begin", PySem.NameKind.local), (PySem.Str.ofString "end", PySem.NameKind.local), (PySem.Str.ofString "len", PySem.NameKind.globalImplicit), (PySem.Str.ofString "range", PySem.NameKind.globalImplicit), (PySem.Str.ofString "lacks", PySem.NameKind.free)], isGenerator := false, isCoroutine := false, more := [] : PySem.Scope } (defScope s_lacking_in))) (by decide +kernel)) (fun _ _ _ _ _ => (pg_name (i := 6) sc_lacking_in.nd rfl (by first | exact Or.inl rfl | exact Or.inr rfl))) (fun _ _ _ _ _ => pts_one (pt_val (pe_ix (kIxL K rfl) (pv 3) (pv 6) (fun _ _ => rfl)))) (fun _ _ _ _ _ => (pv 6))) pa_nil))))))))), ?_⟩
  walk_at "cws"
  refine c_need_both n0 n8 hS hR fun H1 f1 => ?_
  walk_at "cws"
  refine c_need_rule hz ?_
  walk_at "cws"
  refine c_all_lacking n0 n8 (f1.seqL hS) hR fun p H2 f2 hp hx => ?_
  walk_at "cws"
  refine c_all_stretches n0 n8 ((f1.trans f2).seqL hS) hR.1 fun p2 xs H3 f3 hp2 hx2 hn => ?_
  have hlen := dpall_len hn.now
  rw [List.length_map] at hlen
  have hpl := parts_len (rooms := n.toNat) (by omega) ns
  have hpm := parts_mem (rooms := n.toNat) (by omega) ns
  have hbl := lackB_len n.toNat z ns
  have hr100 := hR.1
  have hx3 := f3.get0 hx
  generalize lackB n.toNat z ns = bs at *
  generalize parts n.toNat ns = ps at *
  walk_at "cws"
  refine l_list xs (SqL.of hx2) (fun D i acc H' => Fr [] H3 H' ∧ acc = (counts bs (ps.take i)).map V.int) (fun D hD => ⟨Fr.new hD, rfl⟩) (fun D i acc H' hD h _ => SqL.of (h.1.get0 hx2)) ?_ ?_
  · rintro D i y acc H' hD hi ⟨F, rfl⟩ hacc hl
    have hil := (List.getElem?_eq_some_iff.mp hi).1
    obtain ⟨⟨b, e⟩, he⟩ : ∃ e, ps[i]? = some e := ⟨ps[i], List.getElem?_eq_getElem (by omega)⟩
    obtain ⟨b0, be, en⟩ := hpm _ (List.mem_of_getElem? he)
    obtain ⟨y', hy, hdp⟩ := dpall_get hn.now (i := i) (d := pairD (b, e)) (by rw [List.getElem?_map, he]; rfl)
    rw [hi] at hy
    cases hy
    obtain ⟨t, rfl, ht⟩ := dp_pair hdp
    have ht' := F.seqT ht
    obtain ⟨b', rfl⟩ : ∃ b' : Nat, b = (b' : Int) := ⟨b.toNat, by omega⟩
    obtain ⟨e', rfl⟩ : ∃ e' : Nat, e = (e' : Int) := ⟨e.toNat, by omega⟩
    have be' : (b' : Int) < e' := be
    have en' : (e' : Int) ≤ ns.length := en
    walk_at "cws"
    refine l_rng2 (lo := (b' : Int)) (hi := (e' : Int)) (by omega) (by omega) (by omega) (by omega) (fun D2 j acc2 H2' => Fr [] H' H2' ∧ acc2 = (cntL bs b' (b' + j)).map V.int) (fun D2 hD2 => ⟨Fr.new hD2, by rw [Nat.add_zero, cntL_start]; rfl⟩) ?_ ?_
    · rintro D2 j acc2 H4 hD2 hj ⟨F4, rfl⟩ hacc2 hl2
      have hjl : b' + j < bs.length := by omega
      have hv : bs[b' + j]? = some bs[b' + j] := List.getElem?_eq_getElem hjl
      have hat : atI (bs.map V.bl) ((b' : Int) + (j : Int)) = some (.bl bs[b' + j]) := by
        rw [show (b' : Int) + (j : Int) = ((b' + j : Nat) : Int) by omega]
        exact atI_nat (by rw [List.getElem?_map, hv]; rfl)
      have es : cntL bs b' (b' + (j + 1)) = _ := cntL_succ (b := b') (e := b' + j) (by omega) hv
      have hx4 := (F.trans F4).get0 hx3
      walk_at "cws"
      walk_at "cw if" <;> intro e2
      · walk_at "cws"
        exact lc_end hacc2 hl2 (by omega) ⟨F4.loc hD2, by rw [es, if_pos e2, List.map_append]; rfl⟩
      · exact ⟨_, ⟨F4, by rw [es, e2]; simp⟩, hacc2, by omega⟩
    · rintro D2 acc2 H4 hD2 ⟨F4, rfl⟩ hacc2 hl2
      rw [show b' + (((e' : Int) - (b' : Int)).toNat) = e' by omega] at hacc2
      walk_at "cws"
      refine lc_end (F4.get0 hacc) hl (by omega) ⟨(F.trans F4).loc hD, ?_⟩
      rw [take_snoc he]
      unfold counts
      rw [List.map_append, List.map_append, List.length_map]
      rfl
  · rintro D acc H' hD ⟨F, rfl⟩ hacc hl
    rw [hlen, List.take_length] at hacc
    exact k D H' (((f1.trans f2).trans f3).trans F) (f1.free (f2.free (f3.free hD))) hacc

def sp_lacking_inN (K : PySem.W.Frag) (c : Bad → Addr) : Sp := fun vs H _ E => ∃ (r : Int) (a : Addr) (z : Str) (ns : List Int) (b : Bad), vs = [.int r, .ref a, .str z] ∧ SqL K H a (ns.map V.int) ∧ (BadBoth r ns b ∨ (1 ≤ r ∧ r ≤ 8 ∧ RowOk ns ∧ ¬ IsRule z ∧ b = .rule)) ∧ Bad.to c b H E
theorem ok_lacking_inN (T : Txt K mg ad) : FnOk P w K mg base (L2.CX P w) 6 ad.a_lacking_in ad.d_lacking_in ["rooms", "row", "rule"] (sp_lacking_inN K (cls ad)) := by
  refine T.F_lacking_in.okX sc_lacking_in (fun vs H Q E h => ?_) (fun cdv A outer s H vs Q E hr h => ?_)
  · obtain ⟨r, a, z, ns, b, rfl, _⟩ := h
    rfl
  obtain ⟨r, a, z, ns, b, rfl, hS, hb, k⟩ := h
  refine ⟨_, (pss_cons (ps_expr (pe_call (ok_need_bothX T) (hr.mono (by decide)) (by rfl) T.m_need_both T.F_need_both.kp T.b_need_both .nil (passes_call (takes_of rfl rfl rfl rfl) (fun _ _ _ _ h => h)) (pa_cons (pv 0) (pa_cons (pv 1) pa_nil))))
    (pss_first (ps_expr (pe_call (ok_need_ruleX T) (hr.mono (by decide)) (by rfl) T.m_need_rule T.F_need_rule.kp T.b_need_rule .nil (passes_call (takes_of rfl rfl rfl rfl) (fun _ _ _ _ h => h)) (pa_cons (pv 2) pa_nil))))), ?_⟩
  try dsimp only [L2.cxOf]
  walk_at "cwx"
  rcases hb with hb | ⟨h1, h2, hR, hz, rfl⟩
  · exact .inr (c_bothN hS hb k)
  · refine .inl (c_need_both (E := E) h1 h2 hS hR fun H1 f1 => ?_)
    walk_at "cwx"
    exact .inr ⟨z, rfl, hz, k.step f1⟩
def sp_lacking_inX (K : PySem.W.Frag) (c : Bad → Addr) : Sp := fun vs H Q E => sp_lacking_in K vs H Q E ∨ sp_lacking_inN K c vs H Q E
theorem ok_lacking_inX (T : Txt K mg ad) : FnOk P w K mg base (L2.CX P w) 6 ad.a_lacking_in ad.d_lacking_in ["rooms", "row", "rule"] (sp_lacking_inX K (cls ad)) := fn_or (ok_lacking_in T) (ok_lacking_inN T) (by decide)

/-! need_size -/
def sp_need_size : Sp := fun vs H Q _ => ∃ p n : Nat, vs = [.int p, .int n] ∧ 1 ≤ p ∧ p ≤ 12 ∧ n ≤ 5000 ∧ p ^ n ≤ 5000 ∧ Q .non H
theorem ok_need_size (T : Txt K mg ad) : FnOk P w K mg base CX0 1 ad.a_need_size ad.d_need_size ["pages", "long"] sp_need_size := by
  refine T.F_need_size.ok sc_need_size (fun vs H Q E h => ?_) (fun cdv A outer s H vs Q E hr h => ?_)
  · obtain ⟨p, n, rfl, _⟩ := h
    rfl
  obtain ⟨p, n, rfl, p1, p12, hn, hf, k⟩ := h
  refine ⟨_, (pss_cons (ps_if (PW.pt (pw_or (pt_not (pt_chain op_le op_le pe_int (pv 0) (pe_glob (v := .int 12) rfl T.m_MOST_PAGES ⟨_, rfl⟩))) (pw_or1 (pt_cmpR op_lt (pv 1) pe_int (nomark _))))) (pss_one ps_never) pss_nil)
    (pss_cons (ps_set (i := 2) sc_need_size.nd rfl (by first | exact Or.inl rfl | exact Or.inr rfl) pe_int)
    (pss_cons (ps_for PassesOwn.never rfl (pi_range1 (by rfl) T.z_range (pa_cons (pe_callB (cr_min2 rfl) (by rfl) T.z_min (by decide +kernel) (pa_cons (pv 1) (pa_cons (pe_glob (v := .int 5000) rfl T.m_MOST_ROWS ⟨_, rfl⟩) pa_nil))) pa_nil)) (pg_name (i := 3) sc_need_size.nd rfl (by first | exact Or.inl rfl | exact Or.inr rfl)) (pss_cons (ps_set (i := 2) sc_need_size.nd rfl (by first | exact Or.inl rfl | exact Or.inr rfl) (pe_op op_mul (pv 2) (pv 0)))
    (pss_one (ps_if (pt_cmpR op_gt (pv 2) (pe_glob (v := .int 5000) rfl T.m_MOST_ROWS ⟨_, rfl⟩) (nomark _)) (pss_one ps_never) pss_nil))))
    (pss_one (ps_if (pt_cmpR op_gt (pv 1) (pe_glob (v := .int 5000) rfl T.m_MOST_ROWS ⟨_, rfl⟩) (nomark _)) (pss_one ps_never) pss_nil))))), ?_⟩
  walk_at "cwx"
  have en : (if (5000 : Int) < (n : Int) then (5000 : Int) else (n : Int)) = (n : Int) := if_neg (by omega)
  rw [en]
  have hpw : ∀ i, i ≤ n → p ^ i ≤ 5000 := fun i hi => Nat.le_trans (Nat.pow_le_pow_right p1 hi) hf
  refine f_rng1 (by omega) (by omega) (fun i σ H' => ∃ v3, σ = [some (.int p), some (.int n), some (.int ((p ^ i : Nat) : Int)), v3] ∧ H' = H) ⟨_, rfl, rfl⟩ ?_ ?_
  · rintro i σ H' hi ⟨v3, rfl, rfl⟩
    have h1 := hpw i (by omega)
    have h2 := hpw (i + 1) (by omega)
    have e2 : ((p ^ i : Nat) : Int) * (p : Int) = ((p ^ (i + 1) : Nat) : Int) := by rw [Nat.pow_succ, Int.natCast_mul]
    generalize p ^ i = a at *
    generalize p ^ (i + 1) = b at *
    walk_at "cwx"
    rw [e2]
    walk_at "cwx"
    exact ⟨_, rfl, rfl⟩
  · rintro σ H' ⟨v3, rfl, rfl⟩
    walk_at "cwx"
    exact k
/-- what is refused of pages and a length -/
def SizeBad (p n : Int) : Bad → Prop
  | .row q => q = 0 ∧ (¬ (1 ≤ p ∧ p ≤ 12) ∨ n < 0)
  | .many => 1 ≤ p ∧ p ≤ 12 ∧ 0 ≤ n ∧ (5000 < n ∨ 5000 < p.toNat ^ n.toNat)
  | _ => False
def sp_need_sizeN (c : Bad → Addr) : Sp := fun vs H _ E => ∃ (p n : Int) (b : Bad), vs = [.int p, .int n] ∧ SizeBad p n b ∧ Bad.to c b H E
theorem ok_need_sizeN (T : Txt K mg ad) : FnOk P w K mg base (L2.CX P w) 3 ad.a_need_size ad.d_need_size ["pages", "long"] (sp_need_sizeN (cls ad)) := by
  refine T.F_need_size.okX sc_need_size (fun vs H Q E h => ?_) (fun cdv A outer s H vs Q E hr h => ?_)
  · obtain ⟨p, n, b, rfl, _⟩ := h
    rfl
  obtain ⟨p, n, b, rfl, hb, k⟩ := h
  refine ⟨_, (pss_cons (ps_if (PW.pt (pw_or (pt_not (pt_chain op_le op_le pe_int (pv 0) (pe_glob (v := .int 12) rfl T.m_MOST_PAGES ⟨_, rfl⟩))) (pw_or1 (pt_cmpR op_lt (pv 1) pe_int (nomark _))))) (pss_one (ps_raise rfl (takes_of rfl rfl rfl rfl) (pmk_oex T.ox_BadRow T.ii_BadRow T.ti_BadRow (ok_BadRow_init T) (hr.mono (by decide)) T.b_BadRow_init .nil pass0 (by rfl) T.m_BadRow (pa_cons pe_int pa_nil)))) pss_nil)
    (pss_cons (ps_set (i := 2) sc_need_size.nd rfl (by first | exact Or.inl rfl | exact Or.inr rfl) pe_int)
    (pss_cons (ps_for (passes_of rfl) rfl (pi_range1 (by rfl) T.z_range (pa_cons (pe_callB (cr_min2 rfl) (by rfl) T.z_min (by decide +kernel) (pa_cons (pv 1) (pa_cons (pe_glob (v := .int 5000) rfl T.m_MOST_ROWS ⟨_, rfl⟩) pa_nil))) pa_nil)) (pg_name (i := 3) sc_need_size.nd rfl (by first | exact Or.inl rfl | exact Or.inr rfl)) (pss_cons (ps_set (i := 2) sc_need_size.nd rfl (by first | exact Or.inl rfl | exact Or.inr rfl) (pe_op op_mul (pv 2) (pv 0)))
    (pss_one (ps_if (pt_cmpR op_gt (pv 2) (pe_glob (v := .int 5000) rfl T.m_MOST_ROWS ⟨_, rfl⟩) (nomark _)) (pss_one (ps_raise rfl (takes_of rfl rfl rfl rfl) (pmk_ownB T.ow_TooMany T.m_TooMany (by rfl)))) pss_nil))))
    (pss_one (ps_if (pt_cmpR op_gt (pv 1) (pe_glob (v := .int 5000) rfl T.m_MOST_ROWS ⟨_, rfl⟩) (nomark _)) (pss_one (ps_raise rfl (takes_of rfl rfl rfl rfl) (pmk_ownB T.ow_TooMany T.m_TooMany (by rfl)))) pss_nil))))), ?_⟩
  try dsimp only [L2.cxOf]
  cases b with
  | rooms => exact hb.elim
  | rule => exact hb.elim
  | row q =>
    obtain ⟨rfl, hb⟩ := hb
    have fin : tMkO ad.C_BadRow (sp_BadRow_init ad.C_BadRow) [] (tCons (tC (.int 0)) tNil) (L2.start N_need_size [V.int p, V.int n]) H fun cls d H' => E cls d H' := by
      dsimp only [tMkO]
      walk_at "cwx"
      refine ⟨by simp, fun b hb => ⟨b, _, rfl, upd_same, fun d h1 h2 => ⟨rfl, d, _, upd_same, (upd_ne h2).trans upd_same, (upd_ne h2).symm.trans h1, ?_⟩⟩⟩
      exact row_end k rfl hb ((upd_ne h2).symm.trans h1)
    walk_at "cwx"
    walk_at "cw if" <;> intro e1
    · walk_at "cwx"
      walk_at "cw if" <;> intro e2
      · walk_at "cwx"
        exact fin
      · walk_at "cwx"
        exact fin
    · walk_at "cwx"
      exact fin
  | many =>
    obtain ⟨p1, p12, n0, hbig⟩ := hb
    obtain ⟨P, rfl⟩ : ∃ P : Nat, p = (P : Int) := ⟨p.toNat, by omega⟩
    obtain ⟨M, rfl⟩ : ∃ M : Nat, n = (M : Int) := ⟨n.toNat, by omega⟩
    simp only [Int.toNat_natCast] at hbig
    walk_at "cwx"
    obtain ⟨m, em, hm1, hm2, hm3⟩ : ∃ m : Nat, (if (5000 : Int) < (M : Int) then (5000 : Int) else (M : Int)) = (m : Int) ∧ m ≤ 5000 ∧ m ≤ M ∧ (M ≤ 5000 → m = M) := by
      by_cases h : (5000 : Int) < (M : Int)
      · exact ⟨5000, if_pos h, Nat.le_refl _, by omega, by omega⟩
      · exact ⟨M, if_neg h, by omega, Nat.le_refl _, fun _ => rfl⟩
    rw [em]
    refine f_rng1 (by omega) (by omega) (fun i σ H' => ∃ v3, σ = [some (.int (P : Int)), some (.int (M : Int)), some (.int ((P ^ i : Nat) : Int)), v3] ∧ H' = H ∧ P ^ i ≤ 5000) ⟨_, rfl, rfl, by simp⟩ ?_ ?_
    · rintro i σ H' hi ⟨v3, rfl, rfl, h1⟩
      have e2 : ((P ^ i : Nat) : Int) * (P : Int) = ((P ^ (i + 1) : Nat) : Int) := by rw [Nat.pow_succ, Int.natCast_mul]
      generalize P ^ i = a at *
      generalize P ^ (i + 1) = b at *
      walk_at "cwx"
      rw [e2]
      walk_at "cwx"
      walk_at "cw if" <;> intro e3
      · walk_at "cwx"
        exact k none H' .refl rfl
      · walk_at "cwx"
        exact ⟨_, rfl, rfl, by omega⟩
    · rintro σ H' ⟨v3, rfl, rfl, h1⟩
      rw [Int.toNat_natCast] at h1
      have hbig2 : 5000 < M := by
        rcases hbig with h | h
        · omega
        · by_cases hM : M ≤ 5000
          · rw [hm3 hM] at h1
            omega
          · omega
      walk_at "cwx"
      exact k none H' .refl rfl
def sp_need_sizeX (c : Bad → Addr) : Sp := fun vs H Q E => sp_need_size vs H Q E ∨ sp_need_sizeN c vs H Q E
theorem ok_need_sizeX (T : Txt K mg ad) : FnOk P w K mg base (L2.CX P w) 3 ad.a_need_size ad.d_need_size ["pages", "long"] (sp_need_sizeX (cls ad)) := fn_or (ok_need_size T) (ok_need_sizeN T) (by decide)

/-! worst -/
/-- what is refused of what worst is handed -/
def WorstBad (r p n : Int) (z : Str) (b : Bad) : Prop := (¬ (1 ≤ r ∧ r ≤ 8) ∧ b = .rooms) ∨ (1 ≤ r ∧ r ≤ 8 ∧ (SizeBad p n b ∨ (1 ≤ p ∧ p ≤ 12 ∧ 0 ≤ n ∧ n ≤ 5000 ∧ p.toNat ^ n.toNat ≤ 5000 ∧ ¬ IsRule z ∧ b = .rule)))
def sp_worstX (c : Bad → Addr) : Sp := fun vs H _ E => ∃ (r p n : Int) (z : Str) (b : Bad), vs = [.int r, .int p, .int n, .str z] ∧ WorstBad r p n z b ∧ Bad.to c b H E
theorem ok_worstX (T : Txt K mg ad) : FnOk P w K mg base (L2.CX P w) 7 ad.a_worst ad.d_worst ["rooms", "pages", "long", "rule"] (sp_worstX (cls ad)) := by
  refine T.F_worst.okX sc_worst (fun vs H Q E h => ?_) (fun cdv A outer s H vs Q E hr h => ?_)
  · obtain ⟨r, p, n, z, b, rfl, _⟩ := h
    rfl
  obtain ⟨r, p, n, z, b, rfl, hb, k⟩ := h
  refine ⟨_, (pss_cons (ps_expr (pe_call (ok_need_roomsX T) (hr.mono (by decide)) (by rfl) T.m_need_rooms T.F_need_rooms.kp T.b_need_rooms .nil (passes_call (takes_of rfl rfl rfl rfl) (fun _ _ _ _ h => h)) (pa_cons (pv 0) pa_nil)))
    (pss_cons (ps_expr (pe_call (ok_need_sizeX T) (hr.mono (by decide)) (by rfl) T.m_need_size T.F_need_size.kp T.b_need_size .nil (passes_call (takes_of rfl rfl rfl rfl) (fun _ _ _ _ h => h)) (pa_cons (pv 1) (pa_cons (pv 2) pa_nil))))
    (pss_first (ps_expr (pe_call (ok_need_ruleX T) (hr.mono (by decide)) (by rfl) T.m_need_rule T.F_need_rule.kp T.b_need_rule .nil (passes_call (takes_of rfl rfl rfl rfl) (fun _ _ _ _ h => h)) (pa_cons (pv 3) pa_nil)))))), ?_⟩
  try dsimp only [L2.cxOf]
  walk_at "cwx"
  rcases hb with ⟨hn, rfl⟩ | ⟨h1, h2, hb⟩
  · exact .inr ⟨r, rfl, hn, k⟩
  refine .inl (c_need_rooms (E := E) h1 h2 ?_)
  walk_at "cwx"
  rcases hb with hb | ⟨p1, p2, n0, n5, hf, hz, rfl⟩
  · exact .inr ⟨p, n, b, rfl, hb, k⟩
  refine .inl ⟨p.toNat, n.toNat, by rw [Int.toNat_of_nonneg (by omega), Int.toNat_of_nonneg n0]; rfl, by omega, by omega, by omega, hf, ?_⟩
  walk_at "cwx"
  exact .inr ⟨z, rfl, hz, k⟩

/-! _law_begun -/
def sp_l_begun (K : PySem.W.Frag) : Sp := fun vs H Q _ => ∃ (a : Addr) (ns : List Int), vs = [.ref a] ∧ SqL K H a (ns.map V.int) ∧ ns.length ≤ 63 ∧
  ∀ b q H', Fr [] H H' → H b = none → H q = none → Box H' b q → Q (.ref b) H'
theorem ok_l_begun (T : Txt K mg ad) : FnOk P w K mg base CX0 1 ad.a_l_begun ad.d_l_begun ["_law_script"] (sp_l_begun K) := by
  refine T.F_l_begun.ok sc_l_begun (fun vs H Q E h => ?_) (fun cdv A outer s H vs Q E hr h => ?_)
  · obtain ⟨a, ns, rfl, _⟩ := h
    rfl
  obtain ⟨a, ns, rfl, hS, hl, k⟩ := h
  refine ⟨_, (pss_cons (ps_set (i := 1) sc_l_begun.nd rfl (by first | exact Or.inl rfl | exact Or.inr rfl) pe_int)
    (pss_cons (ps_for PassesOwn.never rfl (kIL (K := K) rfl (pi_list (pv 0))) (pg_name (i := 2) sc_l_begun.nd rfl (by first | exact Or.inl rfl | exact Or.inr rfl)) (pss_one (ps_set (i := 1) sc_l_begun.nd rfl (by first | exact Or.inl rfl | exact Or.inr rfl) (pe_op op_mod (pe_op op_add (pe_op op_add (pe_op op_mul (pv 1) pe_int) (pe_op op_mul (pv 2) pe_int)) pe_int) pe_int))))
    (pss_one (ps_ret (pe_lst (pa_cons (pe_callTy (kList K rfl) (by rfl) T.z_list (by decide +kernel) (pa_cons (pv 0) pa_nil)) (pa_cons (pe_op op_mul (pv 1) (pe_callTy cr_int (by rfl) T.z_int (by decide +kernel) (pa_cons (pe_cmpR op_gt (pe_callB (kLen K rfl) (by rfl) T.z_len (by decide +kernel) (pa_cons (pv 0) pa_nil)) pe_int (nomark _)) pa_nil))) pa_nil))))))), ?_⟩
  try dsimp only [L2.cxOf, L2.Cx.nox]
  walk_at "cw"
  refine f_list (ns.map V.int) (fun i σ H' => ∃ (st : Int) (v : Option V), σ = [some (.ref a), some (.int st), v] ∧ H' = H ∧ 0 ≤ st ∧ st < 2147483647) ⟨0, none, rfl, rfl, by decide, by decide⟩ (fun i σ H' _ ⟨_, _, _, e, _⟩ => by rw [e]; exact hS) ?_ ?_
  · rintro i x σ H' hi ⟨st, v, rfl, rfl, h0, h1⟩
    obtain ⟨z, hz, rfl⟩ := int_at hi
    walk_at "cw"
    exact ⟨_, _, rfl, rfl, by omega, by omega⟩
  · rintro σ H' ⟨st, v, rfl, rfl, h0, h1⟩
    walk_at "cw"
    rename_i p hp c hc
    have hc0 : H' c = none := upd_none hc
    refine k c p _ ((Fr.new hp).more (Fr.new hc)) hc0 hp ⟨_, ns, upd_same, ?_, ?_, ?_, hl⟩
    · rw [upd_ne (ne_of_none upd_same hc), upd_same]
    all_goals split <;> omega

/-! _law_take -/
def sp_l_take : Sp := fun vs H Q _ => ∃ (b q : Addr) (n : Int), vs = [.ref b, .int n] ∧ Box H b q ∧ 0 < n ∧ n < 1606938044258990275541962092341162602522202993782792835301376 ∧
  ∀ (r : Int) H', Fr [b, q] H H' → Box H' b q → 0 ≤ r → r < n → Q (.int r) H'
theorem ok_l_take (T : Txt K mg ad) : FnOk P w K mg base CX0 1 ad.a_l_take ad.d_l_take ["_law_box", "_law_many"] sp_l_take := by
  refine T.F_l_take.ok sc_l_take (fun vs H Q E h => ?_) (fun cdv A outer s H vs Q E hr h => ?_)
  · obtain ⟨b, q, n, rfl, _⟩ := h
    rfl
  obtain ⟨b, q, n, rfl, hB, n0, n1, k⟩ := h
  have nbq := hB.ne
  obtain ⟨z, ms, hb, hq, z0, z1, hl⟩ := hB
  refine ⟨_, (pss_cons (ps_if (pt_cmpR (kEqD K rfl hr.units) (pe_ix (kIxL K rfl) (pv 0) pe_int (fun _ _ => rfl)) (pe_lst pa_nil) (nomark _)) (pss_cons (ps_asg (pe_op op_mod (pe_op op_mul (pe_ix (kIxL K rfl) (pv 0) pe_int (fun _ _ => rfl)) pe_int) pe_int) (pg_sub (pv 0) pe_int set_list))
    (pss_one (ps_ret (pe_op op_mod (pe_op op_fdivW (pe_ix (kIxL K rfl) (pv 0) pe_int (fun _ _ => rfl)) pe_int) (pv 1))))) pss_nil)
    (pss_cons (ps_set (i := 2) sc_l_take.nd rfl (by first | exact Or.inl rfl | exact Or.inr rfl) (pe_ix (kIxL K rfl) (pe_ix (kIxL K rfl) (pv 0) pe_int (fun _ _ => rfl)) pe_int (fun _ _ => rfl)))
    (pss_cons (ps_asg (pe_op op_fdivW (pv 2) (pv 1)) (pg_sub (pe_ix (kIxL K rfl) (pv 0) pe_int (fun _ _ => rfl)) pe_int set_list))
    (pss_cons (ps_if (PW.pt (pw_or (pt_cmpR op_eq (pe_ix (kIxL K rfl) (pe_ix (kIxL K rfl) (pv 0) pe_int (fun _ _ => rfl)) pe_int (fun _ _ => rfl)) pe_int (nomark _)) (pw_or1 (pt_cmpR op_eq (pe_ix (kIxL K rfl) (pe_ix (kIxL K rfl) (pv 0) pe_int (fun _ _ => rfl)) pe_int (fun _ _ => rfl)) (pe_un un_neg pe_int) (nomark _))))) (pss_one (ps_expr (kBM (K := K) rfl (pe_bm PySem.F.plainAttrs_list PySem.F.slot_list_pop PySem.F.type_list_pop mt_popAt (pe_ix (kIxL K rfl) (pv 0) pe_int (fun _ _ => rfl)) (pa_cons pe_int pa_nil))))) pss_nil)
    (pss_one (ps_ret (pe_op op_mod (pv 2) (pv 1)))))))), ?_⟩
  try dsimp only [L2.cxOf, L2.Cx.nox]
  walk_at "cwx"
  rename_i p hp
  walk_at "cw if" <;> intro e
  · subst e
    walk_at "cwx"
    refine k _ _ ?_ ?_ (mod_in n0).1 (mod_in n0).2
    · exact (Fr.new hp).trans (Fr.at (by simp))
    · exact ⟨_, [], upd_same, by walk_at "cw at", by omega, by omega, by simp⟩
  · obtain ⟨m, r, rfl⟩ : ∃ m r, ms = m :: r := by
      cases ms with
      | nil => exact absurd rfl e
      | cons m r => exact ⟨m, r, rfl⟩
    simp only [List.map_cons] at hq
    simp only [List.length_cons] at hl
    walk_at "cwx"
    have fin : ∀ xs : List Int, xs.length ≤ 63 → Q (V.int (m % n)) (upd (upd H p (HO.lst [])) q (HO.lst (xs.map V.int))) := fun xs hx => by
      refine k _ _ ?_ ?_ (mod_in n0).1 (mod_in n0).2
      · exact (Fr.new hp).trans (Fr.at (by simp))
      · exact ⟨z, xs, by walk_at "cw at", upd_same, z0, z1, hx⟩
    walk_at "cw if" <;> intro e1
    · walk_at "cwx"
      rw [upd_upd]
      exact fin r (by omega)
    · walk_at "cwx"
      walk_at "cw if" <;> intro e2
      · walk_at "cwx"
        rw [upd_upd]
        exact fin r (by omega)
      · walk_at "cwx"
        exact fin (m / n :: r) (by simp only [List.length_cons]; omega)
theorem c_take {H : Hp} {Q : VK} {E : XK} {b q : Addr} {n : Int} (hB : Box H b q) (n0 : 0 < n) (n1 : n < 1606938044258990275541962092341162602522202993782792835301376) (k : ∀ (r : Int) H', Fr [b, q] H H' → Box H' b q → 0 ≤ r → r < n → Q (.int r) H') : sp_l_take ([.ref b, .int n] ++ []) H Q E := ⟨b, q, n, rfl, hB, n0, n1, k⟩

/-! _law_alike -/
def sp_l_alike (K : PySem.W.Frag) (k : Nat) : Sp := fun vs H Q _ => ∃ (x y : V) (d : PyData), vs = [x, y] ∧ Dp K H x d ∧ Dp K H y d ∧ fits k d ∧ Q (.bl true) H
theorem c_alike {H : Hp} {Q : VK} {E : XK} {k : Nat} {x y : V} (d : PyData) (h1 : Dp K H x d) (h2 : Dp K H y d) (h3 : fits k d) (q : Q (.bl true) H) : sp_l_alike K k ([x, y] ++ []) H Q E := ⟨x, y, d, rfl, h1, h2, h3, q⟩
theorem alike_body (T : Txt K mg ad) (k : Nat) (spJ : Sp) (GJ : FnOk P w K mg base CX0 k ad.a_l_alike ad.d_l_alike ["_law_found", "_law_due"] spJ)
    (hk : ∀ ds, fits k (.list ds) ∨ fits k (.tuple ds) → ∃ j, k = j + 1 ∧ spJ = sp_l_alike K j) : FnOk P w K mg base CX0 (k + 1) ad.a_l_alike ad.d_l_alike ["_law_found", "_law_due"] (sp_l_alike K k) := by
    refine T.F_l_alike.ok sc_l_alike (fun vs H Q E h => ?_) (fun cdv A outer s H vs Q E hr h => ?_)
    · obtain ⟨x, y, d, rfl, _⟩ := h
      rfl
    obtain ⟨x, y, d, rfl, h1, h2, h3, q⟩ := h
    refine ⟨_, (pss_cons (ps_if (pt_cmpR op_isN1 (pv 1) pe_non (nomark _)) (pss_one (ps_ret (pe_cmpR op_isN1 (pv 0) pe_non (nomark _)))) pss_nil)
    (pss_cons (ps_if (pt_val (pe_callB (kIsi K rfl) (by rfl) T.z_isinstance (by decide +kernel) (pa_cons (pv 1) (pa_cons (pe_bltn (v := .ty "bool") (by rfl) T.z_bool (by decide +kernel) rfl) pa_nil)))) (pss_one (ps_ret (pe_and (pe_callB (kIsi K rfl) (by rfl) T.z_isinstance (by decide +kernel) (pa_cons (pv 0) (pa_cons (pe_bltn (v := .ty "bool") (by rfl) T.z_bool (by decide +kernel) rfl) pa_nil))) (pe_one (pe_cmpR op_eq (pv 0) (pv 1) (nomark _)))))) pss_nil)
    (pss_cons (ps_if (pt_val (pe_callB (kIsi K rfl) (by rfl) T.z_isinstance (by decide +kernel) (pa_cons (pv 1) (pa_cons (pe_bltn (v := .ty "int") (by rfl) T.z_int (by decide +kernel) rfl) pa_nil)))) (pss_one (ps_ret (pe_and (pe_callB (kIsi K rfl) (by rfl) T.z_isinstance (by decide +kernel) (pa_cons (pv 0) (pa_cons (pe_bltn (v := .ty "int") (by rfl) T.z_int (by decide +kernel) rfl) pa_nil))) (pe_and (pe_not (pe_callB (kIsi K rfl) (by rfl) T.z_isinstance (by decide +kernel) (pa_cons (pv 0) (pa_cons (pe_bltn (v := .ty "bool") (by rfl) T.z_bool (by decide +kernel) rfl) pa_nil)))) (pe_one (pe_cmpR op_eq (pv 0) (pv 1) (nomark _))))))) pss_nil)
    (pss_cons (ps_if (pt_val (pe_callB (kIsi K rfl) (by rfl) T.z_isinstance (by decide +kernel) (pa_cons (pv 1) (pa_cons (pe_bltn (v := .ty "str") (by rfl) T.z_str (by decide +kernel) rfl) pa_nil)))) (pss_one (ps_ret (pe_and (pe_callB (kIsi K rfl) (by rfl) T.z_isinstance (by decide +kernel) (pa_cons (pv 0) (pa_cons (pe_bltn (v := .ty "str") (by rfl) T.z_str (by decide +kernel) rfl) pa_nil))) (pe_one (pe_cmpR op_eq (pv 0) (pv 1) (nomark _)))))) pss_nil)
    (pss_cons (ps_if (PW.pt (pw_or (pt_cmpR op_ne (pe_callB (kIsi K rfl) (by rfl) T.z_isinstance (by decide +kernel) (pa_cons (pv 1) (pa_cons (pe_bltn (v := .ty "tuple") (by rfl) T.z_tuple (by decide +kernel) rfl) pa_nil))) (pe_callB (kIsi K rfl) (by rfl) T.z_isinstance (by decide +kernel) (pa_cons (pv 0) (pa_cons (pe_bltn (v := .ty "tuple") (by rfl) T.z_tuple (by decide +kernel) rfl) pa_nil))) (nomark _)) (pw_or1 (pt_cmpR op_ne (pe_callB (kIsi K rfl) (by rfl) T.z_isinstance (by decide +kernel) (pa_cons (pv 1) (pa_cons (pe_bltn (v := .ty "list") (by rfl) T.z_list (by decide +kernel) rfl) pa_nil))) (pe_callB (kIsi K rfl) (by rfl) T.z_isinstance (by decide +kernel) (pa_cons (pv 0) (pa_cons (pe_bltn (v := .ty "list") (by rfl) T.z_list (by decide +kernel) rfl) pa_nil))) (nomark _))))) (pss_one (ps_ret pe_bl)) pss_nil)
    (pss_cons (ps_if (pt_cmpR op_ne (pe_callB (kLen K rfl) (by rfl) T.z_len (by decide +kernel) (pa_cons (pv 0) pa_nil)) (pe_callB (kLen K rfl) (by rfl) T.z_len (by decide +kernel) (pa_cons (pv 1) pa_nil)) (nomark _)) (pss_one (ps_ret pe_bl)) pss_nil)
    (pss_cons (ps_for PassesOwn.never rfl (pi_range1 (by rfl) T.z_range (pa_cons (pe_callB (kLen K rfl) (by rfl) T.z_len (by decide +kernel) (pa_cons (pv 1) pa_nil)) pa_nil)) (pg_name (i := 2) sc_l_alike.nd rfl (by first | exact Or.inl rfl | exact Or.inr rfl)) (pss_one (ps_if (pt_not (pt_val (pe_call GJ (hr.mono (Nat.le_refl _)) (by rfl) T.m_l_alike T.F_l_alike.kp T.b_l_alike .nil pass0 (pa_cons (pe_ix (kIxQ K rfl) (pv 0) (pv 2) (fun _ _ => rfl)) (pa_cons (pe_ix (kIxQ K rfl) (pv 1) (pv 2) (fun _ _ => rfl)) pa_nil))))) (pss_one (ps_ret pe_bl)) pss_nil)))
    (pss_one (ps_ret pe_bl))))))))), ?_⟩
    try dsimp only [L2.cxOf, L2.Cx.nox]
    cases h1 with
    | non =>
      cases h2
      walk_at "cw"
      exact q
    | bl b =>
      cases h2
      walk_at "cw"
      rw [decide_eq_true rfl]
      exact q
    | int i =>
      cases h2
      walk_at "cw"
      rw [decide_eq_true rfl]
      exact q
    | str z =>
      cases h2
      walk_at "cw"
      rw [decide_eq_true rfl]
      exact q
    | @lst a1 xs1 ds hs1 ha1 =>
      cases h2 with
      | @lst a2 xs2 _ hs2 ha2 =>
      obtain ⟨j, rfl, rfl⟩ := hk ds (.inl h3)
      obtain ⟨hz, hf⟩ := h3
      have l1 := dpall_len ha1
      have l2 := dpall_len ha2
      walk_at "cw"
      refine f_rng1 (by omega) (by omega) (fun i σ H' => ∃ v : Option V, σ = [some (.ref a1), some (.ref a2), v] ∧ H' = H) ⟨none, rfl, rfl⟩ ?_ ?_
      · rintro i σ H' hi ⟨v, rfl, rfl⟩
        have hi' : i < ds.length := by omega
        obtain ⟨x1, e1, d1⟩ := dpall_get ha1 (List.getElem?_eq_getElem hi')
        obtain ⟨x2, e2, d2⟩ := dpall_get ha2 (List.getElem?_eq_getElem hi')
        walk_at "cw"
        refine c_alike _ d1 d2 (hf _ (List.getElem_mem hi')) ?_
        walk_at "cw"
        exact ⟨_, rfl, rfl⟩
      · rintro σ H' ⟨v, rfl, rfl⟩
        walk_at "cw"
        exact q
    | @tup a1 xs1 ds hs1 ha1 =>
      cases h2 with
      | @tup a2 xs2 _ hs2 ha2 =>
      obtain ⟨j, rfl, rfl⟩ := hk ds (.inr h3)
      obtain ⟨hz, hf⟩ := h3
      have l1 := dpall_len ha1
      have l2 := dpall_len ha2
      walk_at "cw"
      refine f_rng1 (by omega) (by omega) (fun i σ H' => ∃ v : Option V, σ = [some (.ref a1), some (.ref a2), v] ∧ H' = H) ⟨none, rfl, rfl⟩ ?_ ?_
      · rintro i σ H' hi ⟨v, rfl, rfl⟩
        have hi' : i < ds.length := by omega
        obtain ⟨x1, e1, d1⟩ := dpall_get ha1 (List.getElem?_eq_getElem hi')
        obtain ⟨x2, e2, d2⟩ := dpall_get ha2 (List.getElem?_eq_getElem hi')
        walk_at "cw"
        refine c_alike _ d1 d2 (hf _ (List.getElem_mem hi')) ?_
        walk_at "cw"
        exact ⟨_, rfl, rfl⟩
      · rintro σ H' ⟨v, rfl, rfl⟩
        walk_at "cw"
        exact q
theorem alike_at (T : Txt K mg ad) : ∀ k : Nat, FnOk P w K mg base CX0 (k + 1) ad.a_l_alike ad.d_l_alike ["_law_found", "_law_due"] (sp_l_alike K k)
  | 0 => alike_body T 0 (fun _ _ _ _ => False) ⟨fun _ _ _ _ h => h.elim, fun _ _ _ _ _ _ _ _ _ _ _ _ _ h => h.elim⟩ (fun ds h => by rcases h with h | h <;> exact h.elim)
  | k + 1 => alike_body T (k + 1) (sp_l_alike K k) (alike_at T k) (fun _ _ => ⟨k, rfl, rfl⟩)
theorem ok_l_alike (T : Txt K mg ad) : FnOk P w K mg base CX0 6 ad.a_l_alike ad.d_l_alike ["_law_found", "_law_due"] (sp_l_alike K 5) := alike_at T 5

/-! _law_class -/
def sp_l_class (c : Bad → Addr) : Addr → Value → Option Addr → Sp := fun a cv d vs H Q _ => ∃ b : Bad, vs = [.ref a] ∧ cv = .ref (c b) ∧ (∀ dd, d = some dd → ∃ fs, H dd = some (.xd fs)) ∧ ∀ H', Fr [] H H' → Q (.str b.word) H'
theorem ok_l_class (T : Txt K mg ad) : FnX P w K mg base CX0 1 ad.a_l_class ad.d_l_class ["_law_e"] (sp_l_class (cls ad)) := by
  refine fun_okH T.F_l_class sc_l_class (fun a c d vs H Q E h => ?_) (fun cdv A outer s H vs Q E p c d hz hf hr h => ?_)
  · obtain ⟨b, rfl, _⟩ := h
    rfl
  obtain ⟨b, rfl, rfl, hd, k⟩ := h
  cases b with
  | rooms =>
    have hz : Zc (.ref ad.C_BadRooms) d p.2 := hz
    have hD := T.er_BadRooms
    refine ⟨_, (pss_cons (ps_set (i := 1) sc_l_class.nd rfl (by first | exact Or.inl rfl | exact Or.inr rfl) (pe_lst (pa_cons (pe_callB (kIsX (K := K) rfl hD.isE List.mem_cons_self hz hf) (by rfl) T.z_isinstance (by decide +kernel) (pa_cons (pv 0) (pa_cons (pe_glob (v := .ref ad.C_BadRooms) rfl T.m_BadRooms rfl) pa_nil))) (pa_cons (pe_callB (kIsX (K := K) rfl hD.isE List.mem_cons_self hz hf) (by rfl) T.z_isinstance (by decide +kernel) (pa_cons (pv 0) (pa_cons (pe_glob (v := .ref ad.C_BadRow) rfl T.m_BadRow rfl) pa_nil))) (pa_cons (pe_callB (kIsX (K := K) rfl hD.isE List.mem_cons_self hz hf) (by rfl) T.z_isinstance (by decide +kernel) (pa_cons (pv 0) (pa_cons (pe_glob (v := .ref ad.C_BadRule) rfl T.m_BadRule rfl) pa_nil))) (pa_cons (pe_callB (kIsX (K := K) rfl hD.isE List.mem_cons_self hz hf) (by rfl) T.z_isinstance (by decide +kernel) (pa_cons (pv 0) (pa_cons (pe_glob (v := .ref ad.C_TooMany) rfl T.m_TooMany rfl) pa_nil))) pa_nil))))))
    (pss_cons (ps_set (i := 2) sc_l_class.nd rfl (by first | exact Or.inl rfl | exact Or.inr rfl) (pe_lst (pa_cons pe_str (pa_cons pe_str (pa_cons pe_str (pa_cons pe_str pa_nil))))))
    (pss_one (ps_ret (pe_ifExp (PW.pt (pw_and (pt_cmpR op_eq (kBM (K := K) rfl (pe_bm PySem.F.plainAttrs_list PySem.F.slot_list_count PySem.F.type_list_count (kCountB K rfl) (pv 1) (pa_cons pe_bl pa_nil))) pe_int (nomark _)) (pw_and1 (pt_val (pe_callB (kIsX (K := K) rfl hD.isE List.mem_cons_self hz hf) (by rfl) T.z_isinstance (by decide +kernel) (pa_cons (pv 0) (pa_cons (pe_bltn (v := .ty "ValueError") (by rfl) T.z_ValueError (by decide +kernel) rfl) pa_nil))))))) (pe_ix (kIxL K rfl) (pv 2) (kBM (K := K) rfl (pe_bm PySem.F.plainAttrs_list PySem.F.slot_list_index PySem.F.type_list_index (kIndex K rfl) (pv 1) (pa_cons pe_bl pa_nil))) (fun _ _ => rfl)) pe_str))))), ?_⟩
    try dsimp only [L2H.cxH, L2.cxOf, L2.Cx.nox]
    walk_at "cwx"
    refine w_isX (T.er_BadRooms.kit T.s_BadRooms_BadRooms (cls_ne T.s_BadRooms_BadRooms T.s_BadRooms_BadRooms)) hd ?_
    walk_at "cwx"
    refine w_isX (T.er_BadRow.kit T.s_BadRooms_BadRow (cls_ne T.s_BadRooms_BadRooms T.s_BadRooms_BadRow)) hd ?_
    walk_at "cwx"
    refine w_isX (T.er_BadRule.kit T.s_BadRooms_BadRule (cls_ne T.s_BadRooms_BadRooms T.s_BadRooms_BadRule)) hd ?_
    walk_at "cwx"
    refine w_isX (T.er_TooMany.kit T.s_BadRooms_TooMany (cls_ne T.s_BadRooms_BadRooms T.s_BadRooms_TooMany)) hd ?_
    walk_at "cwx"
    rename_i k1 hk1 k2 hk2
    have n12 : k1 ≠ k2 := ne_of_none upd_same hk2
    have F : Fr [] H (upd (upd H k1 (HO.lst [V.bl true, V.bl false, V.bl false, V.bl false])) k2 (HO.lst [V.str (Str.ofString "BadRooms"), V.str (Str.ofString "BadRow"), V.str (Str.ofString "BadRule"), V.str (Str.ofString "TooMany")])) := (Fr.new hk1).trans (Fr.new hk2)
    have g1 : (upd (upd H k1 (HO.lst [V.bl true, V.bl false, V.bl false, V.bl false])) k2 (HO.lst [V.str (Str.ofString "BadRooms"), V.str (Str.ofString "BadRow"), V.str (Str.ofString "BadRule"), V.str (Str.ofString "TooMany")])) k1 = some (.lst [V.bl true, V.bl false, V.bl false, V.bl false]) := (upd_ne n12).trans upd_same
    have g2 : (upd (upd H k1 (HO.lst [V.bl true, V.bl false, V.bl false, V.bl false])) k2 (HO.lst [V.str (Str.ofString "BadRooms"), V.str (Str.ofString "BadRow"), V.str (Str.ofString "BadRule"), V.str (Str.ofString "TooMany")])) k2 = some (HO.lst [V.str (Str.ofString "BadRooms"), V.str (Str.ofString "BadRow"), V.str (Str.ofString "BadRule"), V.str (Str.ofString "TooMany")]) := upd_same
    generalize upd (upd H k1 (HO.lst [V.bl true, V.bl false, V.bl false, V.bl false])) k2 (HO.lst [V.str (Str.ofString "BadRooms"), V.str (Str.ofString "BadRow"), V.str (Str.ofString "BadRule"), V.str (Str.ofString "TooMany")]) = H2 at *
    refine w_countB (bs := [true, false, false, false]) (SqL.of g1) ?_
    walk_at "cwx"
    refine iteT ?_
    walk_at "cwx"
    refine w_isXT (kit_VE T.s_BadRooms_VE) (fun dd e => ?_) ?_
    · obtain ⟨fs, h⟩ := hd dd e
      exact ⟨fs, F.get0 h⟩
    walk_at "cwx"
    refine ⟨k1, _, .bl true, 0, .bl true, rfl, rfl, SqL.of g1, rfl, rfl, rfl, rfl, fun m z' hm hz => ?_, ?_⟩
    · exact absurd hm (by omega)
    walk_at "cwx"
    exact k _ F
  | row i =>
    have hz : Zc (.ref ad.C_BadRow) d p.2 := hz
    have hD := T.er_BadRow
    refine ⟨_, (pss_cons (ps_set (i := 1) sc_l_class.nd rfl (by first | exact Or.inl rfl | exact Or.inr rfl) (pe_lst (pa_cons (pe_callB (kIsX (K := K) rfl hD.isE List.mem_cons_self hz hf) (by rfl) T.z_isinstance (by decide +kernel) (pa_cons (pv 0) (pa_cons (pe_glob (v := .ref ad.C_BadRooms) rfl T.m_BadRooms rfl) pa_nil))) (pa_cons (pe_callB (kIsX (K := K) rfl hD.isE List.mem_cons_self hz hf) (by rfl) T.z_isinstance (by decide +kernel) (pa_cons (pv 0) (pa_cons (pe_glob (v := .ref ad.C_BadRow) rfl T.m_BadRow rfl) pa_nil))) (pa_cons (pe_callB (kIsX (K := K) rfl hD.isE List.mem_cons_self hz hf) (by rfl) T.z_isinstance (by decide +kernel) (pa_cons (pv 0) (pa_cons (pe_glob (v := .ref ad.C_BadRule) rfl T.m_BadRule rfl) pa_nil))) (pa_cons (pe_callB (kIsX (K := K) rfl hD.isE List.mem_cons_self hz hf) (by rfl) T.z_isinstance (by decide +kernel) (pa_cons (pv 0) (pa_cons (pe_glob (v := .ref ad.C_TooMany) rfl T.m_TooMany rfl) pa_nil))) pa_nil))))))
    (pss_cons (ps_set (i := 2) sc_l_class.nd rfl (by first | exact Or.inl rfl | exact Or.inr rfl) (pe_lst (pa_cons pe_str (pa_cons pe_str (pa_cons pe_str (pa_cons pe_str pa_nil))))))
    (pss_one (ps_ret (pe_ifExp (PW.pt (pw_and (pt_cmpR op_eq (kBM (K := K) rfl (pe_bm PySem.F.plainAttrs_list PySem.F.slot_list_count PySem.F.type_list_count (kCountB K rfl) (pv 1) (pa_cons pe_bl pa_nil))) pe_int (nomark _)) (pw_and1 (pt_val (pe_callB (kIsX (K := K) rfl hD.isE List.mem_cons_self hz hf) (by rfl) T.z_isinstance (by decide +kernel) (pa_cons (pv 0) (pa_cons (pe_bltn (v := .ty "ValueError") (by rfl) T.z_ValueError (by decide +kernel) rfl) pa_nil))))))) (pe_ix (kIxL K rfl) (pv 2) (kBM (K := K) rfl (pe_bm PySem.F.plainAttrs_list PySem.F.slot_list_index PySem.F.type_list_index (kIndex K rfl) (pv 1) (pa_cons pe_bl pa_nil))) (fun _ _ => rfl)) pe_str))))), ?_⟩
    try dsimp only [L2H.cxH, L2.cxOf, L2.Cx.nox]
    walk_at "cwx"
    refine w_isX (T.er_BadRooms.kit T.s_BadRow_BadRooms (cls_ne T.s_BadRow_BadRow T.s_BadRow_BadRooms)) hd ?_
    walk_at "cwx"
    refine w_isX (T.er_BadRow.kit T.s_BadRow_BadRow (cls_ne T.s_BadRow_BadRow T.s_BadRow_BadRow)) hd ?_
    walk_at "cwx"
    refine w_isX (T.er_BadRule.kit T.s_BadRow_BadRule (cls_ne T.s_BadRow_BadRow T.s_BadRow_BadRule)) hd ?_
    walk_at "cwx"
    refine w_isX (T.er_TooMany.kit T.s_BadRow_TooMany (cls_ne T.s_BadRow_BadRow T.s_BadRow_TooMany)) hd ?_
    walk_at "cwx"
    rename_i k1 hk1 k2 hk2
    have n12 : k1 ≠ k2 := ne_of_none upd_same hk2
    have F : Fr [] H (upd (upd H k1 (HO.lst [V.bl false, V.bl true, V.bl false, V.bl false])) k2 (HO.lst [V.str (Str.ofString "BadRooms"), V.str (Str.ofString "BadRow"), V.str (Str.ofString "BadRule"), V.str (Str.ofString "TooMany")])) := (Fr.new hk1).trans (Fr.new hk2)
    have g1 : (upd (upd H k1 (HO.lst [V.bl false, V.bl true, V.bl false, V.bl false])) k2 (HO.lst [V.str (Str.ofString "BadRooms"), V.str (Str.ofString "BadRow"), V.str (Str.ofString "BadRule"), V.str (Str.ofString "TooMany")])) k1 = some (.lst [V.bl false, V.bl true, V.bl false, V.bl false]) := (upd_ne n12).trans upd_same
    have g2 : (upd (upd H k1 (HO.lst [V.bl false, V.bl true, V.bl false, V.bl false])) k2 (HO.lst [V.str (Str.ofString "BadRooms"), V.str (Str.ofString "BadRow"), V.str (Str.ofString "BadRule"), V.str (Str.ofString "TooMany")])) k2 = some (HO.lst [V.str (Str.ofString "BadRooms"), V.str (Str.ofString "BadRow"), V.str (Str.ofString "BadRule"), V.str (Str.ofString "TooMany")]) := upd_same
    generalize upd (upd H k1 (HO.lst [V.bl false, V.bl true, V.bl false, V.bl false])) k2 (HO.lst [V.str (Str.ofString "BadRooms"), V.str (Str.ofString "BadRow"), V.str (Str.ofString "BadRule"), V.str (Str.ofString "TooMany")]) = H2 at *
    refine w_countB (bs := [false, true, false, false]) (SqL.of g1) ?_
    walk_at "cwx"
    refine iteT ?_
    walk_at "cwx"
    refine w_isXT (kit_VE T.s_BadRow_VE) (fun dd e => ?_) ?_
    · obtain ⟨fs, h⟩ := hd dd e
      exact ⟨fs, F.get0 h⟩
    walk_at "cwx"
    refine ⟨k1, _, .bl true, 1, .bl true, rfl, rfl, SqL.of g1, rfl, rfl, rfl, rfl, fun m z' hm hz => ?_, ?_⟩
    · rcases (show m = 0 by omega) with rfl <;> cases hz <;> rfl
    walk_at "cwx"
    exact k _ F
  | rule =>
    have hz : Zc (.ref ad.C_BadRule) d p.2 := hz
    have hD := T.er_BadRule
    refine ⟨_, (pss_cons (ps_set (i := 1) sc_l_class.nd rfl (by first | exact Or.inl rfl | exact Or.inr rfl) (pe_lst (pa_cons (pe_callB (kIsX (K := K) rfl hD.isE List.mem_cons_self hz hf) (by rfl) T.z_isinstance (by decide +kernel) (pa_cons (pv 0) (pa_cons (pe_glob (v := .ref ad.C_BadRooms) rfl T.m_BadRooms rfl) pa_nil))) (pa_cons (pe_callB (kIsX (K := K) rfl hD.isE List.mem_cons_self hz hf) (by rfl) T.z_isinstance (by decide +kernel) (pa_cons (pv 0) (pa_cons (pe_glob (v := .ref ad.C_BadRow) rfl T.m_BadRow rfl) pa_nil))) (pa_cons (pe_callB (kIsX (K := K) rfl hD.isE List.mem_cons_self hz hf) (by rfl) T.z_isinstance (by decide +kernel) (pa_cons (pv 0) (pa_cons (pe_glob (v := .ref ad.C_BadRule) rfl T.m_BadRule rfl) pa_nil))) (pa_cons (pe_callB (kIsX (K := K) rfl hD.isE List.mem_cons_self hz hf) (by rfl) T.z_isinstance (by decide +kernel) (pa_cons (pv 0) (pa_cons (pe_glob (v := .ref ad.C_TooMany) rfl T.m_TooMany rfl) pa_nil))) pa_nil))))))
    (pss_cons (ps_set (i := 2) sc_l_class.nd rfl (by first | exact Or.inl rfl | exact Or.inr rfl) (pe_lst (pa_cons pe_str (pa_cons pe_str (pa_cons pe_str (pa_cons pe_str pa_nil))))))
    (pss_one (ps_ret (pe_ifExp (PW.pt (pw_and (pt_cmpR op_eq (kBM (K := K) rfl (pe_bm PySem.F.plainAttrs_list PySem.F.slot_list_count PySem.F.type_list_count (kCountB K rfl) (pv 1) (pa_cons pe_bl pa_nil))) pe_int (nomark _)) (pw_and1 (pt_val (pe_callB (kIsX (K := K) rfl hD.isE List.mem_cons_self hz hf) (by rfl) T.z_isinstance (by decide +kernel) (pa_cons (pv 0) (pa_cons (pe_bltn (v := .ty "ValueError") (by rfl) T.z_ValueError (by decide +kernel) rfl) pa_nil))))))) (pe_ix (kIxL K rfl) (pv 2) (kBM (K := K) rfl (pe_bm PySem.F.plainAttrs_list PySem.F.slot_list_index PySem.F.type_list_index (kIndex K rfl) (pv 1) (pa_cons pe_bl pa_nil))) (fun _ _ => rfl)) pe_str))))), ?_⟩
    try dsimp only [L2H.cxH, L2.cxOf, L2.Cx.nox]
    walk_at "cwx"
    refine w_isX (T.er_BadRooms.kit T.s_BadRule_BadRooms (cls_ne T.s_BadRule_BadRule T.s_BadRule_BadRooms)) hd ?_
    walk_at "cwx"
    refine w_isX (T.er_BadRow.kit T.s_BadRule_BadRow (cls_ne T.s_BadRule_BadRule T.s_BadRule_BadRow)) hd ?_
    walk_at "cwx"
    refine w_isX (T.er_BadRule.kit T.s_BadRule_BadRule (cls_ne T.s_BadRule_BadRule T.s_BadRule_BadRule)) hd ?_
    walk_at "cwx"
    refine w_isX (T.er_TooMany.kit T.s_BadRule_TooMany (cls_ne T.s_BadRule_BadRule T.s_BadRule_TooMany)) hd ?_
    walk_at "cwx"
    rename_i k1 hk1 k2 hk2
    have n12 : k1 ≠ k2 := ne_of_none upd_same hk2
    have F : Fr [] H (upd (upd H k1 (HO.lst [V.bl false, V.bl false, V.bl true, V.bl false])) k2 (HO.lst [V.str (Str.ofString "BadRooms"), V.str (Str.ofString "BadRow"), V.str (Str.ofString "BadRule"), V.str (Str.ofString "TooMany")])) := (Fr.new hk1).trans (Fr.new hk2)
    have g1 : (upd (upd H k1 (HO.lst [V.bl false, V.bl false, V.bl true, V.bl false])) k2 (HO.lst [V.str (Str.ofString "BadRooms"), V.str (Str.ofString "BadRow"), V.str (Str.ofString "BadRule"), V.str (Str.ofString "TooMany")])) k1 = some (.lst [V.bl false, V.bl false, V.bl true, V.bl false]) := (upd_ne n12).trans upd_same
    have g2 : (upd (upd H k1 (HO.lst [V.bl false, V.bl false, V.bl true, V.bl false])) k2 (HO.lst [V.str (Str.ofString "BadRooms"), V.str (Str.ofString "BadRow"), V.str (Str.ofString "BadRule"), V.str (Str.ofString "TooMany")])) k2 = some (HO.lst [V.str (Str.ofString "BadRooms"), V.str (Str.ofString "BadRow"), V.str (Str.ofString "BadRule"), V.str (Str.ofString "TooMany")]) := upd_same
    generalize upd (upd H k1 (HO.lst [V.bl false, V.bl false, V.bl true, V.bl false])) k2 (HO.lst [V.str (Str.ofString "BadRooms"), V.str (Str.ofString "BadRow"), V.str (Str.ofString "BadRule"), V.str (Str.ofString "TooMany")]) = H2 at *
    refine w_countB (bs := [false, false, true, false]) (SqL.of g1) ?_
    walk_at "cwx"
    refine iteT ?_
    walk_at "cwx"
    refine w_isXT (kit_VE T.s_BadRule_VE) (fun dd e => ?_) ?_
    · obtain ⟨fs, h⟩ := hd dd e
      exact ⟨fs, F.get0 h⟩
    walk_at "cwx"
    refine ⟨k1, _, .bl true, 2, .bl true, rfl, rfl, SqL.of g1, rfl, rfl, rfl, rfl, fun m z' hm hz => ?_, ?_⟩
    · rcases (show m = 0 ∨ m = 1 by omega) with rfl | rfl <;> cases hz <;> rfl
    walk_at "cwx"
    exact k _ F
  | many =>
    have hz : Zc (.ref ad.C_TooMany) d p.2 := hz
    have hD := T.er_TooMany
    refine ⟨_, (pss_cons (ps_set (i := 1) sc_l_class.nd rfl (by first | exact Or.inl rfl | exact Or.inr rfl) (pe_lst (pa_cons (pe_callB (kIsX (K := K) rfl hD.isE List.mem_cons_self hz hf) (by rfl) T.z_isinstance (by decide +kernel) (pa_cons (pv 0) (pa_cons (pe_glob (v := .ref ad.C_BadRooms) rfl T.m_BadRooms rfl) pa_nil))) (pa_cons (pe_callB (kIsX (K := K) rfl hD.isE List.mem_cons_self hz hf) (by rfl) T.z_isinstance (by decide +kernel) (pa_cons (pv 0) (pa_cons (pe_glob (v := .ref ad.C_BadRow) rfl T.m_BadRow rfl) pa_nil))) (pa_cons (pe_callB (kIsX (K := K) rfl hD.isE List.mem_cons_self hz hf) (by rfl) T.z_isinstance (by decide +kernel) (pa_cons (pv 0) (pa_cons (pe_glob (v := .ref ad.C_BadRule) rfl T.m_BadRule rfl) pa_nil))) (pa_cons (pe_callB (kIsX (K := K) rfl hD.isE List.mem_cons_self hz hf) (by rfl) T.z_isinstance (by decide +kernel) (pa_cons (pv 0) (pa_cons (pe_glob (v := .ref ad.C_TooMany) rfl T.m_TooMany rfl) pa_nil))) pa_nil))))))
    (pss_cons (ps_set (i := 2) sc_l_class.nd rfl (by first | exact Or.inl rfl | exact Or.inr rfl) (pe_lst (pa_cons pe_str (pa_cons pe_str (pa_cons pe_str (pa_cons pe_str pa_nil))))))
    (pss_one (ps_ret (pe_ifExp (PW.pt (pw_and (pt_cmpR op_eq (kBM (K := K) rfl (pe_bm PySem.F.plainAttrs_list PySem.F.slot_list_count PySem.F.type_list_count (kCountB K rfl) (pv 1) (pa_cons pe_bl pa_nil))) pe_int (nomark _)) (pw_and1 (pt_val (pe_callB (kIsX (K := K) rfl hD.isE List.mem_cons_self hz hf) (by rfl) T.z_isinstance (by decide +kernel) (pa_cons (pv 0) (pa_cons (pe_bltn (v := .ty "ValueError") (by rfl) T.z_ValueError (by decide +kernel) rfl) pa_nil))))))) (pe_ix (kIxL K rfl) (pv 2) (kBM (K := K) rfl (pe_bm PySem.F.plainAttrs_list PySem.F.slot_list_index PySem.F.type_list_index (kIndex K rfl) (pv 1) (pa_cons pe_bl pa_nil))) (fun _ _ => rfl)) pe_str))))), ?_⟩
    try dsimp only [L2H.cxH, L2.cxOf, L2.Cx.nox]
    walk_at "cwx"
    refine w_isX (T.er_BadRooms.kit T.s_TooMany_BadRooms (cls_ne T.s_TooMany_TooMany T.s_TooMany_BadRooms)) hd ?_
    walk_at "cwx"
    refine w_isX (T.er_BadRow.kit T.s_TooMany_BadRow (cls_ne T.s_TooMany_TooMany T.s_TooMany_BadRow)) hd ?_
    walk_at "cwx"
    refine w_isX (T.er_BadRule.kit T.s_TooMany_BadRule (cls_ne T.s_TooMany_TooMany T.s_TooMany_BadRule)) hd ?_
    walk_at "cwx"
    refine w_isX (T.er_TooMany.kit T.s_TooMany_TooMany (cls_ne T.s_TooMany_TooMany T.s_TooMany_TooMany)) hd ?_
    walk_at "cwx"
    rename_i k1 hk1 k2 hk2
    have n12 : k1 ≠ k2 := ne_of_none upd_same hk2
    have F : Fr [] H (upd (upd H k1 (HO.lst [V.bl false, V.bl false, V.bl false, V.bl true])) k2 (HO.lst [V.str (Str.ofString "BadRooms"), V.str (Str.ofString "BadRow"), V.str (Str.ofString "BadRule"), V.str (Str.ofString "TooMany")])) := (Fr.new hk1).trans (Fr.new hk2)
    have g1 : (upd (upd H k1 (HO.lst [V.bl false, V.bl false, V.bl false, V.bl true])) k2 (HO.lst [V.str (Str.ofString "BadRooms"), V.str (Str.ofString "BadRow"), V.str (Str.ofString "BadRule"), V.str (Str.ofString "TooMany")])) k1 = some (.lst [V.bl false, V.bl false, V.bl false, V.bl true]) := (upd_ne n12).trans upd_same
    have g2 : (upd (upd H k1 (HO.lst [V.bl false, V.bl false, V.bl false, V.bl true])) k2 (HO.lst [V.str (Str.ofString "BadRooms"), V.str (Str.ofString "BadRow"), V.str (Str.ofString "BadRule"), V.str (Str.ofString "TooMany")])) k2 = some (HO.lst [V.str (Str.ofString "BadRooms"), V.str (Str.ofString "BadRow"), V.str (Str.ofString "BadRule"), V.str (Str.ofString "TooMany")]) := upd_same
    generalize upd (upd H k1 (HO.lst [V.bl false, V.bl false, V.bl false, V.bl true])) k2 (HO.lst [V.str (Str.ofString "BadRooms"), V.str (Str.ofString "BadRow"), V.str (Str.ofString "BadRule"), V.str (Str.ofString "TooMany")]) = H2 at *
    refine w_countB (bs := [false, false, false, true]) (SqL.of g1) ?_
    walk_at "cwx"
    refine iteT ?_
    walk_at "cwx"
    refine w_isXT (kit_VE T.s_TooMany_VE) (fun dd e => ?_) ?_
    · obtain ⟨fs, h⟩ := hd dd e
      exact ⟨fs, F.get0 h⟩
    walk_at "cwx"
    refine ⟨k1, _, .bl true, 3, .bl true, rfl, rfl, SqL.of g1, rfl, rfl, rfl, rfl, fun m z' hm hz => ?_, ?_⟩
    · rcases (show m = 0 ∨ m = 1 ∨ m = 2 by omega) with rfl | rfl | rfl <;> cases hz <;> rfl
    walk_at "cwx"
    exact k _ F

/-! _law_row -/
def sp_l_row : Sp := fun vs H Q _ => ∃ (b q : Addr) (n : Int), vs = [.ref b, .int n] ∧ Box H b q ∧ 0 ≤ n ∧ n ≤ 100 ∧
  ∀ (p : Addr) (ns : List Int) H', Fr [b, q] H H' → Box H' b q → H p = none → H' p = some (.lst (ns.map V.int)) → (ns.length : Int) ≤ n → (∀ x ∈ ns, 0 ≤ x ∧ x < 12) → Q (.ref p) H'
theorem c_row {H : Hp} {Q : VK} {E : XK} {b q : Addr} {n : Int} (hB : Box H b q) (n0 : 0 ≤ n) (n1 : n ≤ 100)
    (k : ∀ (p : Addr) (ns : List Int) H', Fr [b, q] H H' → Box H' b q → H p = none → H' p = some (.lst (ns.map V.int)) → (ns.length : Int) ≤ n → (∀ x ∈ ns, 0 ≤ x ∧ x < 12) → Q (.ref p) H') : sp_l_row ([.ref b, .int n] ++ []) H Q E := ⟨b, q, n, rfl, hB, n0, n1, k⟩
def row_mid (H0 : Hp) (b q p : Addr) (n pg way : Int) (t : V) (ns : List Int) : L2.St → Hp → Prop := fun σ H => ∃ z : Int, 0 ≤ z ∧ z < 12 ∧ σ = [some (.ref b), some (.int n), some (.int pg), some (.ref p), some (.int way), some t, some (.int z)] ∧
  Fr [b, q] H0 H ∧ Box H b q ∧ H p = some (.lst (ns.map V.int))
theorem ok_l_row (T : Txt K mg ad) : FnOk P w K mg base CX0 2 ad.a_l_row ad.d_l_row ["_law_box", "_law_most"] sp_l_row := by
  refine T.F_l_row.ok sc_l_row (fun vs H Q E h => ?_) (fun cdv A outer s H vs Q E hr h => ?_)
  · obtain ⟨b, q, n, rfl, _⟩ := h
    rfl
  obtain ⟨b, q, n, rfl, hB, n0, n1, k⟩ := h
  refine ⟨_, (pss_cons (ps_set (i := 2) sc_l_row.nd rfl (by first | exact Or.inl rfl | exact Or.inr rfl) (pe_op op_add pe_int (pe_call (ok_l_take T) (hr.mono (by decide)) (by rfl) T.m_l_take T.F_l_take.kp T.b_l_take .nil pass0 (pa_cons (pv 0) (pa_cons (pe_ix (kIxL K rfl) (pe_lst (pa_cons pe_int (pa_cons pe_int (pa_cons pe_int pa_nil)))) (pe_call (ok_l_take T) (hr.mono (by decide)) (by rfl) T.m_l_take T.F_l_take.kp T.b_l_take .nil pass0 (pa_cons (pv 0) (pa_cons pe_int pa_nil))) (fun _ _ => rfl)) pa_nil)))))
    (pss_cons (ps_set (i := 3) sc_l_row.nd rfl (by first | exact Or.inl rfl | exact Or.inr rfl) (pe_lst pa_nil))
    (pss_cons (ps_set (i := 4) sc_l_row.nd rfl (by first | exact Or.inl rfl | exact Or.inr rfl) (pe_call (ok_l_take T) (hr.mono (by decide)) (by rfl) T.m_l_take T.F_l_take.kp T.b_l_take .nil pass0 (pa_cons (pv 0) (pa_cons pe_int pa_nil))))
    (pss_cons (ps_for PassesOwn.never rfl (pi_range1 (by rfl) T.z_range (pa_cons (pe_call (ok_l_take T) (hr.mono (by decide)) (by rfl) T.m_l_take T.F_l_take.kp T.b_l_take .nil pass0 (pa_cons (pv 0) (pa_cons (pe_op op_add (pv 1) pe_int) pa_nil))) pa_nil)) (pg_name (i := 5) sc_l_row.nd rfl (by first | exact Or.inl rfl | exact Or.inr rfl)) (pss_cons (ps_set (i := 6) sc_l_row.nd rfl (by first | exact Or.inl rfl | exact Or.inr rfl) (pe_call (ok_l_take T) (hr.mono (by decide)) (by rfl) T.m_l_take T.F_l_take.kp T.b_l_take .nil pass0 (pa_cons (pv 0) (pa_cons (pv 2) pa_nil))))
    (C8.pss_cut (ps_if (PW.pt (pw_and (pt_cmpR op_eq (pv 4) pe_int (nomark _)) (pw_and (pt_cmpR (kNeD K rfl hr.units) (pv 3) (pe_lst pa_nil) (nomark _)) (pw_and1 (pt_cmpR op_gt (pe_call (ok_l_take T) (hr.mono (by decide)) (by rfl) T.m_l_take T.F_l_take.kp T.b_l_take .nil pass0 (pa_cons (pv 0) (pa_cons pe_int pa_nil))) pe_int (nomark _)))))) (pss_one (ps_set (i := 6) sc_l_row.nd rfl (by first | exact Or.inl rfl | exact Or.inr rfl) (pe_ix (kIxL K rfl) (pv 3) (pe_op op_sub (pe_op op_sub (pe_callB (kLen K rfl) (by rfl) T.z_len (by decide +kernel) (pa_cons (pv 3) pa_nil)) pe_int) (pe_call (ok_l_take T) (hr.mono (by decide)) (by rfl) T.m_l_take T.F_l_take.kp T.b_l_take .nil pass0 (pa_cons (pv 0) (pa_cons (pe_callB (cr_min2 rfl) (by rfl) T.z_min (by decide +kernel) (pa_cons pe_int (pa_cons (pe_callB (kLen K rfl) (by rfl) T.z_len (by decide +kernel) (pa_cons (pv 3) pa_nil)) pa_nil))) pa_nil)))) (fun _ _ => rfl)))) pss_nil)
    (C8.pss_cut (ps_if (PW.pt (pw_and (pt_cmpR op_eq (pv 4) pe_int (nomark _)) (pw_and1 (pt_cmpR op_gt (pe_call (ok_l_take T) (hr.mono (by decide)) (by rfl) T.m_l_take T.F_l_take.kp T.b_l_take .nil pass0 (pa_cons (pv 0) (pa_cons pe_int pa_nil))) pe_int (nomark _))))) (pss_one (ps_set (i := 6) sc_l_row.nd rfl (by first | exact Or.inl rfl | exact Or.inr rfl) (pe_op op_mod (pv 5) (pv 2)))) pss_nil)
    (C8.pss_cut (ps_if (PW.pt (pw_and (pt_cmpR op_eq (pv 4) pe_int (nomark _)) (pw_and (pt_cmpR (kNeD K rfl hr.units) (pv 3) (pe_lst pa_nil) (nomark _)) (pw_and1 (pt_cmpR op_gt (pe_call (ok_l_take T) (hr.mono (by decide)) (by rfl) T.m_l_take T.F_l_take.kp T.b_l_take .nil pass0 (pa_cons (pv 0) (pa_cons pe_int pa_nil))) pe_int (nomark _)))))) (pss_one (ps_set (i := 6) sc_l_row.nd rfl (by first | exact Or.inl rfl | exact Or.inr rfl) (pe_op op_mod (pe_op op_add (pe_op op_add (pe_ix (kIxL K rfl) (pv 3) (pe_un un_neg pe_int) (fun _ _ => rfl)) pe_int) (pe_call (ok_l_take T) (hr.mono (by decide)) (by rfl) T.m_l_take T.F_l_take.kp T.b_l_take .nil pass0 (pa_cons (pv 0) (pa_cons pe_int pa_nil)))) (pv 2)))) pss_nil)
    (pss_one (ps_expr (kBM (K := K) rfl (pe_bm PySem.F.plainAttrs_list PySem.F.slot_list_append PySem.F.type_list_append mt_append (pv 3) (pa_cons (pv 6) pa_nil))))))))))
    (pss_one (ps_ret (pv 3))))))), ?_⟩
  try dsimp only [L2.cxOf, L2.Cx.nox]
  walk_at "cw"
  rename_i p1 hp1
  refine c_take (hB.keep0 (Fr.new hp1)) (by omega) (by omega) fun r H1 f1 B1 r0 r1 => ?_
  have h1 : H1 p1 = some (.lst (([4, 6, 12] : List Int).map V.int)) := f1.get upd_same (hB.free hp1)
  obtain ⟨v, hv, hm⟩ := ints_at (ns := [4, 6, 12]) r0 (by simpa using r1)
  have v0 : 0 < v ∧ v ≤ 12 := by
    simp at hm
    omega
  walk_at "cw"
  refine c_take B1 (by omega) (by omega) fun pg0 H2 f2 B2 pg1 pg2 => ?_
  walk_at "cw"
  rename_i p hp
  have F2 : Fr [b, q] H H2 := ((Fr.new hp1).trans f1).trans f2
  have hp0 : H p = none := F2.free hp
  have np : p ∉ [b, q] := B2.free hp
  refine c_take (B2.keep0 (Fr.new hp)) (by omega) (by omega) fun way H4 f4 B4 w0 w1 => ?_
  have h4 : H4 p = some (.lst (([] : List Int).map V.int)) := f4.get upd_same np
  have F4 : Fr [b, q] H H4 := (F2.trans (Fr.new hp)).trans f4
  walk_at "cw"
  refine c_take B4 (by omega) (by omega) fun m H5 f5 B5 m0 m1 => ?_
  have h5 := f5.get h4 np
  have F5 := F4.trans f5
  walk_at "cw"
  refine f_rng1 (by omega) m0 (fun i σ H' => ∃ (ns : List Int) (v5 v6 : Option V), σ = [some (.ref b), some (.int n), some (.int (1 + pg0)), some (.ref p), some (.int way), v5, v6] ∧ Fr [b, q] H H' ∧ Box H' b q ∧ H' p = some (.lst (ns.map V.int)) ∧ ns.length = i ∧ ∀ x ∈ ns, 0 ≤ x ∧ x < 12)
    ⟨[], none, none, rfl, F5, B5, h5, rfl, by simp⟩ ?_ ?_
  · rintro i σ H' hi ⟨ns, v5, v6, rfl, F, B, hP, hl, hm⟩
    walk_at "cw"
    refine c_take B (by omega) (by omega) fun z H6 f6 B6 z0 z1 => ?_
    have F6 := F.trans f6
    have h6 := f6.get hP np
    walk_at "cw"
    refine w_cut (row_mid H b q p n (1 + pg0) way (.int (i : Int)) ns) ?_ ?_
    · walk_at "cw"
      walk_at "cw if" <;> intro e1
      · walk_at "cw"
        walk_at "cw if" <;> intro e2
        · walk_at "cw"
          rename_i p7 hp7
          have np7 : p ≠ p7 := ne_of_none h6 hp7
          refine c_take (B6.keep0 (Fr.new hp7)) (by omega) (by omega) fun z2 H7 f7 B7 z20 z21 => ?_
          have h7 : H7 p = some (.lst (ns.map V.int)) := f7.get ((upd_ne np7).trans h6) np
          have F7 := (F6.trans (Fr.new hp7)).trans f7
          walk_at "cw"
          walk_at "cw if" <;> intro e3
          · walk_at "cw"
            simp only [List.length_map]
            have hlen : 0 < ns.length := List.length_pos_iff.mpr e2
            refine c_take B7 (by split <;> omega) (by split <;> omega) fun z3 H8 f8 B8 z30 z31 => ?_
            have h8 := f8.get h7 np
            have zz : z3 < (ns.length : Int) := by
              split at z31 <;> omega
            obtain ⟨v, hv, hvm⟩ := ints_at (ns := ns) (r := (ns.length : Int) - 1 - z3) (by omega) (by omega)
            walk_at "cw"
            exact ⟨v, (hm v hvm).1, (hm v hvm).2, rfl, F7.trans f8, B8, h8⟩
          · walk_at "cw"
            exact ⟨z, z0, by omega, rfl, F7, B7, h7⟩
        · walk_at "cw"
          rename_i p7 hp7
          exact ⟨z, z0, by omega, rfl, F6.trans (Fr.new hp7), B6.keep0 (Fr.new hp7), (upd_ne (ne_of_none h6 hp7)).trans h6⟩
      · walk_at "cw"
        exact ⟨z, z0, by omega, rfl, F6, B6, h6⟩
    rintro σ H7 ⟨z', z0', z1', rfl, F7, B7, h7⟩
    refine w_cut (row_mid H b q p n (1 + pg0) way (.int (i : Int)) ns) ?_ ?_
    · walk_at "cw"
      walk_at "cw if" <;> intro e1
      · walk_at "cw"
        refine c_take B7 (by omega) (by omega) fun z2 H8 f8 B8 z20 z21 => ?_
        have h8 := f8.get h7 np
        have F8 := F7.trans f8
        walk_at "cw"
        walk_at "cw if" <;> intro e3
        · walk_at "cw"
          have m1 := mod_in (z := (i : Int)) (n := 1 + pg0) (by omega)
          exact ⟨_, m1.1, by omega, rfl, F8, B8, h8⟩
        · walk_at "cw"
          exact ⟨z', z0', z1', rfl, F8, B8, h8⟩
      · walk_at "cw"
        exact ⟨z', z0', z1', rfl, F7, B7, h7⟩
    rintro σ H8 ⟨z'', z0'', z1'', rfl, F8, B8, h8⟩
    refine w_cut (row_mid H b q p n (1 + pg0) way (.int (i : Int)) ns) ?_ ?_
    · walk_at "cw"
      walk_at "cw if" <;> intro e1
      · walk_at "cw"
        walk_at "cw if" <;> intro e2
        · walk_at "cw"
          rename_i p7 hp7
          have np7 : p ≠ p7 := ne_of_none h8 hp7
          refine c_take (B8.keep0 (Fr.new hp7)) (by omega) (by omega) fun z2 H9 f9 B9 z20 z21 => ?_
          have h9 : H9 p = some (.lst (ns.map V.int)) := f9.get ((upd_ne np7).trans h8) np
          have F9 := (F8.trans (Fr.new hp7)).trans f9
          walk_at "cw"
          walk_at "cw if" <;> intro e3
          · obtain ⟨v, hv, hvm⟩ := ints_last e2
            walk_at "cw"
            refine c_take B9 (by omega) (by omega) fun z3 H10 f10 B10 z30 z31 => ?_
            walk_at "cw"
            have m1 := mod_in (z := v + 1 + z3) (n := 1 + pg0) (by omega)
            exact ⟨_, m1.1, by omega, rfl, F9.trans f10, B10, f10.get h9 np⟩
          · walk_at "cw"
            exact ⟨z'', z0'', z1'', rfl, F9, B9, h9⟩
        · walk_at "cw"
          rename_i p7 hp7
          exact ⟨z'', z0'', z1'', rfl, F8.trans (Fr.new hp7), B8.keep0 (Fr.new hp7), (upd_ne (ne_of_none h8 hp7)).trans h8⟩
      · walk_at "cw"
        exact ⟨z'', z0'', z1'', rfl, F8, B8, h8⟩
    rintro σ H9 ⟨y, y0, y1, rfl, F9, B9, h9⟩
    walk_at "cw"
    refine ⟨ns ++ [y], _, _, rfl, F9.loc hp0, B9.keep (W := [p]) (Fr.at (by simp)) ?_ ?_, upd_same.trans (by rw [List.map_append]; rfl), by simp [hl], ?_⟩
    · exact fun m => np (by simp at m; simp [m])
    · exact fun m => np (by simp at m; simp [m])
    · intro x hx
      rcases List.mem_append.mp hx with h | h
      · exact hm x h
      · simp at h
        subst h
        exact ⟨y0, y1⟩
  · rintro σ H' ⟨ns, v5, v6, rfl, F, B, hP, hl, hm⟩
    walk_at "cw"
    exact k p ns H' F B hp0 hP (by omega) hm

/-! _law_refused -/
def sp_l_refused (P : Program) (w : World) (K : PySem.W.Frag) (mg : Str → Option Value) (base : Heap) (c : Bad → Addr) : Sp := fun vs H Q _ => ∃ (f : Addr) (o : Option Bad), vs = [.ref f] ∧ WorkAt P w K mg base c 9 H f o ∧ ∀ v H', Fr [] H H' → Nw K H H' v (dueD o) → Q v H'
theorem c_refused {P : Program} {w : World} {K : PySem.W.Frag} {mg : Str → Option Value} {base : Heap} {c : Bad → Addr} {H : Hp} {Q : VK} {E : XK} {f : Addr} {o : Option Bad} (h : WorkAt P w K mg base c 9 H f o) (k : ∀ v H', Fr [] H H' → Nw K H H' v (dueD o) → Q v H') : sp_l_refused P w K mg base c ([.ref f] ++ []) H Q E := ⟨f, o, rfl, h, k⟩
theorem is_err (T : Txt K mg ad) (b : Bad) : PySem.W.subIn K (.ref (cls ad b)) (.ref ad.C_PageError) = some true := by
  cases b
  · exact T.s_BadRooms_PageError
  · exact T.s_BadRow_PageError
  · exact T.s_BadRule_PageError
  · exact T.s_TooMany_PageError
theorem ok_l_refused (T : Txt K mg ad) : FnOk P w K mg base CX0 10 ad.a_l_refused ad.d_l_refused ["_law_work"] (sp_l_refused P w K mg base (cls ad)) := by
  refine T.F_l_refused.ok sc_l_refused (fun vs H Q E h => ?_) (fun cdv A outer s H vs Q E hr h => ?_)
  · obtain ⟨f, o, rfl, _⟩ := h
    rfl
  obtain ⟨f, o, rfl, ⟨D, W, hD⟩, k⟩ := h
  refine ⟨_, pss_cons (ps_try_as (i := 1) (tb := fun W => tDrop (tCallW P w K mg base (L2.CX P w) 9 0 (WE W))) (Wout := fun _ _ _ _ => False) rfl rfl sc_l_refused.nd rfl rfl ⟨rfl, by decide, Or.inl T.m_PageError⟩ takes0
    (fun W pn xe tk _ => pss_one (ps_expr (pe_callW (hr.mono (by decide)) rfl (Or.inl rfl) (fun σ => passAt tk σ))))
    (fun a oe cls d pn hz hf => pss_cons (ps_set (i := 2) sc_l_refused.nd rfl (Or.inl rfl) (pe_callX (ok_l_class T) (L2H.roomH_of (hr.mono (by decide))) hz hf (by rfl) T.m_l_class T.F_l_class.kp T.b_l_class pass0 (pa_cons (pv 1) pa_nil)))
      (pss_one (ps_ret (pe_ifExp (pt_cmpR op_eq (pv 2) pe_str (nomark _)) (pe_tup (pa_cons (pv 2) (pa_cons (pe_xf T.er_BadRow.xf T.n_BadRow_place hz hf (pv 1)) pa_nil))) (pe_tup (pa_cons (pv 2) (pa_cons pe_int pa_nil))))))))
    (pss_one (ps_ret pe_non)), ?_⟩
  try dsimp only [L2.cxOf, L2.Cx.nox]
  walk_at "cwx"
  refine ⟨f, D, _, rfl, W, fun d hd => (hD d hd).1, ?_⟩
  cases o with
  | none =>
    intro v H1 F1
    walk_at "cwx"
    exact k .non H1 F1 .non
  | some b =>
    intro d H1 F1 ha
    refine ⟨true, T.er_PageError.exm (is_err T b), fun _ e he => ?_, fun z => by cases z⟩
    walk_at "cwx"
    refine ⟨b, rfl, rfl, fun d2 e2 => ?_, fun H2 F2 => ?_⟩
    · cases e2
      cases b with
      | row p =>
        obtain ⟨dd, e3, e4⟩ := ha
        cases e3
        exact ⟨_, e4⟩
      | rooms => cases ha
      | rule => cases ha
      | many => cases ha
    cases b with
    | row p =>
      obtain ⟨dd, rfl, h1⟩ := ha
      walk_at "cwx"
      refine ite_dT rfl ?_
      walk_at "cwx"
      dsimp only [tXf]
      walk_at "cwx"
      refine ⟨rfl, rfl, dd, _, .int p, rfl, F2.get0 h1, rfl, ?_⟩
      walk_at "cwx"
      rename_i t ht
      exact k _ _ ((F1.trans F2).trans (Fr.new ht)) (.tup (F1.free (F2.free ht)) upd_same (.cons (fun _ _ _ _ => .str _) (.cons (.int _) .nil)))
    | rooms =>
      walk_at "cwx"
      rename_i t ht
      exact k _ _ ((F1.trans F2).trans (Fr.new ht)) (.tup (F1.free (F2.free ht)) upd_same (.cons (fun _ _ _ _ => .str _) (.cons (.int _) .nil)))
    | rule =>
      walk_at "cwx"
      rename_i t ht
      exact k _ _ ((F1.trans F2).trans (Fr.new ht)) (.tup (F1.free (F2.free ht)) upd_same (.cons (fun _ _ _ _ => .str _) (.cons (.int _) .nil)))
    | many =>
      walk_at "cwx"
      rename_i t ht
      exact k _ _ ((F1.trans F2).trans (Fr.new ht)) (.tup (F1.free (F2.free ht)) upd_same (.cons (fun _ _ _ _ => .str _) (.cons (.int _) .nil)))

/-! _law_all -/
def sp_l_all (P : Program) (w : World) (K : PySem.W.Frag) (mg : Str → Option Value) (base : Heap) (c : Bad → Addr) : Sp := fun vs H Q _ => ∃ (l : Addr) (fs : List Addr) (o : Option Bad) (due : V), vs = [.ref l, due] ∧ SqL K H l (fs.map V.ref) ∧ fs.length ≤ 50 ∧ (∀ f ∈ fs, WorkAt P w K mg base c 9 H f o) ∧ Dp K H due (dueD o) ∧
  ∀ H', Fr [] H H' → Q (.bl true) H'
theorem fits_due (o : Option Bad) : fits 5 (dueD o) := by
  cases o with
  | none => trivial
  | some b => exact fits_twoT trivial trivial
theorem ref_at {fs : List Addr} {i : Nat} {x : V} (h : (fs.map V.ref)[i]? = some x) : ∃ f ∈ fs, x = V.ref f := by
  obtain ⟨f, hf, e⟩ := List.mem_map.mp (List.mem_of_getElem? h)
  exact ⟨f, hf, e.symm⟩
theorem ok_l_all (T : Txt K mg ad) : FnOk P w K mg base CX0 11 ad.a_l_all ad.d_l_all ["_law_works_here", "_law_due"] (sp_l_all P w K mg base (cls ad)) := by
  refine T.F_l_all.ok sc_l_all (fun vs H Q E h => ?_) (fun cdv A outer s H vs Q E hr h => ?_)
  · obtain ⟨l, fs, o, due, rfl, _⟩ := h
    rfl
  obtain ⟨l, fs, o, due, rfl, hS, hl, hW, hd, k⟩ := h
  refine ⟨_, (pss_one (ps_ret (pe_cmpR (kEqD K rfl hr.units) (pe_lc (own := [("_law_work", 2)]) (by rfl) sc_l_all.nd (kIL (K := K) rfl (pi_list (pv 0))) (blkOk_by (own := [("_law_work", 2)]) (N := N_l_all) (sc := defScope s_l_all) (by decide +kernel)) (fun _ _ _ _ _ => (pg_name (i := 2) sc_l_all.nd rfl (by first | exact Or.inl rfl | exact Or.inr rfl))) (fun _ _ _ _ _ => pts_one (pt_not (pt_val (pe_call (ok_l_alike T) (hr.mono (by decide)) (by rfl) T.m_l_alike T.F_l_alike.kp T.b_l_alike .nil pass0 (pa_cons (pe_call (ok_l_refused (P := P) (w := w) (base := base) T) (hr.mono (by decide)) (by rfl) T.m_l_refused T.F_l_refused.kp T.b_l_refused .nil pass0 (pa_cons (pv 2) pa_nil)) (pa_cons (pv 1) pa_nil)))))) (fun _ _ _ _ _ => (pv 2))) (pe_lst pa_nil) (nomark _)))), ?_⟩
  try dsimp only [L2.cxOf, L2.Cx.nox]
  walk_at "cwx"
  refine l_list (fs.map V.ref) hS (fun D i acc H' => Fr [] H H' ∧ acc = []) (fun D hD => ⟨Fr.new hD, rfl⟩) (fun D i acc H' hD h _ => h.1.seqL hS) ?_ ?_
  · rintro D i y acc H1 hD hi ⟨F, rfl⟩ hacc hl'
    obtain ⟨f, hf, rfl⟩ := ref_at hi
    walk_at "cwx"
    refine c_refused ((hW f hf).fr0 F) fun v H2 F2 nv => ?_
    walk_at "cwx"
    refine c_alike (dueD o) nv.now ((F.trans F2).dp _ _ hd) (fits_due o) ?_
    walk_at "cwx"
    exact ⟨[], ⟨F.trans F2, rfl⟩, F2.get0 hacc, by simp⟩
  · rintro D acc H1 hD ⟨F, rfl⟩ hacc _
    walk_at "cwx"
    rename_i em hem
    have F2 : Fr [] H1 (upd H1 em (.lst [])) := Fr.new hem
    refine w_eqDI (ns := []) (ms := []) (SqL.of (F2.get0 hacc)) (SqL.of upd_same) ?_
    exact k _ (F.trans F2)

/-! _law_works -/
/-- how all that is handed rooms and a row ends -/
def WorksOk (n : Int) (ns : List Int) (z : Str) (ps : List Int) (o5 o2 : Option Bad) : Prop := (∃ b, BadBoth n ns b ∧ o5 = some b ∧ o2 = some b) ∨ (1 ≤ n ∧ n ≤ 8 ∧ RowOk ns ∧ PapOk ns ps ∧ o5 = none ∧ ((IsRule z ∧ o2 = none) ∨ (¬ IsRule z ∧ o2 = some .rule)))
def tabs2 (PW PL : Addr) : List (Addr × Str) := [(PW, lamQ "_law_works"), (PL, lamQ "law")]
def sp_l_works (P : Program) (w : World) (K : PySem.W.Frag) (mg : Str → Option Value) (base : Heap) (c : Bad → Addr) (PW PL : Addr) : Sp := fun vs H Q _ => ∃ (n : Int) (a pl : Addr) (z : Str) (ns ps : List Int) (o5 o2 : Option Bad), vs = [.int n, .ref a, .str z, .ref pl] ∧ H a = some (.lst (ns.map V.int)) ∧ H pl = some (.lst (ps.map V.int)) ∧ ps.length ≤ 100 ∧
  LamX.Tabs (tabs2 PW PL) H ∧ WorksOk n ns z ps o5 o2 ∧ ∀ l f1 f2 f3 f4 f5 f6 f7 H', Fr [PW] H H' → LamX.Tabs (tabs2 PW PL) H' → H l = none → H' l = some (.lst [.ref f1, .ref f2, .ref f3, .ref f4, .ref f5, .ref f6, .ref f7]) → (∀ f ∈ [f1, f2, f3, f4, f5], WorkAt P w K mg base c 9 H' f o5) → (∀ f ∈ [f6, f7], WorkAt P w K mg base c 9 H' f o2) → Q (.ref l) H'
theorem ok_l_works {cW PW PL : Addr} (T : Txt K mg ad) (TW : LamX.TabB base mg cW PW) (hcW : ad.d_l_works.code = .ref cW) (hne : PW ≠ PL) : FnOk P w K mg base CX0 7 ad.a_l_works ad.d_l_works ["_law_rooms", "_law_row_here", "_law_rule", "_law_places"] (sp_l_works P w K mg base (cls ad) PW PL) := by
  refine fun_okC (pl := [("_law_rooms", 0), ("_law_row_here", 1), ("_law_rule", 2), ("_law_places", 3)]) T.F_l_works hcW sc_l_works (fun vs H Q E h => ?_) (by decide +kernel) (fun A outer s H vs Q E hr h => ?_)
  · obtain ⟨n, a, pl, z, ns, ps, o5, o2, rfl, _⟩ := h
    rfl
  obtain ⟨n, a, pl, z, ns, ps, o5, o2, rfl, ha, hpl, hl, hT, hW, k⟩ := h
  have TB := TW
  have hmT : (PW, lamQ "_law_works") ∈ tabs2 PW PL := List.mem_cons_self ..
  have huT : ∀ p ∈ tabs2 PW PL, p.1 = PW → p.2 = lamQ "_law_works" := two_tabs hne
  refine ⟨_, (psr_cons (ps_set (i := 4) sc_l_works.nd rfl (by first | exact Or.inl rfl | exact Or.inr rfl) (pe_lst (pa_cons (pe_lam0 TB rfl hmT huT (NdefX.ndef_free (sc := defScope s_l_works) (fr := []) (by decide +kernel)) (by rfl)) (pa_cons (pe_lam1 TB rfl hmT huT (NdefX.ndef_free (sc := defScope s_l_works) (fr := []) (by decide +kernel)) (by rfl)) (pa_cons (pe_lam1 TB rfl hmT huT (NdefX.ndef_free (sc := defScope s_l_works) (fr := []) (by decide +kernel)) (by rfl)) pa_nil)))))
    (psr_cons (ps_set (i := 4) sc_l_works.nd rfl (by first | exact Or.inl rfl | exact Or.inr rfl) (pe_op op_cat (pv 4) (pe_lst (pa_cons (pe_lam1 TB rfl hmT huT (NdefX.ndef_free (sc := defScope s_l_works) (fr := []) (by decide +kernel)) (by rfl)) (pa_cons (pe_lam1 TB rfl hmT huT (NdefX.ndef_free (sc := defScope s_l_works) (fr := []) (by decide +kernel)) (by rfl)) pa_nil)))))
    (psr_ret (pe_op op_cat (pv 4) (pe_lst (pa_cons (pe_lam1 TB rfl hmT huT (NdefX.ndef_free (sc := defScope s_l_works) (fr := []) (by decide +kernel)) (by rfl)) (pa_cons (pe_lam1 TB rfl hmT huT (NdefX.ndef_free (sc := defScope s_l_works) (fr := []) (by decide +kernel)) (by rfl)) pa_nil))))))), ?_⟩
  try dsimp only [L2.cxOf, L2.Cx.nox]
  have FF : Fr [PW] H H := .refl
  walk_at "cwx"
  refine w_lam0 hT fun f1 J1 F1 T1 nf1 l1 => ?_
  have tb1 := tbl_of hT hmT
  have ha := get_tbl F1 tb1 ha (fun _ z => by cases z)
  have hpl := get_tbl F1 tb1 hpl (fun _ z => by cases z)
  have FF := FF.trans F1
  walk_at "cwx"
  refine w_lam1 T1 fun f2 J2 F2 T2 nf2 l2 => ?_
  have tb2 := tbl_of T1 hmT
  have l1 := l1.fr F2 tb2
  have ha := get_tbl F2 tb2 ha (fun _ z => by cases z)
  have hpl := get_tbl F2 tb2 hpl (fun _ z => by cases z)
  have FF := FF.trans F2
  walk_at "cwx"
  refine w_lam1 T2 fun f3 J3 F3 T3 nf3 l3 => ?_
  have tb3 := tbl_of T2 hmT
  have l1 := l1.fr F3 tb3
  have l2 := l2.fr F3 tb3
  have ha := get_tbl F3 tb3 ha (fun _ z => by cases z)
  have hpl := get_tbl F3 tb3 hpl (fun _ z => by cases z)
  have FF := FF.trans F3
  walk_at "cwx"
  rename_i p1 hp1
  have E1 : Fr [] J3 (upd J3 p1 (.lst [V.ref f1, V.ref f2, V.ref f3])) := Fr.new hp1
  have g1 : (upd J3 p1 (.lst [V.ref f1, V.ref f2, V.ref f3])) p1 = some (.lst [V.ref f1, V.ref f2, V.ref f3]) := upd_same
  generalize upd J3 p1 (.lst [V.ref f1, V.ref f2, V.ref f3]) = G1 at *
  have l1 := l1.fr E1 (by simp)
  have l2 := l2.fr E1 (by simp)
  have l3 := l3.fr E1 (by simp)
  have ha := get_tbl E1 (by simp) ha (fun _ z => by cases z)
  have hpl := get_tbl E1 (by simp) hpl (fun _ z => by cases z)
  have FF := FF.more E1
  have S1 := tabs_fr0 T3 E1
  walk_at "cwx"
  refine w_lam1 S1 fun f4 J4 F4 T4 nf4 l4 => ?_
  have tb4 := tbl_of S1 hmT
  have l1 := l1.fr F4 tb4
  have l2 := l2.fr F4 tb4
  have l3 := l3.fr F4 tb4
  have ha := get_tbl F4 tb4 ha (fun _ z => by cases z)
  have hpl := get_tbl F4 tb4 hpl (fun _ z => by cases z)
  have g1 := get_tbl F4 tb4 g1 (fun _ z => by cases z)
  have FF := FF.trans F4
  walk_at "cwx"
  refine w_lam1 T4 fun f5 J5 F5 T5 nf5 l5 => ?_
  have tb5 := tbl_of T4 hmT
  have l1 := l1.fr F5 tb5
  have l2 := l2.fr F5 tb5
  have l3 := l3.fr F5 tb5
  have l4 := l4.fr F5 tb5
  have ha := get_tbl F5 tb5 ha (fun _ z => by cases z)
  have hpl := get_tbl F5 tb5 hpl (fun _ z => by cases z)
  have g1 := get_tbl F5 tb5 g1 (fun _ z => by cases z)
  have FF := FF.trans F5
  walk_at "cwx"
  rename_i p2 hp2 p3 hp3
  dsimp only [List.cons_append, List.nil_append]
  have E2 : Fr [] J5 (upd J5 p2 (.lst [V.ref f4, V.ref f5])) := Fr.new hp2
  have g2 : (upd J5 p2 (.lst [V.ref f4, V.ref f5])) p2 = some (.lst [V.ref f4, V.ref f5]) := upd_same
  generalize upd J5 p2 (.lst [V.ref f4, V.ref f5]) = G2 at *
  have l1 := l1.fr E2 (by simp)
  have l2 := l2.fr E2 (by simp)
  have l3 := l3.fr E2 (by simp)
  have l4 := l4.fr E2 (by simp)
  have l5 := l5.fr E2 (by simp)
  have ha := get_tbl E2 (by simp) ha (fun _ z => by cases z)
  have hpl := get_tbl E2 (by simp) hpl (fun _ z => by cases z)
  have g1 := get_tbl E2 (by simp) g1 (fun _ z => by cases z)
  have FF := FF.more E2
  have S2 := tabs_fr0 T5 E2
  have E3 : Fr [] G2 (upd G2 p3 (.lst [V.ref f1, V.ref f2, V.ref f3, V.ref f4, V.ref f5])) := Fr.new hp3
  have g3 : (upd G2 p3 (.lst [V.ref f1, V.ref f2, V.ref f3, V.ref f4, V.ref f5])) p3 = some (.lst [V.ref f1, V.ref f2, V.ref f3, V.ref f4, V.ref f5]) := upd_same
  have np3 := FF.free hp3
  generalize upd G2 p3 (.lst [V.ref f1, V.ref f2, V.ref f3, V.ref f4, V.ref f5]) = G3 at *
  have l1 := l1.fr E3 (by simp)
  have l2 := l2.fr E3 (by simp)
  have l3 := l3.fr E3 (by simp)
  have l4 := l4.fr E3 (by simp)
  have l5 := l5.fr E3 (by simp)
  have ha := get_tbl E3 (by simp) ha (fun _ z => by cases z)
  have hpl := get_tbl E3 (by simp) hpl (fun _ z => by cases z)
  have g1 := get_tbl E3 (by simp) g1 (fun _ z => by cases z)
  have g2 := get_tbl E3 (by simp) g2 (fun _ z => by cases z)
  have FF := FF.more E3
  have S3 := tabs_fr0 S2 E3
  walk_at "cwx"
  refine w_lam1 S3 fun f6 J6 F6 T6 nf6 l6 => ?_
  have tb6 := tbl_of S3 hmT
  have l1 := l1.fr F6 tb6
  have l2 := l2.fr F6 tb6
  have l3 := l3.fr F6 tb6
  have l4 := l4.fr F6 tb6
  have l5 := l5.fr F6 tb6
  have ha := get_tbl F6 tb6 ha (fun _ z => by cases z)
  have hpl := get_tbl F6 tb6 hpl (fun _ z => by cases z)
  have g1 := get_tbl F6 tb6 g1 (fun _ z => by cases z)
  have g2 := get_tbl F6 tb6 g2 (fun _ z => by cases z)
  have g3 := get_tbl F6 tb6 g3 (fun _ z => by cases z)
  have FF := FF.trans F6
  walk_at "cwx"
  refine w_lam1 T6 fun f7 J7 F7 T7 nf7 l7 => ?_
  have tb7 := tbl_of T6 hmT
  have l1 := l1.fr F7 tb7
  have l2 := l2.fr F7 tb7
  have l3 := l3.fr F7 tb7
  have l4 := l4.fr F7 tb7
  have l5 := l5.fr F7 tb7
  have l6 := l6.fr F7 tb7
  have ha := get_tbl F7 tb7 ha (fun _ z => by cases z)
  have hpl := get_tbl F7 tb7 hpl (fun _ z => by cases z)
  have g1 := get_tbl F7 tb7 g1 (fun _ z => by cases z)
  have g2 := get_tbl F7 tb7 g2 (fun _ z => by cases z)
  have g3 := get_tbl F7 tb7 g3 (fun _ z => by cases z)
  have FF := FF.trans F7
  walk_at "cwx"
  rename_i p4 hp4 p5 hp5
  dsimp only [List.cons_append, List.nil_append]
  have E4 : Fr [] J7 (upd J7 p4 (.lst [V.ref f6, V.ref f7])) := Fr.new hp4
  have g4 : (upd J7 p4 (.lst [V.ref f6, V.ref f7])) p4 = some (.lst [V.ref f6, V.ref f7]) := upd_same
  generalize upd J7 p4 (.lst [V.ref f6, V.ref f7]) = G4 at *
  have l1 := l1.fr E4 (by simp)
  have l2 := l2.fr E4 (by simp)
  have l3 := l3.fr E4 (by simp)
  have l4 := l4.fr E4 (by simp)
  have l5 := l5.fr E4 (by simp)
  have l6 := l6.fr E4 (by simp)
  have l7 := l7.fr E4 (by simp)
  have ha := get_tbl E4 (by simp) ha (fun _ z => by cases z)
  have hpl := get_tbl E4 (by simp) hpl (fun _ z => by cases z)
  have g1 := get_tbl E4 (by simp) g1 (fun _ z => by cases z)
  have g2 := get_tbl E4 (by simp) g2 (fun _ z => by cases z)
  have g3 := get_tbl E4 (by simp) g3 (fun _ z => by cases z)
  have FF := FF.more E4
  have S4 := tabs_fr0 T7 E4
  have E5 : Fr [] G4 (upd G4 p5 (.lst [V.ref f1, V.ref f2, V.ref f3, V.ref f4, V.ref f5, V.ref f6, V.ref f7])) := Fr.new hp5
  have g5 : (upd G4 p5 (.lst [V.ref f1, V.ref f2, V.ref f3, V.ref f4, V.ref f5, V.ref f6, V.ref f7])) p5 = some (.lst [V.ref f1, V.ref f2, V.ref f3, V.ref f4, V.ref f5, V.ref f6, V.ref f7]) := upd_same
  have np5 := FF.free hp5
  generalize upd G4 p5 (.lst [V.ref f1, V.ref f2, V.ref f3, V.ref f4, V.ref f5, V.ref f6, V.ref f7]) = G5 at *
  have l1 := l1.fr E5 (by simp)
  have l2 := l2.fr E5 (by simp)
  have l3 := l3.fr E5 (by simp)
  have l4 := l4.fr E5 (by simp)
  have l5 := l5.fr E5 (by simp)
  have l6 := l6.fr E5 (by simp)
  have l7 := l7.fr E5 (by simp)
  have ha := get_tbl E5 (by simp) ha (fun _ z => by cases z)
  have hpl := get_tbl E5 (by simp) hpl (fun _ z => by cases z)
  have g1 := get_tbl E5 (by simp) g1 (fun _ z => by cases z)
  have g2 := get_tbl E5 (by simp) g2 (fun _ z => by cases z)
  have g3 := get_tbl E5 (by simp) g3 (fun _ z => by cases z)
  have g4 := get_tbl E5 (by simp) g4 (fun _ z => by cases z)
  have FF := FF.more E5
  have S5 := tabs_fr0 S4 E5
  intro L C hL
  have hn2 : ∀ b o, L.lookup b = some o → G5 b = none := fun b o e => (hL b o e).2
  have FL : Fr [PW] H (lay L G5) := fr_lay FF fun b o e => (hL b o e).1
  have TL : LamX.Tabs (tabs2 PW PL) (lay L G5) := S5.ext fun b o e => lay_keep hn2 e
  have hDa : ∀ d ∈ [(a, HO.lst (ns.map V.int)), (pl, HO.lst (ps.map V.int))], G5 d.1 = some d.2 ∧ ∀ ps, d.2 ≠ .tbl ps := fun d hd => by
    simp only [List.mem_cons, List.not_mem_nil, or_false] at hd
    rcases hd with rfl | rfl
    · exact ⟨ha, fun _ z => by cases z⟩
    · exact ⟨hpl, fun _ z => by cases z⟩
  have hrow : ∀ {H' : Hp}, Laid L H' → (∀ d ∈ [(a, HO.lst (ns.map V.int)), (pl, HO.lst (ps.map V.int))], H' d.1 = some d.2) → SqL K (lift L H') a (ns.map V.int) ∧ SqL K (lift L H') pl (ps.map V.int) := fun hx hd =>
    ⟨SqL.of (lift_get hx (hd _ (List.mem_cons_self ..)) exO_nl), SqL.of (lift_get hx (hd _ (List.mem_cons_of_mem _ (List.mem_cons_self ..))) exO_nl)⟩
  have W1 : WorkAt P w K mg base (cls ad) 9 (lay L G5) f1 o5 := by
    refine work0 (k := 8) (N := ["_law_rooms", "_law_row_here"]) (vz := [("_law_rooms", V.int n), ("_law_row_here", V.ref a)]) l1 (show NdefX.NScope ["_law_rooms", "_law_row_here"] [] ["_law_rooms", "_law_row_here"] _ from NdefX.nscope_by (by decide +kernel)) C (fun p hp => ?_) hn2 hDa (fun pm c1 ct => rfl) (fun f c' A outer s H E hr => (pe_call (ok_toldX T) (hr.mono (by decide)) (by rfl) T.m_told T.F_told.kp T.b_told .nil (passes_call (takes_of rfl rfl rfl rfl) (fun _ _ _ _ h => h)) (pa_cons (pv 0) (pa_cons (pv 1) pa_nil)))) ?_
    · simp only [List.mem_cons, List.not_mem_nil, or_false] at hp
      rcases hp with rfl | rfl <;> simp [NdefX.slotAt, L2.start]
    intro H' Q E hx hd hw
    obtain ⟨hr1, hr2⟩ := hrow hx hd
    dsimp only [NdefX.startF]
    walk_at "cwx"
    rcases hW with ⟨b, hb, rfl, rfl⟩ | ⟨h1, h2, hR, hP, rfl, _⟩
    · exact .inr (c_bothN hr1 hb (hw.hid hx))
    · exact .inl (c_told (E := E0) h1 h2 hr1 hR fun p xs H2 f _ _ _ => good_hid hx hw _ _ f)
  have W2 : WorkAt P w K mg base (cls ad) 9 (lay L G5) f2 o5 := by
    refine work1 (k := 8) (N := ["_law_a", "_law_rooms", "_law_row_here"]) (vz := [("_law_rooms", V.int n), ("_law_row_here", V.ref a)]) l2 (show NdefX.NScope ["_law_a", "_law_rooms", "_law_row_here"] ["_law_a"] ["_law_rooms", "_law_row_here"] _ from NdefX.nscope_by (by decide +kernel)) C (fun p hp => ?_) hn2 hDa (fun d pm c1 ct => ⟨_, rfl, fun t => rfl⟩) (fun f c' A outer s H E hr => (pe_call (ok_bestX T) (hr.mono (by decide)) (by rfl) T.m_best T.F_best.kp T.b_best .nil (passes_call (takes_of rfl rfl rfl rfl) (fun _ _ _ _ h => h)) (pa_cons (pv 1) (pa_cons (pv 2) pa_nil)))) ?_
    · simp only [List.mem_cons, List.not_mem_nil, or_false] at hp
      rcases hp with rfl | rfl <;> simp [NdefX.slotAt, L2.start]
    intro H' Q E hx hd hw
    obtain ⟨hr1, hr2⟩ := hrow hx hd
    dsimp only [NdefX.startF]
    walk_at "cwx"
    rcases hW with ⟨b, hb, rfl, rfl⟩ | ⟨h1, h2, hR, hP, rfl, _⟩
    · exact .inr (c_bothN hr1 hb (hw.hid hx))
    · exact .inl (c_best (E := E0) h1 h2 hr1 hR fun t l g xs H2 f _ _ _ _ _ _ _ _ => good_hid hx hw _ _ f)
  have W3 : WorkAt P w K mg base (cls ad) 9 (lay L G5) f3 o5 := by
    refine work1 (k := 8) (N := ["_law_b", "_law_rooms", "_law_row_here"]) (vz := [("_law_rooms", V.int n), ("_law_row_here", V.ref a)]) l3 (show NdefX.NScope ["_law_b", "_law_rooms", "_law_row_here"] ["_law_b"] ["_law_rooms", "_law_row_here"] _ from NdefX.nscope_by (by decide +kernel)) C (fun p hp => ?_) hn2 hDa (fun d pm c1 ct => ⟨_, rfl, fun t => rfl⟩) (fun f c' A outer s H E hr => (pe_call (ok_paperX T) (hr.mono (by decide)) (by rfl) T.m_paper T.F_paper.kp T.b_paper .nil (passes_call (takes_of rfl rfl rfl rfl) (fun _ _ _ _ h => h)) (pa_cons (pv 1) (pa_cons (pv 2) pa_nil)))) ?_
    · simp only [List.mem_cons, List.not_mem_nil, or_false] at hp
      rcases hp with rfl | rfl <;> simp [NdefX.slotAt, L2.start]
    intro H' Q E hx hd hw
    obtain ⟨hr1, hr2⟩ := hrow hx hd
    dsimp only [NdefX.startF]
    walk_at "cwx"
    rcases hW with ⟨b, hb, rfl, rfl⟩ | ⟨h1, h2, hR, hP, rfl, _⟩
    · exact .inr (c_bothN hr1 hb (hw.hid hx))
    · exact .inl (c_paper (E := E0) h1 h2 hr1 hR fun p ps H2 f _ _ _ _ => good_hid hx hw _ _ f)
  have W4 : WorkAt P w K mg base (cls ad) 9 (lay L G5) f4 o5 := by
    refine work1 (k := 8) (N := ["_law_c", "_law_rooms", "_law_row_here"]) (vz := [("_law_rooms", V.int n), ("_law_row_here", V.ref a)]) l4 (show NdefX.NScope ["_law_c", "_law_rooms", "_law_row_here"] ["_law_c"] ["_law_rooms", "_law_row_here"] _ from NdefX.nscope_by (by decide +kernel)) C (fun p hp => ?_) hn2 hDa (fun d pm c1 ct => ⟨_, rfl, fun t => rfl⟩) (fun f c' A outer s H E hr => (pe_call (ok_stretchesX T) (hr.mono (by decide)) (by rfl) T.m_stretches T.F_stretches.kp T.b_stretches .nil (passes_call (takes_of rfl rfl rfl rfl) (fun _ _ _ _ h => h)) (pa_cons (pv 1) (pa_cons (pv 2) pa_nil)))) ?_
    · simp only [List.mem_cons, List.not_mem_nil, or_false] at hp
      rcases hp with rfl | rfl <;> simp [NdefX.slotAt, L2.start]
    intro H' Q E hx hd hw
    obtain ⟨hr1, hr2⟩ := hrow hx hd
    dsimp only [NdefX.startF]
    walk_at "cwx"
    rcases hW with ⟨b, hb, rfl, rfl⟩ | ⟨h1, h2, hR, hP, rfl, _⟩
    · exact .inr (c_bothN hr1 hb (hw.hid hx))
    · exact .inl (c_stretches (E := E0) h1 h2 hr1 hR fun p xs H2 f _ _ _ => good_hid hx hw _ _ f)
  have W5 : WorkAt P w K mg base (cls ad) 9 (lay L G5) f5 o5 := by
    refine work1 (k := 8) (N := ["_law_d", "_law_rooms", "_law_row_here", "_law_places"]) (vz := [("_law_rooms", V.int n), ("_law_row_here", V.ref a), ("_law_places", V.ref pl)]) l5 (show NdefX.NScope ["_law_d", "_law_rooms", "_law_row_here", "_law_places"] ["_law_d"] ["_law_rooms", "_law_row_here", "_law_places"] _ from NdefX.nscope_by (by decide +kernel)) C (fun p hp => ?_) hn2 hDa (fun d pm c1 ct => ⟨_, rfl, fun t => rfl⟩) (fun f c' A outer s H E hr => (pe_call (ok_shownX T) (hr.mono (by decide)) (by rfl) T.m_shown T.F_shown.kp T.b_shown .nil (passes_call (takes_of rfl rfl rfl rfl) (fun _ _ _ _ h => h)) (pa_cons (pv 1) (pa_cons (pv 2) (pa_cons (pv 3) pa_nil))))) ?_
    · simp only [List.mem_cons, List.not_mem_nil, or_false] at hp
      rcases hp with rfl | rfl | rfl <;> simp [NdefX.slotAt, L2.start]
    intro H' Q E hx hd hw
    obtain ⟨hr1, hr2⟩ := hrow hx hd
    dsimp only [NdefX.startF]
    walk_at "cwx"
    rcases hW with ⟨b, hb, rfl, rfl⟩ | ⟨h1, h2, hR, hP, rfl, _⟩
    · exact .inr ⟨n, a, pl, ns, ps, b, rfl, hr1, hr2, hl, .inl hb, hw.hid hx⟩
    · exact .inl (c_shown (E := E0) h1 h2 hr1 hR hr2 hP fun H2 f => good_hid hx hw _ _ f)
  have W6 : WorkAt P w K mg base (cls ad) 9 (lay L G5) f6 o2 := by
    refine work1 (k := 8) (N := ["_law_f", "_law_rooms", "_law_row_here", "_law_rule"]) (vz := [("_law_rooms", V.int n), ("_law_row_here", V.ref a), ("_law_rule", V.str z)]) l6 (show NdefX.NScope ["_law_f", "_law_rooms", "_law_row_here", "_law_rule"] ["_law_f"] ["_law_rooms", "_law_row_here", "_law_rule"] _ from NdefX.nscope_by (by decide +kernel)) C (fun p hp => ?_) hn2 hDa (fun d pm c1 ct => ⟨_, rfl, fun t => rfl⟩) (fun f c' A outer s H E hr => (pe_call (ok_lackingX T) (hr.mono (by decide)) (by rfl) T.m_lacking T.F_lacking.kp T.b_lacking .nil (passes_call (takes_of rfl rfl rfl rfl) (fun _ _ _ _ h => h)) (pa_cons (pv 1) (pa_cons (pv 2) (pa_cons (pv 3) pa_nil))))) ?_
    · simp only [List.mem_cons, List.not_mem_nil, or_false] at hp
      rcases hp with rfl | rfl | rfl <;> simp [NdefX.slotAt, L2.start]
    intro H' Q E hx hd hw
    obtain ⟨hr1, hr2⟩ := hrow hx hd
    dsimp only [NdefX.startF]
    walk_at "cwx"
    rcases hW with ⟨b, hb, rfl, rfl⟩ | ⟨h1, h2, hR, hP, rfl, ⟨hz, rfl⟩ | ⟨hz, rfl⟩⟩
    · exact .inr ⟨n, a, z, ns, b, rfl, hr1, .inl hb, hw.hid hx⟩
    · exact .inl (c_lacking (E := E0) h1 h2 hz hr1 hR fun p H2 f _ _ => good_hid hx hw _ _ f)
    · exact .inr ⟨n, a, z, ns, .rule, rfl, hr1, .inr ⟨h1, h2, hR, hz, rfl⟩, hw.hid hx⟩
  have W7 : WorkAt P w K mg base (cls ad) 9 (lay L G5) f7 o2 := by
    refine work1 (k := 8) (N := ["_law_g", "_law_rooms", "_law_row_here", "_law_rule"]) (vz := [("_law_rooms", V.int n), ("_law_row_here", V.ref a), ("_law_rule", V.str z)]) l7 (show NdefX.NScope ["_law_g", "_law_rooms", "_law_row_here", "_law_rule"] ["_law_g"] ["_law_rooms", "_law_row_here", "_law_rule"] _ from NdefX.nscope_by (by decide +kernel)) C (fun p hp => ?_) hn2 hDa (fun d pm c1 ct => ⟨_, rfl, fun t => rfl⟩) (fun f c' A outer s H E hr => (pe_call (ok_lacking_inX T) (hr.mono (by decide)) (by rfl) T.m_lacking_in T.F_lacking_in.kp T.b_lacking_in .nil (passes_call (takes_of rfl rfl rfl rfl) (fun _ _ _ _ h => h)) (pa_cons (pv 1) (pa_cons (pv 2) (pa_cons (pv 3) pa_nil))))) ?_
    · simp only [List.mem_cons, List.not_mem_nil, or_false] at hp
      rcases hp with rfl | rfl | rfl <;> simp [NdefX.slotAt, L2.start]
    intro H' Q E hx hd hw
    obtain ⟨hr1, hr2⟩ := hrow hx hd
    dsimp only [NdefX.startF]
    walk_at "cwx"
    rcases hW with ⟨b, hb, rfl, rfl⟩ | ⟨h1, h2, hR, hP, rfl, ⟨hz, rfl⟩ | ⟨hz, rfl⟩⟩
    · exact .inr ⟨n, a, z, ns, b, rfl, hr1, .inl hb, hw.hid hx⟩
    · exact .inl (c_lacking_in (E := E0) h1 h2 hz hr1 hR fun p H2 f _ _ => good_hid hx hw _ _ f)
    · exact .inr ⟨n, a, z, ns, .rule, rfl, hr1, .inr ⟨h1, h2, hR, hz, rfl⟩, hw.hid hx⟩
  refine k p5 f1 f2 f3 f4 f5 f6 f7 _ FL TL np5 (lay_keep hn2 g5) (fun f hf => ?_) fun f hf => ?_
  · simp only [List.mem_cons, List.not_mem_nil, or_false] at hf
    rcases hf with rfl | rfl | rfl | rfl | rfl <;> assumption
  · simp only [List.mem_cons, List.not_mem_nil, or_false] at hf
    rcases hf with rfl | rfl <;> assumption

/-! law -/
def sp_l_law (K : PySem.W.Frag) (PW PL : Addr) : Sp := fun vs H Q _ => ∃ (a : Addr) (ns : List Int), vs = [.ref a] ∧ SqL K H a (ns.map V.int) ∧ ns.length ≤ 63 ∧ LamX.Tabs (tabs2 PW PL) H ∧ ∀ H', Q (.bl true) H'
set_option maxHeartbeats 0 in
theorem ok_l_law {cW PW cL PL : Addr} (T : Txt K mg ad) (TW : LamX.TabB base mg cW PW) (TB : LamX.TabB base mg cL PL) (hcW : ad.d_l_works.code = .ref cW) (hcL : ad.d_l_law.code = .ref cL) (hne : PW ≠ PL) : FnOk P w K mg base CX0 12 ad.a_l_law ad.d_l_law ["_law_script"] (sp_l_law K PW PL) := by
  have hmT : (PL, lamQ "law") ∈ tabs2 PW PL := List.mem_cons_of_mem _ (List.mem_cons_self ..)
  have huT : ∀ p ∈ tabs2 PW PL, p.1 = PL → p.2 = lamQ "law" := two_tabs' hne
  have hmW : (PW, lamQ "_law_works") ∈ tabs2 PW PL := List.mem_cons_self ..
  refine fun_okD T.F_l_law hcL sc_l_law (fun vs H Q E h => ?_) (fun A outer s H vs Q E hr h => ?_)
  · obtain ⟨a, ns, rfl, _⟩ := h
    rfl
  obtain ⟨a, ns, rfl, hS, hl, hT, k⟩ := h
  refine ⟨_, (pss_cons (ps_set (i := 1) sc_l_law.nd rfl (by first | exact Or.inl rfl | exact Or.inr rfl) (pe_call (ok_l_begun T) (hr.mono (by decide)) (by rfl) T.m_l_begun T.F_l_begun.kp T.b_l_begun .nil pass0 (pa_cons (pv 0) pa_nil)))
    (pss_cons (ps_set (i := 2) sc_l_law.nd rfl (by first | exact Or.inl rfl | exact Or.inr rfl) (pe_op op_add pe_int (pe_call (ok_l_take T) (hr.mono (by decide)) (by rfl) T.m_l_take T.F_l_take.kp T.b_l_take .nil pass0 (pa_cons (pv 1) (pa_cons pe_int pa_nil)))))
    (pss_cons (ps_set (i := 3) sc_l_law.nd rfl (by first | exact Or.inl rfl | exact Or.inr rfl) (pe_call (ok_l_row T) (hr.mono (by decide)) (by rfl) T.m_l_row T.F_l_row.kp T.b_l_row .nil pass0 (pa_cons (pv 1) (pa_cons pe_int pa_nil))))
    (pss_cons (ps_set (i := 4) sc_l_law.nd rfl (by first | exact Or.inl rfl | exact Or.inr rfl) (pe_ix (kIxL K rfl) (pe_lst (pa_cons (pe_un un_neg pe_int) (pa_cons pe_int (pa_cons (pe_op op_add pe_int (pe_call (ok_l_take T) (hr.mono (by decide)) (by rfl) T.m_l_take T.F_l_take.kp T.b_l_take .nil pass0 (pa_cons (pv 1) (pa_cons (pe_op op_pow pe_int pe_int) pa_nil)))) (pa_cons (pe_op op_sub (pe_un un_neg pe_int) (pe_call (ok_l_take T) (hr.mono (by decide)) (by rfl) T.m_l_take T.F_l_take.kp T.b_l_take .nil pass0 (pa_cons (pv 1) (pa_cons (pe_op op_pow pe_int pe_int) pa_nil)))) pa_nil))))) (pe_call (ok_l_take T) (hr.mono (by decide)) (by rfl) T.m_l_take T.F_l_take.kp T.b_l_take .nil pass0 (pa_cons (pv 1) (pa_cons pe_int pa_nil))) (fun _ _ => rfl)))
    (pss_cons (ps_set (i := 5) sc_l_law.nd rfl (by first | exact Or.inl rfl | exact Or.inr rfl) (pe_call (ok_l_take T) (hr.mono (by decide)) (by rfl) T.m_l_take T.F_l_take.kp T.b_l_take .nil pass0 (pa_cons (pv 1) (pa_cons (pe_op op_add (pe_callB (kLen K rfl) (by rfl) T.z_len (by decide +kernel) (pa_cons (pv 3) pa_nil)) pe_int) pa_nil))))
    (pss_cons (ps_set (i := 6) sc_l_law.nd rfl (by first | exact Or.inl rfl | exact Or.inr rfl) (pe_op op_cat (pe_op op_cat (pe_op op_cat (pe_slice (kSlL K rfl) (pv 3) po_none (po_some (pv 5))) (pe_lst (pa_cons (pv 4) pa_nil))) (pe_slice (kSlL K rfl) (pv 3) (po_some (pv 5)) po_none)) (pe_op op_rep (pe_lst (pa_cons pe_int pa_nil)) (pe_call (ok_l_take T) (hr.mono (by decide)) (by rfl) T.m_l_take T.F_l_take.kp T.b_l_take .nil pass0 (pa_cons (pv 1) (pa_cons pe_int pa_nil))))))
    (pss_cons (ps_set (i := 7) sc_l_law.nd rfl (by first | exact Or.inl rfl | exact Or.inr rfl) (pe_ix (kIxL K rfl) (pe_lst (pa_cons pe_int (pa_cons pe_int (pa_cons (pe_un un_neg pe_int) (pa_cons (pe_op op_add pe_int (pe_call (ok_l_take T) (hr.mono (by decide)) (by rfl) T.m_l_take T.F_l_take.kp T.b_l_take .nil pass0 (pa_cons (pv 1) (pa_cons (pe_op op_pow pe_int pe_int) pa_nil)))) pa_nil))))) (pe_call (ok_l_take T) (hr.mono (by decide)) (by rfl) T.m_l_take T.F_l_take.kp T.b_l_take .nil pass0 (pa_cons (pv 1) (pa_cons pe_int pa_nil))) (fun _ _ => rfl)))
    (pss_cons (ps_set (i := 8) sc_l_law.nd rfl (by first | exact Or.inl rfl | exact Or.inr rfl) (pe_op op_cat (pe_call (ok_l_works (P := P) (w := w) T TW hcW hne) (hr.mono (by decide)) (by rfl) T.m_l_works T.F_l_works.kp T.b_l_works .nil pass0 (pa_cons (pv 7) (pa_cons (pv 6) (pa_cons pe_str (pa_cons (pe_lst (pa_cons (pe_un un_neg pe_int) pa_nil)) pa_nil))))) (pe_lst (pa_cons (pe_lam0 TB rfl hmT huT (NdefX.ndef_free (sc := defScope s_l_law) (fr := []) (by decide +kernel)) (by rfl)) (pa_cons (pe_lam1 TB rfl hmT huT (NdefX.ndef_free (sc := defScope s_l_law) (fr := []) (by decide +kernel)) (by rfl)) pa_nil)))))
    (pss_cons (ps_if (pt_not (pt_val (pe_callLend (pl := [("_law_none", 7)]) (ok_l_all (P := P) (w := w) (base := base) T) (hr.mono (by decide)) (by rfl) T.m_l_all T.F_l_all.kp T.b_l_all (fun _ => rfl) (show ∀ p ∈ ([("_law_none", 7)] : List (Str × Nat)), N_l_law[p.2]? = some p.1 ∧ (defScope s_l_law).names.lookup p.1 = some .cell from by decide +kernel) (pa_cons (pv 8) (pa_cons (pe_tup (pa_cons pe_str (pa_cons pe_int pa_nil))) pa_nil))))) (pss_one (ps_ret pe_bl)) pss_nil)
    (pss_cons (ps_if (pt_not (pt_val (pe_callLend (pl := [("_law_bad", 6)]) (ok_l_all (P := P) (w := w) (base := base) T) (hr.mono (by decide)) (by rfl) T.m_l_all T.F_l_all.kp T.b_l_all (fun _ => rfl) (show ∀ p ∈ ([("_law_bad", 6)] : List (Str × Nat)), N_l_law[p.2]? = some p.1 ∧ (defScope s_l_law).names.lookup p.1 = some .cell from by decide +kernel) (pa_cons (pe_op op_cat (pe_call (ok_l_works (P := P) (w := w) T TW hcW hne) (hr.mono (by decide)) (by rfl) T.m_l_works T.F_l_works.kp T.b_l_works .nil pass0 (pa_cons (pv 2) (pa_cons (pv 6) (pa_cons pe_str (pa_cons (pe_lst (pa_cons (pe_un un_neg pe_int) pa_nil)) pa_nil))))) (pe_lst (pa_cons (pe_lam0 TB rfl hmT huT (NdefX.ndef_free (sc := defScope s_l_law) (fr := []) (by decide +kernel)) (by rfl)) pa_nil))) (pa_cons (pe_tup (pa_cons pe_str (pa_cons (pv 5) pa_nil))) pa_nil))))) (pss_one (ps_ret pe_bl)) pss_nil)
    (pss_cons (ps_set (i := 9) sc_l_law.nd rfl (by first | exact Or.inl rfl | exact Or.inr rfl) (pe_op op_cat (pv 3) (pe_op op_rep (pe_lst (pa_cons pe_int pa_nil)) (pe_op op_sub pe_int (pe_callB (kLen K rfl) (by rfl) T.z_len (by decide +kernel) (pa_cons (pv 3) pa_nil))))))
    (pss_cons (ps_if (pt_not (pt_val (pe_callLend (pl := [("_law_long", 9)]) (ok_l_all (P := P) (w := w) (base := base) T) (hr.mono (by decide)) (by rfl) T.m_l_all T.F_l_all.kp T.b_l_all (fun _ => rfl) (show ∀ p ∈ ([("_law_long", 9)] : List (Str × Nat)), N_l_law[p.2]? = some p.1 ∧ (defScope s_l_law).names.lookup p.1 = some .cell from by decide +kernel) (pa_cons (pe_op op_cat (pe_call (ok_l_works (P := P) (w := w) T TW hcW hne) (hr.mono (by decide)) (by rfl) T.m_l_works T.F_l_works.kp T.b_l_works .nil pass0 (pa_cons (pv 2) (pa_cons (pv 9) (pa_cons pe_str (pa_cons (pe_lst (pa_cons (pe_un un_neg pe_int) pa_nil)) pa_nil))))) (pe_lst (pa_cons (pe_lam0 TB rfl hmT huT (NdefX.ndef_free (sc := defScope s_l_law) (fr := []) (by decide +kernel)) (by rfl)) pa_nil))) (pa_cons (pe_tup (pa_cons pe_str (pa_cons pe_int pa_nil))) pa_nil))))) (pss_one (ps_ret pe_bl)) pss_nil)
    (pss_cons (ps_set (i := 10) sc_l_law.nd rfl (by first | exact Or.inl rfl | exact Or.inr rfl) (pe_ix (kIxL K rfl) (pe_lst (pa_cons (pe_lst (pa_cons (pe_un un_neg pe_int) pa_nil)) (pa_cons (pe_lst (pa_cons (pe_callB (kLen K rfl) (by rfl) T.z_len (by decide +kernel) (pa_cons (pv 3) pa_nil)) pa_nil)) (pa_cons (pe_lst (pa_cons pe_int (pa_cons pe_int pa_nil))) (pa_cons (pe_lst (pa_cons pe_int (pa_cons pe_int pa_nil))) (pa_cons (pe_lst (pa_cons (pe_op op_add (pe_callB (kLen K rfl) (by rfl) T.z_len (by decide +kernel) (pa_cons (pv 3) pa_nil)) pe_int) pa_nil)) (pa_cons (pe_lst (pa_cons (pe_un un_neg pe_int) (pa_cons pe_int pa_nil))) pa_nil))))))) (pe_call (ok_l_take T) (hr.mono (by decide)) (by rfl) T.m_l_take T.F_l_take.kp T.b_l_take .nil pass0 (pa_cons (pv 1) (pa_cons pe_int pa_nil))) (fun _ _ => rfl)))
    (pss_cons (ps_if (pt_not (pt_val (pe_callLend (pl := [("_law_rooms", 2), ("_law_row_here", 3), ("_law_places", 10)]) (ok_l_all (P := P) (w := w) (base := base) T) (hr.mono (by decide)) (by rfl) T.m_l_all T.F_l_all.kp T.b_l_all (fun _ => rfl) (show ∀ p ∈ ([("_law_rooms", 2), ("_law_row_here", 3), ("_law_places", 10)] : List (Str × Nat)), N_l_law[p.2]? = some p.1 ∧ (defScope s_l_law).names.lookup p.1 = some .cell from by decide +kernel) (pa_cons (pe_lst (pa_cons (pe_lam0 TB rfl hmT huT (NdefX.ndef_free (sc := defScope s_l_law) (fr := []) (by decide +kernel)) (by rfl)) pa_nil)) (pa_cons (pe_tup (pa_cons pe_str (pa_cons (pe_callB (kLen K rfl) (by rfl) T.z_len (by decide +kernel) (pa_cons (pv 3) pa_nil)) pa_nil))) pa_nil))))) (pss_one (ps_ret pe_bl)) pss_nil)
    (pss_cons (ps_set (i := 11) sc_l_law.nd rfl (by first | exact Or.inl rfl | exact Or.inr rfl) (pe_ix (kIxL K rfl) (pe_lst (pa_cons pe_str (pa_cons pe_str (pa_cons pe_str (pa_cons pe_str (pa_cons pe_str pa_nil)))))) (pe_call (ok_l_take T) (hr.mono (by decide)) (by rfl) T.m_l_take T.F_l_take.kp T.b_l_take .nil pass0 (pa_cons (pv 1) (pa_cons pe_int pa_nil))) (fun _ _ => rfl)))
    (pss_cons (ps_if (pt_not (pt_val (pe_callLend (pl := []) (ok_l_all (P := P) (w := w) (base := base) T) (hr.mono (by decide)) (by rfl) T.m_l_all T.F_l_all.kp T.b_l_all (fun _ => rfl) (show ∀ p ∈ ([] : List (Str × Nat)), N_l_law[p.2]? = some p.1 ∧ (defScope s_l_law).names.lookup p.1 = some .cell from by decide +kernel) (pa_cons (pe_slice (kSlL K rfl) (pe_call (ok_l_works (P := P) (w := w) T TW hcW hne) (hr.mono (by decide)) (by rfl) T.m_l_works T.F_l_works.kp T.b_l_works .nil pass0 (pa_cons (pv 2) (pa_cons (pv 3) (pa_cons (pv 11) (pa_cons (pe_lst pa_nil) pa_nil))))) (po_some pe_int) po_none) (pa_cons (pe_tup (pa_cons pe_str (pa_cons pe_int pa_nil))) pa_nil))))) (pss_one (ps_ret pe_bl)) pss_nil)
    (pss_cons (ps_set (i := 8) sc_l_law.nd rfl (by first | exact Or.inl rfl | exact Or.inr rfl) (pe_lst (pa_cons (pe_lam0 TB rfl hmT huT (NdefX.ndef_free (sc := defScope s_l_law) (fr := []) (by decide +kernel)) (by rfl)) (pa_cons (pe_lam1 TB rfl hmT huT (NdefX.ndef_free (sc := defScope s_l_law) (fr := []) (by decide +kernel)) (by rfl)) pa_nil))))
    (pss_cons (ps_if (pt_not (pt_val (pe_callLend (pl := [("_law_rooms", 2), ("_law_out", 4), ("_law_at", 5), ("_law_rule", 11)]) (ok_l_all (P := P) (w := w) (base := base) T) (hr.mono (by decide)) (by rfl) T.m_l_all T.F_l_all.kp T.b_l_all (fun _ => rfl) (show ∀ p ∈ ([("_law_rooms", 2), ("_law_out", 4), ("_law_at", 5), ("_law_rule", 11)] : List (Str × Nat)), N_l_law[p.2]? = some p.1 ∧ (defScope s_l_law).names.lookup p.1 = some .cell from by decide +kernel) (pa_cons (pe_op op_cat (pv 8) (pe_lst (pa_cons (pe_lam1 TB rfl hmT huT (NdefX.ndef_free (sc := defScope s_l_law) (fr := []) (by decide +kernel)) (by rfl)) pa_nil))) (pa_cons (pe_tup (pa_cons pe_str (pa_cons pe_int pa_nil))) pa_nil))))) (pss_one (ps_ret pe_bl)) pss_nil)
    (pss_cons (ps_set (i := 8) sc_l_law.nd rfl (by first | exact Or.inl rfl | exact Or.inr rfl) (pe_lst (pa_cons (pe_lam0 TB rfl hmT huT (NdefX.ndef_free (sc := defScope s_l_law) (fr := []) (by decide +kernel)) (by rfl)) (pa_cons (pe_lam1 TB rfl hmT huT (NdefX.ndef_free (sc := defScope s_l_law) (fr := []) (by decide +kernel)) (by rfl)) pa_nil))))
    (pss_cons (ps_if (pt_not (pt_val (pe_callLend (pl := [("_law_rooms", 2), ("_law_at", 5), ("_law_rule", 11)]) (ok_l_all (P := P) (w := w) (base := base) T) (hr.mono (by decide)) (by rfl) T.m_l_all T.F_l_all.kp T.b_l_all (fun _ => rfl) (show ∀ p ∈ ([("_law_rooms", 2), ("_law_at", 5), ("_law_rule", 11)] : List (Str × Nat)), N_l_law[p.2]? = some p.1 ∧ (defScope s_l_law).names.lookup p.1 = some .cell from by decide +kernel) (pa_cons (pe_op op_cat (pv 8) (pe_lst (pa_cons (pe_lam1 TB rfl hmT huT (NdefX.ndef_free (sc := defScope s_l_law) (fr := []) (by decide +kernel)) (by rfl)) pa_nil))) (pa_cons (pe_tup (pa_cons pe_str (pa_cons pe_int pa_nil))) pa_nil))))) (pss_one (ps_ret pe_bl)) pss_nil)
    (pss_cons (ps_set (i := 12) sc_l_law.nd rfl (by first | exact Or.inl rfl | exact Or.inr rfl) (pe_lst (pa_cons (pe_tup (pa_cons pe_int (pa_cons pe_int pa_nil))) (pa_cons (pe_tup (pa_cons pe_int (pa_cons pe_int pa_nil))) (pa_cons (pe_tup (pa_cons pe_int (pa_cons pe_int pa_nil))) (pa_cons (pe_tup (pa_cons pe_int (pa_cons pe_int pa_nil))) (pa_cons (pe_tup (pa_cons pe_int (pa_cons pe_int pa_nil))) (pa_cons (pe_tup (pa_cons pe_int (pa_cons pe_int pa_nil))) (pa_cons (pe_tup (pa_cons pe_int (pa_cons pe_int pa_nil))) pa_nil)))))))))
    (pss_cons (ps_asg (pe_ix (kIxL K rfl) (pv 12) (pe_call (ok_l_take T) (hr.mono (by decide)) (by rfl) T.m_l_take T.F_l_take.kp T.b_l_take .nil pass0 (pa_cons (pv 1) (pa_cons pe_int pa_nil))) (fun _ _ => rfl)) (kTup (K := K) (n := 2) rfl (pg_tup (by rfl) (pgs_cons (pg_name (i := 13) sc_l_law.nd rfl (by first | exact Or.inl rfl | exact Or.inr rfl)) (pgs_cons (pg_name (i := 9) sc_l_law.nd rfl (by first | exact Or.inl rfl | exact Or.inr rfl)) pgs_nil)))))
    (pss_cons (ps_if (pt_cmpR (kNeD K rfl hr.units) (pe_callLend (pl := [("_law_rooms", 2), ("_law_long", 9), ("_law_rule", 11), ("_law_pages", 13)]) (ok_l_refused (P := P) (w := w) (base := base) T) (hr.mono (by decide)) (by rfl) T.m_l_refused T.F_l_refused.kp T.b_l_refused (fun _ => rfl) (show ∀ p ∈ ([("_law_rooms", 2), ("_law_long", 9), ("_law_rule", 11), ("_law_pages", 13)] : List (Str × Nat)), N_l_law[p.2]? = some p.1 ∧ (defScope s_l_law).names.lookup p.1 = some .cell from by decide +kernel) (pa_cons (pe_lam0 TB rfl hmT huT (NdefX.ndef_free (sc := defScope s_l_law) (fr := []) (by decide +kernel)) (by rfl)) pa_nil)) (pe_tup (pa_cons pe_str (pa_cons pe_int pa_nil))) (nomark _)) (pss_one (ps_ret pe_bl)) pss_nil)
    (pss_cons (ps_if (pt_cmpR (kNeD K rfl hr.units) (pe_callLend (pl := [("_law_rooms", 2), ("_law_rule", 11)]) (ok_l_refused (P := P) (w := w) (base := base) T) (hr.mono (by decide)) (by rfl) T.m_l_refused T.F_l_refused.kp T.b_l_refused (fun _ => rfl) (show ∀ p ∈ ([("_law_rooms", 2), ("_law_rule", 11)] : List (Str × Nat)), N_l_law[p.2]? = some p.1 ∧ (defScope s_l_law).names.lookup p.1 = some .cell from by decide +kernel) (pa_cons (pe_lam0 TB rfl hmT huT (NdefX.ndef_free (sc := defScope s_l_law) (fr := []) (by decide +kernel)) (by rfl)) pa_nil)) (pe_tup (pa_cons pe_str (pa_cons pe_int pa_nil))) (nomark _)) (pss_one (ps_ret pe_bl)) pss_nil)
    (pss_one (ps_ret (pe_callLend (pl := [("_law_rooms", 2), ("_law_row_here", 3)]) (ok_l_all (P := P) (w := w) (base := base) T) (hr.mono (by decide)) (by rfl) T.m_l_all T.F_l_all.kp T.b_l_all (fun _ => rfl) (show ∀ p ∈ ([("_law_rooms", 2), ("_law_row_here", 3)] : List (Str × Nat)), N_l_law[p.2]? = some p.1 ∧ (defScope s_l_law).names.lookup p.1 = some .cell from by decide +kernel) (pa_cons (pe_op op_cat (pe_call (ok_l_works (P := P) (w := w) T TW hcW hne) (hr.mono (by decide)) (by rfl) T.m_l_works T.F_l_works.kp T.b_l_works .nil pass0 (pa_cons (pv 2) (pa_cons (pv 3) (pa_cons pe_str (pa_cons (pe_lst pa_nil) pa_nil))))) (pe_lst (pa_cons (pe_lam0 TB rfl hmT huT (NdefX.ndef_free (sc := defScope s_l_law) (fr := []) (by decide +kernel)) (by rfl)) (pa_cons (pe_lam1 TB rfl hmT huT (NdefX.ndef_free (sc := defScope s_l_law) (fr := []) (by decide +kernel)) (by rfl)) pa_nil)))) (pa_cons pe_non pa_nil))))))))))))))))))))))))))))), ?_⟩
  try dsimp only [L2.cxOf, L2.Cx.nox]
  walk_at "cwx"
  refine ⟨a, ns, rfl, hS, hl, fun b q H1 f1 hb hq B1 => ?_⟩
  have N1 : NowL (tabs2 PW PL) b q [] H1 := ⟨B1, tabs_fr0 hT f1, by simp, by simp, by simp⟩
  walk_at "cwx"
  refine c_take B1 (by omega) (by omega) fun r1 H2 f2 B2 r10 r11 => ?_
  have N2 := N1.take f2 B2
  walk_at "cwx"
  refine c_row B2 (by omega) (by omega) fun p row H3 f3 B3 hp gp hlen hrow => ?_
  have N3 := (N2.take f3 B3).had gp (B2.nin hp) (fun _ z => by cases z)
  walk_at "cwx"
  refine w_pow58 fun y4 y40 y41 => ?_
  walk_at "cwx"
  refine c_take N3.bx y40 y41 fun r4 H4 f4 B4 r40 r41 => ?_
  have N4 := N3.take f4 B4
  walk_at "cwx"
  refine w_pow58 fun y5 y50 y51 => ?_
  walk_at "cwx"
  refine c_take B4 y50 y51 fun r5 H5 f5 B5 r50 r51 => ?_
  have N5 := N4.take f5 B5
  walk_at "cwx"
  rename_i lo hlo
  have N6 := N5.add (o := .lst [V.int (-1), V.int 12, V.int (12 + r4), V.int (-1 - r5)]) hlo (fun _ z => by cases z)
  generalize upd H5 lo (.lst [V.int (-1), V.int 12, V.int (12 + r4), V.int (-1 - r5)]) = H6 at *
  refine c_take N6.bx (by omega) (by omega) fun r7 H7 f7 B7 r70 r71 => ?_
  have N7 := N6.take f7 B7
  have glo := N7.co _ (List.mem_cons_self ..)
  obtain ⟨out, hout, hno⟩ : ∃ out : Int, atI [V.int (-1), V.int 12, V.int (12 + r4), V.int (-1 - r5)] r7 = some (.int out) ∧ ¬ (0 ≤ out ∧ out < 12) := by
    rcases (show r7 = 0 ∨ r7 = 1 ∨ r7 = 2 ∨ r7 = 3 by omega) with rfl | rfl | rfl | rfl
    · exact ⟨-1, rfl, by omega⟩
    · exact ⟨12, rfl, by omega⟩
    · exact ⟨12 + r4, rfl, by omega⟩
    · exact ⟨-1 - r5, rfl, by omega⟩
  replace N7 := N7.sub (cs' := [(p, .lst (row.map V.int))]) (by simp)
  have gp7 := N7.co _ (List.mem_cons_self ..)
  walk_at "cwx"
  rw [List.length_map]
  refine c_take B7 (by omega) (by omega) fun r8 H8 f8 B8 r80 r81 => ?_
  have N8 := N7.take f8 B8
  obtain ⟨at_, rfl⟩ : ∃ i : Nat, r8 = (i : Int) := ⟨r8.toNat, by omega⟩
  have gp8 := N8.co _ (List.mem_cons_self ..)
  walk_at "cwx"
  rename_i s1 hs1 s2 hs2
  rw [cut_to'] at hs2 ⊢
  have N9 := (N8.add (o := .lst ((row.take at_).map V.int)) hs1 (fun _ z => by cases z)).add (o := .lst [V.int out]) hs2 (fun _ z => by cases z)
  generalize upd (upd H8 s1 (.lst ((row.take at_).map V.int))) s2 (.lst [V.int out]) = H9 at *
  have gs1 := N9.co (s1, .lst ((row.take at_).map V.int)) (by simp)
  have gs2 := N9.co (s2, .lst [V.int out]) (by simp)
  have hlt : (row.take at_).length + (row.drop at_).length = row.length := by
    rw [← List.length_append, List.take_append_drop]
  refine w_cat gs1 gs2 (sz_le (by simp; omega)) fun s3 hs3 => ?_
  have N10 := N9.add (o := .lst ((row.take at_).map V.int ++ [V.int out])) hs3 (fun _ z => by cases z)
  generalize upd H9 s3 (.lst ((row.take at_).map V.int ++ [V.int out])) = H10 at *
  have gp10 := N10.co (p, .lst (row.map V.int)) (by simp)
  walk_at "cwx"
  rename_i s4 hs4
  have N11 := N10.add (o := .lst ((row.drop at_).map V.int)) hs4 (fun _ z => by cases z)
  generalize upd H10 s4 (.lst ((row.drop at_).map V.int)) = H11 at *
  have gs3 := N11.co (s3, .lst ((row.take at_).map V.int ++ [V.int out])) (by simp)
  have gs4 := N11.co (s4, .lst ((row.drop at_).map V.int)) (by simp)
  refine w_cat gs3 gs4 (sz_le (by simp; omega)) fun s5 hs5 => ?_
  have N12 := N11.add (o := .lst ((row.take at_).map V.int ++ [V.int out] ++ (row.drop at_).map V.int)) hs5 (fun _ z => by cases z)
  generalize upd H11 s5 (.lst ((row.take at_).map V.int ++ [V.int out] ++ (row.drop at_).map V.int)) = H12 at *
  walk_at "cwx"
  rename_i s6 hs6
  have N13 := N12.add (o := .lst [V.int 99]) hs6 (fun _ z => by cases z)
  generalize upd H12 s6 (.lst [V.int 99]) = H13 at *
  refine c_take N13.bx (by omega) (by omega) fun r9 H14 f14 B14 r90 r91 => ?_
  have N14 := N13.take f14 B14
  have gs6 := N14.co (s6, .lst [V.int 99]) (by simp)
  refine w_rep gs6 r90 (by omega) (by simp) fun s7 hs7 => ?_
  rw [rep_one]
  have N15 := N14.add (o := .lst (List.replicate r9.toNat (V.int 99))) hs7 (fun _ z => by cases z)
  generalize upd H14 s7 (.lst (List.replicate r9.toNat (V.int 99))) = H15 at *
  have gs5 := N15.co (s5, .lst ((row.take at_).map V.int ++ [V.int out] ++ (row.drop at_).map V.int)) (by simp)
  have gs7 := N15.co (s7, .lst (List.replicate r9.toNat (V.int 99))) (by simp)
  refine w_cat gs5 gs7 (sz_le (by simp; omega)) fun bp hbp => ?_
  obtain ⟨bad, ebad⟩ : ∃ bad : List Int, bad = row.take at_ ++ [out] ++ row.drop at_ ++ List.replicate r9.toNat 99 := ⟨_, rfl⟩
  have ebad2 : (row.take at_).map V.int ++ [V.int out] ++ (row.drop at_).map V.int ++ List.replicate r9.toNat (V.int 99) = bad.map V.int := by simp [ebad]
  rw [ebad2]
  have N16 := (N15.add (o := .lst (bad.map V.int)) hbp (fun _ z => by cases z)).sub (cs' := [(bp, .lst (bad.map V.int)), (p, .lst (row.map V.int))]) (by simp)
  generalize upd H15 bp (.lst (bad.map V.int)) = H16 at *
  have hRbad : RowBad bad at_ := by
    have hl1 : (row.take at_).length = at_ := by rw [List.length_take]; omega
    refine ⟨by omega, out, ?_, .inr hno, fun j y hj hy => ?_⟩
    · rw [ebad, List.append_assoc, List.append_assoc, List.getElem?_append_right (by omega), hl1, Nat.sub_self]
      rfl
    · rw [ebad, List.append_assoc, List.append_assoc, List.getElem?_append_left (by omega)] at hy
      exact hrow y (List.mem_of_mem_take (List.mem_of_getElem? hy))
  walk_at "cwx"
  refine w_pow58 fun y6 y60 y61 => ?_
  walk_at "cwx"
  refine c_take N16.bx y60 y61 fun r10 H17 f17 B17 r100 r101 => ?_
  have N17 := N16.take f17 B17
  walk_at "cwx"
  rename_i lo2 hlo2
  have N18 := N17.add (o := .lst [V.int 0, V.int 9, V.int (-1), V.int (9 + r10)]) hlo2 (fun _ z => by cases z)
  generalize upd H17 lo2 (.lst [V.int 0, V.int 9, V.int (-1), V.int (9 + r10)]) = H18 at *
  refine c_take N18.bx (by omega) (by omega) fun r11 H19 f19 B19 r110 r111 => ?_
  have N19 := N18.take f19 B19
  have glo2 := N19.co _ (List.mem_cons_self ..)
  obtain ⟨none_, hnone, hnn⟩ : ∃ x : Int, atI [V.int 0, V.int 9, V.int (-1), V.int (9 + r10)] r11 = some (.int x) ∧ ¬ (1 ≤ x ∧ x ≤ 8) := by
    rcases (show r11 = 0 ∨ r11 = 1 ∨ r11 = 2 ∨ r11 = 3 by omega) with rfl | rfl | rfl | rfl
    · exact ⟨0, rfl, by omega⟩
    · exact ⟨9, rfl, by omega⟩
    · exact ⟨-1, rfl, by omega⟩
    · exact ⟨9 + r10, rfl, by omega⟩
  replace N19 := N19.sub (cs' := [(bp, .lst (bad.map V.int)), (p, .lst (row.map V.int))]) (by simp)
  walk_at "cwx"
  -- the calls
  rename_i q1 hq1
  have E20 : Fr [] H19 (upd H19 q1 (.lst [V.int (-1)])) := Fr.new hq1
  have N20 := N19.add (o := .lst [V.int (-1)]) hq1 (fun _ z => by cases z)
  generalize upd H19 q1 (.lst [V.int (-1)]) = H20 at *
  refine ⟨none_, bp, q1, Str.ofString "far", bad, [-1], some .rooms, some .rooms, rfl, N20.co (bp, .lst ((bad).map V.int)) (by simp), N20.co (q1, .lst (([-1] : List Int).map V.int)) (by simp), by simp, N20.ta, .inl ⟨.rooms, hnn, rfl, rfl⟩, fun l1 w1 w2 w3 w4 w5 w6 w7 H21 F21 T21 hl gl W5 W2 => ?_⟩
  have N21 := (N20.tbl hmW F21 T21).had gl (N20.bx.nin hl) (fun _ z => by cases z)
  have WW : ∀ f ∈ [w1, w2, w3, w4, w5, w6, w7], WorkAt P w K mg base (cls ad) 9 H21 f (some .rooms) := fun f hf => by
    simp only [List.mem_cons, List.not_mem_nil, or_false] at hf
    rcases hf with e | e | e | e | e | e | e
    · exact W5 f (by simp [e])
    · exact W5 f (by simp [e])
    · exact W5 f (by simp [e])
    · exact W5 f (by simp [e])
    · exact W5 f (by simp [e])
    · exact W2 f (by simp [e])
    · exact W2 f (by simp [e])
  walk_at "cwx"
  refine w_lam0 N21.ta fun g1 H22 F22 T22 n22 lam1 => ?_
  have N22 := N21.tbl hmT F22 T22
  replace WW := fun f hf => (WW f hf).fr F22 (tbl_of N21.ta hmT)
  walk_at "cwx"
  refine w_lam1 N22.ta fun g2 H23 F23 T23 n23 lam2 => ?_
  have N23 := N22.tbl hmT F23 T23
  replace WW := fun f hf => (WW f hf).fr F23 (tbl_of N22.ta hmT)
  replace lam1 := lam1.fr F23 (tbl_of N22.ta hmT)
  have gl2 := N23.co (l1, .lst [V.ref w1, V.ref w2, V.ref w3, V.ref w4, V.ref w5, V.ref w6, V.ref w7]) (by simp)
  walk_at "cwx"
  rename_i q2 hq2 q3 hq3 q4 hq4
  dsimp only [List.cons_append, List.nil_append] at hq4 ⊢
  have E24 : Fr [] H23 (upd H23 q2 (.lst [V.ref g1, V.ref g2])) := Fr.new hq2
  have N24 := N23.add (o := .lst [V.ref g1, V.ref g2]) hq2 (fun _ z => by cases z)
  generalize upd H23 q2 (.lst [V.ref g1, V.ref g2]) = H24 at *
  replace WW := fun f hf => (WW f hf).fr E24 (by simp)
  replace lam1 := lam1.fr E24 (by simp)
  replace lam2 := lam2.fr E24 (by simp)
  have E25 : Fr [] H24 (upd H24 q3 (.lst [V.ref w1, V.ref w2, V.ref w3, V.ref w4, V.ref w5, V.ref w6, V.ref w7, V.ref g1, V.ref g2])) := Fr.new hq3
  have N25 := N24.add (o := .lst [V.ref w1, V.ref w2, V.ref w3, V.ref w4, V.ref w5, V.ref w6, V.ref w7, V.ref g1, V.ref g2]) hq3 (fun _ z => by cases z)
  generalize upd H24 q3 (.lst [V.ref w1, V.ref w2, V.ref w3, V.ref w4, V.ref w5, V.ref w6, V.ref w7, V.ref g1, V.ref g2]) = H25 at *
  replace WW := fun f hf => (WW f hf).fr E25 (by simp)
  replace lam1 := lam1.fr E25 (by simp)
  replace lam2 := lam2.fr E25 (by simp)
  have E26 : Fr [] H25 (upd H25 q4 (.tup [V.str (Str.ofString "BadRooms"), V.int 0])) := Fr.new hq4
  have N26 := N25.add (o := .tup [V.str (Str.ofString "BadRooms"), V.int 0]) hq4 (fun _ z => by cases z)
  generalize upd H25 q4 (.tup [V.str (Str.ofString "BadRooms"), V.int 0]) = H26 at *
  replace WW := fun f hf => (WW f hf).fr E26 (by simp)
  replace lam1 := lam1.fr E26 (by simp)
  replace lam2 := lam2.fr E26 (by simp)
  intro L C hL
  have Vg1 : WorkAt P w K mg base (cls ad) 9 (lay L H26) g1 (some .rooms) := by
    refine work0 (k := 8) (o := some .rooms) (D := []) (N := ["_law_none"]) (vz := [("_law_none", V.int none_)]) lam1 (show NdefX.NScope ["_law_none"] [] ["_law_none"] _ from NdefX.nscope_by (by decide +kernel)) C (fun p hp => ?_) hL (fun d hd => ⟨(N26.sub (cs' := []) (by simp)).co d hd, (N26.sub (cs' := []) (by simp)).nt d hd⟩) (fun pm c1 ct => rfl) (fun f c1 A outer s H E hr => (pe_make T.mk_Dial (ok_Dial_initX T) (hr.mono (by decide)) (by rfl) T.m_Dial T.b_Dial_init .nil (passes_call (takes_of rfl rfl rfl rfl) (fun _ _ _ _ h => h)) (pa_cons (pv 0) pa_nil))) ?_
    · simp only [List.mem_cons, List.not_mem_nil, or_false] at hp
      rcases hp with rfl <;> simp [NdefX.slotAt, L2.start]
    intro H' Q E hx hd hw
    dsimp only [NdefX.startF]
    walk_at "cwx"
    intro x dx hx1 hdx ne
    exact .inr ⟨x, none_, rfl, hnn, (Bad.to.hid hx hw).step ((Fr.new hdx).trans (Fr.new ((upd_ne (ne_s ne)).trans hx1)))⟩
  have Vg2 : WorkAt P w K mg base (cls ad) 9 (lay L H26) g2 (some .rooms) := by
    refine work1 (k := 8) (o := some .rooms) (D := []) (N := ["_law_a", "_law_none"]) (vz := [("_law_none", V.int none_)]) lam2 (show NdefX.NScope ["_law_a", "_law_none"] ["_law_a"] ["_law_none"] _ from NdefX.nscope_by (by decide +kernel)) C (fun p hp => ?_) hL (fun d hd => ⟨(N26.sub (cs' := []) (by simp)).co d hd, (N26.sub (cs' := []) (by simp)).nt d hd⟩) (fun d pm c1 ct => ⟨_, rfl, fun t => rfl⟩) (fun f c1 A outer s H E hr => (pe_call (ok_worstX T) (hr.mono (by decide)) (by rfl) T.m_worst T.F_worst.kp T.b_worst .nil (passes_call (takes_of rfl rfl rfl rfl) (fun _ _ _ _ h => h)) (pa_cons (pv 1) (pa_cons pe_int (pa_cons (pe_un un_neg pe_int) (pa_cons pe_str pa_nil)))))) ?_
    · simp only [List.mem_cons, List.not_mem_nil, or_false] at hp
      rcases hp with rfl <;> simp [NdefX.slotAt, L2.start]
    intro H' Q E hx hd hw
    dsimp only [NdefX.startF]
    walk_at "cwx"
    exact ⟨none_, 0, -1, Str.ofString "far", .rooms, rfl, .inl ⟨hnn, rfl⟩, Bad.to.hid hx hw⟩
  have WA : ∀ f ∈ [w1, w2, w3, w4, w5, w6, w7, g1, g2], WorkAt P w K mg base (cls ad) 9 (lay L H26) f (some .rooms) := fun f hf => by
    simp only [List.mem_cons, List.not_mem_nil, or_false] at hf
    rcases hf with e | e | e | e | e | e | e | e | e
    · exact (WW f (by simp [e])).lay hL
    · exact (WW f (by simp [e])).lay hL
    · exact (WW f (by simp [e])).lay hL
    · exact (WW f (by simp [e])).lay hL
    · exact (WW f (by simp [e])).lay hL
    · exact (WW f (by simp [e])).lay hL
    · exact (WW f (by simp [e])).lay hL
    · exact e ▸ Vg1
    · exact e ▸ Vg2
  have hdue : Dp K (lay L H26) (.ref q4) (dueD (some .rooms)) := .tup (SqT.of (lay_keep hL (N26.co (q4, .tup [V.str (Str.ofString "BadRooms"), V.int (0)]) (by simp)))) (.cons (.str _) (.cons (.int _) .nil))
  refine ⟨q3, [w1, w2, w3, w4, w5, w6, w7, g1, g2], some .rooms, .ref q4, rfl, SqL.of (lay_keep hL (N26.co (q3, .lst [V.ref w1, V.ref w2, V.ref w3, V.ref w4, V.ref w5, V.ref w6, V.ref w7, V.ref g1, V.ref g2]) (by simp))), by simp, WA, hdue, fun H' F' => ⟨laid_fr F', ?_⟩⟩
  have E27 := fr_back hL F'
  have N27 := N26.fr0 E27
  generalize lift L H' = H27 at *
  replace N27 := N27.sub (cs' := [(bp, .lst (bad.map V.int)), (p, .lst (row.map V.int))]) (by simp)
  clear E20 N19 hq1 N20 F21 T21 hl gl W5 W2 N21 F22 T22 n22 lam1 N22 F23 T23 n23 lam2 gl2 E24 N23 hq2 E25 N24 hq3 E26 N25 hq4 C hL Vg1 Vg2 WA hdue F' E27 N26 WW
  walk_at "cwx"
  rename_i q5 hq5
  have E28 : Fr [] H27 (upd H27 q5 (.lst [V.int (-1)])) := Fr.new hq5
  have N28 := N27.add (o := .lst [V.int (-1)]) hq5 (fun _ z => by cases z)
  generalize upd H27 q5 (.lst [V.int (-1)]) = H28 at *
  refine ⟨(1 + r1), bp, q5, Str.ofString "far", bad, [-1], some (.row at_), some (.row at_), rfl, N28.co (bp, .lst ((bad).map V.int)) (by simp), N28.co (q5, .lst (([-1] : List Int).map V.int)) (by simp), by simp, N28.ta, .inl ⟨.row at_, ⟨⟨by omega, by omega⟩, at_, rfl, hRbad⟩, rfl, rfl⟩, fun l2 w1 w2 w3 w4 w5 w6 w7 H29 F29 T29 hl gl W5 W2 => ?_⟩
  have N29 := (N28.tbl hmW F29 T29).had gl (N28.bx.nin hl) (fun _ z => by cases z)
  have WW : ∀ f ∈ [w1, w2, w3, w4, w5, w6, w7], WorkAt P w K mg base (cls ad) 9 H29 f (some (.row at_)) := fun f hf => by
    simp only [List.mem_cons, List.not_mem_nil, or_false] at hf
    rcases hf with e | e | e | e | e | e | e
    · exact W5 f (by simp [e])
    · exact W5 f (by simp [e])
    · exact W5 f (by simp [e])
    · exact W5 f (by simp [e])
    · exact W5 f (by simp [e])
    · exact W2 f (by simp [e])
    · exact W2 f (by simp [e])
  walk_at "cwx"
  refine w_lam0 N29.ta fun g3 H30 F30 T30 n30 lam3 => ?_
  have N30 := N29.tbl hmT F30 T30
  replace WW := fun f hf => (WW f hf).fr F30 (tbl_of N29.ta hmT)
  have gl3 := N30.co (l2, .lst [V.ref w1, V.ref w2, V.ref w3, V.ref w4, V.ref w5, V.ref w6, V.ref w7]) (by simp)
  walk_at "cwx"
  rename_i q6 hq6 q7 hq7 q8 hq8
  dsimp only [List.cons_append, List.nil_append] at hq8 ⊢
  have E31 : Fr [] H30 (upd H30 q6 (.lst [V.ref g3])) := Fr.new hq6
  have N31 := N30.add (o := .lst [V.ref g3]) hq6 (fun _ z => by cases z)
  generalize upd H30 q6 (.lst [V.ref g3]) = H31 at *
  replace WW := fun f hf => (WW f hf).fr E31 (by simp)
  replace lam3 := lam3.fr E31 (by simp)
  have E32 : Fr [] H31 (upd H31 q7 (.lst [V.ref w1, V.ref w2, V.ref w3, V.ref w4, V.ref w5, V.ref w6, V.ref w7, V.ref g3])) := Fr.new hq7
  have N32 := N31.add (o := .lst [V.ref w1, V.ref w2, V.ref w3, V.ref w4, V.ref w5, V.ref w6, V.ref w7, V.ref g3]) hq7 (fun _ z => by cases z)
  generalize upd H31 q7 (.lst [V.ref w1, V.ref w2, V.ref w3, V.ref w4, V.ref w5, V.ref w6, V.ref w7, V.ref g3]) = H32 at *
  replace WW := fun f hf => (WW f hf).fr E32 (by simp)
  replace lam3 := lam3.fr E32 (by simp)
  have E33 : Fr [] H32 (upd H32 q8 (.tup [V.str (Str.ofString "BadRow"), V.int at_])) := Fr.new hq8
  have N33 := N32.add (o := .tup [V.str (Str.ofString "BadRow"), V.int at_]) hq8 (fun _ z => by cases z)
  generalize upd H32 q8 (.tup [V.str (Str.ofString "BadRow"), V.int at_]) = H33 at *
  replace WW := fun f hf => (WW f hf).fr E33 (by simp)
  replace lam3 := lam3.fr E33 (by simp)
  intro L C hL
  have Vg3 : WorkAt P w K mg base (cls ad) 9 (lay L H33) g3 (some (.row at_)) := by
    refine work0 (k := 8) (o := some (.row at_)) (D := [(bp, HO.lst (bad.map V.int))]) (N := ["_law_bad"]) (vz := [("_law_bad", V.ref bp)]) lam3 (show NdefX.NScope ["_law_bad"] [] ["_law_bad"] _ from NdefX.nscope_by (by decide +kernel)) C (fun p hp => ?_) hL (fun d hd => ⟨(N33.sub (cs' := [(bp, HO.lst (bad.map V.int))]) (by simp)).co d hd, (N33.sub (cs' := [(bp, HO.lst (bad.map V.int))]) (by simp)).nt d hd⟩) (fun pm c1 ct => rfl) (fun f c1 A outer s H E hr => (pe_call (ok_spellsX T) (hr.mono (by decide)) (by rfl) T.m_spells T.F_spells.kp T.b_spells .nil (passes_call (takes_of rfl rfl rfl rfl) (fun _ _ _ _ h => h)) (pa_cons (pv 0) pa_nil))) ?_
    · simp only [List.mem_cons, List.not_mem_nil, or_false] at hp
      rcases hp with rfl <;> simp [NdefX.slotAt, L2.start]
    intro H' Q E hx hd hw
    dsimp only [NdefX.startF]
    walk_at "cwx"
    exact .inr ⟨bp, bad, .row at_, rfl, SqL.of (lift_get hx (hd _ (List.mem_cons_self ..)) exO_nl), ⟨⟨by omega, by omega⟩, at_, rfl, hRbad⟩, Bad.to.hid hx hw⟩
  have WA : ∀ f ∈ [w1, w2, w3, w4, w5, w6, w7, g3], WorkAt P w K mg base (cls ad) 9 (lay L H33) f (some (.row at_)) := fun f hf => by
    simp only [List.mem_cons, List.not_mem_nil, or_false] at hf
    rcases hf with e | e | e | e | e | e | e | e
    · exact (WW f (by simp [e])).lay hL
    · exact (WW f (by simp [e])).lay hL
    · exact (WW f (by simp [e])).lay hL
    · exact (WW f (by simp [e])).lay hL
    · exact (WW f (by simp [e])).lay hL
    · exact (WW f (by simp [e])).lay hL
    · exact (WW f (by simp [e])).lay hL
    · exact e ▸ Vg3
  have hdue : Dp K (lay L H33) (.ref q8) (dueD (some (.row at_))) := .tup (SqT.of (lay_keep hL (N33.co (q8, .tup [V.str (Str.ofString "BadRow"), V.int (at_)]) (by simp)))) (.cons (.str _) (.cons (.int _) .nil))
  refine ⟨q7, [w1, w2, w3, w4, w5, w6, w7, g3], some (.row at_), .ref q8, rfl, SqL.of (lay_keep hL (N33.co (q7, .lst [V.ref w1, V.ref w2, V.ref w3, V.ref w4, V.ref w5, V.ref w6, V.ref w7, V.ref g3]) (by simp))), by simp, WA, hdue, fun H' F' => ⟨laid_fr F', ?_⟩⟩
  have E34 := fr_back hL F'
  have N34 := N33.fr0 E34
  generalize lift L H' = H34 at *
  replace N34 := N34.sub (cs' := [(bp, .lst (bad.map V.int)), (p, .lst (row.map V.int))]) (by simp)
  clear E28 N27 hq5 N28 F29 T29 hl gl W5 W2 N29 F30 T30 n30 lam3 gl3 E31 N30 hq6 E32 N31 hq7 E33 N32 hq8 C hL Vg3 WA hdue F' E34 N33 WW
  have gp3 := N34.co (p, .lst (row.map V.int)) (by simp)
  walk_at "cwx"
  rename_i q9 hq9
  rw [List.length_map]
  have E35 : Fr [] H34 (upd H34 q9 (.lst [V.int 0])) := Fr.new hq9
  have N35 := N34.add (o := .lst [V.int 0]) hq9 (fun _ z => by cases z)
  generalize upd H34 q9 (.lst [V.int 0]) = H35 at *
  have gq9 := N35.co (q9, .lst [V.int 0]) (by simp)
  refine w_rep gq9 (by omega) (by omega) (by simp) fun q10 hq10 => ?_
  rw [rep_one]
  have E36 : Fr [] H35 (upd H35 q10 (.lst (List.replicate ((101 : Int) - (row.length : Int)).toNat (V.int 0)))) := Fr.new hq10
  have N36 := N35.add (o := .lst (List.replicate ((101 : Int) - (row.length : Int)).toNat (V.int 0))) hq10 (fun _ z => by cases z)
  generalize upd H35 q10 (.lst (List.replicate ((101 : Int) - (row.length : Int)).toNat (V.int 0))) = H36 at *
  have gq10 := N36.co (q10, .lst (List.replicate ((101 : Int) - (row.length : Int)).toNat (V.int 0))) (by simp)
  have gp4 := N36.co (p, .lst (row.map V.int)) (by simp)
  refine w_cat gp4 gq10 (sz_le (by simp; omega)) fun lp hlp => ?_
  obtain ⟨long, elong⟩ : ∃ long : List Int, long = row ++ List.replicate ((101 : Int) - (row.length : Int)).toNat 0 := ⟨_, rfl⟩
  have elong2 : row.map V.int ++ List.replicate ((101 : Int) - (row.length : Int)).toNat (V.int 0) = long.map V.int := by simp [elong]
  rw [elong2]
  have hRlong : RowBad long 100 := by
    refine ⟨Nat.le_refl _, 0, ?_, .inl (Nat.le_refl _), fun j y hj hy => ?_⟩
    · rw [elong, List.getElem?_append_right (by omega), List.getElem?_replicate, if_pos (by omega)]
    · rw [elong] at hy
      rcases Nat.lt_or_ge j row.length with h | h
      · rw [List.getElem?_append_left h] at hy
        exact hrow y (List.mem_of_getElem? hy)
      · rw [List.getElem?_append_right h, List.getElem?_replicate] at hy
        split at hy
        · cases hy
          exact ⟨by omega, by omega⟩
        · cases hy
  have E37 : Fr [] H36 (upd H36 lp (.lst (long.map V.int))) := Fr.new hlp
  have N37 := N36.add (o := .lst (long.map V.int)) hlp (fun _ z => by cases z)
  generalize upd H36 lp (.lst (long.map V.int)) = H37 at *
  replace N37 := N37.sub (cs' := [(lp, .lst (long.map V.int)), (bp, .lst (bad.map V.int)), (p, .lst (row.map V.int))]) (by simp)
  clear gp3 E35 N34 hq9 gq9 E36 N35 hq10 gq10 gp4 E37 N36 hlp
  walk_at "cwx"
  rename_i q11 hq11
  have E38 : Fr [] H37 (upd H37 q11 (.lst [V.int (-1)])) := Fr.new hq11
  have N38 := N37.add (o := .lst [V.int (-1)]) hq11 (fun _ z => by cases z)
  generalize upd H37 q11 (.lst [V.int (-1)]) = H38 at *
  refine ⟨(1 + r1), lp, q11, Str.ofString "far", long, [-1], some (.row 100), some (.row 100), rfl, N38.co (lp, .lst ((long).map V.int)) (by simp), N38.co (q11, .lst (([-1] : List Int).map V.int)) (by simp), by simp, N38.ta, .inl ⟨.row 100, ⟨⟨by omega, by omega⟩, 100, rfl, hRlong⟩, rfl, rfl⟩, fun l3 w1 w2 w3 w4 w5 w6 w7 H39 F39 T39 hl gl W5 W2 => ?_⟩
  have N39 := (N38.tbl hmW F39 T39).had gl (N38.bx.nin hl) (fun _ z => by cases z)
  have WW : ∀ f ∈ [w1, w2, w3, w4, w5, w6, w7], WorkAt P w K mg base (cls ad) 9 H39 f (some (.row 100)) := fun f hf => by
    simp only [List.mem_cons, List.not_mem_nil, or_false] at hf
    rcases hf with e | e | e | e | e | e | e
    · exact W5 f (by simp [e])
    · exact W5 f (by simp [e])
    · exact W5 f (by simp [e])
    · exact W5 f (by simp [e])
    · exact W5 f (by simp [e])
    · exact W2 f (by simp [e])
    · exact W2 f (by simp [e])
  walk_at "cwx"
  refine w_lam0 N39.ta fun g4 H40 F40 T40 n40 lam4 => ?_
  have N40 := N39.tbl hmT F40 T40
  replace WW := fun f hf => (WW f hf).fr F40 (tbl_of N39.ta hmT)
  have gl4 := N40.co (l3, .lst [V.ref w1, V.ref w2, V.ref w3, V.ref w4, V.ref w5, V.ref w6, V.ref w7]) (by simp)
  walk_at "cwx"
  rename_i q12 hq12 q13 hq13 q14 hq14
  dsimp only [List.cons_append, List.nil_append] at hq14 ⊢
  have E41 : Fr [] H40 (upd H40 q12 (.lst [V.ref g4])) := Fr.new hq12
  have N41 := N40.add (o := .lst [V.ref g4]) hq12 (fun _ z => by cases z)
  generalize upd H40 q12 (.lst [V.ref g4]) = H41 at *
  replace WW := fun f hf => (WW f hf).fr E41 (by simp)
  replace lam4 := lam4.fr E41 (by simp)
  have E42 : Fr [] H41 (upd H41 q13 (.lst [V.ref w1, V.ref w2, V.ref w3, V.ref w4, V.ref w5, V.ref w6, V.ref w7, V.ref g4])) := Fr.new hq13
  have N42 := N41.add (o := .lst [V.ref w1, V.ref w2, V.ref w3, V.ref w4, V.ref w5, V.ref w6, V.ref w7, V.ref g4]) hq13 (fun _ z => by cases z)
  generalize upd H41 q13 (.lst [V.ref w1, V.ref w2, V.ref w3, V.ref w4, V.ref w5, V.ref w6, V.ref w7, V.ref g4]) = H42 at *
  replace WW := fun f hf => (WW f hf).fr E42 (by simp)
  replace lam4 := lam4.fr E42 (by simp)
  have E43 : Fr [] H42 (upd H42 q14 (.tup [V.str (Str.ofString "BadRow"), V.int 100])) := Fr.new hq14
  have N43 := N42.add (o := .tup [V.str (Str.ofString "BadRow"), V.int 100]) hq14 (fun _ z => by cases z)
  generalize upd H42 q14 (.tup [V.str (Str.ofString "BadRow"), V.int 100]) = H43 at *
  replace WW := fun f hf => (WW f hf).fr E43 (by simp)
  replace lam4 := lam4.fr E43 (by simp)
  intro L C hL
  have Vg4 : WorkAt P w K mg base (cls ad) 9 (lay L H43) g4 (some (.row 100)) := by
    refine work0 (k := 8) (o := some (.row 100)) (D := [(lp, HO.lst (long.map V.int))]) (N := ["_law_long"]) (vz := [("_law_long", V.ref lp)]) lam4 (show NdefX.NScope ["_law_long"] [] ["_law_long"] _ from NdefX.nscope_by (by decide +kernel)) C (fun p hp => ?_) hL (fun d hd => ⟨(N43.sub (cs' := [(lp, HO.lst (long.map V.int))]) (by simp)).co d hd, (N43.sub (cs' := [(lp, HO.lst (long.map V.int))]) (by simp)).nt d hd⟩) (fun pm c1 ct => rfl) (fun f c1 A outer s H E hr => (pe_call (ok_spellsX T) (hr.mono (by decide)) (by rfl) T.m_spells T.F_spells.kp T.b_spells .nil (passes_call (takes_of rfl rfl rfl rfl) (fun _ _ _ _ h => h)) (pa_cons (pv 0) pa_nil))) ?_
    · simp only [List.mem_cons, List.not_mem_nil, or_false] at hp
      rcases hp with rfl <;> simp [NdefX.slotAt, L2.start]
    intro H' Q E hx hd hw
    dsimp only [NdefX.startF]
    walk_at "cwx"
    exact .inr ⟨lp, long, .row 100, rfl, SqL.of (lift_get hx (hd _ (List.mem_cons_self ..)) exO_nl), ⟨⟨by omega, by omega⟩, 100, rfl, hRlong⟩, Bad.to.hid hx hw⟩
  have WA : ∀ f ∈ [w1, w2, w3, w4, w5, w6, w7, g4], WorkAt P w K mg base (cls ad) 9 (lay L H43) f (some (.row 100)) := fun f hf => by
    simp only [List.mem_cons, List.not_mem_nil, or_false] at hf
    rcases hf with e | e | e | e | e | e | e | e
    · exact (WW f (by simp [e])).lay hL
    · exact (WW f (by simp [e])).lay hL
    · exact (WW f (by simp [e])).lay hL
    · exact (WW f (by simp [e])).lay hL
    · exact (WW f (by simp [e])).lay hL
    · exact (WW f (by simp [e])).lay hL
    · exact (WW f (by simp [e])).lay hL
    · exact e ▸ Vg4
  have hdue : Dp K (lay L H43) (.ref q14) (dueD (some (.row 100))) := .tup (SqT.of (lay_keep hL (N43.co (q14, .tup [V.str (Str.ofString "BadRow"), V.int (100)]) (by simp)))) (.cons (.str _) (.cons (.int _) .nil))
  refine ⟨q13, [w1, w2, w3, w4, w5, w6, w7, g4], some (.row 100), .ref q14, rfl, SqL.of (lay_keep hL (N43.co (q13, .lst [V.ref w1, V.ref w2, V.ref w3, V.ref w4, V.ref w5, V.ref w6, V.ref w7, V.ref g4]) (by simp))), by simp, WA, hdue, fun H' F' => ⟨laid_fr F', ?_⟩⟩
  have E44 := fr_back hL F'
  have N44 := N43.fr0 E44
  generalize lift L H' = H44 at *
  replace N44 := N44.sub (cs' := [(p, .lst (row.map V.int))]) (by simp)
  clear E38 N37 hq11 N38 F39 T39 hl gl W5 W2 N39 F40 T40 n40 lam4 gl4 E41 N40 hq12 E42 N41 hq13 E43 N42 hq14 C hL Vg4 WA hdue F' E44 N43 WW
  have gp5 := N44.co (p, .lst (row.map V.int)) (by simp)
  walk_at "cwx"
  rename_i t0 ht0 t1 ht1 t2 ht2 t3 ht3 t4 ht4 t5 ht5 t6 ht6
  simp only [List.length_map] at ht2 ht3 ht4 ht5 ht6 ⊢
  have E45 : Fr [] H44 (upd H44 t0 (.lst [V.int (-1)])) := Fr.new ht0
  have N45 := N44.add (o := .lst [V.int (-1)]) ht0 (fun _ z => by cases z)
  generalize upd H44 t0 (.lst [V.int (-1)]) = H45 at *
  have E46 : Fr [] H45 (upd H45 t1 (.lst [V.int (row.length : Int)])) := Fr.new ht1
  have N46 := N45.add (o := .lst [V.int (row.length : Int)]) ht1 (fun _ z => by cases z)
  generalize upd H45 t1 (.lst [V.int (row.length : Int)]) = H46 at *
  have E47 : Fr [] H46 (upd H46 t2 (.lst [V.int 0, V.int 0])) := Fr.new ht2
  have N47 := N46.add (o := .lst [V.int 0, V.int 0]) ht2 (fun _ z => by cases z)
  generalize upd H46 t2 (.lst [V.int 0, V.int 0]) = H47 at *
  have E48 : Fr [] H47 (upd H47 t3 (.lst [V.int 1, V.int 0])) := Fr.new ht3
  have N48 := N47.add (o := .lst [V.int 1, V.int 0]) ht3 (fun _ z => by cases z)
  generalize upd H47 t3 (.lst [V.int 1, V.int 0]) = H48 at *
  have E49 : Fr [] H48 (upd H48 t4 (.lst [V.int ((row.length : Int) + 7)])) := Fr.new ht4
  have N49 := N48.add (o := .lst [V.int ((row.length : Int) + 7)]) ht4 (fun _ z => by cases z)
  generalize upd H48 t4 (.lst [V.int ((row.length : Int) + 7)]) = H49 at *
  have E50 : Fr [] H49 (upd H49 t5 (.lst [V.int (-5), V.int 0])) := Fr.new ht5
  have N50 := N49.add (o := .lst [V.int (-5), V.int 0]) ht5 (fun _ z => by cases z)
  generalize upd H49 t5 (.lst [V.int (-5), V.int 0]) = H50 at *
  have E51 : Fr [] H50 (upd H50 t6 (.lst [V.ref t0, V.ref t1, V.ref t2, V.ref t3, V.ref t4, V.ref t5])) := Fr.new ht6
  have N51 := N50.add (o := .lst [V.ref t0, V.ref t1, V.ref t2, V.ref t3, V.ref t4, V.ref t5]) ht6 (fun _ z => by cases z)
  generalize upd H50 t6 (.lst [V.ref t0, V.ref t1, V.ref t2, V.ref t3, V.ref t4, V.ref t5]) = H51 at *
  refine c_take N51.bx (by omega) (by omega) fun r12 H52 F52 B52 r120 r121 => ?_
  have N52 := N51.take F52 B52
  obtain ⟨pp, places, hpp, gpp, npp, hppl, hbadp⟩ : ∃ (pp : Addr) (places : List Int), atI [V.ref t0, V.ref t1, V.ref t2, V.ref t3, V.ref t4, V.ref t5] r12 = some (.ref pp) ∧ H52 pp = some (.lst (places.map V.int)) ∧ pp ∉ [b, q] ∧ places.length ≤ 100 ∧ PapBad row places := by
    rcases (show r12 = 0 ∨ r12 = 1 ∨ r12 = 2 ∨ r12 = 3 ∨ r12 = 4 ∨ r12 = 5 by omega) with rfl | rfl | rfl | rfl | rfl | rfl
    · exact ⟨t0, [-1], rfl, N52.co (t0, .lst [V.int (-1)]) (by simp), N52.ap (t0, .lst [V.int (-1)]) (by simp), by simp, .inr ⟨-1, by simp, by omega⟩⟩
    · exact ⟨t1, [(row.length : Int)], rfl, N52.co (t1, .lst [V.int (row.length : Int)]) (by simp), N52.ap (t1, .lst [V.int (row.length : Int)]) (by simp), by simp, .inr ⟨(row.length : Int), by simp, by omega⟩⟩
    · exact ⟨t2, [0, 0], rfl, N52.co (t2, .lst [V.int 0, V.int 0]) (by simp), N52.ap (t2, .lst [V.int 0, V.int 0]) (by simp), by simp, .inl (fun e => by have z := (uniq_spec [0, 0]).1; rw [← e] at z; simp at z)⟩
    · exact ⟨t3, [1, 0], rfl, N52.co (t3, .lst [V.int 1, V.int 0]) (by simp), N52.ap (t3, .lst [V.int 1, V.int 0]) (by simp), by simp, .inl (fun e => by have z := (uniq_spec [1, 0]).1; rw [← e] at z; simp at z)⟩
    · exact ⟨t4, [(row.length : Int) + 7], rfl, N52.co (t4, .lst [V.int ((row.length : Int) + 7)]) (by simp), N52.ap (t4, .lst [V.int ((row.length : Int) + 7)]) (by simp), by simp, .inr ⟨(row.length : Int) + 7, by simp, by omega⟩⟩
    · exact ⟨t5, [-5, 0], rfl, N52.co (t5, .lst [V.int (-5), V.int 0]) (by simp), N52.ap (t5, .lst [V.int (-5), V.int 0]) (by simp), by simp, .inr ⟨-5, by simp, by omega⟩⟩
  have gt6 := N52.co (t6, .lst [V.ref t0, V.ref t1, V.ref t2, V.ref t3, V.ref t4, V.ref t5]) (by simp)
  replace N52 := (N52.had gpp npp (fun _ z => by cases z)).sub (cs' := [(pp, .lst (places.map V.int)), (p, .lst (row.map V.int))]) (by simp)
  walk_at "cwx"
  refine w_lam0 N52.ta fun g5 H53 F53 T53 n53 lam5 => ?_
  have N53 := N52.tbl hmT F53 T53
  have gp6 := N53.co (p, .lst (row.map V.int)) (by simp)
  walk_at "cwx"
  rename_i u1 hu1 u2 hu2
  simp only [List.length_map] at hu2 ⊢
  have E54 : Fr [] H53 (upd H53 u1 (.lst [V.ref g5])) := Fr.new hu1
  have N54 := N53.add (o := .lst [V.ref g5]) hu1 (fun _ z => by cases z)
  generalize upd H53 u1 (.lst [V.ref g5]) = H54 at *
  replace lam5 := lam5.fr E54 (by simp)
  have E55 : Fr [] H54 (upd H54 u2 (.tup [V.str (Str.ofString "BadRow"), V.int (row.length : Int)])) := Fr.new hu2
  have N55 := N54.add (o := .tup [V.str (Str.ofString "BadRow"), V.int (row.length : Int)]) hu2 (fun _ z => by cases z)
  generalize upd H54 u2 (.tup [V.str (Str.ofString "BadRow"), V.int (row.length : Int)]) = H55 at *
  replace lam5 := lam5.fr E55 (by simp)
  intro L C hL
  have Vg5 : WorkAt P w K mg base (cls ad) 9 (lay L H55) g5 (some (.row (row.length : Int))) := by
    refine work0 (k := 8) (o := some (.row (row.length : Int))) (D := [(p, HO.lst (row.map V.int)), (pp, HO.lst (places.map V.int))]) (N := ["_law_rooms", "_law_row_here", "_law_places"]) (vz := [("_law_rooms", V.int (1 + r1)), ("_law_row_here", V.ref p), ("_law_places", V.ref pp)]) lam5 (show NdefX.NScope ["_law_rooms", "_law_row_here", "_law_places"] [] ["_law_rooms", "_law_row_here", "_law_places"] _ from NdefX.nscope_by (by decide +kernel)) C (fun p hp => ?_) hL (fun d hd => ⟨(N55.sub (cs' := [(p, HO.lst (row.map V.int)), (pp, HO.lst (places.map V.int))]) (by simp)).co d hd, (N55.sub (cs' := [(p, HO.lst (row.map V.int)), (pp, HO.lst (places.map V.int))]) (by simp)).nt d hd⟩) (fun pm c1 ct => rfl) (fun f c1 A outer s H E hr => (pe_call (ok_shownX T) (hr.mono (by decide)) (by rfl) T.m_shown T.F_shown.kp T.b_shown .nil (passes_call (takes_of rfl rfl rfl rfl) (fun _ _ _ _ h => h)) (pa_cons (pv 0) (pa_cons (pv 1) (pa_cons (pv 2) pa_nil))))) ?_
    · simp only [List.mem_cons, List.not_mem_nil, or_false] at hp
      rcases hp with rfl | rfl | rfl <;> simp [NdefX.slotAt, L2.start]
    intro H' Q E hx hd hw
    dsimp only [NdefX.startF]
    walk_at "cwx"
    exact .inr ⟨1 + r1, p, pp, row, places, .row (row.length : Int), rfl, SqL.of (lift_get hx (hd _ (List.mem_cons_self ..)) exO_nl), SqL.of (lift_get hx (hd _ (List.mem_cons_of_mem _ (List.mem_cons_self ..))) exO_nl), hppl, .inr ⟨by omega, by omega, ⟨by omega, hrow⟩, hbadp, rfl⟩, Bad.to.hid hx hw⟩
  have WA : ∀ f ∈ [g5], WorkAt P w K mg base (cls ad) 9 (lay L H55) f (some (.row (row.length : Int))) := fun f hf => by
    simp only [List.mem_cons, List.not_mem_nil, or_false] at hf
    have e : f = g5 := hf
    · exact e ▸ Vg5
  have hdue : Dp K (lay L H55) (.ref u2) (dueD (some (.row (row.length : Int)))) := .tup (SqT.of (lay_keep hL (N55.co (u2, .tup [V.str (Str.ofString "BadRow"), V.int ((row.length : Int))]) (by simp)))) (.cons (.str _) (.cons (.int _) .nil))
  refine ⟨u1, [g5], some (.row (row.length : Int)), .ref u2, rfl, SqL.of (lay_keep hL (N55.co (u1, .lst [V.ref g5]) (by simp))), by simp, WA, hdue, fun H' F' => ⟨laid_fr F', ?_⟩⟩
  have E56 := fr_back hL F'
  have N56 := N55.fr0 E56
  generalize lift L H' = H56 at *
  replace N56 := N56.sub (cs' := [(p, .lst (row.map V.int))]) (by simp)
  clear gp5 E45 N44 ht0 E46 N45 ht1 E47 N46 ht2 E48 N47 ht3 E49 N48 ht4 E50 N49 ht5 E51 N50 ht6 N51 F52 B52 N52 F53 T53 n53 lam5 gp6 E54 N53 hu1 E55 N54 hu2 C hL Vg5 WA hdue F' E56 N55
  walk_at "cwx"
  rename_i t7 ht7
  have E57 : Fr [] H56 (upd H56 t7 (.lst [V.str (Str.ofString ""), V.str (Str.ofString "Hand"), V.str (Str.ofString "seen"), V.str (Str.ofString "handunseen"), V.str (Str.ofString "last")])) := Fr.new ht7
  have N57 := N56.add (o := .lst [V.str (Str.ofString ""), V.str (Str.ofString "Hand"), V.str (Str.ofString "seen"), V.str (Str.ofString "handunseen"), V.str (Str.ofString "last")]) ht7 (fun _ z => by cases z)
  generalize upd H56 t7 (.lst [V.str (Str.ofString ""), V.str (Str.ofString "Hand"), V.str (Str.ofString "seen"), V.str (Str.ofString "handunseen"), V.str (Str.ofString "last")]) = H57 at *
  refine c_take N57.bx (by omega) (by omega) fun r13 H58 F58 B58 r130 r131 => ?_
  have N58 := N57.take F58 B58
  obtain ⟨z, hz, hnz⟩ : ∃ z : Str, atI [V.str (Str.ofString ""), V.str (Str.ofString "Hand"), V.str (Str.ofString "seen"), V.str (Str.ofString "handunseen"), V.str (Str.ofString "last")] r13 = some (.str z) ∧ ¬ IsRule z := by
    rcases (show r13 = 0 ∨ r13 = 1 ∨ r13 = 2 ∨ r13 = 3 ∨ r13 = 4 by omega) with rfl | rfl | rfl | rfl | rfl
    · exact ⟨Str.ofString "", rfl, fun h => by rcases h with h | h | h <;> exact absurd h (by decide +kernel)⟩
    · exact ⟨Str.ofString "Hand", rfl, fun h => by rcases h with h | h | h <;> exact absurd h (by decide +kernel)⟩
    · exact ⟨Str.ofString "seen", rfl, fun h => by rcases h with h | h | h <;> exact absurd h (by decide +kernel)⟩
    · exact ⟨Str.ofString "handunseen", rfl, fun h => by rcases h with h | h | h <;> exact absurd h (by decide +kernel)⟩
    · exact ⟨Str.ofString "last", rfl, fun h => by rcases h with h | h | h <;> exact absurd h (by decide +kernel)⟩
  have gt7 := N58.co (t7, .lst [V.str (Str.ofString ""), V.str (Str.ofString "Hand"), V.str (Str.ofString "seen"), V.str (Str.ofString "handunseen"), V.str (Str.ofString "last")]) (by simp)
  replace N58 := N58.sub (cs' := [(p, .lst (row.map V.int))]) (by simp)
  clear E57 N56 ht7 N57 F58 B58
  walk_at "cwx"
  rename_i v1 hv1
  have E59 : Fr [] H58 (upd H58 v1 (.lst [])) := Fr.new hv1
  have N59 := N58.add (o := .lst []) hv1 (fun _ z => by cases z)
  generalize upd H58 v1 (.lst []) = H59 at *
  refine ⟨(1 + r1), p, v1, z, row, [], none, some .rule, rfl, N59.co (p, .lst ((row).map V.int)) (by simp), N59.co (v1, .lst (([] : List Int).map V.int)) (by simp), by simp, N59.ta, .inr ⟨by omega, by omega, ⟨by omega, hrow⟩, ⟨by simp, by simp⟩, rfl, .inr ⟨hnz, rfl⟩⟩, fun l4 w1 w2 w3 w4 w5 w6 w7 H60 F60 T60 hl gl W5 W2 => ?_⟩
  have N60 := (N59.tbl hmW F60 T60).had gl (N59.bx.nin hl) (fun _ z => by cases z)
  have WW : ∀ f ∈ [w6, w7], WorkAt P w K mg base (cls ad) 9 H60 f (some .rule) := W2
  have gl5 := N60.co (l4, .lst [V.ref w1, V.ref w2, V.ref w3, V.ref w4, V.ref w5, V.ref w6, V.ref w7]) (by simp)
  walk_at "cwx"
  rename_i v2 hv2 v3 hv3
  have ecut : cutV [V.ref w1, V.ref w2, V.ref w3, V.ref w4, V.ref w5, V.ref w6, V.ref w7] (some 5) none = [V.ref w6, V.ref w7] := cut_from _ 5
  rw [ecut] at hv3 ⊢
  have E61 : Fr [] H60 (upd H60 v2 (.lst [V.ref w6, V.ref w7])) := Fr.new hv2
  have N61 := N60.add (o := .lst [V.ref w6, V.ref w7]) hv2 (fun _ z => by cases z)
  generalize upd H60 v2 (.lst [V.ref w6, V.ref w7]) = H61 at *
  replace WW := fun f hf => (WW f hf).fr E61 (by simp)
  have E62 : Fr [] H61 (upd H61 v3 (.tup [V.str (Str.ofString "BadRule"), V.int 0])) := Fr.new hv3
  have N62 := N61.add (o := .tup [V.str (Str.ofString "BadRule"), V.int 0]) hv3 (fun _ z => by cases z)
  generalize upd H61 v3 (.tup [V.str (Str.ofString "BadRule"), V.int 0]) = H62 at *
  replace WW := fun f hf => (WW f hf).fr E62 (by simp)
  intro L C hL
  have WA : ∀ f ∈ [w6, w7], WorkAt P w K mg base (cls ad) 9 (lay L H62) f (some .rule) := fun f hf => by
    simp only [List.mem_cons, List.not_mem_nil, or_false] at hf
    rcases hf with e | e
    · exact (WW f (by simp [e])).lay hL
    · exact (WW f (by simp [e])).lay hL
  have hdue : Dp K (lay L H62) (.ref v3) (dueD (some .rule)) := .tup (SqT.of (lay_keep hL (N62.co (v3, .tup [V.str (Str.ofString "BadRule"), V.int (0)]) (by simp)))) (.cons (.str _) (.cons (.int _) .nil))
  refine ⟨v2, [w6, w7], some .rule, .ref v3, rfl, SqL.of (lay_keep hL (N62.co (v2, .lst [V.ref w6, V.ref w7]) (by simp))), by simp, WA, hdue, fun H' F' => ⟨laid_fr F', ?_⟩⟩
  have E63 := fr_back hL F'
  have N63 := N62.fr0 E63
  generalize lift L H' = H63 at *
  replace N63 := N63.sub (cs' := [(p, .lst (row.map V.int))]) (by simp)
  clear E59 N58 hv1 N59 F60 T60 hl gl W5 W2 gl5 E61 N60 hv2 E62 N61 hv3 C hL WA hdue F' E63 N62 WW
  walk_at "cwx"
  refine w_lam0 N63.ta fun g6 H64 F64 T64 n64 lam6 => ?_
  have N64 := N63.tbl hmT F64 T64
  walk_at "cwx"
  refine w_lam1 N64.ta fun g7 H65 F65 T65 n65 lam7 => ?_
  have N65 := N64.tbl hmT F65 T65
  replace lam6 := lam6.fr F65 (tbl_of N64.ta hmT)
  walk_at "cwx"
  rename_i x1 hx1
  have E66 : Fr [] H65 (upd H65 x1 (.lst [V.ref g6, V.ref g7])) := Fr.new hx1
  have N66 := N65.add (o := .lst [V.ref g6, V.ref g7]) hx1 (fun _ z => by cases z)
  generalize upd H65 x1 (.lst [V.ref g6, V.ref g7]) = H66 at *
  replace lam6 := lam6.fr E66 (by simp)
  replace lam7 := lam7.fr E66 (by simp)
  walk_at "cwx"
  refine w_lam1 N66.ta fun g8 H67 F67 T67 n67 lam8 => ?_
  have N67 := N66.tbl hmT F67 T67
  replace lam6 := lam6.fr F67 (tbl_of N66.ta hmT)
  replace lam7 := lam7.fr F67 (tbl_of N66.ta hmT)
  have gx1 := N67.co (x1, .lst [V.ref g6, V.ref g7]) (by simp)
  walk_at "cwx"
  rename_i x2 hx2 x3 hx3 x4 hx4
  dsimp only [List.cons_append, List.nil_append] at hx4 ⊢
  have E68 : Fr [] H67 (upd H67 x2 (.lst [V.ref g8])) := Fr.new hx2
  have N68 := N67.add (o := .lst [V.ref g8]) hx2 (fun _ z => by cases z)
  generalize upd H67 x2 (.lst [V.ref g8]) = H68 at *
  replace lam6 := lam6.fr E68 (by simp)
  replace lam7 := lam7.fr E68 (by simp)
  replace lam8 := lam8.fr E68 (by simp)
  have E69 : Fr [] H68 (upd H68 x3 (.lst [V.ref g6, V.ref g7, V.ref g8])) := Fr.new hx3
  have N69 := N68.add (o := .lst [V.ref g6, V.ref g7, V.ref g8]) hx3 (fun _ z => by cases z)
  generalize upd H68 x3 (.lst [V.ref g6, V.ref g7, V.ref g8]) = H69 at *
  replace lam6 := lam6.fr E69 (by simp)
  replace lam7 := lam7.fr E69 (by simp)
  replace lam8 := lam8.fr E69 (by simp)
  have E70 : Fr [] H69 (upd H69 x4 (.tup [V.str (Str.ofString "BadRow"), V.int 0])) := Fr.new hx4
  have N70 := N69.add (o := .tup [V.str (Str.ofString "BadRow"), V.int 0]) hx4 (fun _ z => by cases z)
  generalize upd H69 x4 (.tup [V.str (Str.ofString "BadRow"), V.int 0]) = H70 at *
  replace lam6 := lam6.fr E70 (by simp)
  replace lam7 := lam7.fr E70 (by simp)
  replace lam8 := lam8.fr E70 (by simp)
  obtain ⟨pgv, hpv, hpb⟩ : ∃ pgv : Int, atI [V.int 0, V.int 13, V.int (-1)] ((at_ : Int) % 3) = some (.int pgv) ∧ ¬ (1 ≤ pgv ∧ pgv ≤ 12) := by
    rcases (show (at_ : Int) % 3 = 0 ∨ (at_ : Int) % 3 = 1 ∨ (at_ : Int) % 3 = 2 by omega) with e | e | e <;> rw [e]
    · exact ⟨0, rfl, by omega⟩
    · exact ⟨13, rfl, by omega⟩
    · exact ⟨-1, rfl, by omega⟩
  intro L C hL
  have Vg6 : WorkAt P w K mg base (cls ad) 9 (lay L H70) g6 (some (.row 0)) := by
    refine work0 (k := 8) (o := some (.row 0)) (D := []) (N := ["_law_rooms", "_law_out"]) (vz := [("_law_rooms", V.int (1 + r1)), ("_law_out", V.int out)]) lam6 (show NdefX.NScope ["_law_rooms", "_law_out"] [] ["_law_rooms", "_law_out"] _ from NdefX.nscope_by (by decide +kernel)) C (fun p hp => ?_) hL (fun d hd => ⟨(N70.sub (cs' := []) (by simp)).co d hd, (N70.sub (cs' := []) (by simp)).nt d hd⟩) (fun pm c1 ct => rfl) (fun f c1 A outer s H E hr => (pe_methX (pe_make T.mk_Dial (ok_Dial_initX T) (hr.mono (by decide)) (by rfl) T.m_Dial T.b_Dial_init .nil (passes_call (takes_of rfl rfl rfl rfl) (fun _ _ _ _ h => h)) (pa_cons (pv 0) pa_nil)) T.cl_Dial T.mt_Dial_ask (ok_Dial_askX T) (hr.mono (by decide)) T.b_Dial_ask (fun _ pins H s1 e s2 I c => passes_call (takes_of rfl rfl rfl rfl) (fun _ _ _ _ h => h) pins _ H s1 e s2 I c) (pa_cons (pv 1) pa_nil))) ?_
    · simp only [List.mem_cons, List.not_mem_nil, or_false] at hp
      rcases hp with rfl | rfl <;> simp [NdefX.slotAt, L2.start]
    intro H' Q E hx hd hw
    dsimp only [NdefX.startF]
    walk_at "cwx"
    dsimp only [tMethX]
    walk_at "cwx"
    intro x dx hx1 hdx ne
    refine .inl ⟨x, dx, 1 + r1, rfl, upd_same, by omega, by omega, fun a1 b1 H2 F2 _ _ _ D2 => ⟨rfl, ?_⟩⟩
    obtain ⟨⟨dx1, g1⟩, _, _⟩ := D2
    have F1 : Fr [] (lift L H') H2 := ((Fr.new hdx).trans (Fr.new ((upd_ne (ne_s ne)).trans hx1))).comp F2 (by simp [hx1])
    refine ⟨x, dx1, _, rfl, g1, rfl, ?_⟩
    walk_at "cwx"
    exact .inr ⟨x, out, rfl, hno, fun d H3 F3 _ h3 => Bad.to.hid hx hw (some d) H3 (F1.trans F3) ⟨d, rfl, h3⟩⟩
  have Vg7 : WorkAt P w K mg base (cls ad) 9 (lay L H70) g7 (some (.row 0)) := by
    refine work1 (k := 8) (o := some (.row 0)) (D := []) (N := ["_law_a", "_law_rooms", "_law_at", "_law_rule"]) (vz := [("_law_rooms", V.int (1 + r1)), ("_law_at", V.int at_), ("_law_rule", V.str z)]) lam7 (show NdefX.NScope ["_law_a", "_law_rooms", "_law_at", "_law_rule"] ["_law_a"] ["_law_rooms", "_law_at", "_law_rule"] _ from NdefX.nscope_by (by decide +kernel)) C (fun p hp => ?_) hL (fun d hd => ⟨(N70.sub (cs' := []) (by simp)).co d hd, (N70.sub (cs' := []) (by simp)).nt d hd⟩) (fun d pm c1 ct => ⟨_, rfl, fun t => rfl⟩) (fun f c1 A outer s H E hr => (pe_call (ok_worstX T) (hr.mono (by decide)) (by rfl) T.m_worst T.F_worst.kp T.b_worst .nil (passes_call (takes_of rfl rfl rfl rfl) (fun _ _ _ _ h => h)) (pa_cons (pv 1) (pa_cons (pe_ix (kIxL K rfl) (pe_lst (pa_cons pe_int (pa_cons pe_int (pa_cons (pe_un un_neg pe_int) pa_nil)))) (pe_op op_mod (pv 2) pe_int) (fun _ _ => rfl)) (pa_cons pe_int (pa_cons (pv 3) pa_nil)))))) ?_
    · simp only [List.mem_cons, List.not_mem_nil, or_false] at hp
      rcases hp with rfl | rfl | rfl <;> simp [NdefX.slotAt, L2.start]
    intro H' Q E hx hd hw
    dsimp only [NdefX.startF]
    walk_at "cwx"
    rename_i y1 hy1
    exact ⟨1 + r1, pgv, 2, z, .row 0, rfl, .inr ⟨by omega, by omega, .inl ⟨rfl, .inl hpb⟩⟩, (Bad.to.hid hx hw).step (Fr.new hy1)⟩
  have Vg8 : WorkAt P w K mg base (cls ad) 9 (lay L H70) g8 (some (.row 0)) := by
    refine work1 (k := 8) (o := some (.row 0)) (D := []) (N := ["_law_b", "_law_rooms", "_law_at", "_law_rule"]) (vz := [("_law_rooms", V.int (1 + r1)), ("_law_at", V.int at_), ("_law_rule", V.str z)]) lam8 (show NdefX.NScope ["_law_b", "_law_rooms", "_law_at", "_law_rule"] ["_law_b"] ["_law_rooms", "_law_at", "_law_rule"] _ from NdefX.nscope_by (by decide +kernel)) C (fun p hp => ?_) hL (fun d hd => ⟨(N70.sub (cs' := []) (by simp)).co d hd, (N70.sub (cs' := []) (by simp)).nt d hd⟩) (fun d pm c1 ct => ⟨_, rfl, fun t => rfl⟩) (fun f c1 A outer s H E hr => (pe_call (ok_worstX T) (hr.mono (by decide)) (by rfl) T.m_worst T.F_worst.kp T.b_worst .nil (passes_call (takes_of rfl rfl rfl rfl) (fun _ _ _ _ h => h)) (pa_cons (pv 1) (pa_cons pe_int (pa_cons (pe_op op_sub (pe_un un_neg pe_int) (pv 2)) (pa_cons (pv 3) pa_nil)))))) ?_
    · simp only [List.mem_cons, List.not_mem_nil, or_false] at hp
      rcases hp with rfl | rfl | rfl <;> simp [NdefX.slotAt, L2.start]
    intro H' Q E hx hd hw
    dsimp only [NdefX.startF]
    walk_at "cwx"
    exact ⟨1 + r1, 2, -1 - at_, z, .row 0, rfl, .inr ⟨by omega, by omega, .inl ⟨rfl, .inr (by omega)⟩⟩, Bad.to.hid hx hw⟩
  have WA : ∀ f ∈ [g6, g7, g8], WorkAt P w K mg base (cls ad) 9 (lay L H70) f (some (.row 0)) := fun f hf => by
    simp only [List.mem_cons, List.not_mem_nil, or_false] at hf
    rcases hf with e | e | e
    · exact e ▸ Vg6
    · exact e ▸ Vg7
    · exact e ▸ Vg8
  have hdue : Dp K (lay L H70) (.ref x4) (dueD (some (.row 0))) := .tup (SqT.of (lay_keep hL (N70.co (x4, .tup [V.str (Str.ofString "BadRow"), V.int (0)]) (by simp)))) (.cons (.str _) (.cons (.int _) .nil))
  refine ⟨x3, [g6, g7, g8], some (.row 0), .ref x4, rfl, SqL.of (lay_keep hL (N70.co (x3, .lst [V.ref g6, V.ref g7, V.ref g8]) (by simp))), by simp, WA, hdue, fun H' F' => ⟨laid_fr F', ?_⟩⟩
  have E71 := fr_back hL F'
  have N71 := N70.fr0 E71
  generalize lift L H' = H71 at *
  replace N71 := N71.sub (cs' := [(p, .lst (row.map V.int))]) (by simp)
  clear N63 F64 T64 n64 lam6 N64 F65 T65 n65 lam7 E66 N65 hx1 N66 F67 T67 n67 lam8 gx1 E68 N67 hx2 E69 N68 hx3 E70 N69 hx4 C hL Vg6 Vg7 Vg8 WA hdue F' E71 N70
  walk_at "cwx"
  refine w_lam0 N71.ta fun g9 H72 F72 T72 n72 lam9 => ?_
  have N72 := N71.tbl hmT F72 T72
  walk_at "cwx"
  refine w_lam1 N72.ta fun g10 H73 F73 T73 n73 lam10 => ?_
  have N73 := N72.tbl hmT F73 T73
  replace lam9 := lam9.fr F73 (tbl_of N72.ta hmT)
  walk_at "cwx"
  rename_i m1 hm1
  have E74 : Fr [] H73 (upd H73 m1 (.lst [V.ref g9, V.ref g10])) := Fr.new hm1
  have N74 := N73.add (o := .lst [V.ref g9, V.ref g10]) hm1 (fun _ z => by cases z)
  generalize upd H73 m1 (.lst [V.ref g9, V.ref g10]) = H74 at *
  replace lam9 := lam9.fr E74 (by simp)
  replace lam10 := lam10.fr E74 (by simp)
  walk_at "cwx"
  refine w_lam1 N74.ta fun g11 H75 F75 T75 n75 lam11 => ?_
  have N75 := N74.tbl hmT F75 T75
  replace lam9 := lam9.fr F75 (tbl_of N74.ta hmT)
  replace lam10 := lam10.fr F75 (tbl_of N74.ta hmT)
  have gm1 := N75.co (m1, .lst [V.ref g9, V.ref g10]) (by simp)
  walk_at "cwx"
  rename_i m2 hm2 m3 hm3 m4 hm4
  dsimp only [List.cons_append, List.nil_append] at hm4 ⊢
  have E76 : Fr [] H75 (upd H75 m2 (.lst [V.ref g11])) := Fr.new hm2
  have N76 := N75.add (o := .lst [V.ref g11]) hm2 (fun _ z => by cases z)
  generalize upd H75 m2 (.lst [V.ref g11]) = H76 at *
  replace lam9 := lam9.fr E76 (by simp)
  replace lam10 := lam10.fr E76 (by simp)
  replace lam11 := lam11.fr E76 (by simp)
  have E77 : Fr [] H76 (upd H76 m3 (.lst [V.ref g9, V.ref g10, V.ref g11])) := Fr.new hm3
  have N77 := N76.add (o := .lst [V.ref g9, V.ref g10, V.ref g11]) hm3 (fun _ z => by cases z)
  generalize upd H76 m3 (.lst [V.ref g9, V.ref g10, V.ref g11]) = H77 at *
  replace lam9 := lam9.fr E77 (by simp)
  replace lam10 := lam10.fr E77 (by simp)
  replace lam11 := lam11.fr E77 (by simp)
  have E78 : Fr [] H77 (upd H77 m4 (.tup [V.str (Str.ofString "TooMany"), V.int 0])) := Fr.new hm4
  have N78 := N77.add (o := .tup [V.str (Str.ofString "TooMany"), V.int 0]) hm4 (fun _ z => by cases z)
  generalize upd H77 m4 (.tup [V.str (Str.ofString "TooMany"), V.int 0]) = H78 at *
  replace lam9 := lam9.fr E78 (by simp)
  replace lam10 := lam10.fr E78 (by simp)
  replace lam11 := lam11.fr E78 (by simp)
  intro L C hL
  have Vg9 : WorkAt P w K mg base (cls ad) 9 (lay L H78) g9 (some .many) := by
    refine work0 (k := 8) (o := some .many) (D := []) (N := ["_law_rooms", "_law_rule"]) (vz := [("_law_rooms", V.int (1 + r1)), ("_law_rule", V.str z)]) lam9 (show NdefX.NScope ["_law_rooms", "_law_rule"] [] ["_law_rooms", "_law_rule"] _ from NdefX.nscope_by (by decide +kernel)) C (fun p hp => ?_) hL (fun d hd => ⟨(N78.sub (cs' := []) (by simp)).co d hd, (N78.sub (cs' := []) (by simp)).nt d hd⟩) (fun pm c1 ct => rfl) (fun f c1 A outer s H E hr => (pe_call (ok_worstX T) (hr.mono (by decide)) (by rfl) T.m_worst T.F_worst.kp T.b_worst .nil (passes_call (takes_of rfl rfl rfl rfl) (fun _ _ _ _ h => h)) (pa_cons (pv 0) (pa_cons pe_int (pa_cons pe_int (pa_cons (pv 1) pa_nil)))))) ?_
    · simp only [List.mem_cons, List.not_mem_nil, or_false] at hp
      rcases hp with rfl | rfl <;> simp [NdefX.slotAt, L2.start]
    intro H' Q E hx hd hw
    dsimp only [NdefX.startF]
    walk_at "cwx"
    exact ⟨1 + r1, 2, 13, z, .many, rfl, .inr ⟨by omega, by omega, .inl ⟨by omega, by omega, by omega, .inr (by decide)⟩⟩, Bad.to.hid hx hw⟩
  have Vg10 : WorkAt P w K mg base (cls ad) 9 (lay L H78) g10 (some .many) := by
    refine work1 (k := 8) (o := some .many) (D := []) (N := ["_law_a", "_law_rooms", "_law_at", "_law_rule"]) (vz := [("_law_rooms", V.int (1 + r1)), ("_law_at", V.int at_), ("_law_rule", V.str z)]) lam10 (show NdefX.NScope ["_law_a", "_law_rooms", "_law_at", "_law_rule"] ["_law_a"] ["_law_rooms", "_law_at", "_law_rule"] _ from NdefX.nscope_by (by decide +kernel)) C (fun p hp => ?_) hL (fun d hd => ⟨(N78.sub (cs' := []) (by simp)).co d hd, (N78.sub (cs' := []) (by simp)).nt d hd⟩) (fun d pm c1 ct => ⟨_, rfl, fun t => rfl⟩) (fun f c1 A outer s H E hr => (pe_call (ok_worstX T) (hr.mono (by decide)) (by rfl) T.m_worst T.F_worst.kp T.b_worst .nil (passes_call (takes_of rfl rfl rfl rfl) (fun _ _ _ _ h => h)) (pa_cons (pv 1) (pa_cons pe_int (pa_cons (pe_op op_add pe_int (pv 2)) (pa_cons (pv 3) pa_nil)))))) ?_
    · simp only [List.mem_cons, List.not_mem_nil, or_false] at hp
      rcases hp with rfl | rfl | rfl <;> simp [NdefX.slotAt, L2.start]
    intro H' Q E hx hd hw
    dsimp only [NdefX.startF]
    walk_at "cwx"
    exact ⟨1 + r1, 1, 5001 + at_, z, .many, rfl, .inr ⟨by omega, by omega, .inl ⟨by omega, by omega, by omega, .inl (by omega)⟩⟩, Bad.to.hid hx hw⟩
  have Vg11 : WorkAt P w K mg base (cls ad) 9 (lay L H78) g11 (some .many) := by
    refine work1 (k := 8) (o := some .many) (D := []) (N := ["_law_b", "_law_rooms", "_law_at", "_law_rule"]) (vz := [("_law_rooms", V.int (1 + r1)), ("_law_at", V.int at_), ("_law_rule", V.str z)]) lam11 (show NdefX.NScope ["_law_b", "_law_rooms", "_law_at", "_law_rule"] ["_law_b"] ["_law_rooms", "_law_at", "_law_rule"] _ from NdefX.nscope_by (by decide +kernel)) C (fun p hp => ?_) hL (fun d hd => ⟨(N78.sub (cs' := []) (by simp)).co d hd, (N78.sub (cs' := []) (by simp)).nt d hd⟩) (fun d pm c1 ct => ⟨_, rfl, fun t => rfl⟩) (fun f c1 A outer s H E hr => (pe_call (ok_worstX T) (hr.mono (by decide)) (by rfl) T.m_worst T.F_worst.kp T.b_worst .nil (passes_call (takes_of rfl rfl rfl rfl) (fun _ _ _ _ h => h)) (pa_cons (pv 1) (pa_cons pe_int (pa_cons (pe_op op_add pe_int (pv 2)) (pa_cons (pv 3) pa_nil)))))) ?_
    · simp only [List.mem_cons, List.not_mem_nil, or_false] at hp
      rcases hp with rfl | rfl | rfl <;> simp [NdefX.slotAt, L2.start]
    intro H' Q E hx hd hw
    dsimp only [NdefX.startF]
    walk_at "cwx"
    exact ⟨1 + r1, 12, 4 + at_, z, .many, rfl, .inr ⟨by omega, by omega, .inl ⟨by omega, by omega, by omega, .inr (Nat.lt_of_lt_of_le (show 5000 < 12 ^ 4 by decide) (Nat.pow_le_pow_right (show 0 < 12 by decide) (by omega)))⟩⟩, Bad.to.hid hx hw⟩
  have WA : ∀ f ∈ [g9, g10, g11], WorkAt P w K mg base (cls ad) 9 (lay L H78) f (some .many) := fun f hf => by
    simp only [List.mem_cons, List.not_mem_nil, or_false] at hf
    rcases hf with e | e | e
    · exact e ▸ Vg9
    · exact e ▸ Vg10
    · exact e ▸ Vg11
  have hdue : Dp K (lay L H78) (.ref m4) (dueD (some .many)) := .tup (SqT.of (lay_keep hL (N78.co (m4, .tup [V.str (Str.ofString "TooMany"), V.int (0)]) (by simp)))) (.cons (.str _) (.cons (.int _) .nil))
  refine ⟨m3, [g9, g10, g11], some .many, .ref m4, rfl, SqL.of (lay_keep hL (N78.co (m3, .lst [V.ref g9, V.ref g10, V.ref g11]) (by simp))), by simp, WA, hdue, fun H' F' => ⟨laid_fr F', ?_⟩⟩
  have E79 := fr_back hL F'
  have N79 := N78.fr0 E79
  generalize lift L H' = H79 at *
  replace N79 := N79.sub (cs' := [(p, .lst (row.map V.int))]) (by simp)
  clear N71 F72 T72 n72 lam9 N72 F73 T73 n73 lam10 E74 N73 hm1 N74 F75 T75 n75 lam11 gm1 E76 N75 hm2 E77 N76 hm3 E78 N77 hm4 C hL Vg9 Vg10 Vg11 WA hdue F' E79 N78
  walk_at "cwx"
  rename_i k1 hk1 k2 hk2 k3 hk3 k4 hk4 k5 hk5 k6 hk6 k7 hk7 k8 hk8
  have E80 : Fr [] H79 (upd H79 k1 (.tup [V.int 2, V.int 3])) := Fr.new hk1
  have N80 := N79.add (o := .tup [V.int 2, V.int 3]) hk1 (fun _ z => by cases z)
  generalize upd H79 k1 (.tup [V.int 2, V.int 3]) = H80 at *
  have E81 : Fr [] H80 (upd H80 k2 (.tup [V.int 1, V.int 0])) := Fr.new hk2
  have N81 := N80.add (o := .tup [V.int 1, V.int 0]) hk2 (fun _ z => by cases z)
  generalize upd H80 k2 (.tup [V.int 1, V.int 0]) = H81 at *
  have E82 : Fr [] H81 (upd H81 k3 (.tup [V.int 2, V.int 12])) := Fr.new hk3
  have N82 := N81.add (o := .tup [V.int 2, V.int 12]) hk3 (fun _ z => by cases z)
  generalize upd H81 k3 (.tup [V.int 2, V.int 12]) = H82 at *
  have E83 : Fr [] H82 (upd H82 k4 (.tup [V.int 8, V.int 4])) := Fr.new hk4
  have N83 := N82.add (o := .tup [V.int 8, V.int 4]) hk4 (fun _ z => by cases z)
  generalize upd H82 k4 (.tup [V.int 8, V.int 4]) = H83 at *
  have E84 : Fr [] H83 (upd H83 k5 (.tup [V.int 5, V.int 5])) := Fr.new hk5
  have N84 := N83.add (o := .tup [V.int 5, V.int 5]) hk5 (fun _ z => by cases z)
  generalize upd H83 k5 (.tup [V.int 5, V.int 5]) = H84 at *
  have E85 : Fr [] H84 (upd H84 k6 (.tup [V.int 1, V.int 5000])) := Fr.new hk6
  have N85 := N84.add (o := .tup [V.int 1, V.int 5000]) hk6 (fun _ z => by cases z)
  generalize upd H84 k6 (.tup [V.int 1, V.int 5000]) = H85 at *
  have E86 : Fr [] H85 (upd H85 k7 (.tup [V.int 12, V.int 3])) := Fr.new hk7
  have N86 := N85.add (o := .tup [V.int 12, V.int 3]) hk7 (fun _ z => by cases z)
  generalize upd H85 k7 (.tup [V.int 12, V.int 3]) = H86 at *
  have E87 : Fr [] H86 (upd H86 k8 (.lst [V.ref k1, V.ref k2, V.ref k3, V.ref k4, V.ref k5, V.ref k6, V.ref k7])) := Fr.new hk8
  have N87 := N86.add (o := .lst [V.ref k1, V.ref k2, V.ref k3, V.ref k4, V.ref k5, V.ref k6, V.ref k7]) hk8 (fun _ z => by cases z)
  generalize upd H86 k8 (.lst [V.ref k1, V.ref k2, V.ref k3, V.ref k4, V.ref k5, V.ref k6, V.ref k7]) = H87 at *
  refine c_take N87.bx (by omega) (by omega) fun r14 H88 F88 B88 r140 r141 => ?_
  have N88 := N87.take F88 B88
  obtain ⟨kp, pg, ln, hkp, gkp, pg1, pg2, ln1, ln2, hpw⟩ : ∃ (kp : Addr) (pg ln : Int), atI [V.ref k1, V.ref k2, V.ref k3, V.ref k4, V.ref k5, V.ref k6, V.ref k7] r14 = some (.ref kp) ∧ H88 kp = some (.tup [.int pg, .int ln]) ∧ 1 ≤ pg ∧ pg ≤ 12 ∧ 0 ≤ ln ∧ ln ≤ 5000 ∧ pg.toNat ^ ln.toNat ≤ 5000 := by
    rcases (show r14 = 0 ∨ r14 = 1 ∨ r14 = 2 ∨ r14 = 3 ∨ r14 = 4 ∨ r14 = 5 ∨ r14 = 6 by omega) with rfl | rfl | rfl | rfl | rfl | rfl | rfl
    · exact ⟨k1, 2, 3, rfl, N88.co (k1, .tup [V.int 2, V.int 3]) (by simp), by omega, by omega, by omega, by omega, by decide +kernel⟩
    · exact ⟨k2, 1, 0, rfl, N88.co (k2, .tup [V.int 1, V.int 0]) (by simp), by omega, by omega, by omega, by omega, by decide +kernel⟩
    · exact ⟨k3, 2, 12, rfl, N88.co (k3, .tup [V.int 2, V.int 12]) (by simp), by omega, by omega, by omega, by omega, by decide +kernel⟩
    · exact ⟨k4, 8, 4, rfl, N88.co (k4, .tup [V.int 8, V.int 4]) (by simp), by omega, by omega, by omega, by omega, by decide +kernel⟩
    · exact ⟨k5, 5, 5, rfl, N88.co (k5, .tup [V.int 5, V.int 5]) (by simp), by omega, by omega, by omega, by omega, by decide +kernel⟩
    · exact ⟨k6, 1, 5000, rfl, N88.co (k6, .tup [V.int 1, V.int 5000]) (by simp), by omega, by omega, by omega, by omega, by decide +kernel⟩
    · exact ⟨k7, 12, 3, rfl, N88.co (k7, .tup [V.int 12, V.int 3]) (by simp), by omega, by omega, by omega, by omega, by decide +kernel⟩
  have gk8 := N88.co (k8, .lst [V.ref k1, V.ref k2, V.ref k3, V.ref k4, V.ref k5, V.ref k6, V.ref k7]) (by simp)
  replace N88 := N88.sub (cs' := [(p, .lst (row.map V.int))]) (by simp)
  clear E80 N79 hk1 E81 N80 hk2 E82 N81 hk3 E83 N82 hk4 E84 N83 hk5 E85 N84 hk6 E86 N85 hk7 E87 N86 hk8 N87 F88 B88
  walk_at "cwx"
  refine w_lam0 N88.ta fun g12 H89 F89 T89 n89 lam12 => ?_
  have N89 := N88.tbl hmT F89 T89
  walk_at "cwx"
  intro L C hL
  have Vg12 : WorkAt P w K mg base (cls ad) 9 (lay L H89) g12 (some .rule) := by
    refine work0 (k := 8) (o := some .rule) (D := []) (N := ["_law_rooms", "_law_long", "_law_rule", "_law_pages"]) (vz := [("_law_rooms", V.int (1 + r1)), ("_law_long", V.int ln), ("_law_rule", V.str z), ("_law_pages", V.int pg)]) lam12 (show NdefX.NScope ["_law_rooms", "_law_long", "_law_rule", "_law_pages"] [] ["_law_rooms", "_law_long", "_law_rule", "_law_pages"] _ from NdefX.nscope_by (by decide +kernel)) C (fun p hp => ?_) hL (fun d hd => ⟨(N89.sub (cs' := []) (by simp)).co d hd, (N89.sub (cs' := []) (by simp)).nt d hd⟩) (fun pm c1 ct => rfl) (fun f c1 A outer s H E hr => (pe_call (ok_worstX T) (hr.mono (by decide)) (by rfl) T.m_worst T.F_worst.kp T.b_worst .nil (passes_call (takes_of rfl rfl rfl rfl) (fun _ _ _ _ h => h)) (pa_cons (pv 0) (pa_cons (pv 3) (pa_cons (pv 1) (pa_cons (pv 2) pa_nil)))))) ?_
    · simp only [List.mem_cons, List.not_mem_nil, or_false] at hp
      rcases hp with rfl | rfl | rfl | rfl <;> simp [NdefX.slotAt, L2.start]
    intro H' Q E hx hd hw
    dsimp only [NdefX.startF]
    walk_at "cwx"
    exact ⟨1 + r1, pg, ln, z, .rule, rfl, .inr ⟨by omega, by omega, .inr ⟨pg1, pg2, ln1, ln2, hpw, hnz, rfl⟩⟩, Bad.to.hid hx hw⟩
  refine ⟨g12, some .rule, rfl, Vg12, fun v H' F' nv => ⟨laid_fr F', ?_⟩⟩
  have dv : Dp K (lift L H') v (dueD (some .rule)) := dp_lift (laid_fr F') _ _ nv.now
  have E90 := fr_back hL F'
  have N90 := N89.fr0 E90
  generalize lift L H' = H90 at *
  walk_at "cwx"
  rename_i n1 hn1
  have E91 : Fr [] H90 (upd H90 n1 (.tup [V.str (Str.ofString "BadRule"), V.int 0])) := Fr.new hn1
  have N91 := N90.add (o := .tup [V.str (Str.ofString "BadRule"), V.int 0]) hn1 (fun _ z => by cases z)
  generalize upd H90 n1 (.tup [V.str (Str.ofString "BadRule"), V.int 0]) = H91 at *
  refine w_neSame (dueD (some .rule)) (E91.dp _ _ dv) (.tup (SqT.of (N91.co (n1, .tup [V.str (Str.ofString "BadRule"), V.int 0]) (by simp))) (.cons (.str _) (.cons (.int _) .nil))) (due_lay _) (fits_due _) (by decide) ?_
  replace N91 := N91.sub (cs' := [(p, .lst (row.map V.int))]) (by simp)
  clear N88 F89 T89 n89 lam12 Vg12 C hL F' nv E90 N89 E91 N90 hn1 dv
  walk_at "cwx"
  refine w_lam0 N91.ta fun g13 H92 F92 T92 n92 lam13 => ?_
  have N92 := N91.tbl hmT F92 T92
  walk_at "cwx"
  intro L C hL
  have Vg13 : WorkAt P w K mg base (cls ad) 9 (lay L H92) g13 (some .many) := by
    refine work0 (k := 8) (o := some .many) (D := []) (N := ["_law_rooms", "_law_rule"]) (vz := [("_law_rooms", V.int (1 + r1)), ("_law_rule", V.str z)]) lam13 (show NdefX.NScope ["_law_rooms", "_law_rule"] [] ["_law_rooms", "_law_rule"] _ from NdefX.nscope_by (by decide +kernel)) C (fun p hp => ?_) hL (fun d hd => ⟨(N92.sub (cs' := []) (by simp)).co d hd, (N92.sub (cs' := []) (by simp)).nt d hd⟩) (fun pm c1 ct => rfl) (fun f c1 A outer s H E hr => (pe_call (ok_worstX T) (hr.mono (by decide)) (by rfl) T.m_worst T.F_worst.kp T.b_worst .nil (passes_call (takes_of rfl rfl rfl rfl) (fun _ _ _ _ h => h)) (pa_cons (pv 0) (pa_cons pe_int (pa_cons pe_int (pa_cons (pv 1) pa_nil)))))) ?_
    · simp only [List.mem_cons, List.not_mem_nil, or_false] at hp
      rcases hp with rfl | rfl <;> simp [NdefX.slotAt, L2.start]
    intro H' Q E hx hd hw
    dsimp only [NdefX.startF]
    walk_at "cwx"
    exact ⟨1 + r1, 6, 5, z, .many, rfl, .inr ⟨by omega, by omega, .inl ⟨by omega, by omega, by omega, .inr (by decide)⟩⟩, Bad.to.hid hx hw⟩
  refine ⟨g13, some .many, rfl, Vg13, fun v H' F' nv => ⟨laid_fr F', ?_⟩⟩
  have dv : Dp K (lift L H') v (dueD (some .many)) := dp_lift (laid_fr F') _ _ nv.now
  have E93 := fr_back hL F'
  have N93 := N92.fr0 E93
  generalize lift L H' = H93 at *
  walk_at "cwx"
  rename_i n2 hn2
  have E94 : Fr [] H93 (upd H93 n2 (.tup [V.str (Str.ofString "TooMany"), V.int 0])) := Fr.new hn2
  have N94 := N93.add (o := .tup [V.str (Str.ofString "TooMany"), V.int 0]) hn2 (fun _ z => by cases z)
  generalize upd H93 n2 (.tup [V.str (Str.ofString "TooMany"), V.int 0]) = H94 at *
  refine w_neSame (dueD (some .many)) (E94.dp _ _ dv) (.tup (SqT.of (N94.co (n2, .tup [V.str (Str.ofString "TooMany"), V.int 0]) (by simp))) (.cons (.str _) (.cons (.int _) .nil))) (due_lay _) (fits_due _) (by decide) ?_
  replace N94 := N94.sub (cs' := [(p, .lst (row.map V.int))]) (by simp)
  clear N91 F92 T92 n92 lam13 Vg13 C hL F' nv E93 N92 E94 N93 hn2 dv
  walk_at "cwx"
  rename_i o1 ho1
  have E95 : Fr [] H94 (upd H94 o1 (.lst [])) := Fr.new ho1
  have N95 := N94.add (o := .lst []) ho1 (fun _ z => by cases z)
  generalize upd H94 o1 (.lst []) = H95 at *
  refine ⟨(1 + r1), p, o1, Str.ofString "first", row, [], none, none, rfl, N95.co (p, .lst ((row).map V.int)) (by simp), N95.co (o1, .lst (([] : List Int).map V.int)) (by simp), by simp, N95.ta, .inr ⟨by omega, by omega, ⟨by omega, hrow⟩, ⟨by simp, by simp⟩, rfl, .inl ⟨.inr (.inr rfl), rfl⟩⟩, fun l5 w1 w2 w3 w4 w5 w6 w7 H96 F96 T96 hl gl W5 W2 => ?_⟩
  have N96 := (N95.tbl hmW F96 T96).had gl (N95.bx.nin hl) (fun _ z => by cases z)
  have WW : ∀ f ∈ [w1, w2, w3, w4, w5, w6, w7], WorkAt P w K mg base (cls ad) 9 H96 f (none) := fun f hf => by
    simp only [List.mem_cons, List.not_mem_nil, or_false] at hf
    rcases hf with e | e | e | e | e | e | e
    · exact W5 f (by simp [e])
    · exact W5 f (by simp [e])
    · exact W5 f (by simp [e])
    · exact W5 f (by simp [e])
    · exact W5 f (by simp [e])
    · exact W2 f (by simp [e])
    · exact W2 f (by simp [e])
  walk_at "cwx"
  refine w_lam0 N96.ta fun g14 H97 F97 T97 n97 lam14 => ?_
  have N97 := N96.tbl hmT F97 T97
  replace WW := fun f hf => (WW f hf).fr F97 (tbl_of N96.ta hmT)
  walk_at "cwx"
  refine w_lam1 N97.ta fun g15 H98 F98 T98 n98 lam15 => ?_
  have N98 := N97.tbl hmT F98 T98
  replace WW := fun f hf => (WW f hf).fr F98 (tbl_of N97.ta hmT)
  replace lam14 := lam14.fr F98 (tbl_of N97.ta hmT)
  have gl6 := N98.co (l5, .lst [V.ref w1, V.ref w2, V.ref w3, V.ref w4, V.ref w5, V.ref w6, V.ref w7]) (by simp)
  walk_at "cwx"
  rename_i o2 ho2 o3 ho3
  dsimp only [List.cons_append, List.nil_append] at  ⊢
  have E99 : Fr [] H98 (upd H98 o2 (.lst [V.ref g14, V.ref g15])) := Fr.new ho2
  have N99 := N98.add (o := .lst [V.ref g14, V.ref g15]) ho2 (fun _ z => by cases z)
  generalize upd H98 o2 (.lst [V.ref g14, V.ref g15]) = H99 at *
  replace WW := fun f hf => (WW f hf).fr E99 (by simp)
  replace lam14 := lam14.fr E99 (by simp)
  replace lam15 := lam15.fr E99 (by simp)
  have E100 : Fr [] H99 (upd H99 o3 (.lst [V.ref w1, V.ref w2, V.ref w3, V.ref w4, V.ref w5, V.ref w6, V.ref w7, V.ref g14, V.ref g15])) := Fr.new ho3
  have N100 := N99.add (o := .lst [V.ref w1, V.ref w2, V.ref w3, V.ref w4, V.ref w5, V.ref w6, V.ref w7, V.ref g14, V.ref g15]) ho3 (fun _ z => by cases z)
  generalize upd H99 o3 (.lst [V.ref w1, V.ref w2, V.ref w3, V.ref w4, V.ref w5, V.ref w6, V.ref w7, V.ref g14, V.ref g15]) = H100 at *
  replace WW := fun f hf => (WW f hf).fr E100 (by simp)
  replace lam14 := lam14.fr E100 (by simp)
  replace lam15 := lam15.fr E100 (by simp)
  intro L C hL
  have Vg14 : WorkAt P w K mg base (cls ad) 9 (lay L H100) g14 (none) := by
    refine work0 (k := 8) (o := none) (D := [(p, HO.lst (row.map V.int))]) (N := ["_law_row_here"]) (vz := [("_law_row_here", V.ref p)]) lam14 (show NdefX.NScope ["_law_row_here"] [] ["_law_row_here"] _ from NdefX.nscope_by (by decide +kernel)) C (fun p hp => ?_) hL (fun d hd => ⟨(N100.sub (cs' := [(p, HO.lst (row.map V.int))]) (by simp)).co d hd, (N100.sub (cs' := [(p, HO.lst (row.map V.int))]) (by simp)).nt d hd⟩) (fun pm c1 ct => rfl) (fun f c1 A outer s H E hr => (pe_call (ok_spellsX T) (hr.mono (by decide)) (by rfl) T.m_spells T.F_spells.kp T.b_spells .nil (passes_call (takes_of rfl rfl rfl rfl) (fun _ _ _ _ h => h)) (pa_cons (pv 0) pa_nil))) ?_
    · simp only [List.mem_cons, List.not_mem_nil, or_false] at hp
      rcases hp with rfl <;> simp [NdefX.slotAt, L2.start]
    intro H' Q E hx hd hw
    dsimp only [NdefX.startF]
    walk_at "cwx"
    exact .inl (c_spells (E := E0) (SqL.of (lift_get hx (hd _ (List.mem_cons_self ..)) exO_nl)) ⟨by omega, hrow⟩ fun s1 xs H2 f2 _ _ _ => good_hid hx hw _ _ f2)
  have Vg15 : WorkAt P w K mg base (cls ad) 9 (lay L H100) g15 (none) := by
    refine work1 (k := 8) (o := none) (D := []) (N := ["_law_a", "_law_rooms"]) (vz := [("_law_rooms", V.int (1 + r1))]) lam15 (show NdefX.NScope ["_law_a", "_law_rooms"] ["_law_a"] ["_law_rooms"] _ from NdefX.nscope_by (by decide +kernel)) C (fun p hp => ?_) hL (fun d hd => ⟨(N100.sub (cs' := []) (by simp)).co d hd, (N100.sub (cs' := []) (by simp)).nt d hd⟩) (fun d pm c1 ct => ⟨_, rfl, fun t => rfl⟩) (fun f c1 A outer s H E hr => (pe_methX (pe_make T.mk_Dial (ok_Dial_initX T) (hr.mono (by decide)) (by rfl) T.m_Dial T.b_Dial_init .nil (passes_call (takes_of rfl rfl rfl rfl) (fun _ _ _ _ h => h)) (pa_cons (pv 1) pa_nil)) T.cl_Dial T.mt_Dial_ask (ok_Dial_askX T) (hr.mono (by decide)) T.b_Dial_ask (fun _ pins H s1 e s2 I c => passes_call (takes_of rfl rfl rfl rfl) (fun _ _ _ _ h => h) pins _ H s1 e s2 I c) (pa_cons pe_int pa_nil))) ?_
    · simp only [List.mem_cons, List.not_mem_nil, or_false] at hp
      rcases hp with rfl <;> simp [NdefX.slotAt, L2.start]
    intro H' Q E hx hd hw
    dsimp only [NdefX.startF]
    walk_at "cwx"
    dsimp only [tMethX]
    walk_at "cwx"
    intro x dx hx1 hdx ne
    refine .inl ⟨x, dx, 1 + r1, rfl, upd_same, by omega, by omega, fun a1 b1 H2 F2 hna hnb nab D2 => ⟨rfl, ?_⟩⟩
    obtain ⟨⟨dx1, g1⟩, g2, g3⟩ := id D2
    have F1 : Fr [] (lift L H') H2 := ((Fr.new hdx).trans (Fr.new ((upd_ne (ne_s ne)).trans hx1))).comp F2 (by simp [hx1])
    refine ⟨x, dx1, _, rfl, g1, rfl, ?_⟩
    walk_at "cwx"
    have nxa : x ≠ a1 := ne_of_none upd_same hna
    have nxb : x ≠ b1 := ne_of_none upd_same hnb
    refine .inl ⟨x, a1, b1, _, (1 + r1).toNat, 11, rfl, D2, Dl.Wf.new (by omega) (by omega), nxa, nxb, nab, by omega, by omega, fun t1 q1 H3 F3 _ _ _ _ _ => ?_⟩
    refine good_hid hx hw _ _ (F1.comp F3 fun d hd => .inr ?_)
    simp only [List.mem_cons, List.not_mem_nil, or_false] at hd
    rcases hd with rfl | rfl | rfl
    · exact hx1
    · exact upd_none (upd_none hna)
    · exact upd_none (upd_none hnb)
  have WA : ∀ f ∈ [w1, w2, w3, w4, w5, w6, w7, g14, g15], WorkAt P w K mg base (cls ad) 9 (lay L H100) f (none) := fun f hf => by
    simp only [List.mem_cons, List.not_mem_nil, or_false] at hf
    rcases hf with e | e | e | e | e | e | e | e | e
    · exact (WW f (by simp [e])).lay hL
    · exact (WW f (by simp [e])).lay hL
    · exact (WW f (by simp [e])).lay hL
    · exact (WW f (by simp [e])).lay hL
    · exact (WW f (by simp [e])).lay hL
    · exact (WW f (by simp [e])).lay hL
    · exact (WW f (by simp [e])).lay hL
    · exact e ▸ Vg14
    · exact e ▸ Vg15
  have hdue : Dp K (lay L H100) .non (dueD (none)) := .non
  refine ⟨o3, [w1, w2, w3, w4, w5, w6, w7, g14, g15], none, .non, rfl, SqL.of (lay_keep hL (N100.co (o3, .lst [V.ref w1, V.ref w2, V.ref w3, V.ref w4, V.ref w5, V.ref w6, V.ref w7, V.ref g14, V.ref g15]) (by simp))), by simp, WA, hdue, fun H' F' => ⟨laid_fr F', ?_⟩⟩
  have E101 := fr_back hL F'
  have N101 := N100.fr0 E101
  generalize lift L H' = H101 at *
  exact k _

end
/-! what the top has left -/
theorem all_mk {l : PySem.W.OpenLaw} {w : World} {K : PySem.W.Frag} {h : Heap} {mg : Str → Option Value} {fa f_BadRow_init f_need_rooms f_is_page f_need_row f_need_both f_Dial_init f_Dial_ask f_Dial_pages f_Dial_looked f_Dial_points f_Dial_lacked f_round_told f_told f_next_ask f_farthest f_gone_through f_best f_spells_of f_between f_least_paper f_shown_by f_spells f_paper f_shown f_need_rule f_by_row f_all_lacking f_lacking f_all_stretches f_stretches f_lacking_in f_all_rows f_more_of f_need_size f_worst f_l_begun f_l_take f_l_alike f_l_class f_l_row f_l_refused f_l_all f_l_works f_l_law C_Dial C_PageError C_BadRooms C_BadRow C_BadRule C_TooMany A_RULES : Addr} (X : K.In h) (G : h.Ns mainGlobals mg) (hfa : mg "law" = some (.ref fa))
    {od_BadRow_init an_BadRow_init : Option Addr} {sl_BadRow_init : Array (Option Value)} {oc_BadRow_init kV_BadRow_init dc_BadRow_init pm_BadRow_init cd_BadRow_init ct_BadRow_init : Value}
    {od_need_rooms an_need_rooms : Option Addr} {sl_need_rooms : Array (Option Value)} {oc_need_rooms kV_need_rooms dc_need_rooms pm_need_rooms cd_need_rooms ct_need_rooms : Value}
    {od_is_page an_is_page : Option Addr} {sl_is_page : Array (Option Value)} {oc_is_page kV_is_page dc_is_page pm_is_page cd_is_page ct_is_page : Value}
    {od_need_row an_need_row : Option Addr} {sl_need_row : Array (Option Value)} {oc_need_row kV_need_row dc_need_row pm_need_row cd_need_row ct_need_row : Value}
    {od_need_both an_need_both : Option Addr} {sl_need_both : Array (Option Value)} {oc_need_both kV_need_both dc_need_both pm_need_both cd_need_both ct_need_both : Value}
    {od_Dial_init an_Dial_init : Option Addr} {sl_Dial_init : Array (Option Value)} {oc_Dial_init kV_Dial_init dc_Dial_init pm_Dial_init cd_Dial_init ct_Dial_init : Value}
    {od_Dial_ask an_Dial_ask : Option Addr} {sl_Dial_ask : Array (Option Value)} {oc_Dial_ask kV_Dial_ask dc_Dial_ask pm_Dial_ask cd_Dial_ask ct_Dial_ask : Value}
    {od_Dial_pages an_Dial_pages : Option Addr} {sl_Dial_pages : Array (Option Value)} {oc_Dial_pages kV_Dial_pages dc_Dial_pages pm_Dial_pages cd_Dial_pages ct_Dial_pages : Value}
    {od_Dial_looked an_Dial_looked : Option Addr} {sl_Dial_looked : Array (Option Value)} {oc_Dial_looked kV_Dial_looked dc_Dial_looked pm_Dial_looked cd_Dial_looked ct_Dial_looked : Value}
    {od_Dial_points an_Dial_points : Option Addr} {sl_Dial_points : Array (Option Value)} {oc_Dial_points kV_Dial_points dc_Dial_points pm_Dial_points cd_Dial_points ct_Dial_points : Value}
    {od_Dial_lacked an_Dial_lacked : Option Addr} {sl_Dial_lacked : Array (Option Value)} {oc_Dial_lacked kV_Dial_lacked dc_Dial_lacked pm_Dial_lacked cd_Dial_lacked ct_Dial_lacked : Value}
    {od_round_told an_round_told : Option Addr} {sl_round_told : Array (Option Value)} {oc_round_told kV_round_told dc_round_told pm_round_told cd_round_told ct_round_told : Value}
    {od_told an_told : Option Addr} {sl_told : Array (Option Value)} {oc_told kV_told dc_told pm_told cd_told ct_told : Value}
    {od_next_ask an_next_ask : Option Addr} {sl_next_ask : Array (Option Value)} {oc_next_ask kV_next_ask dc_next_ask pm_next_ask cd_next_ask ct_next_ask : Value}
    {od_farthest an_farthest : Option Addr} {sl_farthest : Array (Option Value)} {oc_farthest kV_farthest dc_farthest pm_farthest cd_farthest ct_farthest : Value}
    {od_gone_through an_gone_through : Option Addr} {sl_gone_through : Array (Option Value)} {oc_gone_through kV_gone_through dc_gone_through pm_gone_through cd_gone_through ct_gone_through : Value}
    {od_best an_best : Option Addr} {sl_best : Array (Option Value)} {oc_best kV_best dc_best pm_best cd_best ct_best : Value}
    {od_spells_of an_spells_of : Option Addr} {sl_spells_of : Array (Option Value)} {oc_spells_of kV_spells_of dc_spells_of pm_spells_of cd_spells_of ct_spells_of : Value}
    {od_between an_between : Option Addr} {sl_between : Array (Option Value)} {oc_between kV_between dc_between pm_between cd_between ct_between : Value}
    {od_least_paper an_least_paper : Option Addr} {sl_least_paper : Array (Option Value)} {oc_least_paper kV_least_paper dc_least_paper pm_least_paper cd_least_paper ct_least_paper : Value}
    {od_shown_by an_shown_by : Option Addr} {sl_shown_by : Array (Option Value)} {oc_shown_by kV_shown_by dc_shown_by pm_shown_by cd_shown_by ct_shown_by : Value}
    {od_spells an_spells : Option Addr} {sl_spells : Array (Option Value)} {oc_spells kV_spells dc_spells pm_spells cd_spells ct_spells : Value}
    {od_paper an_paper : Option Addr} {sl_paper : Array (Option Value)} {oc_paper kV_paper dc_paper pm_paper cd_paper ct_paper : Value}
    {od_shown an_shown : Option Addr} {sl_shown : Array (Option Value)} {oc_shown kV_shown dc_shown pm_shown cd_shown ct_shown : Value}
    {od_need_rule an_need_rule : Option Addr} {sl_need_rule : Array (Option Value)} {oc_need_rule kV_need_rule dc_need_rule pm_need_rule cd_need_rule ct_need_rule : Value}
    {od_by_row an_by_row : Option Addr} {sl_by_row : Array (Option Value)} {oc_by_row kV_by_row dc_by_row pm_by_row cd_by_row ct_by_row : Value}
    {od_all_lacking an_all_lacking : Option Addr} {sl_all_lacking : Array (Option Value)} {oc_all_lacking kV_all_lacking dc_all_lacking pm_all_lacking cd_all_lacking ct_all_lacking : Value}
    {od_lacking an_lacking : Option Addr} {sl_lacking : Array (Option Value)} {oc_lacking kV_lacking dc_lacking pm_lacking cd_lacking ct_lacking : Value}
    {od_all_stretches an_all_stretches : Option Addr} {sl_all_stretches : Array (Option Value)} {oc_all_stretches kV_all_stretches dc_all_stretches pm_all_stretches cd_all_stretches ct_all_stretches : Value}
    {od_stretches an_stretches : Option Addr} {sl_stretches : Array (Option Value)} {oc_stretches kV_stretches dc_stretches pm_stretches cd_stretches ct_stretches : Value}
    {od_lacking_in an_lacking_in : Option Addr} {sl_lacking_in : Array (Option Value)} {oc_lacking_in kV_lacking_in dc_lacking_in pm_lacking_in cd_lacking_in ct_lacking_in : Value}
    {od_all_rows an_all_rows : Option Addr} {sl_all_rows : Array (Option Value)} {oc_all_rows kV_all_rows dc_all_rows pm_all_rows cd_all_rows ct_all_rows : Value}
    {od_more_of an_more_of : Option Addr} {sl_more_of : Array (Option Value)} {oc_more_of kV_more_of dc_more_of pm_more_of cd_more_of ct_more_of : Value}
    {od_need_size an_need_size : Option Addr} {sl_need_size : Array (Option Value)} {oc_need_size kV_need_size dc_need_size pm_need_size cd_need_size ct_need_size : Value}
    {od_worst an_worst : Option Addr} {sl_worst : Array (Option Value)} {oc_worst kV_worst dc_worst pm_worst cd_worst ct_worst : Value}
    {od_l_begun an_l_begun : Option Addr} {sl_l_begun : Array (Option Value)} {oc_l_begun kV_l_begun dc_l_begun pm_l_begun cd_l_begun ct_l_begun : Value}
    {od_l_take an_l_take : Option Addr} {sl_l_take : Array (Option Value)} {oc_l_take kV_l_take dc_l_take pm_l_take cd_l_take ct_l_take : Value}
    {od_l_alike an_l_alike : Option Addr} {sl_l_alike : Array (Option Value)} {oc_l_alike kV_l_alike dc_l_alike pm_l_alike cd_l_alike ct_l_alike : Value}
    {od_l_class an_l_class : Option Addr} {sl_l_class : Array (Option Value)} {oc_l_class kV_l_class dc_l_class pm_l_class cd_l_class ct_l_class : Value}
    {od_l_row an_l_row : Option Addr} {sl_l_row : Array (Option Value)} {oc_l_row kV_l_row dc_l_row pm_l_row cd_l_row ct_l_row : Value}
    {od_l_refused an_l_refused : Option Addr} {sl_l_refused : Array (Option Value)} {oc_l_refused kV_l_refused dc_l_refused pm_l_refused cd_l_refused ct_l_refused : Value}
    {od_l_all an_l_all : Option Addr} {sl_l_all : Array (Option Value)} {oc_l_all kV_l_all dc_l_all pm_l_all cd_l_all ct_l_all : Value}
    {od_l_works an_l_works : Option Addr} {sl_l_works : Array (Option Value)} {oc_l_works kV_l_works dc_l_works pm_l_works cd_l_works ct_l_works : Value}
    {od_l_law an_l_law : Option Addr} {sl_l_law : Array (Option Value)} {oc_l_law kV_l_law dc_l_law pm_l_law cd_l_law ct_l_law : Value}
    {t_MOST_ROOMS : Tok}
    {t_MOST_PAGES : Tok}
    {t_MOST_ASKS : Tok}
    {t_HAND : Tok}
    {t_UNSEEN : Tok}
    {od_RULES : Option Addr} {n_RULES : Nat} {sl_RULES : Array (Option Value)} {t0_RULES : Tok} {t1_RULES : Tok} {t2_RULES : Tok}
    {t_MOST_ROWS : Tok}
    {nm_BR q_BR : Str} {N_BR : Addr} {bs_BR : List Value} {sn_BR : List Str} {sub_BR : List Value} {ab_BR : Bool} {col_BR : Option Bool} {dd_BR : Option Addr} {m0_BR m1_BR m2_BR m3_BR m5_BR : Option Value}
    {nm_BadRooms q_BadRooms : Str} {N_BadRooms : Addr} {bs_BadRooms : List Value} {sn_BadRooms : List Str} {sub_BadRooms : List Value} {ab_BadRooms : Bool} {col_BadRooms : Option Bool} {dd_BadRooms : Option Addr} {m0_BadRooms m1_BadRooms m2_BadRooms m3_BadRooms m5_BadRooms : Option Value}
    {nm_BadRule q_BadRule : Str} {N_BadRule : Addr} {bs_BadRule : List Value} {sn_BadRule : List Str} {sub_BadRule : List Value} {ab_BadRule : Bool} {col_BadRule : Option Bool} {dd_BadRule : Option Addr} {m0_BadRule m1_BadRule m2_BadRule m3_BadRule m5_BadRule : Option Value}
    {nm_TooMany q_TooMany : Str} {N_TooMany : Addr} {bs_TooMany : List Value} {sn_TooMany : List Str} {sub_TooMany : List Value} {ab_TooMany : Bool} {col_TooMany : Option Bool} {dd_TooMany : Option Addr} {m0_TooMany m1_TooMany m2_TooMany m3_TooMany m5_TooMany : Option Value}
    (aC_PageError : PySem.W.nsIn K mainGlobals "PageError" = some (some (.ref C_PageError)))
    (aC_BadRooms : PySem.W.nsIn K mainGlobals "BadRooms" = some (some (.ref C_BadRooms)))
    (aC_BadRow : PySem.W.nsIn K mainGlobals "BadRow" = some (some (.ref C_BadRow)))
    (aC_BadRule : PySem.W.nsIn K mainGlobals "BadRule" = some (some (.ref C_BadRule)))
    (aC_TooMany : PySem.W.nsIn K mainGlobals "TooMany" = some (some (.ref C_TooMany)))
    (aC_Dial : PySem.W.nsIn K mainGlobals "Dial" = some (some (.ref C_Dial)))
    (a_BadRow_init : PySem.W.findIn K (.ref C_BadRow) "__init__" = some (some (.ref f_BadRow_init)))
    (ti_BadRow_init : PySem.W.typeIn K (.ref f_BadRow_init) = some (.type "function"))
    (l_BadRow_init : K.lookup f_BadRow_init = some ⟨oc_BadRow_init, od_BadRow_init, .func (PySem.W.fnOf "__init__" "BadRow.__init__" (defArgs s_BadRow_init) (defBody s_BadRow_init) (defScope s_BadRow_init) .none kV_BadRow_init dc_BadRow_init pm_BadRow_init an_BadRow_init cd_BadRow_init ct_BadRow_init), sl_BadRow_init⟩)
    (c_BadRow_init : PySem.W.codeIn K cd_BadRow_init "BadRow.__init__" = true)
    (k_BadRow_init : PySem.W.keepIn K (.ref f_BadRow_init) = true)
    (a_need_rooms : PySem.W.nsIn K mainGlobals "need_rooms" = some (some (.ref f_need_rooms)))
    (l_need_rooms : K.lookup f_need_rooms = some ⟨oc_need_rooms, od_need_rooms, .func (PySem.W.fnOf "need_rooms" "need_rooms" (defArgs s_need_rooms) (defBody s_need_rooms) (defScope s_need_rooms) .none kV_need_rooms dc_need_rooms pm_need_rooms an_need_rooms cd_need_rooms ct_need_rooms), sl_need_rooms⟩)
    (c_need_rooms : PySem.W.codeIn K cd_need_rooms "need_rooms" = true)
    (k_need_rooms : PySem.W.keepIn K (.ref f_need_rooms) = true)
    (a_is_page : PySem.W.nsIn K mainGlobals "is_page" = some (some (.ref f_is_page)))
    (l_is_page : K.lookup f_is_page = some ⟨oc_is_page, od_is_page, .func (PySem.W.fnOf "is_page" "is_page" (defArgs s_is_page) (defBody s_is_page) (defScope s_is_page) .none kV_is_page dc_is_page pm_is_page an_is_page cd_is_page ct_is_page), sl_is_page⟩)
    (c_is_page : PySem.W.codeIn K cd_is_page "is_page" = true)
    (k_is_page : PySem.W.keepIn K (.ref f_is_page) = true)
    (a_need_row : PySem.W.nsIn K mainGlobals "need_row" = some (some (.ref f_need_row)))
    (l_need_row : K.lookup f_need_row = some ⟨oc_need_row, od_need_row, .func (PySem.W.fnOf "need_row" "need_row" (defArgs s_need_row) (defBody s_need_row) (defScope s_need_row) .none kV_need_row dc_need_row pm_need_row an_need_row cd_need_row ct_need_row), sl_need_row⟩)
    (c_need_row : PySem.W.codeIn K cd_need_row "need_row" = true)
    (k_need_row : PySem.W.keepIn K (.ref f_need_row) = true)
    (a_need_both : PySem.W.nsIn K mainGlobals "need_both" = some (some (.ref f_need_both)))
    (l_need_both : K.lookup f_need_both = some ⟨oc_need_both, od_need_both, .func (PySem.W.fnOf "need_both" "need_both" (defArgs s_need_both) (defBody s_need_both) (defScope s_need_both) .none kV_need_both dc_need_both pm_need_both an_need_both cd_need_both ct_need_both), sl_need_both⟩)
    (c_need_both : PySem.W.codeIn K cd_need_both "need_both" = true)
    (k_need_both : PySem.W.keepIn K (.ref f_need_both) = true)
    (a_Dial_init : PySem.W.findIn K (.ref C_Dial) "__init__" = some (some (.ref f_Dial_init)))
    (i_Dial_init : PySem.W.isFn K (.ref f_Dial_init) = true)
    (l_Dial_init : K.lookup f_Dial_init = some ⟨oc_Dial_init, od_Dial_init, .func (PySem.W.fnOf "__init__" "Dial.__init__" (defArgs s_Dial_init) (defBody s_Dial_init) (defScope s_Dial_init) .none kV_Dial_init dc_Dial_init pm_Dial_init an_Dial_init cd_Dial_init ct_Dial_init), sl_Dial_init⟩)
    (c_Dial_init : PySem.W.codeIn K cd_Dial_init "Dial.__init__" = true)
    (k_Dial_init : PySem.W.keepIn K (.ref f_Dial_init) = true)
    (a_Dial_ask : PySem.W.findIn K (.ref C_Dial) "ask" = some (some (.ref f_Dial_ask)))
    (i_Dial_ask : PySem.W.isFn K (.ref f_Dial_ask) = true)
    (l_Dial_ask : K.lookup f_Dial_ask = some ⟨oc_Dial_ask, od_Dial_ask, .func (PySem.W.fnOf "ask" "Dial.ask" (defArgs s_Dial_ask) (defBody s_Dial_ask) (defScope s_Dial_ask) .none kV_Dial_ask dc_Dial_ask pm_Dial_ask an_Dial_ask cd_Dial_ask ct_Dial_ask), sl_Dial_ask⟩)
    (c_Dial_ask : PySem.W.codeIn K cd_Dial_ask "Dial.ask" = true)
    (k_Dial_ask : PySem.W.keepIn K (.ref f_Dial_ask) = true)
    (a_Dial_pages : PySem.W.findIn K (.ref C_Dial) "pages" = some (some (.ref f_Dial_pages)))
    (i_Dial_pages : PySem.W.isFn K (.ref f_Dial_pages) = true)
    (l_Dial_pages : K.lookup f_Dial_pages = some ⟨oc_Dial_pages, od_Dial_pages, .func (PySem.W.fnOf "pages" "Dial.pages" (defArgs s_Dial_pages) (defBody s_Dial_pages) (defScope s_Dial_pages) .none kV_Dial_pages dc_Dial_pages pm_Dial_pages an_Dial_pages cd_Dial_pages ct_Dial_pages), sl_Dial_pages⟩)
    (c_Dial_pages : PySem.W.codeIn K cd_Dial_pages "Dial.pages" = true)
    (k_Dial_pages : PySem.W.keepIn K (.ref f_Dial_pages) = true)
    (a_Dial_looked : PySem.W.findIn K (.ref C_Dial) "looked" = some (some (.ref f_Dial_looked)))
    (i_Dial_looked : PySem.W.isFn K (.ref f_Dial_looked) = true)
    (l_Dial_looked : K.lookup f_Dial_looked = some ⟨oc_Dial_looked, od_Dial_looked, .func (PySem.W.fnOf "looked" "Dial.looked" (defArgs s_Dial_looked) (defBody s_Dial_looked) (defScope s_Dial_looked) .none kV_Dial_looked dc_Dial_looked pm_Dial_looked an_Dial_looked cd_Dial_looked ct_Dial_looked), sl_Dial_looked⟩)
    (c_Dial_looked : PySem.W.codeIn K cd_Dial_looked "Dial.looked" = true)
    (k_Dial_looked : PySem.W.keepIn K (.ref f_Dial_looked) = true)
    (a_Dial_points : PySem.W.findIn K (.ref C_Dial) "points" = some (some (.ref f_Dial_points)))
    (i_Dial_points : PySem.W.isFn K (.ref f_Dial_points) = true)
    (l_Dial_points : K.lookup f_Dial_points = some ⟨oc_Dial_points, od_Dial_points, .func (PySem.W.fnOf "points" "Dial.points" (defArgs s_Dial_points) (defBody s_Dial_points) (defScope s_Dial_points) .none kV_Dial_points dc_Dial_points pm_Dial_points an_Dial_points cd_Dial_points ct_Dial_points), sl_Dial_points⟩)
    (c_Dial_points : PySem.W.codeIn K cd_Dial_points "Dial.points" = true)
    (k_Dial_points : PySem.W.keepIn K (.ref f_Dial_points) = true)
    (a_Dial_lacked : PySem.W.findIn K (.ref C_Dial) "lacked" = some (some (.ref f_Dial_lacked)))
    (i_Dial_lacked : PySem.W.isFn K (.ref f_Dial_lacked) = true)
    (l_Dial_lacked : K.lookup f_Dial_lacked = some ⟨oc_Dial_lacked, od_Dial_lacked, .func (PySem.W.fnOf "lacked" "Dial.lacked" (defArgs s_Dial_lacked) (defBody s_Dial_lacked) (defScope s_Dial_lacked) .none kV_Dial_lacked dc_Dial_lacked pm_Dial_lacked an_Dial_lacked cd_Dial_lacked ct_Dial_lacked), sl_Dial_lacked⟩)
    (c_Dial_lacked : PySem.W.codeIn K cd_Dial_lacked "Dial.lacked" = true)
    (k_Dial_lacked : PySem.W.keepIn K (.ref f_Dial_lacked) = true)
    (a_round_told : PySem.W.nsIn K mainGlobals "round_told" = some (some (.ref f_round_told)))
    (l_round_told : K.lookup f_round_told = some ⟨oc_round_told, od_round_told, .func (PySem.W.fnOf "round_told" "round_told" (defArgs s_round_told) (defBody s_round_told) (defScope s_round_told) .none kV_round_told dc_round_told pm_round_told an_round_told cd_round_told ct_round_told), sl_round_told⟩)
    (c_round_told : PySem.W.codeIn K cd_round_told "round_told" = true)
    (k_round_told : PySem.W.keepIn K (.ref f_round_told) = true)
    (a_told : PySem.W.nsIn K mainGlobals "told" = some (some (.ref f_told)))
    (l_told : K.lookup f_told = some ⟨oc_told, od_told, .func (PySem.W.fnOf "told" "told" (defArgs s_told) (defBody s_told) (defScope s_told) .none kV_told dc_told pm_told an_told cd_told ct_told), sl_told⟩)
    (c_told : PySem.W.codeIn K cd_told "told" = true)
    (k_told : PySem.W.keepIn K (.ref f_told) = true)
    (a_next_ask : PySem.W.nsIn K mainGlobals "next_ask" = some (some (.ref f_next_ask)))
    (l_next_ask : K.lookup f_next_ask = some ⟨oc_next_ask, od_next_ask, .func (PySem.W.fnOf "next_ask" "next_ask" (defArgs s_next_ask) (defBody s_next_ask) (defScope s_next_ask) .none kV_next_ask dc_next_ask pm_next_ask an_next_ask cd_next_ask ct_next_ask), sl_next_ask⟩)
    (c_next_ask : PySem.W.codeIn K cd_next_ask "next_ask" = true)
    (k_next_ask : PySem.W.keepIn K (.ref f_next_ask) = true)
    (a_farthest : PySem.W.nsIn K mainGlobals "farthest" = some (some (.ref f_farthest)))
    (l_farthest : K.lookup f_farthest = some ⟨oc_farthest, od_farthest, .func (PySem.W.fnOf "farthest" "farthest" (defArgs s_farthest) (defBody s_farthest) (defScope s_farthest) .none kV_farthest dc_farthest pm_farthest an_farthest cd_farthest ct_farthest), sl_farthest⟩)
    (c_farthest : PySem.W.codeIn K cd_farthest "farthest" = true)
    (k_farthest : PySem.W.keepIn K (.ref f_farthest) = true)
    (a_gone_through : PySem.W.nsIn K mainGlobals "gone_through" = some (some (.ref f_gone_through)))
    (l_gone_through : K.lookup f_gone_through = some ⟨oc_gone_through, od_gone_through, .func (PySem.W.fnOf "gone_through" "gone_through" (defArgs s_gone_through) (defBody s_gone_through) (defScope s_gone_through) .none kV_gone_through dc_gone_through pm_gone_through an_gone_through cd_gone_through ct_gone_through), sl_gone_through⟩)
    (c_gone_through : PySem.W.codeIn K cd_gone_through "gone_through" = true)
    (k_gone_through : PySem.W.keepIn K (.ref f_gone_through) = true)
    (a_best : PySem.W.nsIn K mainGlobals "best" = some (some (.ref f_best)))
    (l_best : K.lookup f_best = some ⟨oc_best, od_best, .func (PySem.W.fnOf "best" "best" (defArgs s_best) (defBody s_best) (defScope s_best) .none kV_best dc_best pm_best an_best cd_best ct_best), sl_best⟩)
    (c_best : PySem.W.codeIn K cd_best "best" = true)
    (k_best : PySem.W.keepIn K (.ref f_best) = true)
    (a_spells_of : PySem.W.nsIn K mainGlobals "spells_of" = some (some (.ref f_spells_of)))
    (l_spells_of : K.lookup f_spells_of = some ⟨oc_spells_of, od_spells_of, .func (PySem.W.fnOf "spells_of" "spells_of" (defArgs s_spells_of) (defBody s_spells_of) (defScope s_spells_of) .none kV_spells_of dc_spells_of pm_spells_of an_spells_of cd_spells_of ct_spells_of), sl_spells_of⟩)
    (c_spells_of : PySem.W.codeIn K cd_spells_of "spells_of" = true)
    (k_spells_of : PySem.W.keepIn K (.ref f_spells_of) = true)
    (a_between : PySem.W.nsIn K mainGlobals "between" = some (some (.ref f_between)))
    (l_between : K.lookup f_between = some ⟨oc_between, od_between, .func (PySem.W.fnOf "between" "between" (defArgs s_between) (defBody s_between) (defScope s_between) .none kV_between dc_between pm_between an_between cd_between ct_between), sl_between⟩)
    (c_between : PySem.W.codeIn K cd_between "between" = true)
    (k_between : PySem.W.keepIn K (.ref f_between) = true)
    (a_least_paper : PySem.W.nsIn K mainGlobals "least_paper" = some (some (.ref f_least_paper)))
    (l_least_paper : K.lookup f_least_paper = some ⟨oc_least_paper, od_least_paper, .func (PySem.W.fnOf "least_paper" "least_paper" (defArgs s_least_paper) (defBody s_least_paper) (defScope s_least_paper) .none kV_least_paper dc_least_paper pm_least_paper an_least_paper cd_least_paper ct_least_paper), sl_least_paper⟩)
    (c_least_paper : PySem.W.codeIn K cd_least_paper "least_paper" = true)
    (k_least_paper : PySem.W.keepIn K (.ref f_least_paper) = true)
    (a_shown_by : PySem.W.nsIn K mainGlobals "shown_by" = some (some (.ref f_shown_by)))
    (l_shown_by : K.lookup f_shown_by = some ⟨oc_shown_by, od_shown_by, .func (PySem.W.fnOf "shown_by" "shown_by" (defArgs s_shown_by) (defBody s_shown_by) (defScope s_shown_by) .none kV_shown_by dc_shown_by pm_shown_by an_shown_by cd_shown_by ct_shown_by), sl_shown_by⟩)
    (c_shown_by : PySem.W.codeIn K cd_shown_by "shown_by" = true)
    (k_shown_by : PySem.W.keepIn K (.ref f_shown_by) = true)
    (a_spells : PySem.W.nsIn K mainGlobals "spells" = some (some (.ref f_spells)))
    (l_spells : K.lookup f_spells = some ⟨oc_spells, od_spells, .func (PySem.W.fnOf "spells" "spells" (defArgs s_spells) (defBody s_spells) (defScope s_spells) .none kV_spells dc_spells pm_spells an_spells cd_spells ct_spells), sl_spells⟩)
    (c_spells : PySem.W.codeIn K cd_spells "spells" = true)
    (k_spells : PySem.W.keepIn K (.ref f_spells) = true)
    (a_paper : PySem.W.nsIn K mainGlobals "paper" = some (some (.ref f_paper)))
    (l_paper : K.lookup f_paper = some ⟨oc_paper, od_paper, .func (PySem.W.fnOf "paper" "paper" (defArgs s_paper) (defBody s_paper) (defScope s_paper) .none kV_paper dc_paper pm_paper an_paper cd_paper ct_paper), sl_paper⟩)
    (c_paper : PySem.W.codeIn K cd_paper "paper" = true)
    (k_paper : PySem.W.keepIn K (.ref f_paper) = true)
    (a_shown : PySem.W.nsIn K mainGlobals "shown" = some (some (.ref f_shown)))
    (l_shown : K.lookup f_shown = some ⟨oc_shown, od_shown, .func (PySem.W.fnOf "shown" "shown" (defArgs s_shown) (defBody s_shown) (defScope s_shown) .none kV_shown dc_shown pm_shown an_shown cd_shown ct_shown), sl_shown⟩)
    (c_shown : PySem.W.codeIn K cd_shown "shown" = true)
    (k_shown : PySem.W.keepIn K (.ref f_shown) = true)
    (a_need_rule : PySem.W.nsIn K mainGlobals "need_rule" = some (some (.ref f_need_rule)))
    (l_need_rule : K.lookup f_need_rule = some ⟨oc_need_rule, od_need_rule, .func (PySem.W.fnOf "need_rule" "need_rule" (defArgs s_need_rule) (defBody s_need_rule) (defScope s_need_rule) .none kV_need_rule dc_need_rule pm_need_rule an_need_rule cd_need_rule ct_need_rule), sl_need_rule⟩)
    (c_need_rule : PySem.W.codeIn K cd_need_rule "need_rule" = true)
    (k_need_rule : PySem.W.keepIn K (.ref f_need_rule) = true)
    (a_by_row : PySem.W.nsIn K mainGlobals "by_row" = some (some (.ref f_by_row)))
    (l_by_row : K.lookup f_by_row = some ⟨oc_by_row, od_by_row, .func (PySem.W.fnOf "by_row" "by_row" (defArgs s_by_row) (defBody s_by_row) (defScope s_by_row) .none kV_by_row dc_by_row pm_by_row an_by_row cd_by_row ct_by_row), sl_by_row⟩)
    (c_by_row : PySem.W.codeIn K cd_by_row "by_row" = true)
    (k_by_row : PySem.W.keepIn K (.ref f_by_row) = true)
    (a_all_lacking : PySem.W.nsIn K mainGlobals "all_lacking" = some (some (.ref f_all_lacking)))
    (l_all_lacking : K.lookup f_all_lacking = some ⟨oc_all_lacking, od_all_lacking, .func (PySem.W.fnOf "all_lacking" "all_lacking" (defArgs s_all_lacking) (defBody s_all_lacking) (defScope s_all_lacking) .none kV_all_lacking dc_all_lacking pm_all_lacking an_all_lacking cd_all_lacking ct_all_lacking), sl_all_lacking⟩)
    (c_all_lacking : PySem.W.codeIn K cd_all_lacking "all_lacking" = true)
    (k_all_lacking : PySem.W.keepIn K (.ref f_all_lacking) = true)
    (a_lacking : PySem.W.nsIn K mainGlobals "lacking" = some (some (.ref f_lacking)))
    (l_lacking : K.lookup f_lacking = some ⟨oc_lacking, od_lacking, .func (PySem.W.fnOf "lacking" "lacking" (defArgs s_lacking) (defBody s_lacking) (defScope s_lacking) .none kV_lacking dc_lacking pm_lacking an_lacking cd_lacking ct_lacking), sl_lacking⟩)
    (c_lacking : PySem.W.codeIn K cd_lacking "lacking" = true)
    (k_lacking : PySem.W.keepIn K (.ref f_lacking) = true)
    (a_all_stretches : PySem.W.nsIn K mainGlobals "all_stretches" = some (some (.ref f_all_stretches)))
    (l_all_stretches : K.lookup f_all_stretches = some ⟨oc_all_stretches, od_all_stretches, .func (PySem.W.fnOf "all_stretches" "all_stretches" (defArgs s_all_stretches) (defBody s_all_stretches) (defScope s_all_stretches) .none kV_all_stretches dc_all_stretches pm_all_stretches an_all_stretches cd_all_stretches ct_all_stretches), sl_all_stretches⟩)
    (c_all_stretches : PySem.W.codeIn K cd_all_stretches "all_stretches" = true)
    (k_all_stretches : PySem.W.keepIn K (.ref f_all_stretches) = true)
    (a_stretches : PySem.W.nsIn K mainGlobals "stretches" = some (some (.ref f_stretches)))
    (l_stretches : K.lookup f_stretches = some ⟨oc_stretches, od_stretches, .func (PySem.W.fnOf "stretches" "stretches" (defArgs s_stretches) (defBody s_stretches) (defScope s_stretches) .none kV_stretches dc_stretches pm_stretches an_stretches cd_stretches ct_stretches), sl_stretches⟩)
    (c_stretches : PySem.W.codeIn K cd_stretches "stretches" = true)
    (k_stretches : PySem.W.keepIn K (.ref f_stretches) = true)
    (a_lacking_in : PySem.W.nsIn K mainGlobals "lacking_in" = some (some (.ref f_lacking_in)))
    (l_lacking_in : K.lookup f_lacking_in = some ⟨oc_lacking_in, od_lacking_in, .func (PySem.W.fnOf "lacking_in" "lacking_in" (defArgs s_lacking_in) (defBody s_lacking_in) (defScope s_lacking_in) .none kV_lacking_in dc_lacking_in pm_lacking_in an_lacking_in cd_lacking_in ct_lacking_in), sl_lacking_in⟩)
    (c_lacking_in : PySem.W.codeIn K cd_lacking_in "lacking_in" = true)
    (k_lacking_in : PySem.W.keepIn K (.ref f_lacking_in) = true)
    (a_all_rows : PySem.W.nsIn K mainGlobals "all_rows" = some (some (.ref f_all_rows)))
    (l_all_rows : K.lookup f_all_rows = some ⟨oc_all_rows, od_all_rows, .func (PySem.W.fnOf "all_rows" "all_rows" (defArgs s_all_rows) (defBody s_all_rows) (defScope s_all_rows) .none kV_all_rows dc_all_rows pm_all_rows an_all_rows cd_all_rows ct_all_rows), sl_all_rows⟩)
    (c_all_rows : PySem.W.codeIn K cd_all_rows "all_rows" = true)
    (k_all_rows : PySem.W.keepIn K (.ref f_all_rows) = true)
    (a_more_of : PySem.W.nsIn K mainGlobals "more_of" = some (some (.ref f_more_of)))
    (l_more_of : K.lookup f_more_of = some ⟨oc_more_of, od_more_of, .func (PySem.W.fnOf "more_of" "more_of" (defArgs s_more_of) (defBody s_more_of) (defScope s_more_of) .none kV_more_of dc_more_of pm_more_of an_more_of cd_more_of ct_more_of), sl_more_of⟩)
    (c_more_of : PySem.W.codeIn K cd_more_of "more_of" = true)
    (k_more_of : PySem.W.keepIn K (.ref f_more_of) = true)
    (a_need_size : PySem.W.nsIn K mainGlobals "need_size" = some (some (.ref f_need_size)))
    (l_need_size : K.lookup f_need_size = some ⟨oc_need_size, od_need_size, .func (PySem.W.fnOf "need_size" "need_size" (defArgs s_need_size) (defBody s_need_size) (defScope s_need_size) .none kV_need_size dc_need_size pm_need_size an_need_size cd_need_size ct_need_size), sl_need_size⟩)
    (c_need_size : PySem.W.codeIn K cd_need_size "need_size" = true)
    (k_need_size : PySem.W.keepIn K (.ref f_need_size) = true)
    (a_worst : PySem.W.nsIn K mainGlobals "worst" = some (some (.ref f_worst)))
    (l_worst : K.lookup f_worst = some ⟨oc_worst, od_worst, .func (PySem.W.fnOf "worst" "worst" (defArgs s_worst) (defBody s_worst) (defScope s_worst) .none kV_worst dc_worst pm_worst an_worst cd_worst ct_worst), sl_worst⟩)
    (c_worst : PySem.W.codeIn K cd_worst "worst" = true)
    (k_worst : PySem.W.keepIn K (.ref f_worst) = true)
    (a_l_begun : PySem.W.nsIn K mainGlobals "_law_begun" = some (some (.ref f_l_begun)))
    (l_l_begun : K.lookup f_l_begun = some ⟨oc_l_begun, od_l_begun, .func (PySem.W.fnOf "_law_begun" "_law_begun" (defArgs s_l_begun) (defBody s_l_begun) (defScope s_l_begun) .none kV_l_begun dc_l_begun pm_l_begun an_l_begun cd_l_begun ct_l_begun), sl_l_begun⟩)
    (c_l_begun : PySem.W.codeIn K cd_l_begun "_law_begun" = true)
    (k_l_begun : PySem.W.keepIn K (.ref f_l_begun) = true)
    (a_l_take : PySem.W.nsIn K mainGlobals "_law_take" = some (some (.ref f_l_take)))
    (l_l_take : K.lookup f_l_take = some ⟨oc_l_take, od_l_take, .func (PySem.W.fnOf "_law_take" "_law_take" (defArgs s_l_take) (defBody s_l_take) (defScope s_l_take) .none kV_l_take dc_l_take pm_l_take an_l_take cd_l_take ct_l_take), sl_l_take⟩)
    (c_l_take : PySem.W.codeIn K cd_l_take "_law_take" = true)
    (k_l_take : PySem.W.keepIn K (.ref f_l_take) = true)
    (a_l_alike : PySem.W.nsIn K mainGlobals "_law_alike" = some (some (.ref f_l_alike)))
    (l_l_alike : K.lookup f_l_alike = some ⟨oc_l_alike, od_l_alike, .func (PySem.W.fnOf "_law_alike" "_law_alike" (defArgs s_l_alike) (defBody s_l_alike) (defScope s_l_alike) .none kV_l_alike dc_l_alike pm_l_alike an_l_alike cd_l_alike ct_l_alike), sl_l_alike⟩)
    (c_l_alike : PySem.W.codeIn K cd_l_alike "_law_alike" = true)
    (k_l_alike : PySem.W.keepIn K (.ref f_l_alike) = true)
    (a_l_class : PySem.W.nsIn K mainGlobals "_law_class" = some (some (.ref f_l_class)))
    (l_l_class : K.lookup f_l_class = some ⟨oc_l_class, od_l_class, .func (PySem.W.fnOf "_law_class" "_law_class" (defArgs s_l_class) (defBody s_l_class) (defScope s_l_class) .none kV_l_class dc_l_class pm_l_class an_l_class cd_l_class ct_l_class), sl_l_class⟩)
    (c_l_class : PySem.W.codeIn K cd_l_class "_law_class" = true)
    (k_l_class : PySem.W.keepIn K (.ref f_l_class) = true)
    (a_l_row : PySem.W.nsIn K mainGlobals "_law_row" = some (some (.ref f_l_row)))
    (l_l_row : K.lookup f_l_row = some ⟨oc_l_row, od_l_row, .func (PySem.W.fnOf "_law_row" "_law_row" (defArgs s_l_row) (defBody s_l_row) (defScope s_l_row) .none kV_l_row dc_l_row pm_l_row an_l_row cd_l_row ct_l_row), sl_l_row⟩)
    (c_l_row : PySem.W.codeIn K cd_l_row "_law_row" = true)
    (k_l_row : PySem.W.keepIn K (.ref f_l_row) = true)
    (a_l_refused : PySem.W.nsIn K mainGlobals "_law_refused" = some (some (.ref f_l_refused)))
    (l_l_refused : K.lookup f_l_refused = some ⟨oc_l_refused, od_l_refused, .func (PySem.W.fnOf "_law_refused" "_law_refused" (defArgs s_l_refused) (defBody s_l_refused) (defScope s_l_refused) .none kV_l_refused dc_l_refused pm_l_refused an_l_refused cd_l_refused ct_l_refused), sl_l_refused⟩)
    (c_l_refused : PySem.W.codeIn K cd_l_refused "_law_refused" = true)
    (k_l_refused : PySem.W.keepIn K (.ref f_l_refused) = true)
    (a_l_all : PySem.W.nsIn K mainGlobals "_law_all" = some (some (.ref f_l_all)))
    (l_l_all : K.lookup f_l_all = some ⟨oc_l_all, od_l_all, .func (PySem.W.fnOf "_law_all" "_law_all" (defArgs s_l_all) (defBody s_l_all) (defScope s_l_all) .none kV_l_all dc_l_all pm_l_all an_l_all cd_l_all ct_l_all), sl_l_all⟩)
    (c_l_all : PySem.W.codeIn K cd_l_all "_law_all" = true)
    (k_l_all : PySem.W.keepIn K (.ref f_l_all) = true)
    (a_l_works : PySem.W.nsIn K mainGlobals "_law_works" = some (some (.ref f_l_works)))
    (l_l_works : K.lookup f_l_works = some ⟨oc_l_works, od_l_works, .func (PySem.W.fnOf "_law_works" "_law_works" (defArgs s_l_works) (defBody s_l_works) (defScope s_l_works) .none kV_l_works dc_l_works pm_l_works an_l_works cd_l_works ct_l_works), sl_l_works⟩)
    (c_l_works : PySem.W.codeIn K cd_l_works "_law_works" = true)
    (k_l_works : PySem.W.keepIn K (.ref f_l_works) = true)
    (a_l_law : PySem.W.nsIn K mainGlobals "law" = some (some (.ref f_l_law)))
    (l_l_law : K.lookup f_l_law = some ⟨oc_l_law, od_l_law, .func (PySem.W.fnOf "law" "law" (defArgs s_l_law) (defBody s_l_law) (defScope s_l_law) .none kV_l_law dc_l_law pm_l_law an_l_law cd_l_law ct_l_law), sl_l_law⟩)
    (c_l_law : PySem.W.codeIn K cd_l_law "law" = true)
    (k_l_law : PySem.W.keepIn K (.ref f_l_law) = true)
    (pg_Dial : PySem.W.plainGet K C_Dial Str.empty = true)
    (hd_Dial : PySem.W.hasDictIn K C_Dial = true)
    (po_Dial : PySem.W.plainOver K C_Dial = true)
    (sa_Dial : PySem.W.findIn K (.ref C_Dial) "__setattr__" = some (some (.builtin "object.__setattr__")))
    (mk_Dial : PySem.W.makesIn K C_Dial = true)
    (kc_Dial : PySem.W.keepIn K (.ref C_Dial) = true)
    (n_Dial_here : PySem.W.findIn K (.ref C_Dial) "here" = some none)
    (n_Dial_seen : PySem.W.findIn K (.ref C_Dial) "seen" = some none)
    (n_Dial_hand : PySem.W.findIn K (.ref C_Dial) "hand" = some none)
    (n_Dial_lacks : PySem.W.findIn K (.ref C_Dial) "lacks" = some none)
    (v_MOST_ROOMS : PySem.W.nsIn K mainGlobals "MOST_ROOMS" = some (some (.int 8 t_MOST_ROOMS)))
    (v_MOST_PAGES : PySem.W.nsIn K mainGlobals "MOST_PAGES" = some (some (.int 12 t_MOST_PAGES)))
    (v_MOST_ASKS : PySem.W.nsIn K mainGlobals "MOST_ASKS" = some (some (.int 100 t_MOST_ASKS)))
    (v_HAND : PySem.W.nsIn K mainGlobals "HAND" = some (some (.str (Str.ofString "hand") t_HAND)))
    (v_UNSEEN : PySem.W.nsIn K mainGlobals "UNSEEN" = some (some (.str (Str.ofString "unseen") t_UNSEEN)))
    (v_RULES : PySem.W.nsIn K mainGlobals "RULES" = some (some (.ref A_RULES)))
    (l_RULES : K.lookup A_RULES = some ⟨.type "tuple", od_RULES, .seq #[.str (Str.ofString "hand") t0_RULES, .str (Str.ofString "unseen") t1_RULES, .str (Str.ofString "first") t2_RULES] n_RULES, sl_RULES⟩)
    (v_MOST_ROWS : PySem.W.nsIn K mainGlobals "MOST_ROWS" = some (some (.int 5000 t_MOST_ROWS)))
    (ex_PageError : PySem.W.subIn K (.ref C_PageError) (.type "BaseException") = some true)
    (hd_PageError : PySem.W.hasDictIn K C_PageError = true)
    (ty_PageError : PySem.W.typeIn K (.ref C_PageError) = some (.type "type"))
    (ic_PageError : PySem.W.isClsIn K C_PageError = true)
    (ex_BadRooms : PySem.W.subIn K (.ref C_BadRooms) (.type "BaseException") = some true)
    (hd_BadRooms : PySem.W.hasDictIn K C_BadRooms = true)
    (ty_BadRooms : PySem.W.typeIn K (.ref C_BadRooms) = some (.type "type"))
    (ic_BadRooms : PySem.W.isClsIn K C_BadRooms = true)
    (ga_BadRooms : PySem.W.findIn K (.ref C_BadRooms) "__getattribute__" = some (some (.builtin "BaseException.__getattribute__")))
    (gg_BadRooms : PySem.W.findIn K (.ref C_BadRooms) "__getattr__" = some none)
    (ca_BadRooms : PySem.W.findIn K (.ref C_BadRooms) "__class__" = some (some (.builtin "object.__class__")))
    (cn_BadRooms : PySem.W.specialIn K (.builtin "object.__class__") "__get__" = some (some (.builtin "getset_descriptor.__get__")))
    (ct_BadRooms : PySem.W.takesIn K (.builtin "object.__class__") = some true)
    (mo_BadRooms : PySem.W.mroIn K C_BadRooms (.type "object") = some true)
    (s_BadRooms_PageError : PySem.W.subIn K (.ref C_BadRooms) (.ref C_PageError) = some true)
    (s_BadRooms_BadRooms : PySem.W.subIn K (.ref C_BadRooms) (.ref C_BadRooms) = some true)
    (s_BadRooms_BadRow : PySem.W.subIn K (.ref C_BadRooms) (.ref C_BadRow) = some false)
    (s_BadRooms_BadRule : PySem.W.subIn K (.ref C_BadRooms) (.ref C_BadRule) = some false)
    (s_BadRooms_TooMany : PySem.W.subIn K (.ref C_BadRooms) (.ref C_TooMany) = some false)
    (s_BadRooms_VE : PySem.W.subIn K (.ref C_BadRooms) (.type "ValueError") = some true)
    (iB_BadRooms : PySem.W.findIn K (.ref C_BadRooms) "__init__" = some (some (.builtin "ValueError.__init__")))
    (kp_BadRooms : PySem.W.keepIn K (.ref C_BadRooms) = true)
    (xL_BadRooms : K.lookup C_BadRooms = some (excClassObj nm_BadRooms q_BadRooms C_BadRooms N_BadRooms bs_BadRooms [.ref C_PageError, .type "ValueError", .type "Exception", .type "BaseException", .type "object"] true sn_BadRooms sub_BadRooms ab_BadRooms col_BadRooms dd_BadRooms m0_BadRooms m1_BadRooms m2_BadRooms m3_BadRooms m5_BadRooms "ValueError.__new__"))
    (ex_BadRow : PySem.W.subIn K (.ref C_BadRow) (.type "BaseException") = some true)
    (hd_BadRow : PySem.W.hasDictIn K C_BadRow = true)
    (ty_BadRow : PySem.W.typeIn K (.ref C_BadRow) = some (.type "type"))
    (ic_BadRow : PySem.W.isClsIn K C_BadRow = true)
    (ga_BadRow : PySem.W.findIn K (.ref C_BadRow) "__getattribute__" = some (some (.builtin "BaseException.__getattribute__")))
    (gg_BadRow : PySem.W.findIn K (.ref C_BadRow) "__getattr__" = some none)
    (ca_BadRow : PySem.W.findIn K (.ref C_BadRow) "__class__" = some (some (.builtin "object.__class__")))
    (cn_BadRow : PySem.W.specialIn K (.builtin "object.__class__") "__get__" = some (some (.builtin "getset_descriptor.__get__")))
    (ct_BadRow : PySem.W.takesIn K (.builtin "object.__class__") = some true)
    (mo_BadRow : PySem.W.mroIn K C_BadRow (.type "object") = some true)
    (s_BadRow_PageError : PySem.W.subIn K (.ref C_BadRow) (.ref C_PageError) = some true)
    (s_BadRow_BadRooms : PySem.W.subIn K (.ref C_BadRow) (.ref C_BadRooms) = some false)
    (s_BadRow_BadRow : PySem.W.subIn K (.ref C_BadRow) (.ref C_BadRow) = some true)
    (s_BadRow_BadRule : PySem.W.subIn K (.ref C_BadRow) (.ref C_BadRule) = some false)
    (s_BadRow_TooMany : PySem.W.subIn K (.ref C_BadRow) (.ref C_TooMany) = some false)
    (s_BadRow_VE : PySem.W.subIn K (.ref C_BadRow) (.type "ValueError") = some true)
    (sa_BadRow : PySem.W.findIn K (.ref C_BadRow) "__setattr__" = some (some (.builtin "object.__setattr__")))
    (kp_BadRow : PySem.W.keepIn K (.ref C_BadRow) = true)
    (xL_BadRow : K.lookup C_BadRow = some (excClassObj nm_BR q_BR C_BadRow N_BR bs_BR [.ref C_PageError, .type "ValueError", .type "Exception", .type "BaseException", .type "object"] true sn_BR sub_BR ab_BR col_BR dd_BR m0_BR m1_BR m2_BR m3_BR m5_BR "ValueError.__new__"))
    (n_BadRow_place : PySem.W.findIn K (.ref C_BadRow) "place" = some none)
    (ex_BadRule : PySem.W.subIn K (.ref C_BadRule) (.type "BaseException") = some true)
    (hd_BadRule : PySem.W.hasDictIn K C_BadRule = true)
    (ty_BadRule : PySem.W.typeIn K (.ref C_BadRule) = some (.type "type"))
    (ic_BadRule : PySem.W.isClsIn K C_BadRule = true)
    (ga_BadRule : PySem.W.findIn K (.ref C_BadRule) "__getattribute__" = some (some (.builtin "BaseException.__getattribute__")))
    (gg_BadRule : PySem.W.findIn K (.ref C_BadRule) "__getattr__" = some none)
    (ca_BadRule : PySem.W.findIn K (.ref C_BadRule) "__class__" = some (some (.builtin "object.__class__")))
    (cn_BadRule : PySem.W.specialIn K (.builtin "object.__class__") "__get__" = some (some (.builtin "getset_descriptor.__get__")))
    (ct_BadRule : PySem.W.takesIn K (.builtin "object.__class__") = some true)
    (mo_BadRule : PySem.W.mroIn K C_BadRule (.type "object") = some true)
    (s_BadRule_PageError : PySem.W.subIn K (.ref C_BadRule) (.ref C_PageError) = some true)
    (s_BadRule_BadRooms : PySem.W.subIn K (.ref C_BadRule) (.ref C_BadRooms) = some false)
    (s_BadRule_BadRow : PySem.W.subIn K (.ref C_BadRule) (.ref C_BadRow) = some false)
    (s_BadRule_BadRule : PySem.W.subIn K (.ref C_BadRule) (.ref C_BadRule) = some true)
    (s_BadRule_TooMany : PySem.W.subIn K (.ref C_BadRule) (.ref C_TooMany) = some false)
    (s_BadRule_VE : PySem.W.subIn K (.ref C_BadRule) (.type "ValueError") = some true)
    (iB_BadRule : PySem.W.findIn K (.ref C_BadRule) "__init__" = some (some (.builtin "ValueError.__init__")))
    (kp_BadRule : PySem.W.keepIn K (.ref C_BadRule) = true)
    (xL_BadRule : K.lookup C_BadRule = some (excClassObj nm_BadRule q_BadRule C_BadRule N_BadRule bs_BadRule [.ref C_PageError, .type "ValueError", .type "Exception", .type "BaseException", .type "object"] true sn_BadRule sub_BadRule ab_BadRule col_BadRule dd_BadRule m0_BadRule m1_BadRule m2_BadRule m3_BadRule m5_BadRule "ValueError.__new__"))
    (ex_TooMany : PySem.W.subIn K (.ref C_TooMany) (.type "BaseException") = some true)
    (hd_TooMany : PySem.W.hasDictIn K C_TooMany = true)
    (ty_TooMany : PySem.W.typeIn K (.ref C_TooMany) = some (.type "type"))
    (ic_TooMany : PySem.W.isClsIn K C_TooMany = true)
    (ga_TooMany : PySem.W.findIn K (.ref C_TooMany) "__getattribute__" = some (some (.builtin "BaseException.__getattribute__")))
    (gg_TooMany : PySem.W.findIn K (.ref C_TooMany) "__getattr__" = some none)
    (ca_TooMany : PySem.W.findIn K (.ref C_TooMany) "__class__" = some (some (.builtin "object.__class__")))
    (cn_TooMany : PySem.W.specialIn K (.builtin "object.__class__") "__get__" = some (some (.builtin "getset_descriptor.__get__")))
    (ct_TooMany : PySem.W.takesIn K (.builtin "object.__class__") = some true)
    (mo_TooMany : PySem.W.mroIn K C_TooMany (.type "object") = some true)
    (s_TooMany_PageError : PySem.W.subIn K (.ref C_TooMany) (.ref C_PageError) = some true)
    (s_TooMany_BadRooms : PySem.W.subIn K (.ref C_TooMany) (.ref C_BadRooms) = some false)
    (s_TooMany_BadRow : PySem.W.subIn K (.ref C_TooMany) (.ref C_BadRow) = some false)
    (s_TooMany_BadRule : PySem.W.subIn K (.ref C_TooMany) (.ref C_BadRule) = some false)
    (s_TooMany_TooMany : PySem.W.subIn K (.ref C_TooMany) (.ref C_TooMany) = some true)
    (s_TooMany_VE : PySem.W.subIn K (.ref C_TooMany) (.type "ValueError") = some true)
    (iB_TooMany : PySem.W.findIn K (.ref C_TooMany) "__init__" = some (some (.builtin "ValueError.__init__")))
    (kp_TooMany : PySem.W.keepIn K (.ref C_TooMany) = true)
    (xL_TooMany : K.lookup C_TooMany = some (excClassObj nm_TooMany q_TooMany C_TooMany N_TooMany bs_TooMany [.ref C_PageError, .type "ValueError", .type "Exception", .type "BaseException", .type "object"] true sn_TooMany sub_TooMany ab_TooMany col_TooMany dd_TooMany m0_TooMany m1_TooMany m2_TooMany m3_TooMany m5_TooMany "ValueError.__new__"))
    (rd_PageError : PySem.W.readsIn K C_PageError (.type "type") = true)
    (sg_PageError : PySem.W.specialIn K (.ref C_PageError) "__getattribute__" = some (some (.builtin "type.__getattribute__")))
    (fc_PageError : PySem.W.findCls K (.ref C_PageError) (.type "type") "__init__" = some (.val (.builtin "ValueError.__init__")))
    (z_ValueError : PySem.W.nsIn K mainGlobals "ValueError" = some none)
    (z_len : PySem.W.nsIn K mainGlobals "len" = some none)
    (z_int : PySem.W.nsIn K mainGlobals "int" = some none)
    (z_min : PySem.W.nsIn K mainGlobals "min" = some none)
    (z_list : PySem.W.nsIn K mainGlobals "list" = some none)
    (z_sorted : PySem.W.nsIn K mainGlobals "sorted" = some none)
    (z_set : PySem.W.nsIn K mainGlobals "set" = some none)
    (z_tuple : PySem.W.nsIn K mainGlobals "tuple" = some none)
    (z_isinstance : PySem.W.nsIn K mainGlobals "isinstance" = some none)
    (z_range : PySem.W.nsIn K mainGlobals "range" = some none)
    (z_enumerate : PySem.W.nsIn K mainGlobals "enumerate" = some none)
    (z_bool : PySem.W.nsIn K mainGlobals "bool" = some none)
    (z_str : PySem.W.nsIn K mainGlobals "str" = some none)
    {cW PW cL PL : Addr} {eW eL : Value} {ddW ddL : Option Addr} {vsW vsL : Array Value} {slW slL : Array (Option Value)} {ts : List Addr}
    (hT : ∀ P ∈ ts, h.get? P = some { cls := .none, data := .fields #[] }) (ecW : cd_l_works = .ref cW) (ecL : cd_l_law = .ref cL) (lkW : K.lookup cW = some ⟨eW, ddW, .fields vsW, slW⟩) (lkL : K.lookup cL = some ⟨eL, ddL, .fields vsL, slL⟩) (vW : vsW[11]? = some (.ref PW)) (vL : vsL[11]? = some (.ref PL))
    (kcW : PySem.W.codeHdIn K cW PW = true) (kcL : PySem.W.codeHdIn K cL PL = true) (nW : K.lookup PW = none) (nL : K.lookup PL = none) (mW : PW ∈ ts) (mL : PL ∈ ts) (hne : PW ≠ PL) : LamX.LawAtS l w K CX0 12 63 "_law_script" mg fa h := by
  have e := hfa.symm.trans (PySem.W.mg_of X G a_l_law)
  cases e
  have F_BadRow_init := fun_mk (st := s_BadRow_init) l_BadRow_init c_BadRow_init k_BadRow_init
  have b_BadRow_init := F_BadRow_init.binds (ps := ["self", "place"]) fun _ _ _ _ _ _ us hl => match us, hl with | [_, _], _ => rfl
  have F_need_rooms := fun_mk (st := s_need_rooms) l_need_rooms c_need_rooms k_need_rooms
  have b_need_rooms := F_need_rooms.binds (ps := ["rooms"]) fun _ _ _ _ _ _ us hl => match us, hl with | [_], _ => rfl
  have F_is_page := fun_mk (st := s_is_page) l_is_page c_is_page k_is_page
  have b_is_page := F_is_page.binds (ps := ["page"]) fun _ _ _ _ _ _ us hl => match us, hl with | [_], _ => rfl
  have F_need_row := fun_mk (st := s_need_row) l_need_row c_need_row k_need_row
  have b_need_row := F_need_row.binds (ps := ["row"]) fun _ _ _ _ _ _ us hl => match us, hl with | [_], _ => rfl
  have F_need_both := fun_mk (st := s_need_both) l_need_both c_need_both k_need_both
  have b_need_both := F_need_both.binds (ps := ["rooms", "row"]) fun _ _ _ _ _ _ us hl => match us, hl with | [_, _], _ => rfl
  have F_Dial_init := fun_mk (st := s_Dial_init) l_Dial_init c_Dial_init k_Dial_init
  have b_Dial_init := F_Dial_init.binds (ps := ["self", "rooms"]) fun _ _ _ _ _ _ us hl => match us, hl with | [_, _], _ => rfl
  have F_Dial_ask := fun_mk (st := s_Dial_ask) l_Dial_ask c_Dial_ask k_Dial_ask
  have b_Dial_ask := F_Dial_ask.binds (ps := ["self", "page"]) fun _ _ _ _ _ _ us hl => match us, hl with | [_, _], _ => rfl
  have F_Dial_pages := fun_mk (st := s_Dial_pages) l_Dial_pages c_Dial_pages k_Dial_pages
  have b_Dial_pages := F_Dial_pages.binds (ps := ["self"]) fun _ _ _ _ _ _ us hl => match us, hl with | [_], _ => rfl
  have F_Dial_looked := fun_mk (st := s_Dial_looked) l_Dial_looked c_Dial_looked k_Dial_looked
  have b_Dial_looked := F_Dial_looked.binds (ps := ["self"]) fun _ _ _ _ _ _ us hl => match us, hl with | [_], _ => rfl
  have F_Dial_points := fun_mk (st := s_Dial_points) l_Dial_points c_Dial_points k_Dial_points
  have b_Dial_points := F_Dial_points.binds (ps := ["self"]) fun _ _ _ _ _ _ us hl => match us, hl with | [_], _ => rfl
  have F_Dial_lacked := fun_mk (st := s_Dial_lacked) l_Dial_lacked c_Dial_lacked k_Dial_lacked
  have b_Dial_lacked := F_Dial_lacked.binds (ps := ["self"]) fun _ _ _ _ _ _ us hl => match us, hl with | [_], _ => rfl
  have F_round_told := fun_mk (st := s_round_told) l_round_told c_round_told k_round_told
  have b_round_told := F_round_told.binds (ps := ["rooms", "row"]) fun _ _ _ _ _ _ us hl => match us, hl with | [_, _], _ => rfl
  have F_told := fun_mk (st := s_told) l_told c_told k_told
  have b_told := F_told.binds (ps := ["rooms", "row"]) fun _ _ _ _ _ _ us hl => match us, hl with | [_, _], _ => rfl
  have F_next_ask := fun_mk (st := s_next_ask) l_next_ask c_next_ask k_next_ask
  have b_next_ask := F_next_ask.binds (ps := ["row", "place", "page"]) fun _ _ _ _ _ _ us hl => match us, hl with | [_, _, _], _ => rfl
  have F_farthest := fun_mk (st := s_farthest) l_farthest c_farthest k_farthest
  have b_farthest := F_farthest.binds (ps := ["row", "place", "kept"]) fun _ _ _ _ _ _ us hl => match us, hl with | [_, _, _], _ => rfl
  have F_gone_through := fun_mk (st := s_gone_through) l_gone_through c_gone_through k_gone_through
  have b_gone_through := F_gone_through.binds (ps := ["rooms", "row"]) fun _ _ _ _ _ _ us hl => match us, hl with | [_, _], _ => rfl
  have F_best := fun_mk (st := s_best) l_best c_best k_best
  have b_best := F_best.binds (ps := ["rooms", "row"]) fun _ _ _ _ _ _ us hl => match us, hl with | [_, _], _ => rfl
  have F_spells_of := fun_mk (st := s_spells_of) l_spells_of c_spells_of k_spells_of
  have b_spells_of := F_spells_of.binds (ps := ["row"]) fun _ _ _ _ _ _ us hl => match us, hl with | [_], _ => rfl
  have F_between := fun_mk (st := s_between) l_between c_between k_between
  have b_between := F_between.binds (ps := ["spells", "low", "high"]) fun _ _ _ _ _ _ us hl => match us, hl with | [_, _, _], _ => rfl
  have F_least_paper := fun_mk (st := s_least_paper) l_least_paper c_least_paper k_least_paper
  have b_least_paper := F_least_paper.binds (ps := ["rooms", "row"]) fun _ _ _ _ _ _ us hl => match us, hl with | [_, _], _ => rfl
  have F_shown_by := fun_mk (st := s_shown_by) l_shown_by c_shown_by k_shown_by
  have b_shown_by := F_shown_by.binds (ps := ["rooms", "row", "places"]) fun _ _ _ _ _ _ us hl => match us, hl with | [_, _, _], _ => rfl
  have F_spells := fun_mk (st := s_spells) l_spells c_spells k_spells
  have b_spells := F_spells.binds (ps := ["row"]) fun _ _ _ _ _ _ us hl => match us, hl with | [_], _ => rfl
  have F_paper := fun_mk (st := s_paper) l_paper c_paper k_paper
  have b_paper := F_paper.binds (ps := ["rooms", "row"]) fun _ _ _ _ _ _ us hl => match us, hl with | [_, _], _ => rfl
  have F_shown := fun_mk (st := s_shown) l_shown c_shown k_shown
  have b_shown := F_shown.binds (ps := ["rooms", "row", "places"]) fun _ _ _ _ _ _ us hl => match us, hl with | [_, _, _], _ => rfl
  have F_need_rule := fun_mk (st := s_need_rule) l_need_rule c_need_rule k_need_rule
  have b_need_rule := F_need_rule.binds (ps := ["rule"]) fun _ _ _ _ _ _ us hl => match us, hl with | [_], _ => rfl
  have F_by_row := fun_mk (st := s_by_row) l_by_row c_by_row k_by_row
  have b_by_row := F_by_row.binds (ps := ["rooms", "row", "rule"]) fun _ _ _ _ _ _ us hl => match us, hl with | [_, _, _], _ => rfl
  have F_all_lacking := fun_mk (st := s_all_lacking) l_all_lacking c_all_lacking k_all_lacking
  have b_all_lacking := F_all_lacking.binds (ps := ["rooms", "row", "rule"]) fun _ _ _ _ _ _ us hl => match us, hl with | [_, _, _], _ => rfl
  have F_lacking := fun_mk (st := s_lacking) l_lacking c_lacking k_lacking
  have b_lacking := F_lacking.binds (ps := ["rooms", "row", "rule"]) fun _ _ _ _ _ _ us hl => match us, hl with | [_, _, _], _ => rfl
  have F_all_stretches := fun_mk (st := s_all_stretches) l_all_stretches c_all_stretches k_all_stretches
  have b_all_stretches := F_all_stretches.binds (ps := ["rooms", "row"]) fun _ _ _ _ _ _ us hl => match us, hl with | [_, _], _ => rfl
  have F_stretches := fun_mk (st := s_stretches) l_stretches c_stretches k_stretches
  have b_stretches := F_stretches.binds (ps := ["rooms", "row"]) fun _ _ _ _ _ _ us hl => match us, hl with | [_, _], _ => rfl
  have F_lacking_in := fun_mk (st := s_lacking_in) l_lacking_in c_lacking_in k_lacking_in
  have b_lacking_in := F_lacking_in.binds (ps := ["rooms", "row", "rule"]) fun _ _ _ _ _ _ us hl => match us, hl with | [_, _, _], _ => rfl
  have F_all_rows := fun_mk (st := s_all_rows) l_all_rows c_all_rows k_all_rows
  have b_all_rows := F_all_rows.binds (ps := ["pages", "long"]) fun _ _ _ _ _ _ us hl => match us, hl with | [_, _], _ => rfl
  have F_more_of := fun_mk (st := s_more_of) l_more_of c_more_of k_more_of
  have b_more_of := F_more_of.binds (ps := ["rooms", "row", "rule"]) fun _ _ _ _ _ _ us hl => match us, hl with | [_, _, _], _ => rfl
  have F_need_size := fun_mk (st := s_need_size) l_need_size c_need_size k_need_size
  have b_need_size := F_need_size.binds (ps := ["pages", "long"]) fun _ _ _ _ _ _ us hl => match us, hl with | [_, _], _ => rfl
  have F_worst := fun_mk (st := s_worst) l_worst c_worst k_worst
  have b_worst := F_worst.binds (ps := ["rooms", "pages", "long", "rule"]) fun _ _ _ _ _ _ us hl => match us, hl with | [_, _, _, _], _ => rfl
  have F_l_begun := fun_mk (st := s_l_begun) l_l_begun c_l_begun k_l_begun
  have b_l_begun := F_l_begun.binds (ps := ["_law_script"]) fun _ _ _ _ _ _ us hl => match us, hl with | [_], _ => rfl
  have F_l_take := fun_mk (st := s_l_take) l_l_take c_l_take k_l_take
  have b_l_take := F_l_take.binds (ps := ["_law_box", "_law_many"]) fun _ _ _ _ _ _ us hl => match us, hl with | [_, _], _ => rfl
  have F_l_alike := fun_mk (st := s_l_alike) l_l_alike c_l_alike k_l_alike
  have b_l_alike := F_l_alike.binds (ps := ["_law_found", "_law_due"]) fun _ _ _ _ _ _ us hl => match us, hl with | [_, _], _ => rfl
  have F_l_class := fun_mk (st := s_l_class) l_l_class c_l_class k_l_class
  have b_l_class := F_l_class.binds (ps := ["_law_e"]) fun _ _ _ _ _ _ us hl => match us, hl with | [_], _ => rfl
  have F_l_row := fun_mk (st := s_l_row) l_l_row c_l_row k_l_row
  have b_l_row := F_l_row.binds (ps := ["_law_box", "_law_most"]) fun _ _ _ _ _ _ us hl => match us, hl with | [_, _], _ => rfl
  have F_l_refused := fun_mk (st := s_l_refused) l_l_refused c_l_refused k_l_refused
  have b_l_refused := F_l_refused.binds (ps := ["_law_work"]) fun _ _ _ _ _ _ us hl => match us, hl with | [_], _ => rfl
  have F_l_all := fun_mk (st := s_l_all) l_l_all c_l_all k_l_all
  have b_l_all := F_l_all.binds (ps := ["_law_works_here", "_law_due"]) fun _ _ _ _ _ _ us hl => match us, hl with | [_, _], _ => rfl
  have F_l_works := fun_mk (st := s_l_works) l_l_works c_l_works k_l_works
  have b_l_works := F_l_works.binds (ps := ["_law_rooms", "_law_row_here", "_law_rule", "_law_places"]) fun _ _ _ _ _ _ us hl => match us, hl with | [_, _, _, _], _ => rfl
  have F_l_law := fun_mk (st := s_l_law) l_l_law c_l_law k_l_law
  have b_l_law := F_l_law.binds (ps := ["_law_script"]) fun _ _ _ _ _ _ us hl => match us, hl with | [_], _ => rfl
  have T : Txt K mg (⟨f_BadRow_init, (PySem.W.fnOf "__init__" "BadRow.__init__" (defArgs s_BadRow_init) (defBody s_BadRow_init) (defScope s_BadRow_init) .none kV_BadRow_init dc_BadRow_init pm_BadRow_init an_BadRow_init cd_BadRow_init ct_BadRow_init), f_need_rooms, (PySem.W.fnOf "need_rooms" "need_rooms" (defArgs s_need_rooms) (defBody s_need_rooms) (defScope s_need_rooms) .none kV_need_rooms dc_need_rooms pm_need_rooms an_need_rooms cd_need_rooms ct_need_rooms), f_is_page, (PySem.W.fnOf "is_page" "is_page" (defArgs s_is_page) (defBody s_is_page) (defScope s_is_page) .none kV_is_page dc_is_page pm_is_page an_is_page cd_is_page ct_is_page), f_need_row, (PySem.W.fnOf "need_row" "need_row" (defArgs s_need_row) (defBody s_need_row) (defScope s_need_row) .none kV_need_row dc_need_row pm_need_row an_need_row cd_need_row ct_need_row), f_need_both, (PySem.W.fnOf "need_both" "need_both" (defArgs s_need_both) (defBody s_need_both) (defScope s_need_both) .none kV_need_both dc_need_both pm_need_both an_need_both cd_need_both ct_need_both), f_Dial_init, (PySem.W.fnOf "__init__" "Dial.__init__" (defArgs s_Dial_init) (defBody s_Dial_init) (defScope s_Dial_init) .none kV_Dial_init dc_Dial_init pm_Dial_init an_Dial_init cd_Dial_init ct_Dial_init), f_Dial_ask, (PySem.W.fnOf "ask" "Dial.ask" (defArgs s_Dial_ask) (defBody s_Dial_ask) (defScope s_Dial_ask) .none kV_Dial_ask dc_Dial_ask pm_Dial_ask an_Dial_ask cd_Dial_ask ct_Dial_ask), f_Dial_pages, (PySem.W.fnOf "pages" "Dial.pages" (defArgs s_Dial_pages) (defBody s_Dial_pages) (defScope s_Dial_pages) .none kV_Dial_pages dc_Dial_pages pm_Dial_pages an_Dial_pages cd_Dial_pages ct_Dial_pages), f_Dial_looked, (PySem.W.fnOf "looked" "Dial.looked" (defArgs s_Dial_looked) (defBody s_Dial_looked) (defScope s_Dial_looked) .none kV_Dial_looked dc_Dial_looked pm_Dial_looked an_Dial_looked cd_Dial_looked ct_Dial_looked), f_Dial_points, (PySem.W.fnOf "points" "Dial.points" (defArgs s_Dial_points) (defBody s_Dial_points) (defScope s_Dial_points) .none kV_Dial_points dc_Dial_points pm_Dial_points an_Dial_points cd_Dial_points ct_Dial_points), f_Dial_lacked, (PySem.W.fnOf "lacked" "Dial.lacked" (defArgs s_Dial_lacked) (defBody s_Dial_lacked) (defScope s_Dial_lacked) .none kV_Dial_lacked dc_Dial_lacked pm_Dial_lacked an_Dial_lacked cd_Dial_lacked ct_Dial_lacked), f_round_told, (PySem.W.fnOf "round_told" "round_told" (defArgs s_round_told) (defBody s_round_told) (defScope s_round_told) .none kV_round_told dc_round_told pm_round_told an_round_told cd_round_told ct_round_told), f_told, (PySem.W.fnOf "told" "told" (defArgs s_told) (defBody s_told) (defScope s_told) .none kV_told dc_told pm_told an_told cd_told ct_told), f_next_ask, (PySem.W.fnOf "next_ask" "next_ask" (defArgs s_next_ask) (defBody s_next_ask) (defScope s_next_ask) .none kV_next_ask dc_next_ask pm_next_ask an_next_ask cd_next_ask ct_next_ask), f_farthest, (PySem.W.fnOf "farthest" "farthest" (defArgs s_farthest) (defBody s_farthest) (defScope s_farthest) .none kV_farthest dc_farthest pm_farthest an_farthest cd_farthest ct_farthest), f_gone_through, (PySem.W.fnOf "gone_through" "gone_through" (defArgs s_gone_through) (defBody s_gone_through) (defScope s_gone_through) .none kV_gone_through dc_gone_through pm_gone_through an_gone_through cd_gone_through ct_gone_through), f_best, (PySem.W.fnOf "best" "best" (defArgs s_best) (defBody s_best) (defScope s_best) .none kV_best dc_best pm_best an_best cd_best ct_best), f_spells_of, (PySem.W.fnOf "spells_of" "spells_of" (defArgs s_spells_of) (defBody s_spells_of) (defScope s_spells_of) .none kV_spells_of dc_spells_of pm_spells_of an_spells_of cd_spells_of ct_spells_of), f_between, (PySem.W.fnOf "between" "between" (defArgs s_between) (defBody s_between) (defScope s_between) .none kV_between dc_between pm_between an_between cd_between ct_between), f_least_paper, (PySem.W.fnOf "least_paper" "least_paper" (defArgs s_least_paper) (defBody s_least_paper) (defScope s_least_paper) .none kV_least_paper dc_least_paper pm_least_paper an_least_paper cd_least_paper ct_least_paper), f_shown_by, (PySem.W.fnOf "shown_by" "shown_by" (defArgs s_shown_by) (defBody s_shown_by) (defScope s_shown_by) .none kV_shown_by dc_shown_by pm_shown_by an_shown_by cd_shown_by ct_shown_by), f_spells, (PySem.W.fnOf "spells" "spells" (defArgs s_spells) (defBody s_spells) (defScope s_spells) .none kV_spells dc_spells pm_spells an_spells cd_spells ct_spells), f_paper, (PySem.W.fnOf "paper" "paper" (defArgs s_paper) (defBody s_paper) (defScope s_paper) .none kV_paper dc_paper pm_paper an_paper cd_paper ct_paper), f_shown, (PySem.W.fnOf "shown" "shown" (defArgs s_shown) (defBody s_shown) (defScope s_shown) .none kV_shown dc_shown pm_shown an_shown cd_shown ct_shown), f_need_rule, (PySem.W.fnOf "need_rule" "need_rule" (defArgs s_need_rule) (defBody s_need_rule) (defScope s_need_rule) .none kV_need_rule dc_need_rule pm_need_rule an_need_rule cd_need_rule ct_need_rule), f_by_row, (PySem.W.fnOf "by_row" "by_row" (defArgs s_by_row) (defBody s_by_row) (defScope s_by_row) .none kV_by_row dc_by_row pm_by_row an_by_row cd_by_row ct_by_row), f_all_lacking, (PySem.W.fnOf "all_lacking" "all_lacking" (defArgs s_all_lacking) (defBody s_all_lacking) (defScope s_all_lacking) .none kV_all_lacking dc_all_lacking pm_all_lacking an_all_lacking cd_all_lacking ct_all_lacking), f_lacking, (PySem.W.fnOf "lacking" "lacking" (defArgs s_lacking) (defBody s_lacking) (defScope s_lacking) .none kV_lacking dc_lacking pm_lacking an_lacking cd_lacking ct_lacking), f_all_stretches, (PySem.W.fnOf "all_stretches" "all_stretches" (defArgs s_all_stretches) (defBody s_all_stretches) (defScope s_all_stretches) .none kV_all_stretches dc_all_stretches pm_all_stretches an_all_stretches cd_all_stretches ct_all_stretches), f_stretches, (PySem.W.fnOf "stretches" "stretches" (defArgs s_stretches) (defBody s_stretches) (defScope s_stretches) .none kV_stretches dc_stretches pm_stretches an_stretches cd_stretches ct_stretches), f_lacking_in, (PySem.W.fnOf "lacking_in" "lacking_in" (defArgs s_lacking_in) (defBody s_lacking_in) (defScope s_lacking_in) .none kV_lacking_in dc_lacking_in pm_lacking_in an_lacking_in cd_lacking_in ct_lacking_in), f_all_rows, (PySem.W.fnOf "all_rows" "all_rows" (defArgs s_all_rows) (defBody s_all_rows) (defScope s_all_rows) .none kV_all_rows dc_all_rows pm_all_rows an_all_rows cd_all_rows ct_all_rows), f_more_of, (PySem.W.fnOf "more_of" "more_of" (defArgs s_more_of) (defBody s_more_of) (defScope s_more_of) .none kV_more_of dc_more_of pm_more_of an_more_of cd_more_of ct_more_of), f_need_size, (PySem.W.fnOf "need_size" "need_size" (defArgs s_need_size) (defBody s_need_size) (defScope s_need_size) .none kV_need_size dc_need_size pm_need_size an_need_size cd_need_size ct_need_size), f_worst, (PySem.W.fnOf "worst" "worst" (defArgs s_worst) (defBody s_worst) (defScope s_worst) .none kV_worst dc_worst pm_worst an_worst cd_worst ct_worst), f_l_begun, (PySem.W.fnOf "_law_begun" "_law_begun" (defArgs s_l_begun) (defBody s_l_begun) (defScope s_l_begun) .none kV_l_begun dc_l_begun pm_l_begun an_l_begun cd_l_begun ct_l_begun), f_l_take, (PySem.W.fnOf "_law_take" "_law_take" (defArgs s_l_take) (defBody s_l_take) (defScope s_l_take) .none kV_l_take dc_l_take pm_l_take an_l_take cd_l_take ct_l_take), f_l_alike, (PySem.W.fnOf "_law_alike" "_law_alike" (defArgs s_l_alike) (defBody s_l_alike) (defScope s_l_alike) .none kV_l_alike dc_l_alike pm_l_alike an_l_alike cd_l_alike ct_l_alike), f_l_class, (PySem.W.fnOf "_law_class" "_law_class" (defArgs s_l_class) (defBody s_l_class) (defScope s_l_class) .none kV_l_class dc_l_class pm_l_class an_l_class cd_l_class ct_l_class), f_l_row, (PySem.W.fnOf "_law_row" "_law_row" (defArgs s_l_row) (defBody s_l_row) (defScope s_l_row) .none kV_l_row dc_l_row pm_l_row an_l_row cd_l_row ct_l_row), f_l_refused, (PySem.W.fnOf "_law_refused" "_law_refused" (defArgs s_l_refused) (defBody s_l_refused) (defScope s_l_refused) .none kV_l_refused dc_l_refused pm_l_refused an_l_refused cd_l_refused ct_l_refused), f_l_all, (PySem.W.fnOf "_law_all" "_law_all" (defArgs s_l_all) (defBody s_l_all) (defScope s_l_all) .none kV_l_all dc_l_all pm_l_all an_l_all cd_l_all ct_l_all), f_l_works, (PySem.W.fnOf "_law_works" "_law_works" (defArgs s_l_works) (defBody s_l_works) (defScope s_l_works) .none kV_l_works dc_l_works pm_l_works an_l_works cd_l_works ct_l_works), fa, (PySem.W.fnOf "law" "law" (defArgs s_l_law) (defBody s_l_law) (defScope s_l_law) .none kV_l_law dc_l_law pm_l_law an_l_law cd_l_law ct_l_law), t_MOST_ROOMS, t_MOST_PAGES, t_MOST_ASKS, t_HAND, t_UNSEEN, A_RULES, t_MOST_ROWS, C_Dial, C_PageError, C_BadRooms, C_BadRow, C_BadRule, C_TooMany⟩ : Ad) := by
    constructor
    · exact F_BadRow_init
    · exact b_BadRow_init
    · exact a_BadRow_init
    · exact ti_BadRow_init
    · exact F_need_rooms
    · exact b_need_rooms
    · exact PySem.W.mg_of X G a_need_rooms
    · exact F_is_page
    · exact b_is_page
    · exact PySem.W.mg_of X G a_is_page
    · exact F_need_row
    · exact b_need_row
    · exact PySem.W.mg_of X G a_need_row
    · exact F_need_both
    · exact b_need_both
    · exact PySem.W.mg_of X G a_need_both
    · exact F_Dial_init
    · exact b_Dial_init
    · exact ⟨mk_Dial, a_Dial_init, i_Dial_init, kc_Dial⟩
    · exact F_Dial_ask
    · exact b_Dial_ask
    · exact ⟨a_Dial_ask, i_Dial_ask, k_Dial_ask⟩
    · exact F_Dial_pages
    · exact b_Dial_pages
    · exact ⟨a_Dial_pages, i_Dial_pages, k_Dial_pages⟩
    · exact F_Dial_looked
    · exact b_Dial_looked
    · exact ⟨a_Dial_looked, i_Dial_looked, k_Dial_looked⟩
    · exact F_Dial_points
    · exact b_Dial_points
    · exact ⟨a_Dial_points, i_Dial_points, k_Dial_points⟩
    · exact F_Dial_lacked
    · exact b_Dial_lacked
    · exact ⟨a_Dial_lacked, i_Dial_lacked, k_Dial_lacked⟩
    · exact F_round_told
    · exact b_round_told
    · exact PySem.W.mg_of X G a_round_told
    · exact F_told
    · exact b_told
    · exact PySem.W.mg_of X G a_told
    · exact F_next_ask
    · exact b_next_ask
    · exact PySem.W.mg_of X G a_next_ask
    · exact F_farthest
    · exact b_farthest
    · exact PySem.W.mg_of X G a_farthest
    · exact F_gone_through
    · exact b_gone_through
    · exact PySem.W.mg_of X G a_gone_through
    · exact F_best
    · exact b_best
    · exact PySem.W.mg_of X G a_best
    · exact F_spells_of
    · exact b_spells_of
    · exact PySem.W.mg_of X G a_spells_of
    · exact F_between
    · exact b_between
    · exact PySem.W.mg_of X G a_between
    · exact F_least_paper
    · exact b_least_paper
    · exact PySem.W.mg_of X G a_least_paper
    · exact F_shown_by
    · exact b_shown_by
    · exact PySem.W.mg_of X G a_shown_by
    · exact F_spells
    · exact b_spells
    · exact PySem.W.mg_of X G a_spells
    · exact F_paper
    · exact b_paper
    · exact PySem.W.mg_of X G a_paper
    · exact F_shown
    · exact b_shown
    · exact PySem.W.mg_of X G a_shown
    · exact F_need_rule
    · exact b_need_rule
    · exact PySem.W.mg_of X G a_need_rule
    · exact F_by_row
    · exact b_by_row
    · exact PySem.W.mg_of X G a_by_row
    · exact F_all_lacking
    · exact b_all_lacking
    · exact PySem.W.mg_of X G a_all_lacking
    · exact F_lacking
    · exact b_lacking
    · exact PySem.W.mg_of X G a_lacking
    · exact F_all_stretches
    · exact b_all_stretches
    · exact PySem.W.mg_of X G a_all_stretches
    · exact F_stretches
    · exact b_stretches
    · exact PySem.W.mg_of X G a_stretches
    · exact F_lacking_in
    · exact b_lacking_in
    · exact PySem.W.mg_of X G a_lacking_in
    · exact F_all_rows
    · exact b_all_rows
    · exact PySem.W.mg_of X G a_all_rows
    · exact F_more_of
    · exact b_more_of
    · exact PySem.W.mg_of X G a_more_of
    · exact F_need_size
    · exact b_need_size
    · exact PySem.W.mg_of X G a_need_size
    · exact F_worst
    · exact b_worst
    · exact PySem.W.mg_of X G a_worst
    · exact F_l_begun
    · exact b_l_begun
    · exact PySem.W.mg_of X G a_l_begun
    · exact F_l_take
    · exact b_l_take
    · exact PySem.W.mg_of X G a_l_take
    · exact F_l_alike
    · exact b_l_alike
    · exact PySem.W.mg_of X G a_l_alike
    · exact F_l_class
    · exact b_l_class
    · exact PySem.W.mg_of X G a_l_class
    · exact F_l_row
    · exact b_l_row
    · exact PySem.W.mg_of X G a_l_row
    · exact F_l_refused
    · exact b_l_refused
    · exact PySem.W.mg_of X G a_l_refused
    · exact F_l_all
    · exact b_l_all
    · exact PySem.W.mg_of X G a_l_all
    · exact F_l_works
    · exact b_l_works
    · exact PySem.W.mg_of X G a_l_works
    · exact F_l_law
    · exact b_l_law
    · exact hfa
    · exact PySem.W.mg_of X G v_MOST_ROOMS
    · exact PySem.W.mg_of X G v_MOST_PAGES
    · exact PySem.W.mg_of X G v_MOST_ASKS
    · exact PySem.W.mg_of X G v_HAND
    · exact PySem.W.mg_of X G v_UNSEEN
    · exact PySem.W.mg_of X G v_RULES
    · exact ⟨_, rfl, fun H => .inr ⟨_, _, _, l_RULES, rfl, rfl, (by show 3 ≤ sizeLine; decide), .cons ⟨_, rfl⟩ (.cons ⟨_, rfl⟩ (.cons ⟨_, rfl⟩ (.nil)))⟩⟩
    · exact PySem.W.mg_of X G v_MOST_ROWS
    · exact ⟨pg_Dial, hd_Dial, po_Dial, sa_Dial⟩
    · exact PySem.W.mg_of X G aC_Dial
    · exact n_Dial_here
    · exact n_Dial_seen
    · exact n_Dial_hand
    · exact n_Dial_lacks
    · exact PySem.W.mg_of X G aC_PageError
    · exact ⟨ex_PageError, hd_PageError, ty_PageError, ic_PageError⟩
    · exact PySem.W.mg_of X G aC_BadRooms
    · exact ⟨⟨ex_BadRooms, hd_BadRooms, ty_BadRooms, ic_BadRooms⟩, ga_BadRooms, gg_BadRooms, ca_BadRooms, cn_BadRooms, ct_BadRooms, mo_BadRooms⟩
    · exact s_BadRooms_PageError
    · exact s_BadRooms_BadRooms
    · exact s_BadRooms_BadRow
    · exact s_BadRooms_BadRule
    · exact s_BadRooms_TooMany
    · exact s_BadRooms_VE
    · exact ⟨⟨_, _, _, _, _, _, _, _, _, _, _, _, _, _, _, xL_BadRooms, by first | rfl | decide +kernel⟩, iB_BadRooms, kp_BadRooms, ex_BadRooms, ty_BadRooms⟩
    · exact PySem.W.mg_of X G aC_BadRow
    · exact ⟨⟨ex_BadRow, hd_BadRow, ty_BadRow, ic_BadRow⟩, ga_BadRow, gg_BadRow, ca_BadRow, cn_BadRow, ct_BadRow, mo_BadRow⟩
    · exact s_BadRow_PageError
    · exact s_BadRow_BadRooms
    · exact s_BadRow_BadRow
    · exact s_BadRow_BadRule
    · exact s_BadRow_TooMany
    · exact s_BadRow_VE
    · exact ⟨⟨_, _, _, _, _, _, _, _, _, _, _, _, _, _, _, xL_BadRow, by first | rfl | decide +kernel⟩, sa_BadRow, ex_BadRow, ty_BadRow, kp_BadRow⟩
    · exact n_BadRow_place
    · exact PySem.W.mg_of X G aC_BadRule
    · exact ⟨⟨ex_BadRule, hd_BadRule, ty_BadRule, ic_BadRule⟩, ga_BadRule, gg_BadRule, ca_BadRule, cn_BadRule, ct_BadRule, mo_BadRule⟩
    · exact s_BadRule_PageError
    · exact s_BadRule_BadRooms
    · exact s_BadRule_BadRow
    · exact s_BadRule_BadRule
    · exact s_BadRule_TooMany
    · exact s_BadRule_VE
    · exact ⟨⟨_, _, _, _, _, _, _, _, _, _, _, _, _, _, _, xL_BadRule, by first | rfl | decide +kernel⟩, iB_BadRule, kp_BadRule, ex_BadRule, ty_BadRule⟩
    · exact PySem.W.mg_of X G aC_TooMany
    · exact ⟨⟨ex_TooMany, hd_TooMany, ty_TooMany, ic_TooMany⟩, ga_TooMany, gg_TooMany, ca_TooMany, cn_TooMany, ct_TooMany, mo_TooMany⟩
    · exact s_TooMany_PageError
    · exact s_TooMany_BadRooms
    · exact s_TooMany_BadRow
    · exact s_TooMany_BadRule
    · exact s_TooMany_TooMany
    · exact s_TooMany_VE
    · exact ⟨⟨_, _, _, _, _, _, _, _, _, _, _, _, _, _, _, xL_TooMany, by first | rfl | decide +kernel⟩, iB_TooMany, kp_TooMany, ex_TooMany, ty_TooMany⟩
    · exact rd_PageError
    · exact sg_PageError
    · exact fc_PageError
    · exact PySem.W.mg_none_of X G z_ValueError
    · exact PySem.W.mg_none_of X G z_len
    · exact PySem.W.mg_none_of X G z_int
    · exact PySem.W.mg_none_of X G z_min
    · exact PySem.W.mg_none_of X G z_list
    · exact PySem.W.mg_none_of X G z_sorted
    · exact PySem.W.mg_none_of X G z_set
    · exact PySem.W.mg_none_of X G z_tuple
    · exact PySem.W.mg_none_of X G z_isinstance
    · exact PySem.W.mg_none_of X G z_range
    · exact PySem.W.mg_none_of X G z_enumerate
    · exact PySem.W.mg_none_of X G z_bool
    · exact PySem.W.mg_none_of X G z_str
  have two : ∀ (Pr : Addr × Addr → Prop), Pr (cW, PW) → Pr (cL, PL) → ∀ p ∈ [(cW, PW), (cL, PL)], Pr p := fun Pr h1 h2 p hp => by
    simp only [List.mem_cons, List.not_mem_nil, or_false] at hp
    rcases hp with rfl | rfl
    · exact h1
    · exact h2
  refine ⟨PySem.W.fnOf "law" "law" (defArgs s_l_law) (defBody s_l_law) (defScope s_l_law) .none kV_l_law dc_l_law pm_l_law an_l_law cd_l_law ct_l_law, [(cW, PW), (cL, PL)], sp_l_law K PW PL, two _ (hT _ mW) (hT _ mL), two _ nW nL, two _ (PySem.W.codeHd_of_K X kcW) (PySem.W.codeHd_of_K X kcL), fun s v => .of_eq rfl, fun H a ns hl _ hH hS => ⟨a, ns, rfl, hS, hl, fun p hp => ?_, fun _ => rfl⟩, fun base _ _ TB => ok_l_law T (TB (cW, PW) (by simp)) (TB (cL, PL) (by simp)) ecW ecL hne⟩
  unfold tabs2 at hp
  simp only [List.mem_cons, List.not_mem_nil, or_false] at hp
  rcases hp with rfl | rfl
  · exact LamX.TabS.nil (hH (cW, PW) (by simp))
  · exact LamX.TabS.nil (hH (cL, PL) (by simp))
end Cw
open PySem PySem.W PyProof.Rows
set_option maxRecDepth 100000 in
set_option maxHeartbeats 0 in
theorem PySem.Challenge.cw_clockhand_k01_refused_holds : PySem.Challenge.rw_clockhand_k01_refused.Holds := by
  w_on; o_law; k_head; (case hw => w_witness2)
  k_fill
  refine Cw.walkT (l := PySem.Challenge.rw_clockhand_k01_refused) (n := 12) ⟨rfl, by decide, by decide⟩ rfl rfl ?F
  case F =>
    intro w mg fa h hT KX G hmg
    refine' Cw.all_mk KX G hmg ?aC_PageError ?aC_BadRooms ?aC_BadRow ?aC_BadRule ?aC_TooMany ?aC_Dial ?a_BadRow_init ?ti_BadRow_init ?l_BadRow_init ?c_BadRow_init ?k_BadRow_init ?a_need_rooms ?l_need_rooms ?c_need_rooms ?k_need_rooms ?a_is_page ?l_is_page ?c_is_page ?k_is_page ?a_need_row ?l_need_row ?c_need_row ?k_need_row ?a_need_both ?l_need_both ?c_need_both ?k_need_both ?a_Dial_init ?i_Dial_init ?l_Dial_init ?c_Dial_init ?k_Dial_init ?a_Dial_ask ?i_Dial_ask ?l_Dial_ask ?c_Dial_ask ?k_Dial_ask ?a_Dial_pages ?i_Dial_pages ?l_Dial_pages ?c_Dial_pages ?k_Dial_pages ?a_Dial_looked ?i_Dial_looked ?l_Dial_looked ?c_Dial_looked ?k_Dial_looked ?a_Dial_points ?i_Dial_points ?l_Dial_points ?c_Dial_points ?k_Dial_points ?a_Dial_lacked ?i_Dial_lacked ?l_Dial_lacked ?c_Dial_lacked ?k_Dial_lacked ?a_round_told ?l_round_told ?c_round_told ?k_round_told ?a_told ?l_told ?c_told ?k_told ?a_next_ask ?l_next_ask ?c_next_ask ?k_next_ask ?a_farthest ?l_farthest ?c_farthest ?k_farthest ?a_gone_through ?l_gone_through ?c_gone_through ?k_gone_through ?a_best ?l_best ?c_best ?k_best ?a_spells_of ?l_spells_of ?c_spells_of ?k_spells_of ?a_between ?l_between ?c_between ?k_between ?a_least_paper ?l_least_paper ?c_least_paper ?k_least_paper ?a_shown_by ?l_shown_by ?c_shown_by ?k_shown_by ?a_spells ?l_spells ?c_spells ?k_spells ?a_paper ?l_paper ?c_paper ?k_paper ?a_shown ?l_shown ?c_shown ?k_shown ?a_need_rule ?l_need_rule ?c_need_rule ?k_need_rule ?a_by_row ?l_by_row ?c_by_row ?k_by_row ?a_all_lacking ?l_all_lacking ?c_all_lacking ?k_all_lacking ?a_lacking ?l_lacking ?c_lacking ?k_lacking ?a_all_stretches ?l_all_stretches ?c_all_stretches ?k_all_stretches ?a_stretches ?l_stretches ?c_stretches ?k_stretches ?a_lacking_in ?l_lacking_in ?c_lacking_in ?k_lacking_in ?a_all_rows ?l_all_rows ?c_all_rows ?k_all_rows ?a_more_of ?l_more_of ?c_more_of ?k_more_of ?a_need_size ?l_need_size ?c_need_size ?k_need_size ?a_worst ?l_worst ?c_worst ?k_worst ?a_l_begun ?l_l_begun ?c_l_begun ?k_l_begun ?a_l_take ?l_l_take ?c_l_take ?k_l_take ?a_l_alike ?l_l_alike ?c_l_alike ?k_l_alike ?a_l_class ?l_l_class ?c_l_class ?k_l_class ?a_l_row ?l_l_row ?c_l_row ?k_l_row ?a_l_refused ?l_l_refused ?c_l_refused ?k_l_refused ?a_l_all ?l_l_all ?c_l_all ?k_l_all ?a_l_works ?l_l_works ?c_l_works ?k_l_works ?a_l_law ?l_l_law ?c_l_law ?k_l_law ?pg_Dial ?hd_Dial ?po_Dial ?sa_Dial ?mk_Dial ?kc_Dial ?n_Dial_here ?n_Dial_seen ?n_Dial_hand ?n_Dial_lacks ?v_MOST_ROOMS ?v_MOST_PAGES ?v_MOST_ASKS ?v_HAND ?v_UNSEEN ?v_RULES ?l_RULES ?v_MOST_ROWS ?ex_PageError ?hd_PageError ?ty_PageError ?ic_PageError ?ex_BadRooms ?hd_BadRooms ?ty_BadRooms ?ic_BadRooms ?ga_BadRooms ?gg_BadRooms ?ca_BadRooms ?cn_BadRooms ?ct_BadRooms ?mo_BadRooms ?s_BadRooms_PageError ?s_BadRooms_BadRooms ?s_BadRooms_BadRow ?s_BadRooms_BadRule ?s_BadRooms_TooMany ?s_BadRooms_VE ?iB_BadRooms ?kp_BadRooms ?xL_BadRooms ?ex_BadRow ?hd_BadRow ?ty_BadRow ?ic_BadRow ?ga_BadRow ?gg_BadRow ?ca_BadRow ?cn_BadRow ?ct_BadRow ?mo_BadRow ?s_BadRow_PageError ?s_BadRow_BadRooms ?s_BadRow_BadRow ?s_BadRow_BadRule ?s_BadRow_TooMany ?s_BadRow_VE ?sa_BadRow ?kp_BadRow ?xL_BadRow ?n_BadRow_place ?ex_BadRule ?hd_BadRule ?ty_BadRule ?ic_BadRule ?ga_BadRule ?gg_BadRule ?ca_BadRule ?cn_BadRule ?ct_BadRule ?mo_BadRule ?s_BadRule_PageError ?s_BadRule_BadRooms ?s_BadRule_BadRow ?s_BadRule_BadRule ?s_BadRule_TooMany ?s_BadRule_VE ?iB_BadRule ?kp_BadRule ?xL_BadRule ?ex_TooMany ?hd_TooMany ?ty_TooMany ?ic_TooMany ?ga_TooMany ?gg_TooMany ?ca_TooMany ?cn_TooMany ?ct_TooMany ?mo_TooMany ?s_TooMany_PageError ?s_TooMany_BadRooms ?s_TooMany_BadRow ?s_TooMany_BadRule ?s_TooMany_TooMany ?s_TooMany_VE ?iB_TooMany ?kp_TooMany ?xL_TooMany ?rd_PageError ?sg_PageError ?fc_PageError ?z_ValueError ?z_len ?z_int ?z_min ?z_list ?z_sorted ?z_set ?z_tuple ?z_isinstance ?z_range ?z_enumerate ?z_bool ?z_str hT ?ecW ?ecL ?lkW ?lkL ?vW ?vL ?kcW ?kcL ?nW ?nL ?mW ?mL ?hne
    (case aC_PageError => k_is)
    (case aC_BadRooms => k_is)
    (case aC_BadRow => k_is)
    (case aC_BadRule => k_is)
    (case aC_TooMany => k_is)
    (case aC_Dial => k_is)
    (case a_BadRow_init => k_is)
    (case ti_BadRow_init => k_is)
    (case l_BadRow_init => k_is)
    (case c_BadRow_init => k_is)
    (case k_BadRow_init => k_is)
    (case a_need_rooms => k_is)
    (case l_need_rooms => k_is)
    (case c_need_rooms => k_is)
    (case k_need_rooms => k_is)
    (case a_is_page => k_is)
    (case l_is_page => k_is)
    (case c_is_page => k_is)
    (case k_is_page => k_is)
    (case a_need_row => k_is)
    (case l_need_row => k_is)
    (case c_need_row => k_is)
    (case k_need_row => k_is)
    (case a_need_both => k_is)
    (case l_need_both => k_is)
    (case c_need_both => k_is)
    (case k_need_both => k_is)
    (case a_Dial_init => k_is)
    (case i_Dial_init => k_is)
    (case l_Dial_init => k_is)
    (case c_Dial_init => k_is)
    (case k_Dial_init => k_is)
    (case a_Dial_ask => k_is)
    (case i_Dial_ask => k_is)
    (case l_Dial_ask => k_is)
    (case c_Dial_ask => k_is)
    (case k_Dial_ask => k_is)
    (case a_Dial_pages => k_is)
    (case i_Dial_pages => k_is)
    (case l_Dial_pages => k_is)
    (case c_Dial_pages => k_is)
    (case k_Dial_pages => k_is)
    (case a_Dial_looked => k_is)
    (case i_Dial_looked => k_is)
    (case l_Dial_looked => k_is)
    (case c_Dial_looked => k_is)
    (case k_Dial_looked => k_is)
    (case a_Dial_points => k_is)
    (case i_Dial_points => k_is)
    (case l_Dial_points => k_is)
    (case c_Dial_points => k_is)
    (case k_Dial_points => k_is)
    (case a_Dial_lacked => k_is)
    (case i_Dial_lacked => k_is)
    (case l_Dial_lacked => k_is)
    (case c_Dial_lacked => k_is)
    (case k_Dial_lacked => k_is)
    (case a_round_told => k_is)
    (case l_round_told => k_is)
    (case c_round_told => k_is)
    (case k_round_told => k_is)
    (case a_told => k_is)
    (case l_told => k_is)
    (case c_told => k_is)
    (case k_told => k_is)
    (case a_next_ask => k_is)
    (case l_next_ask => k_is)
    (case c_next_ask => k_is)
    (case k_next_ask => k_is)
    (case a_farthest => k_is)
    (case l_farthest => k_is)
    (case c_farthest => k_is)
    (case k_farthest => k_is)
    (case a_gone_through => k_is)
    (case l_gone_through => k_is)
    (case c_gone_through => k_is)
    (case k_gone_through => k_is)
    (case a_best => k_is)
    (case l_best => k_is)
    (case c_best => k_is)
    (case k_best => k_is)
    (case a_spells_of => k_is)
    (case l_spells_of => k_is)
    (case c_spells_of => k_is)
    (case k_spells_of => k_is)
    (case a_between => k_is)
    (case l_between => k_is)
    (case c_between => k_is)
    (case k_between => k_is)
    (case a_least_paper => k_is)
    (case l_least_paper => k_is)
    (case c_least_paper => k_is)
    (case k_least_paper => k_is)
    (case a_shown_by => k_is)
    (case l_shown_by => k_is)
    (case c_shown_by => k_is)
    (case k_shown_by => k_is)
    (case a_spells => k_is)
    (case l_spells => k_is)
    (case c_spells => k_is)
    (case k_spells => k_is)
    (case a_paper => k_is)
    (case l_paper => k_is)
    (case c_paper => k_is)
    (case k_paper => k_is)
    (case a_shown => k_is)
    (case l_shown => k_is)
    (case c_shown => k_is)
    (case k_shown => k_is)
    (case a_need_rule => k_is)
    (case l_need_rule => k_is)
    (case c_need_rule => k_is)
    (case k_need_rule => k_is)
    (case a_by_row => k_is)
    (case l_by_row => k_is)
    (case c_by_row => k_is)
    (case k_by_row => k_is)
    (case a_all_lacking => k_is)
    (case l_all_lacking => k_is)
    (case c_all_lacking => k_is)
    (case k_all_lacking => k_is)
    (case a_lacking => k_is)
    (case l_lacking => k_is)
    (case c_lacking => k_is)
    (case k_lacking => k_is)
    (case a_all_stretches => k_is)
    (case l_all_stretches => k_is)
    (case c_all_stretches => k_is)
    (case k_all_stretches => k_is)
    (case a_stretches => k_is)
    (case l_stretches => k_is)
    (case c_stretches => k_is)
    (case k_stretches => k_is)
    (case a_lacking_in => k_is)
    (case l_lacking_in => k_is)
    (case c_lacking_in => k_is)
    (case k_lacking_in => k_is)
    (case a_all_rows => k_is)
    (case l_all_rows => k_is)
    (case c_all_rows => k_is)
    (case k_all_rows => k_is)
    (case a_more_of => k_is)
    (case l_more_of => k_is)
    (case c_more_of => k_is)
    (case k_more_of => k_is)
    (case a_need_size => k_is)
    (case l_need_size => k_is)
    (case c_need_size => k_is)
    (case k_need_size => k_is)
    (case a_worst => k_is)
    (case l_worst => k_is)
    (case c_worst => k_is)
    (case k_worst => k_is)
    (case a_l_begun => k_is)
    (case l_l_begun => k_is)
    (case c_l_begun => k_is)
    (case k_l_begun => k_is)
    (case a_l_take => k_is)
    (case l_l_take => k_is)
    (case c_l_take => k_is)
    (case k_l_take => k_is)
    (case a_l_alike => k_is)
    (case l_l_alike => k_is)
    (case c_l_alike => k_is)
    (case k_l_alike => k_is)
    (case a_l_class => k_is)
    (case l_l_class => k_is)
    (case c_l_class => k_is)
    (case k_l_class => k_is)
    (case a_l_row => k_is)
    (case l_l_row => k_is)
    (case c_l_row => k_is)
    (case k_l_row => k_is)
    (case a_l_refused => k_is)
    (case l_l_refused => k_is)
    (case c_l_refused => k_is)
    (case k_l_refused => k_is)
    (case a_l_all => k_is)
    (case l_l_all => k_is)
    (case c_l_all => k_is)
    (case k_l_all => k_is)
    (case a_l_works => k_is)
    (case l_l_works => k_is)
    (case c_l_works => k_is)
    (case k_l_works => k_is)
    (case a_l_law => k_is)
    (case l_l_law => k_is)
    (case c_l_law => k_is)
    (case k_l_law => k_is)
    (case pg_Dial => k_is)
    (case hd_Dial => k_is)
    (case po_Dial => k_is)
    (case sa_Dial => k_is)
    (case mk_Dial => k_is)
    (case kc_Dial => k_is)
    (case n_Dial_here => k_is)
    (case n_Dial_seen => k_is)
    (case n_Dial_hand => k_is)
    (case n_Dial_lacks => k_is)
    (case v_MOST_ROOMS => k_is)
    (case v_MOST_PAGES => k_is)
    (case v_MOST_ASKS => k_is)
    (case v_HAND => k_is)
    (case v_UNSEEN => k_is)
    (case v_RULES => k_is)
    (case l_RULES => k_is)
    (case v_MOST_ROWS => k_is)
    (case ex_PageError => k_is)
    (case hd_PageError => k_is)
    (case ty_PageError => k_is)
    (case ic_PageError => k_is)
    (case ex_BadRooms => k_is)
    (case hd_BadRooms => k_is)
    (case ty_BadRooms => k_is)
    (case ic_BadRooms => k_is)
    (case ga_BadRooms => k_is)
    (case gg_BadRooms => k_is)
    (case ca_BadRooms => k_is)
    (case cn_BadRooms => k_is)
    (case ct_BadRooms => k_is)
    (case mo_BadRooms => k_is)
    (case s_BadRooms_PageError => k_is)
    (case s_BadRooms_BadRooms => k_is)
    (case s_BadRooms_BadRow => k_is)
    (case s_BadRooms_BadRule => k_is)
    (case s_BadRooms_TooMany => k_is)
    (case s_BadRooms_VE => k_is)
    (case iB_BadRooms => k_is)
    (case kp_BadRooms => k_is)
    (case xL_BadRooms => k_is)
    (case ex_BadRow => k_is)
    (case hd_BadRow => k_is)
    (case ty_BadRow => k_is)
    (case ic_BadRow => k_is)
    (case ga_BadRow => k_is)
    (case gg_BadRow => k_is)
    (case ca_BadRow => k_is)
    (case cn_BadRow => k_is)
    (case ct_BadRow => k_is)
    (case mo_BadRow => k_is)
    (case s_BadRow_PageError => k_is)
    (case s_BadRow_BadRooms => k_is)
    (case s_BadRow_BadRow => k_is)
    (case s_BadRow_BadRule => k_is)
    (case s_BadRow_TooMany => k_is)
    (case s_BadRow_VE => k_is)
    (case sa_BadRow => k_is)
    (case kp_BadRow => k_is)
    (case xL_BadRow => k_is)
    (case n_BadRow_place => k_is)
    (case ex_BadRule => k_is)
    (case hd_BadRule => k_is)
    (case ty_BadRule => k_is)
    (case ic_BadRule => k_is)
    (case ga_BadRule => k_is)
    (case gg_BadRule => k_is)
    (case ca_BadRule => k_is)
    (case cn_BadRule => k_is)
    (case ct_BadRule => k_is)
    (case mo_BadRule => k_is)
    (case s_BadRule_PageError => k_is)
    (case s_BadRule_BadRooms => k_is)
    (case s_BadRule_BadRow => k_is)
    (case s_BadRule_BadRule => k_is)
    (case s_BadRule_TooMany => k_is)
    (case s_BadRule_VE => k_is)
    (case iB_BadRule => k_is)
    (case kp_BadRule => k_is)
    (case xL_BadRule => k_is)
    (case ex_TooMany => k_is)
    (case hd_TooMany => k_is)
    (case ty_TooMany => k_is)
    (case ic_TooMany => k_is)
    (case ga_TooMany => k_is)
    (case gg_TooMany => k_is)
    (case ca_TooMany => k_is)
    (case cn_TooMany => k_is)
    (case ct_TooMany => k_is)
    (case mo_TooMany => k_is)
    (case s_TooMany_PageError => k_is)
    (case s_TooMany_BadRooms => k_is)
    (case s_TooMany_BadRow => k_is)
    (case s_TooMany_BadRule => k_is)
    (case s_TooMany_TooMany => k_is)
    (case s_TooMany_VE => k_is)
    (case iB_TooMany => k_is)
    (case kp_TooMany => k_is)
    (case xL_TooMany => k_is)
    (case rd_PageError => k_is)
    (case sg_PageError => k_is)
    (case fc_PageError => k_is)
    (case z_ValueError => k_is)
    (case z_len => k_is)
    (case z_int => k_is)
    (case z_min => k_is)
    (case z_list => k_is)
    (case z_sorted => k_is)
    (case z_set => k_is)
    (case z_tuple => k_is)
    (case z_isinstance => k_is)
    (case z_range => k_is)
    (case z_enumerate => k_is)
    (case z_bool => k_is)
    (case z_str => k_is)
    (case ecW => exact rfl)
    (case ecL => exact rfl)
    (case lkW => k_is)
    (case lkL => k_is)
    (case vW => exact rfl)
    (case vL => exact rfl)
    (case kcW => kernel_rfl)
    (case kcL => kernel_rfl)
    (case nW => kernel_rfl)
    (case nL => kernel_rfl)
    (case mW => decide)
    (case mL => decide)
    (case hne => decide)
#print axioms PySem.Challenge.cw_clockhand_k01_refused_holds

