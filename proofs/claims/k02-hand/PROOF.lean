import PyProof.Rows.All
import Wide.All
import OpenK.AllK
import Wide.FinOn
import HandS.ForMost
import HandS.IsInst
import HandS.Steps
import HandS.Codes
import HandS.SetFor
import HandS.Zip
import KE.DatumOrd
import PyProof.SeqIndex
import HandS.Deep
import HandS.Set
import HandS.Strs
import PyProof.Rows.SortShellAny
import HandS.Conv
import HandS.TupAny
import KE.KDictDisplayH
import KE.KExcIs
import HandS.ExcInit
import HandS.ExcOwn
import HandS.ExcField
import HandS.HotCalls
import HandS.WordsExc
import HandS.ExcIs
import PySem.Challenge.RW_clockhand_k02_the_hand
set_option Elab.async false
set_option linter.all false
set_option maxRecDepth 100000
set_option maxHeartbeats 4000000

namespace Cw
open PySem L2
/-! heaps -/
def Fr (W : List Addr) (H H' : Hp) : Prop := (∀ b o, H b = some o → b ∉ W → H' b = some o) ∧ ∀ b, H' b = none → H b = none
theorem Fr.refl {W : List Addr} {H : Hp} : Fr W H H := ⟨fun _ _ h _ => h, fun _ h => h⟩
theorem Fr.get {W : List Addr} {H H' : Hp} {b : Addr} {o : HO} (a : Fr W H H') (h : H b = some o) (hw : b ∉ W) : H' b = some o := a.1 b o h hw
theorem Fr.get0 {H H' : Hp} {b : Addr} {o : HO} (a : Fr [] H H') (h : H b = some o) : H' b = some o := a.1 b o h (by simp)
theorem Fr.free {W : List Addr} {H H' : Hp} {b : Addr} (a : Fr W H H') (h : H' b = none) : H b = none := a.2 b h
theorem Fr.comp {W W1 : List Addr} {H H1 H2 : Hp} (a : Fr W H H1) (b : Fr W1 H1 H2) (h : ∀ p ∈ W1, p ∈ W ∨ H p = none) : Fr W H H2 :=
  ⟨fun c o e hc => b.1 c o (a.1 c o e hc) (fun m => (h c m).elim hc fun n => by rw [n] at e; cases e), fun c e => a.2 c (b.2 c e)⟩
theorem Fr.trans {W : List Addr} {H H1 H2 : Hp} (a : Fr W H H1) (b : Fr W H1 H2) : Fr W H H2 := a.comp b fun p m => .inl m
theorem Fr.more {W : List Addr} {H H1 H2 : Hp} (a : Fr W H H1) (b : Fr [] H1 H2) : Fr W H H2 := a.comp b fun p m => absurd m (by simp)
theorem Fr.mono {W W' : List Addr} {H H' : Hp} (a : Fr W H H') (h : ∀ p ∈ W, p ∈ W') : Fr W' H H' := ⟨fun b o e hb => a.1 b o e fun m => hb (h b m), a.2⟩
theorem Fr.of0 {W : List Addr} {H H' : Hp} (a : Fr [] H H') : Fr W H H' := a.mono fun p m => absurd m (by simp)
theorem upd_none {H : Hp} {p b : Addr} {o : HO} (h : upd H p o b = none) : H b = none := by
  unfold upd at h
  split at h
  · cases h
  · exact h
theorem Fr.new {W : List Addr} {H : Hp} {p : Addr} {o : HO} (hp : H p = none) : Fr W H (upd H p o) :=
  ⟨fun b u e _ => by rw [upd_ne (ne_of_none e hp)]; exact e, fun b e => upd_none e⟩
theorem Fr.at {W : List Addr} {H : Hp} {p : Addr} {o : HO} (hp : p ∈ W) : Fr W H (upd H p o) :=
  ⟨fun b u e hb => by
    rw [upd_ne (fun z => hb (by rw [z]; exact hp))]
    exact e, fun b e => upd_none e⟩
/-- an object that is new beside H is changed -/
theorem Fr.loc {W : List Addr} {H0 H : Hp} {p : Addr} {o : HO} (a : Fr W H0 H) (n : H0 p = none) : Fr W H0 (upd H p o) :=
  a.comp (Fr.at (W := [p]) (List.mem_singleton.mpr rfl)) fun q m => .inr (by rw [List.mem_singleton.mp m]; exact n)
theorem Fr.seqL {K : PySem.W.Frag} {H H' : Hp} {a : Addr} {xs : List V} (e : Fr [] H H') (h : SqL K H a xs) : SqL K H' a xs := by
  rcases h with (h | ⟨o, h⟩) | h
  · exact .inl (.inl (e.get0 h))
  · exact .inl (.inr ⟨o, e.get0 h⟩)
  · exact .inr h
theorem Fr.seqT {K : PySem.W.Frag} {H H' : Hp} {a : Addr} {xs : List V} (e : Fr [] H H') (h : SqT K H a xs) : SqT K H' a xs := by
  rcases h with (h | ⟨o, h⟩) | h
  · exact .inl (.inl (e.get0 h))
  · exact .inl (.inr ⟨o, e.get0 h⟩)
  · exact .inr h
/-! a statement's heap, made a letter -/
theorem genS {F : Hp → Prop} {H : Hp} {p : Addr} {o : HO} (hp : H p = none) (h : ∀ H2, Fr [] H H2 → H2 p = some o → F H2) : F (upd H p o) := h _ (Fr.new hp) upd_same
theorem genM {F : Hp → Prop} {H : Hp} {p : Addr} {o : HO} (h : ∀ H2, Fr [p] H H2 → H2 p = some o → F H2) : F (upd H p o) := h _ (Fr.at (List.mem_singleton.mpr rfl)) upd_same
theorem at_ne {H : Hp} {p b : Addr} {o u : HO} (hb : b ≠ p) (h : H b = some u) : upd H p o b = some u := (upd_ne hb).trans h
theorem ne_n {H : Hp} {a b : Addr} {o : HO} (h' : H b = none) (h : H a = some o) : a ≠ b := ne_of_none h h'
theorem ne_n' {H : Hp} {a b : Addr} {o : HO} (h' : H b = none) (h : H a = some o) : b ≠ a := fun e => ne_of_none h h' e.symm
theorem ne_s {a b : Addr} (h : a ≠ b) : b ≠ a := fun e => h e.symm

/-! steps -/
section
variable {σ : L2.St} {H : Hp} {Q : VK} {i : Nat} {v x y : V} {ta tb tc te tx : TE} {K : PySem.W.Frag} {nx : L2.St → Hp → Prop} {rt : VK} {bk ct : L2.St → Hp → Prop} {t u : TS} {c d : TT} {QB : Bool → Hp → Prop}
theorem w_var (h : σ[i]? = some (some v)) (q : Q v H) : tVar i σ H Q := ⟨v, h, q⟩
theorem w_c (q : Q v H) : tC v σ H Q := q
theorem w_op {r : R2} (h : ta σ H fun x H1 => tb σ H1 fun y H2 => r x y H2 Q) : tOp r ta tb σ H Q := h
theorem w_un {r : V → Hp → VK → Prop} (h : ta σ H fun x H1 => r x H1 Q) : tUn r ta σ H Q := h
theorem w_cb {r : List V → Hp → VK → Prop} {tt : TA} (h : tt σ H fun vs H1 => r vs H1 Q) : tCB r tt σ H Q := h
theorem w_nil {QA : List V → Hp → Prop} (h : QA [] H) : tNil σ H QA := h
theorem w_cons {QA : List V → Hp → Prop} {tr : TA} (h : ta σ H fun x H1 => tr σ H1 fun xs H2 => QA (x :: xs) H2) : tCons ta tr σ H QA := h
theorem w_I0 {g : Int → Int → V} {i j : Int} (h : Q (g i j) H) : rI0 g (.int i) (.int j) H Q := ⟨i, j, rfl, rfl, h⟩
theorem w_I {C : Int → Int → Prop} {g : Int → Int → V} {i j : Int} (hc : C i j) (h : Q (g i j) H) : rI C g (.int i) (.int j) H Q := ⟨i, j, rfl, rfl, hc, h⟩
theorem w_U {g : Int → V} {i : Int} (h : Q (g i) H) : rU g (.int i) H Q := ⟨i, rfl, h⟩
theorem w_eqI {i j : Int} (h : Q (.bl (decide (i = j))) H) : rEq (.int i) (.int j) H Q := ⟨rfl, by
  have e : decide (V.int i = V.int j) = decide (i = j) := by simp
  rw [e]; exact h⟩
theorem w_neI {i j : Int} (h : Q (.bl (!decide (i = j))) H) : rNe (.int i) (.int j) H Q := ⟨rfl, by
  have e : decide (V.int i = V.int j) = decide (i = j) := by simp
  rw [e]; exact h⟩
theorem w_eqS {i j : Str} (h : Q (.bl (decide (i = j))) H) : rEq (.str i) (.str j) H Q := ⟨rfl, by
  have e : decide (V.str i = V.str j) = decide (i = j) := by simp
  rw [e]; exact h⟩
theorem w_eqB {i j : Bool} (h : Q (.bl (decide (i = j))) H) : rEq (.bl i) (.bl j) H Q := ⟨rfl, by
  have e : decide (V.bl i = V.bl j) = decide (i = j) := by simp
  rw [e]; exact h⟩
theorem w_neB {i j : Bool} (h : Q (.bl (!decide (i = j))) H) : rNe (.bl i) (.bl j) H Q := ⟨rfl, by
  have e : decide (V.bl i = V.bl j) = decide (i = j) := by simp
  rw [e]; exact h⟩
theorem w_ixL {p : Addr} {xs : List V} {i : Int} (h : SqL K H p xs) (ha : atI xs i = some v) (q : Q v H) : rIxL K (.ref p) (.int i) H Q := ⟨p, xs, i, v, rfl, rfl, h, ha, q⟩
theorem w_ixT {p : Addr} {xs : List V} {i : Int} (h : SqT K H p xs) (ha : atI xs i = some v) (q : Q v H) : rIxT K (.ref p) (.int i) H Q := ⟨p, xs, i, v, rfl, rfl, h, ha, q⟩
theorem w_test (h : te σ H fun x H' => ∃ k, x = .bl k ∧ QB k H') : tTest te σ H QB := h
theorem w_B (h : te σ H fun x H' => ∃ k, x = .bl k ∧ QB k H') : tB te σ H QB := h
theorem w_isbl {b : Bool} {PB : Bool → Prop} (h : PB b) : ∃ k, V.bl b = .bl k ∧ PB k := ⟨b, rfl, h⟩
theorem w_and (h : c σ H fun b H1 => if b = true then d σ H1 QB else QB false H1) : tAnd c d σ H QB := h
theorem w_or (h : c σ H fun b H1 => if b = true then QB true H1 else d σ H1 QB) : tOr c d σ H QB := h
theorem w_not (h : c σ H fun b H1 => QB (!b) H1) : tNot c σ H QB := h
theorem w_notV (h : ta σ H fun x H1 => ∃ c, x = .bl c ∧ Q (.bl (!c)) H1) : tNotV ta σ H Q := h
theorem w_andV (h : ta σ H fun x H1 => ∃ c, x = .bl c ∧ if c = true then tb σ H1 Q else Q (.bl false) H1) : tAndV ta tb σ H Q := h
theorem w_orV (h : ta σ H fun x H1 => ∃ c, x = .bl c ∧ if c = true then Q (.bl true) H1 else tb σ H1 Q) : tOrV ta tb σ H Q := h
theorem w_if (h : c σ H fun b H1 => if b = true then ta σ H1 Q else tb σ H1 Q) : tIf c ta tb σ H Q := h
theorem w_isN (h : Q (.bl (decide (x = .non))) H) : rIsN x .non H Q := ⟨rfl, h⟩
theorem w_notN (h : Q (.bl (!decide (x = .non))) H) : rNotN x .non H Q := ⟨rfl, h⟩
theorem w_lst {tt : TA} (h : tt σ H fun xs H1 => xs.length ≤ sizeLine ∧ ∀ p, H1 p = none → Q (.ref p) (upd H1 p (.lst xs))) : tLst tt σ H Q := h
theorem w_tup {tt : TA} (h : tt σ H fun xs H1 => xs.length ≤ sizeLine ∧ ∀ p, H1 p = none → Q (.ref p) (upd H1 p (.tup xs))) : tTup tt σ H Q := h
theorem w_chain {r r' : R2} (h : ta σ H fun x H1 => tb σ H1 fun y H2 => r x y H2 fun z H3 => ∃ k, z = .bl k ∧ if k = true then tc σ H3 fun w H4 => r' y w H4 Q else Q (.bl false) H3) : tChain r r' ta tb tc σ H Q := h
theorem w_len {p : Addr} {xs : List V} (h : SqL K H p xs ∨ SqT K H p xs) (q : Q (.int xs.length) H) : (fun (vs : List V) (H : Hp) (Q : VK) => ∃ p ys, vs = [.ref p] ∧ (SqL K H p ys ∨ SqT K H p ys) ∧ Q (.int ys.length) H) [.ref p] H Q := ⟨p, xs, rfl, h, q⟩
theorem w_call {sp : Sp} {dvs : List V} {E : XK} {tt : TA} (h : tt σ H fun vs H1 => sp (vs ++ dvs) H1 Q E) : tCall sp dvs E tt σ H Q := h
theorem w_call0 {sp : Sp} {E : XK} {tt : TA} (h : tt σ H fun vs H1 => sp (vs ++ []) H1 Q E) : tCall sp [] E tt σ H Q := h
/-! statements -/
theorem w_seq (h : t ⟨u ⟨nx, rt, bk, ct⟩, rt, bk, ct⟩ σ H) : tSeq t u ⟨nx, rt, bk, ct⟩ σ H := h
theorem w_cut (Mid : L2.St → Hp → Prop) (h1 : t ⟨Mid, rt, bk, ct⟩ σ H) (h2 : ∀ σ H, Mid σ H → u ⟨nx, rt, bk, ct⟩ σ H) : C8.tCut t u ⟨nx, rt, bk, ct⟩ σ H := ⟨Mid, h1, h2⟩
theorem w_next (h : nx σ H) : tNext ⟨nx, rt, bk, ct⟩ σ H := h
theorem w_brk (h : bk σ H) : tBreak ⟨nx, rt, bk, ct⟩ σ H := h
theorem w_cont (h : ct σ H) : tCont ⟨nx, rt, bk, ct⟩ σ H := h
theorem w_asg {g : TG} (h : te σ H fun x H1 => g x σ H1 nx) : tAsg te g ⟨nx, rt, bk, ct⟩ σ H := h
theorem w_gn {N : L2.St → Hp → Prop} (h : N (σ.set i (some v)) H) : gName i v σ H N := h
theorem w_drop (h : te σ H fun _ H1 => nx σ H1) : tDrop te ⟨nx, rt, bk, ct⟩ σ H := h
theorem w_ret (h : te σ H rt) : tRet te ⟨nx, rt, bk, ct⟩ σ H := h
theorem w_ifS (h : c σ H fun b H1 => if b = true then t ⟨nx, rt, bk, ct⟩ σ H1 else u ⟨nx, rt, bk, ct⟩ σ H1) : tIfS c t u ⟨nx, rt, bk, ct⟩ σ H := h
theorem w_sub {to ti : TE} {ts : TSet} {N : L2.St → Hp → Prop} (h : to σ H fun o H1 => ti σ H1 fun i H2 => ts o i v H2 fun H3 => N σ H3) : gSub to ti ts v σ H N := h
theorem ite_d {p : Prop} {inst : Decidable p} {A B : Prop} (h1 : p → A) (h2 : ¬ p → B) : if decide p = true then A else B := by
  by_cases h : p
  · rw [if_pos (decide_eq_true h)]; exact h1 h
  · rw [if_neg (by simp [h])]; exact h2 h
theorem ite_nd {p : Prop} {inst : Decidable p} {A B : Prop} (h1 : ¬ p → A) (h2 : p → B) : if (!decide p) = true then A else B := by
  by_cases h : p
  · rw [if_neg (by simp [h])]; exact h2 h
  · rw [if_pos (by simp [h])]; exact h1 h
theorem ite_b {b : Bool} {A B : Prop} (h1 : b = true → A) (h2 : b = false → B) : if b = true then A else B := by
  cases b
  · exact h2 rfl
  · exact h1 rfl
theorem w_iList {tl : TE} {R : It → Hp → Prop} (h : tl σ H fun x H1 => ∃ a, x = V.ref a ∧ (∃ xs, SqL K H1 a xs) ∧ R (Itl K a) H1) : iList K tl σ H R := h
theorem f_list {g : TG} {tb : TS} {a : Addr} (xs : List V) (Pv : Nat → L2.St → Hp → Prop) (h0 : Pv 0 σ H) (hl : ∀ i σ H, i ≤ xs.length → Pv i σ H → SqL K H a xs)
    (hs : ∀ i x σ H, xs[i]? = some x → Pv i σ H → g x σ H fun σ2 H2 => tb ⟨Pv (i + 1), rt, nx, Pv (i + 1)⟩ σ2 H2) (hd : ∀ σ H, Pv xs.length σ H → nx σ H) :
    ∃ b, V.ref a = V.ref b ∧ (∃ xs, SqL K H b xs) ∧ ∃ W : Nat → Nat → L2.St → Hp → Prop, (∃ m, W 0 m σ H) ∧ ∀ i m σ H, W i m σ H →
      ((Itl K b).stop i H ∧ nx σ H) ∨ ((Itl K b).go i H ∧ ∃ N : L2.St → Hp → Prop, (∀ σ' H', N σ' H' → ∃ m', m' < m ∧ W (i + 1) m' σ' H') ∧ ∀ x H', (Itl K b).yld i H x H' → g x σ H' fun σ2 H2 => tb ⟨N, rt, nx, N⟩ σ2 H2) :=
  ⟨a, rfl, ⟨xs, hl 0 σ H (Nat.zero_le _) h0⟩, for_list (D := ⟨nx, rt, fun _ _ => False, fun _ _ => False⟩) (K := K) (a := a) (xs := xs) Pv h0 hl hs hd⟩
theorem w_iRng1 {tt : TA} {R : It → Hp → Prop} (h : tt σ H fun vs H1 => ∃ j : Int, vs = [.int j] ∧ -(2 ^ 62) ≤ j ∧ j < 2 ^ 62 ∧ R (Itr 0 j.toNat) H1) : iRng1 tt σ H R := h
theorem w_iRng2 {tt : TA} {R : It → Hp → Prop} (h : tt σ H fun vs H1 => ∃ i j : Int, vs = [.int i, .int j] ∧ (-(2 ^ 62) ≤ i ∧ i < 2 ^ 62 ∧ -(2 ^ 62) ≤ j ∧ j < 2 ^ 62) ∧ R (Itr i (j - i).toNat) H1) : iRng2 tt σ H R := h
/-- for over range(n) -/
theorem f_rng1 {g : TG} {tb : TS} {j : Int} (hj : j < 2 ^ 62) (h0' : 0 ≤ j) (Pv : Nat → L2.St → Hp → Prop) (h0 : Pv 0 σ H)
    (hs : ∀ (i : Nat) σ H, (i : Int) < j → Pv i σ H → g (.int (i : Int)) σ H fun σ2 H2 => tb ⟨Pv (i + 1), rt, nx, Pv (i + 1)⟩ σ2 H2) (hd : ∀ σ H, Pv j.toNat σ H → nx σ H) :
    ∃ k : Int, [V.int j] = [V.int k] ∧ -(2 ^ 62) ≤ k ∧ k < 2 ^ 62 ∧ ∃ W : Nat → Nat → L2.St → Hp → Prop, (∃ m, W 0 m σ H) ∧ ∀ i m σ H, W i m σ H →
      ((Itr 0 k.toNat).stop i H ∧ nx σ H) ∨ ((Itr 0 k.toNat).go i H ∧ ∃ N : L2.St → Hp → Prop, (∀ σ' H', N σ' H' → ∃ m', m' < m ∧ W (i + 1) m' σ' H') ∧ ∀ x H', (Itr 0 k.toNat).yld i H x H' → g x σ H' fun σ2 H2 => tb ⟨N, rt, nx, N⟩ σ2 H2) := by
  refine ⟨j, rfl, by omega, hj, for_range (D := ⟨nx, rt, fun _ _ => False, fun _ _ => False⟩) (lo := 0) (n := j.toNat) Pv h0 (fun i σ H hi p => ?_) hd⟩
  have e : (0 : Int) + (i : Int) = (i : Int) := Int.zero_add _
  rw [e]
  exact hs i σ H (by omega) p
theorem f_rng2 {g : TG} {tb : TS} {lo hi : Int} (h1 : -(2 ^ 62) ≤ lo) (h2 : lo < 2 ^ 62) (h3 : -(2 ^ 62) ≤ hi) (h4 : hi < 2 ^ 62) (Pv : Nat → L2.St → Hp → Prop) (h0 : Pv 0 σ H)
    (hs : ∀ (i : Nat) σ H, lo + (i : Int) < hi → Pv i σ H → g (.int (lo + (i : Int))) σ H fun σ2 H2 => tb ⟨Pv (i + 1), rt, nx, Pv (i + 1)⟩ σ2 H2) (hd : ∀ σ H, Pv (hi - lo).toNat σ H → nx σ H) :
    ∃ i j : Int, [V.int lo, V.int hi] = [.int i, .int j] ∧ (-(2 ^ 62) ≤ i ∧ i < 2 ^ 62 ∧ -(2 ^ 62) ≤ j ∧ j < 2 ^ 62) ∧ ∃ W : Nat → Nat → L2.St → Hp → Prop, (∃ m, W 0 m σ H) ∧ ∀ k m σ H, W k m σ H →
      ((Itr i (j - i).toNat).stop k H ∧ nx σ H) ∨ ((Itr i (j - i).toNat).go k H ∧ ∃ N : L2.St → Hp → Prop, (∀ σ' H', N σ' H' → ∃ m', m' < m ∧ W (k + 1) m' σ' H') ∧ ∀ x H', (Itr i (j - i).toNat).yld k H x H' → g x σ H' fun σ2 H2 => tb ⟨N, rt, nx, N⟩ σ2 H2) := by
  refine ⟨lo, hi, rfl, ⟨h1, h2, h3, h4⟩, for_range (D := ⟨nx, rt, fun _ _ => False, fun _ _ => False⟩) (lo := lo) (n := (hi - lo).toNat) Pv h0 (fun i σ H hi' p => ?_) hd⟩
  exact hs i σ H (by omega) p
theorem w_for {wi : TI} {g : TG} {tb : TS} (h : wi σ H fun J H1 => ∃ W : Nat → Nat → L2.St → Hp → Prop, (∃ m, W 0 m σ H1) ∧ ∀ i m σ H, W i m σ H →
  (J.stop i H ∧ nx σ H) ∨ (J.go i H ∧ ∃ N : L2.St → Hp → Prop, (∀ σ' H', N σ' H' → ∃ m', m' < m ∧ W (i + 1) m' σ' H') ∧ ∀ x H', J.yld i H x H' → g x σ H' fun σ2 H2 => tb ⟨N, rt, nx, N⟩ σ2 H2)) : tFor wi g tb ⟨nx, rt, bk, ct⟩ σ H := h

/-! more steps -/
theorem w_bm {T : String} {r : V → List V → Hp → VK → Prop} {to : TE} {tt : TA} (h : to σ H fun x H1 => tyV K T x H1 ∧ tt σ H1 fun xs H2 => r x xs H2 Q) : tBM K T r to tt σ H Q := h
theorem w_bm0 {T : String} {r : V → List V → Hp → VK → Prop} {to : TE} (h : to σ H fun x H1 => tyV K T x H1 ∧ r x [] H1 Q) : tBM0 K T r to σ H Q := h
theorem w_tyL {p : Addr} {xs : List V} {B : Prop} (h : SqL K H p xs) (q : B) : tyV K "list" (.ref p) H ∧ B := ⟨.inl ⟨rfl, _, h⟩, q⟩
theorem w_append {l : Addr} {xs : List V} {y : V} (h : H l = some (.lst xs)) (hz : xs.length < sizeLine) (q : Q .non (upd H l (.lst (xs ++ [y])))) : rAppend (.ref l) [y] H Q := ⟨l, xs, y, rfl, rfl, h, hz, q⟩
theorem w_setL {p : Addr} {xs ys : List V} {k : Int} {j : Nat} {N : Hp → Prop} (h : H p = some (.lst xs)) (hj : ixN xs.length k = some j) (e : xs.set j v = ys) (q : N (upd H p (.lst ys))) : rSetL (.ref p) (.int k) v H N := ⟨p, xs, k, j, rfl, rfl, h, hj, by rw [e]; exact q⟩
theorem w_cat {a b : Addr} {xs ys : List V} (h1 : H a = some (.lst xs)) (h2 : H b = some (.lst ys)) (hz : xs.length + ys.length ≤ sizeLine) (q : ∀ p, H p = none → Q (.ref p) (upd H p (.lst (xs ++ ys)))) : rCat (.ref a) (.ref b) H Q :=
  ⟨a, b, xs, ys, rfl, rfl, h1, h2, hz, q⟩
theorem w_inL {p : Addr} {xs : List V} {b : Bool} (h : SqL K H p xs) (hx : flatV x = true) (ha : xs.all flatV = true) (e : inV x xs = b) (q : Q (.bl b) H) : rIn K false x (.ref p) H Q := ⟨p, xs, rfl, .inl h, hx, ha, by rw [e]; exact q⟩
theorem w_niL {p : Addr} {xs : List V} {b : Bool} (h : SqL K H p xs) (hx : flatV x = true) (ha : xs.all flatV = true) (e : (!inV x xs) = b) (q : Q (.bl b) H) : rIn K true x (.ref p) H Q := ⟨p, xs, rfl, .inl h, hx, ha, by rw [if_pos rfl, e]; exact q⟩
def rLen (K : PySem.W.Frag) : List V → Hp → VK → Prop := fun xs H Q => ∃ p ys, xs = [.ref p] ∧ (SqL K H p ys ∨ SqT K H p ys) ∧ Q (.int ys.length) H
theorem cr_len {X : Cx} : CallR X (.builtin "len") (rLen X.K) := call_len_seq
theorem w_lenL {p : Addr} {xs : List V} (h : SqL K H p xs) (q : Q (.int xs.length) H) : rLen K [.ref p] H Q := ⟨p, xs, rfl, .inl h, q⟩
theorem w_lenT {p : Addr} {xs : List V} (h : SqT K H p xs) (q : Q (.int xs.length) H) : rLen K [.ref p] H Q := ⟨p, xs, rfl, .inr h, q⟩
def rInt1 : List V → Hp → VK → Prop := fun xs H Q => (∃ i, xs = [.int i] ∧ Q (.int i) H) ∨ ∃ k, xs = [.bl k] ∧ Q (.int (if k then 1 else 0)) H
theorem cr_int {X : Cx} : CallR X (.type "int") rInt1 := call_int1
theorem w_intB {b : Bool} (q : Q (.int (if b then 1 else 0)) H) : rInt1 [.bl b] H Q := .inr ⟨b, rfl, q⟩
theorem w_intI {i : Int} (q : Q (.int i) H) : rInt1 [.int i] H Q := .inl ⟨i, rfl, q⟩
def rMin2 : List V → Hp → VK → Prop := fun xs H Q => ∃ i j, xs = [.int i, .int j] ∧ Q (.int (if j < i then j else i)) H
theorem cr_min2 {X : Cx} (hc : X.calm = true) : CallR X (.builtin "min") rMin2 := call_min2 hc
theorem w_min2 {i j : Int} (q : Q (.int (if j < i then j else i)) H) : rMin2 [.int i, .int j] H Q := ⟨i, j, rfl, q⟩
def rList (K : PySem.W.Frag) : List V → Hp → VK → Prop := fun xs H Q => ∃ p ys, xs = [.ref p] ∧ (SqL K H p ys ∨ SqT K H p ys) ∧ ∀ l, H l = none → Q (.ref l) (upd H l (.lst ys))
theorem cr_list {X : Cx} : CallR X (.type "list") (rList X.K) := call_list_of
theorem w_listL {p : Addr} {xs : List V} (h : SqL K H p xs) (q : ∀ l, H l = none → Q (.ref l) (upd H l (.lst xs))) : rList K [.ref p] H Q := ⟨p, xs, rfl, .inl h, q⟩
/-- a new object's place: its size, then any free address -/
theorem w_new {n : Nat} {P : Addr → Prop} (hz : n ≤ sizeLine) (h : ∀ p, P p) : n ≤ sizeLine ∧ ∀ p, P p := ⟨hz, h⟩
theorem sz_le {n : Nat} (h : n ≤ 100000) : n ≤ sizeLine := Nat.le_trans h (by decide)
theorem sz_lt {n : Nat} (h : n < 100000) : n < sizeLine := Nat.lt_of_lt_of_le h (by decide)
theorem ite_dT {p : Prop} {inst : Decidable p} {A B : Prop} (hp : p) (h1 : A) : if decide p = true then A else B := by rw [if_pos (decide_eq_true hp)]; exact h1
theorem ite_dF {p : Prop} {inst : Decidable p} {A B : Prop} (hp : ¬ p) (h1 : B) : if decide p = true then A else B := by rw [if_neg (by simp [hp])]; exact h1
theorem ite_nT {p : Prop} {inst : Decidable p} {A B : Prop} (hp : ¬ p) (h1 : A) : if (!decide p) = true then A else B := by rw [if_pos (by simp [hp])]; exact h1
theorem ite_nF {p : Prop} {inst : Decidable p} {A B : Prop} (hp : p) (h1 : B) : if (!decide p) = true then A else B := by rw [if_neg (by simp [hp])]; exact h1
end
/-! deep data -/
theorem dp_ints {K : PySem.W.Frag} {H : Hp} : ∀ ns : List Int, DpAll K H (ns.map V.int) (ns.map PyData.int)
  | [] => .nil
  | n :: r => .cons (.int n) (dp_ints r)
theorem lay_ints : ∀ ns : List Int, PyData.canLayAll0 (ns.map PyData.int) = true
  | [] => rfl
  | n :: r => by simp [PyData.canLayAll0, PyData.canLay0, lay_ints r]
theorem depth_ints : ∀ ns : List Int, PyData.depthAll (ns.map PyData.int) ≤ 1
  | [] => by simp [PyData.depthAll]
  | n :: r => by
    have h := depth_ints r
    simp [PyData.depthAll, PyData.depth]
    omega
theorem shaped_ints (ns : List Int) : SeqAt.shaped (.list (ns.map PyData.int)) = true := by
  have h := depth_ints ns
  simp [SeqAt.shaped, PyData.canLay0, lay_ints, PyData.depth]
  omega
theorem eqv_ints : ∀ ns ms : List Int, PyData.eqvAll (ns.map PyData.int) (ms.map PyData.int) = decide (ns = ms)
  | [], [] => by simp [PyData.eqvAll]
  | [], _ :: _ => by simp [PyData.eqvAll]
  | _ :: _, [] => by simp [PyData.eqvAll]
  | n :: r, m :: t => by
    have h := eqv_ints r t
    simp only [List.map_cons, PyData.eqvAll, PyData.eqv, h, List.cons.injEq]
    by_cases e : n = m <;> simp [e]
section
variable {σ : L2.St} {H : Hp} {Q : VK} {K : PySem.W.Frag}
theorem w_eqDI {p q : Addr} {ns ms : List Int} (h1 : SqL K H p (ns.map V.int)) (h2 : SqL K H q (ms.map V.int)) (hq : Q (.bl (decide (ns = ms))) H) : rEqD K (.ref p) (.ref q) H Q :=
  ⟨.list (ns.map PyData.int), .list (ms.map PyData.int), .lst h1 (dp_ints ns), .lst h2 (dp_ints ms), shaped_ints ns, shaped_ints ms, by
    show Q (.bl (PyData.eqv (.list _) (.list _))) H
    simp only [PyData.eqv, eqv_ints]; exact hq⟩
theorem w_neDI {p q : Addr} {ns ms : List Int} (h1 : SqL K H p (ns.map V.int)) (h2 : SqL K H q (ms.map V.int)) (hq : Q (.bl (!decide (ns = ms))) H) : rNeD K (.ref p) (.ref q) H Q :=
  ⟨.list (ns.map PyData.int), .list (ms.map PyData.int), .lst h1 (dp_ints ns), .lst h2 (dp_ints ms), shaped_ints ns, shaped_ints ms, by
    show Q (.bl (!PyData.eqv (.list _) (.list _))) H
    simp only [PyData.eqv, eqv_ints]; exact hq⟩
end
theorem map_nil_of {H : Hp} {p : Addr} (h : H p = some (.lst [])) : H p = some (.lst (([] : List Int).map V.int)) := h
end Cw
namespace Cw
open PySem L2
theorem int_at {ns : List Int} {i : Nat} {x : V} (h : (ns.map V.int)[i]? = some x) : ∃ z, ns[i]? = some z ∧ x = V.int z := by
  rw [List.getElem?_map] at h
  cases e : ns[i]? with
  | none => rw [e] at h; cases h
  | some z => rw [e] at h; exact ⟨z, rfl, (Option.some.inj h).symm⟩
/-- the law's box: a list of the script's rest and the number that goes on -/
def Box (H : Hp) (b q : Addr) : Prop := ∃ (z : Int) (ms : List Int), H b = some (.lst [.ref q, .int z]) ∧ H q = some (.lst (ms.map V.int)) ∧ 0 ≤ z ∧ z < 2147483647 ∧ ms.length ≤ 63
theorem Box.ne {H : Hp} {b q : Addr} (h : Box H b q) : b ≠ q := by
  obtain ⟨z, ms, h1, h2, _⟩ := h
  intro e
  subst e
  rw [h1] at h2
  cases ms with
  | nil => simp at h2
  | cons m r => simp at h2
theorem Box.keep {W : List Addr} {H H' : Hp} {b q : Addr} (h : Box H b q) (f : Fr W H H') (nb : b ∉ W) (nq : q ∉ W) : Box H' b q := by
  obtain ⟨z, ms, h1, h2, r⟩ := h
  exact ⟨z, ms, f.get h1 nb, f.get h2 nq, r⟩
theorem Box.keep0 {H H' : Hp} {b q : Addr} (h : Box H b q) (f : Fr [] H H') : Box H' b q := h.keep f (by simp) (by simp)
theorem sq_new {K : PySem.W.Frag} {H : Hp} {p a : Addr} {o : HO} {xs : List V} (h : SqL K H a xs) (hp : H p = none) : SqL K (upd H p o) a xs := Fr.seqL (Fr.new hp) h
theorem st_new {K : PySem.W.Frag} {H : Hp} {p a : Addr} {o : HO} {xs : List V} (h : SqT K H a xs) (hp : H p = none) : SqT K (upd H p o) a xs := Fr.seqT (Fr.new hp) h
theorem cmul_l {i j : Int} (h1 : -18446744073709551616 < i) (h2 : i < 18446744073709551616) : CMul i j := .inl ⟨by omega, by omega⟩
theorem cmul_r {i j : Int} (h1 : -18446744073709551616 < j) (h2 : j < 18446744073709551616) : CMul i j := .inr ⟨by omega, by omega⟩
theorem cdiv_ {i j : Int} (h1 : 0 < j) (h2 : j < 1073741824) : CDiv i j := ⟨h1, h2⟩
theorem cpos_ {j : Int} (h1 : 0 < j) : 0 < j := h1
theorem w_pop0 {H : Hp} {Q : VK} {l : Addr} {y : V} {xs : List V} (h : H l = some (.lst (y :: xs))) (hz : xs.length < 1000000) (q : Q y (upd H l (.lst xs))) : rPopAt (.ref l) [.int 0] H Q := by
  refine ⟨l, y :: xs, 0, 0, y, rfl, rfl, h, by decide, by decide, ?_, rfl, q⟩
  unfold seqIndex?
  simp
theorem atI_0 {x : V} {xs : List V} : atI (x :: xs) 0 = some x := atI_nat (j := 0) rfl
theorem ixN_nat {n j : Nat} (h : j < n) : ixN n (j : Int) = some j := by
  unfold ixN
  rw [if_pos (by omega), if_pos (by omega)]
  simp
theorem ixN_0 {x : V} {xs : List V} : ixN (x :: xs).length 0 = some 0 := ixN_nat (j := 0) (Nat.succ_pos _)
theorem mod_in {z n : Int} (h : 0 < n) : 0 ≤ z % n ∧ z % n < n := ⟨Int.emod_nonneg _ (by omega), Int.emod_lt_of_pos _ h⟩
theorem ixN_1 {x y : V} {xs : List V} : ixN (x :: y :: xs).length 1 = some 1 := ixN_nat (j := 1) (Nat.succ_lt_succ (Nat.succ_pos _))
theorem ints_at {ns : List Int} {r : Int} (h0 : 0 ≤ r) (h1 : r < ns.length) : ∃ v, atI (ns.map V.int) r = some (.int v) ∧ v ∈ ns := by
  obtain ⟨j, rfl⟩ : ∃ j : Nat, r = (j : Int) := ⟨r.toNat, by omega⟩
  have hj : j < ns.length := by omega
  exact ⟨ns[j], atI_nat (by rw [List.getElem?_map, List.getElem?_eq_getElem hj]; rfl), List.getElem_mem hj⟩
theorem atI_neg1 {xs : List V} {v : V} (h : xs.getLast? = some v) : atI xs (-1) = some v := by
  obtain ⟨ys, rfl⟩ := List.getLast?_eq_some_iff.mp h
  exact atI_last ys v
theorem ints_last {ns : List Int} (h : ns ≠ []) : ∃ v, atI (ns.map V.int) (-1) = some (.int v) ∧ v ∈ ns := by
  refine ⟨ns.getLast h, atI_neg1 ?_, List.getLast_mem h⟩
  rw [List.getLast?_map, List.getLast?_eq_some_getLast h]
  rfl
theorem Fr.ne_mem {W : List Addr} {H H' : Hp} {p b : Addr} {o : HO} (_ : Fr W H H') (h : H b = some o) (hp : H p = none) : p ≠ b := fun e => by
  subst e
  rw [h] at hp
  cases hp
theorem Box.free {H : Hp} {b q p : Addr} (h : Box H b q) (hp : H p = none) : p ∉ [b, q] := by
  obtain ⟨z, ms, h1, h2, _⟩ := h
  simp only [List.mem_cons, List.not_mem_nil, or_false, not_or]
  exact ⟨fun e => ne_of_none h1 hp e.symm, fun e => ne_of_none h2 hp e.symm⟩
theorem w_eqD0 {K : PySem.W.Frag} {H : Hp} {Q : VK} {p q : Addr} {ns : List Int} (h1 : SqL K H p (ns.map V.int)) (h2 : SqL K H q []) (hq : Q (.bl (decide (ns = []))) H) : rEqD K (.ref p) (.ref q) H Q := w_eqDI (ms := []) h1 h2 hq
theorem w_neD0 {K : PySem.W.Frag} {H : Hp} {Q : VK} {p q : Addr} {ns : List Int} (h1 : SqL K H p (ns.map V.int)) (h2 : SqL K H q []) (hq : Q (.bl (!decide (ns = []))) H) : rNeD K (.ref p) (.ref q) H Q := w_neDI (ms := []) h1 h2 hq
theorem dpall_len {K : PySem.W.Frag} {H : Hp} : ∀ {xs : List V} {ds : List PyData}, DpAll K H xs ds → xs.length = ds.length
  | _, _, .nil => rfl
  | _, _, .cons _ t => congrArg (· + 1) (dpall_len t)
theorem dpall_get {K : PySem.W.Frag} {H : Hp} : ∀ {xs : List V} {ds : List PyData} {i : Nat} {d : PyData}, DpAll K H xs ds → ds[i]? = some d → ∃ x, xs[i]? = some x ∧ Dp K H x d
  | _, _, 0, _, .cons a _, h => by
    simp at h
    subst h
    exact ⟨_, rfl, a⟩
  | _, _, i + 1, _, .cons _ t, h => by
    obtain ⟨x, h1, h2⟩ := dpall_get (i := i) t (by simpa using h)
    exact ⟨x, by simpa using h1, h2⟩
  | _, _, _, _, .nil, h => by simp at h
theorem ty_L {K : PySem.W.Frag} {H : Hp} {a : Addr} {xs : List V} (h : SqL K H a xs) : TyX K H (.ref a) (.type "list") := by
  rcases h with (h | ⟨o, h⟩) | ⟨o, its, n, h, c, _⟩
  · exact .base (.lst h)
  · exact .base (.frz h)
  · exact .kList h c
theorem ty_T {K : PySem.W.Frag} {H : Hp} {a : Addr} {xs : List V} (h : SqT K H a xs) : TyX K H (.ref a) (.type "tuple") := by
  rcases h with (h | ⟨o, h⟩) | ⟨o, its, n, h, c, _⟩
  · exact .base (.tup h)
  · exact .fTuple h
  · exact .kTuple h c
theorem w_isi {K : PySem.W.Frag} {H : Hp} {Q : VK} {x : V} {t c : String} {b : Bool} (ht : TyX K H x (.type t)) (h : kitB t c = some b) (q : Q (.bl b) H) : rIsi K [x, .ty c] H Q := ⟨x, .ty c, .type t, .type c, b, rfl, .ty c, ht, kit_ty h, q⟩
theorem w_ixQL {K : PySem.W.Frag} {H : Hp} {Q : VK} {v : V} {p : Addr} {xs : List V} {i : Int} (h : SqL K H p xs) (ha : atI xs i = some v) (q : Q v H) : rIx K (.ref p) (.int i) H Q := .inl (w_ixL h ha q)
theorem w_ixQT {K : PySem.W.Frag} {H : Hp} {Q : VK} {v : V} {p : Addr} {xs : List V} {i : Int} (h : SqT K H p xs) (ha : atI xs i = some v) (q : Q v H) : rIx K (.ref p) (.int i) H Q := .inr (.inl (w_ixT h ha q))
/-- data of at most so deep lists and tuples -/
def fits : Nat → PyData → Prop
  | 0, d => match d with
    | .list _ | .tuple _ | .dict _ => False
    | _ => True
  | k + 1, d => match d with
    | .list ds | .tuple ds => ds.length ≤ 100000 ∧ ∀ x ∈ ds, fits k x
    | .dict _ => False
    | _ => True
theorem Fr.dp {K : PySem.W.Frag} {H H' : Hp} (f : Fr [] H H') : ∀ (d : PyData) (v : V), Dp K H v d → Dp K H' v d := fun d v h =>
  Dp.rec (motive_1 := fun v d _ => Dp K H' v d) (motive_2 := fun vs ds _ => DpAll K H' vs ds) .non .bl .int .str (fun h _ ih => .lst (f.seqL h) ih) (fun h _ ih => .tup (f.seqT h) ih) .nil (fun _ _ a b => .cons a b) h
theorem kb_NoneType_bool : kitB "NoneType" "bool" = some false := by decide +kernel
theorem kb_NoneType_int : kitB "NoneType" "int" = some false := by decide +kernel
theorem kb_NoneType_str : kitB "NoneType" "str" = some false := by decide +kernel
theorem kb_NoneType_tuple : kitB "NoneType" "tuple" = some false := by decide +kernel
theorem kb_NoneType_list : kitB "NoneType" "list" = some false := by decide +kernel
theorem kb_bool_bool : kitB "bool" "bool" = some true := by decide +kernel
theorem kb_bool_int : kitB "bool" "int" = some true := by decide +kernel
theorem kb_bool_str : kitB "bool" "str" = some false := by decide +kernel
theorem kb_bool_tuple : kitB "bool" "tuple" = some false := by decide +kernel
theorem kb_bool_list : kitB "bool" "list" = some false := by decide +kernel
theorem kb_int_bool : kitB "int" "bool" = some false := by decide +kernel
theorem kb_int_int : kitB "int" "int" = some true := by decide +kernel
theorem kb_int_str : kitB "int" "str" = some false := by decide +kernel
theorem kb_int_tuple : kitB "int" "tuple" = some false := by decide +kernel
theorem kb_int_list : kitB "int" "list" = some false := by decide +kernel
theorem kb_str_bool : kitB "str" "bool" = some false := by decide +kernel
theorem kb_str_int : kitB "str" "int" = some false := by decide +kernel
theorem kb_str_str : kitB "str" "str" = some true := by decide +kernel
theorem kb_str_tuple : kitB "str" "tuple" = some false := by decide +kernel
theorem kb_str_list : kitB "str" "list" = some false := by decide +kernel
theorem kb_list_bool : kitB "list" "bool" = some false := by decide +kernel
theorem kb_list_int : kitB "list" "int" = some false := by decide +kernel
theorem kb_list_str : kitB "list" "str" = some false := by decide +kernel
theorem kb_list_tuple : kitB "list" "tuple" = some false := by decide +kernel
theorem kb_list_list : kitB "list" "list" = some true := by decide +kernel
theorem kb_tuple_bool : kitB "tuple" "bool" = some false := by decide +kernel
theorem kb_tuple_int : kitB "tuple" "int" = some false := by decide +kernel
theorem kb_tuple_str : kitB "tuple" "str" = some false := by decide +kernel
theorem kb_tuple_tuple : kitB "tuple" "tuple" = some true := by decide +kernel
theorem kb_tuple_list : kitB "tuple" "list" = some false := by decide +kernel
theorem ite_nf {A B : Prop} (h : A) : if (!false) = true then A else B := h
theorem ite_nt {A B : Prop} (h : B) : if (!true) = true then A else B := h
/-! more loops; comprehensions -/
section
variable {σ : L2.St} {H : Hp} {Q : VK} {K : PySem.W.Frag} {nx : L2.St → Hp → Prop} {rt : VK}
theorem w_gTup {a : Addr} {xs : List V} {n : Nat} {t : TGs} {N : L2.St → Hp → Prop} (h : SqT K H a xs) (hl : xs.length = n) (q : t xs σ H N) : gTup K n t (.ref a) σ H N := ⟨a, xs, rfl, h, hl, q⟩
theorem w_gCons {t : TG} {u : TGs} {v : V} {r : List V} {N : L2.St → Hp → Prop} (q : t v σ H fun σ' H' => u r σ' H' N) : gCons t u (v :: r) σ H N := ⟨v, r, rfl, q⟩
theorem w_gNil {N : L2.St → Hp → Prop} (q : N σ H) : gNil [] σ H N := ⟨rfl, q⟩
theorem w_yes {QB : Bool → Hp → Prop} (q : QB true H) : tYes σ H QB := q
theorem w_wipe {s s' : L2.St} {vs : List Nat} {B : Prop} (e : wipe s vs = wipe s' vs) (q : B) : wipe s vs = wipe s' vs ∧ B := ⟨e, q⟩
theorem w_iEnum {tt : TA} {R : It → Hp → Prop} (h : tt σ H fun vs H1 => ∃ a xs, vs = [.ref a] ∧ SqL K H1 a xs ∧ R (Ite K a) H1) : iEnum K tt σ H R := h
theorem f_enum {g : TG} {tb : TS} {a : Addr} (xs : List V) (hq : SqL K H a xs) (Pv : Nat → L2.St → Hp → Prop) (h0 : Pv 0 σ H) (hl : ∀ i σ H, i ≤ xs.length → Pv i σ H → SqL K H a xs)
    (hs : ∀ (i : Nat) x T σ H, xs[i]? = some x → Pv i σ H → H T = none → g (.ref T) σ (upd H T (.tup [.int (i : Int), x])) fun σ2 H2 => tb ⟨Pv (i + 1), rt, nx, Pv (i + 1)⟩ σ2 H2) (hd : ∀ σ H, Pv xs.length σ H → nx σ H) :
    ∃ b ys, [V.ref a] = [.ref b] ∧ SqL K H b ys ∧ ∃ W : Nat → Nat → L2.St → Hp → Prop, (∃ m, W 0 m σ H) ∧ ∀ i m σ H, W i m σ H →
      ((Ite K b).stop i H ∧ nx σ H) ∨ ((Ite K b).go i H ∧ ∃ N : L2.St → Hp → Prop, (∀ σ' H', N σ' H' → ∃ m', m' < m ∧ W (i + 1) m' σ' H') ∧ ∀ x H', (Ite K b).yld i H x H' → g x σ H' fun σ2 H2 => tb ⟨N, rt, nx, N⟩ σ2 H2) := by
  refine ⟨a, xs, rfl, hq, fun i m σ H => m = xs.length - i ∧ i ≤ xs.length ∧ Pv i σ H, ⟨xs.length, by simp, Nat.zero_le _, h0⟩, ?_⟩
  rintro i m σ H ⟨rfl, hi, p⟩
  have q := hl i σ H hi p
  by_cases hlt : i < xs.length
  · refine .inr ⟨⟨xs, xs[i], q, by simp [hlt]⟩, Pv (i + 1), fun σ' H' p' => ⟨xs.length - (i + 1), by omega, rfl, hlt, p'⟩, fun x H' y => ?_⟩
    obtain ⟨T, z, rfl, hT, rfl, hx⟩ := y
    exact hs i z T σ H (hx xs q) p hT
  · have e : i = xs.length := by omega
    subst e
    exact .inl ⟨⟨xs, q, Nat.le_refl _⟩, hd σ H p⟩
/-- a comprehension's list so far, at D -/
def LcI (Pv : Addr → Nat → List V → Hp → Prop) (D : Addr) (i : Nat) (H : Hp) : Prop := ∃ acc, Pv D i acc H ∧ H D = some (.lst acc) ∧ acc.length ≤ i
theorem lc_end {Pv : Addr → Nat → List V → Hp → Prop} {D : Addr} {i : Nat} {acc : List V} {y : V} (h : H D = some (.lst acc)) (hl : acc.length ≤ i) (hi : i < 99999) (p : Pv D (i + 1) (acc ++ [y]) (upd H D (.lst (acc ++ [y])))) :
    ∃ acc, H D = some (.lst acc) ∧ acc.length < sizeLine ∧ LcI Pv D (i + 1) (upd H D (.lst (acc ++ [y]))) := ⟨acc, h, sz_lt (by omega), acc ++ [y], p, upd_same, by simp; omega⟩
theorem l_list {g : TG} {tt : TT} {te : TE} {vs : List Nat} {Qd : Addr → Hp → Prop} {a : Addr} (xs : List V) (hq : SqL K H a xs) (Pv : Addr → Nat → List V → Hp → Prop) (h0 : ∀ D, H D = none → Pv D 0 [] (upd H D (.lst [])))
    (hl : ∀ D i acc H', H D = none → Pv D i acc H' → H' D = some (.lst acc) → SqL K H' a xs)
    (hs : ∀ D (i : Nat) x acc H', H D = none → xs[i]? = some x → Pv D i acc H' → H' D = some (.lst acc) → acc.length ≤ i → g x (wipe σ vs) H' fun σ2 H2 => wipe σ2 vs = wipe σ vs ∧ tt σ2 H2 fun b H3 =>
      if b = true then te σ2 H3 fun y H4 => ∃ acc, H4 D = some (.lst acc) ∧ acc.length < sizeLine ∧ LcI Pv D (i + 1) (upd H4 D (.lst (acc ++ [y]))) else LcI Pv D (i + 1) H3)
    (hd : ∀ D acc H', H D = none → Pv D xs.length acc H' → H' D = some (.lst acc) → acc.length ≤ xs.length → Qd D H') :
    ∃ b, V.ref a = V.ref b ∧ (∃ xs, SqL K H b xs) ∧ ∀ D, H D = none → ∃ W : Nat → Nat → Hp → Prop, (∃ m, W 0 m (upd H D (.lst []))) ∧ ∀ i m H, W i m H →
      ((Itl K b).stop i H ∧ Qd D H) ∨ ((Itl K b).go i H ∧ ∃ Nx : Hp → Prop, (∀ H', Nx H' → ∃ m', m' < m ∧ W (i + 1) m' H') ∧ ∀ x H', (Itl K b).yld i H x H' → g x (wipe σ vs) H' fun σ2 H2 => wipe σ2 vs = wipe σ vs ∧ tt σ2 H2 fun b H3 =>
        if b = true then te σ2 H3 fun y H4 => ∃ acc, H4 D = some (.lst acc) ∧ acc.length < sizeLine ∧ Nx (upd H4 D (.lst (acc ++ [y]))) else Nx H3) := by
  refine ⟨a, rfl, ⟨xs, hq⟩, fun D hD => lc_list (K := K) (a := a) (xs := xs) (LcI Pv D) ⟨[], h0 D hD, upd_same, Nat.le_refl _⟩ (fun i H' _ ⟨acc, p, e, _⟩ => hl D i acc H' hD p e) (fun i x H' hx ⟨acc, p, e, l⟩ => hs D i x acc H' hD hx p e l) (fun H' ⟨acc, p, e, l⟩ => hd D acc H' hD p e l)⟩
theorem l_rng1 {g : TG} {tt : TT} {te : TE} {vs : List Nat} {Qd : Addr → Hp → Prop} {j : Int} (hj : j < 2 ^ 62) (h0' : 0 ≤ j) (Pv : Addr → Nat → List V → Hp → Prop) (h0 : ∀ D, H D = none → Pv D 0 [] (upd H D (.lst [])))
    (hs : ∀ D (i : Nat) acc H', H D = none → (i : Int) < j → Pv D i acc H' → H' D = some (.lst acc) → acc.length ≤ i → g (.int (i : Int)) (wipe σ vs) H' fun σ2 H2 => wipe σ2 vs = wipe σ vs ∧ tt σ2 H2 fun b H3 =>
      if b = true then te σ2 H3 fun y H4 => ∃ acc, H4 D = some (.lst acc) ∧ acc.length < sizeLine ∧ LcI Pv D (i + 1) (upd H4 D (.lst (acc ++ [y]))) else LcI Pv D (i + 1) H3)
    (hd : ∀ D acc H', H D = none → Pv D j.toNat acc H' → H' D = some (.lst acc) → acc.length ≤ j.toNat → Qd D H') :
    ∃ k : Int, [V.int j] = [V.int k] ∧ -(2 ^ 62) ≤ k ∧ k < 2 ^ 62 ∧ ∀ D, H D = none → ∃ W : Nat → Nat → Hp → Prop, (∃ m, W 0 m (upd H D (.lst []))) ∧ ∀ i m H, W i m H →
      ((Itr 0 k.toNat).stop i H ∧ Qd D H) ∨ ((Itr 0 k.toNat).go i H ∧ ∃ Nx : Hp → Prop, (∀ H', Nx H' → ∃ m', m' < m ∧ W (i + 1) m' H') ∧ ∀ x H', (Itr 0 k.toNat).yld i H x H' → g x (wipe σ vs) H' fun σ2 H2 => wipe σ2 vs = wipe σ vs ∧ tt σ2 H2 fun b H3 =>
        if b = true then te σ2 H3 fun y H4 => ∃ acc, H4 D = some (.lst acc) ∧ acc.length < sizeLine ∧ Nx (upd H4 D (.lst (acc ++ [y]))) else Nx H3) := by
  refine ⟨j, rfl, by omega, hj, fun D hD => lc_range (lo := 0) (n := j.toNat) (LcI Pv D) ⟨[], h0 D hD, upd_same, Nat.le_refl _⟩ (fun i H' hi ⟨acc, p, e, l⟩ => ?_) (fun H' ⟨acc, p, e, l⟩ => hd D acc H' hD p e l)⟩
  have e0 : (0 : Int) + (i : Int) = (i : Int) := Int.zero_add _
  rw [e0]
  exact hs D i acc H' hD (by omega) p e l
theorem l_rng2 {g : TG} {tt : TT} {te : TE} {vs : List Nat} {Qd : Addr → Hp → Prop} {lo hi : Int} (h1 : -(2 ^ 62) ≤ lo) (h2 : lo < 2 ^ 62) (h3 : -(2 ^ 62) ≤ hi) (h4 : hi < 2 ^ 62) (Pv : Addr → Nat → List V → Hp → Prop) (h0 : ∀ D, H D = none → Pv D 0 [] (upd H D (.lst [])))
    (hs : ∀ D (i : Nat) acc H', H D = none → lo + (i : Int) < hi → Pv D i acc H' → H' D = some (.lst acc) → acc.length ≤ i → g (.int (lo + (i : Int))) (wipe σ vs) H' fun σ2 H2 => wipe σ2 vs = wipe σ vs ∧ tt σ2 H2 fun b H3 =>
      if b = true then te σ2 H3 fun y H4 => ∃ acc, H4 D = some (.lst acc) ∧ acc.length < sizeLine ∧ LcI Pv D (i + 1) (upd H4 D (.lst (acc ++ [y]))) else LcI Pv D (i + 1) H3)
    (hd : ∀ D acc H', H D = none → Pv D (hi - lo).toNat acc H' → H' D = some (.lst acc) → acc.length ≤ (hi - lo).toNat → Qd D H') :
    ∃ i j : Int, [V.int lo, V.int hi] = [.int i, .int j] ∧ (-(2 ^ 62) ≤ i ∧ i < 2 ^ 62 ∧ -(2 ^ 62) ≤ j ∧ j < 2 ^ 62) ∧ ∀ D, H D = none → ∃ W : Nat → Nat → Hp → Prop, (∃ m, W 0 m (upd H D (.lst []))) ∧ ∀ k m H, W k m H →
      ((Itr i (j - i).toNat).stop k H ∧ Qd D H) ∨ ((Itr i (j - i).toNat).go k H ∧ ∃ Nx : Hp → Prop, (∀ H', Nx H' → ∃ m', m' < m ∧ W (k + 1) m' H') ∧ ∀ x H', (Itr i (j - i).toNat).yld k H x H' → g x (wipe σ vs) H' fun σ2 H2 => wipe σ2 vs = wipe σ vs ∧ tt σ2 H2 fun b H3 =>
        if b = true then te σ2 H3 fun y H4 => ∃ acc, H4 D = some (.lst acc) ∧ acc.length < sizeLine ∧ Nx (upd H4 D (.lst (acc ++ [y]))) else Nx H3) := by
  refine ⟨lo, hi, rfl, ⟨h1, h2, h3, h4⟩, fun D hD => lc_range (lo := lo) (n := (hi - lo).toNat) (LcI Pv D) ⟨[], h0 D hD, upd_same, Nat.le_refl _⟩ (fun i H' hi' ⟨acc, p, e, l⟩ => ?_) (fun H' ⟨acc, p, e, l⟩ => hd D acc H' hD p e l)⟩
  exact hs D i acc H' hD (by omega) p e l
theorem l_enum {g : TG} {tt : TT} {te : TE} {vs : List Nat} {Qd : Addr → Hp → Prop} {a : Addr} (xs : List V) (hq : SqL K H a xs) (Pv : Addr → Nat → List V → Hp → Prop) (h0 : ∀ D, H D = none → Pv D 0 [] (upd H D (.lst [])))
    (hl : ∀ D i acc H', H D = none → Pv D i acc H' → H' D = some (.lst acc) → SqL K H' a xs)
    (hs : ∀ D (i : Nat) x T acc H', H D = none → xs[i]? = some x → Pv D i acc H' → H' D = some (.lst acc) → acc.length ≤ i → H' T = none → g (.ref T) (wipe σ vs) (upd H' T (.tup [.int (i : Int), x])) fun σ2 H2 => wipe σ2 vs = wipe σ vs ∧ tt σ2 H2 fun b H3 =>
      if b = true then te σ2 H3 fun y H4 => ∃ acc, H4 D = some (.lst acc) ∧ acc.length < sizeLine ∧ LcI Pv D (i + 1) (upd H4 D (.lst (acc ++ [y]))) else LcI Pv D (i + 1) H3)
    (hd : ∀ D acc H', H D = none → Pv D xs.length acc H' → H' D = some (.lst acc) → acc.length ≤ xs.length → Qd D H') :
    ∃ b ys, [V.ref a] = [V.ref b] ∧ SqL K H b ys ∧ ∀ D, H D = none → ∃ W : Nat → Nat → Hp → Prop, (∃ m, W 0 m (upd H D (.lst []))) ∧ ∀ i m H, W i m H →
      ((Ite K b).stop i H ∧ Qd D H) ∨ ((Ite K b).go i H ∧ ∃ Nx : Hp → Prop, (∀ H', Nx H' → ∃ m', m' < m ∧ W (i + 1) m' H') ∧ ∀ x H', (Ite K b).yld i H x H' → g x (wipe σ vs) H' fun σ2 H2 => wipe σ2 vs = wipe σ vs ∧ tt σ2 H2 fun b H3 =>
        if b = true then te σ2 H3 fun y H4 => ∃ acc, H4 D = some (.lst acc) ∧ acc.length < sizeLine ∧ Nx (upd H4 D (.lst (acc ++ [y]))) else Nx H3) := by
  refine ⟨a, xs, rfl, hq, fun D hD => ⟨fun i m H' => m = xs.length - i ∧ i ≤ xs.length ∧ LcI Pv D i H', ⟨xs.length, by simp, Nat.zero_le _, [], h0 D hD, upd_same, Nat.le_refl _⟩, ?_⟩⟩
  rintro i m H' ⟨rfl, hi, acc, p, e, l⟩
  have q := hl D i acc H' hD p e
  by_cases hlt : i < xs.length
  · refine .inr ⟨⟨xs, xs[i], q, by simp [hlt]⟩, LcI Pv D (i + 1), fun H2 p' => ⟨xs.length - (i + 1), by omega, rfl, hlt, p'⟩, fun x H2 y => ?_⟩
    obtain ⟨T, z, rfl, hT, rfl, hx⟩ := y
    exact hs D i z T acc H' hD (hx xs q) p e l hT
  · have e' : i = xs.length := by omega
    subst e'
    exact .inl ⟨⟨xs, q, Nat.le_refl _⟩, hd D acc H' hD p e l⟩
theorem w_lc {wi : TI} {g : TG} {tt : TT} {te : TE} {vs : List Nat} (h : wi σ H fun J H1 => ∀ D, H1 D = none → ∃ W : Nat → Nat → Hp → Prop, (∃ m, W 0 m (upd H1 D (.lst []))) ∧ ∀ i m H, W i m H →
  (J.stop i H ∧ Q (.ref D) H) ∨ (J.go i H ∧ ∃ Nx : Hp → Prop, (∀ H', Nx H' → ∃ m', m' < m ∧ W (i + 1) m' H') ∧ ∀ x H', J.yld i H x H' → g x (wipe σ vs) H' fun σ2 H2 => wipe σ2 vs = wipe σ vs ∧ tt σ2 H2 fun b H3 =>
    if b = true then te σ2 H3 fun y H4 => ∃ acc, H4 D = some (.lst acc) ∧ acc.length < sizeLine ∧ Nx (upd H4 D (.lst (acc ++ [y]))) else Nx H3)) : tLc wi g tt te vs σ H Q := h
end
theorem take_snoc {α : Type} {xs : List α} {i : Nat} {x : α} (h : xs[i]? = some x) : xs.take (i + 1) = xs.take i ++ [x] := by
  obtain ⟨hi, rfl⟩ := List.getElem?_eq_some_iff.mp h
  rw [List.take_succ, List.getElem?_eq_getElem hi]
  rfl
theorem dpall_snoc {K : PySem.W.Frag} {H : Hp} {v : V} {d : PyData} (h : Dp K H v d) : ∀ {xs : List V} {ds : List PyData}, DpAll K H xs ds → DpAll K H (xs ++ [v]) (ds ++ [d])
  | _, _, .nil => .cons h .nil
  | _, _, .cons a t => .cons a (dpall_snoc h t)
theorem Fr.dpa {K : PySem.W.Frag} {H H' : Hp} (f : Fr [] H H') : ∀ {vs : List V} {ds : List PyData}, DpAll K H vs ds → DpAll K H' vs ds
  | _, _, .nil => .nil
  | _, _, .cons a t => .cons (f.dp _ _ a) (Fr.dpa f t)
theorem f_while {c : TT} {tb : TS} {σ : L2.St} {H : Hp} {nx : L2.St → Hp → Prop} {rt : VK} {bk ct : L2.St → Hp → Prop} (W : Nat → L2.St → Hp → Prop) (m : Nat) (h0 : W m σ H)
    (hs : ∀ m σ H, W m σ H → c σ H fun b H1 => if b = true then ∃ N : L2.St → Hp → Prop, (∀ σ' H', N σ' H' → ∃ m', m' < m ∧ W m' σ' H') ∧ tb ⟨N, rt, nx, N⟩ σ H1 else nx σ H1) : tWhile c tb ⟨nx, rt, bk, ct⟩ σ H := ⟨W, ⟨m, h0⟩, hs⟩
theorem w_turn {tb : TS} {σ : L2.St} {H : Hp} {nx : L2.St → Hp → Prop} {rt : VK} {m : Nat} {W : Nat → L2.St → Hp → Prop} (h : tb ⟨fun σ' H' => ∃ m', m' < m ∧ W m' σ' H', rt, nx, fun σ' H' => ∃ m', m' < m ∧ W m' σ' H'⟩ σ H) :
    ∃ N : L2.St → Hp → Prop, (∀ σ' H', N σ' H' → ∃ m', m' < m ∧ W m' σ' H') ∧ tb ⟨N, rt, nx, N⟩ σ H := ⟨_, fun _ _ h => h, h⟩
/-! data made new beside H: it stays whatever of H's objects is changed -/
def Nw (K : PySem.W.Frag) (H H' : Hp) (v : V) (d : PyData) : Prop := ∀ W H'', (∀ w ∈ W, H w ≠ none) → Fr W H' H'' → Dp K H'' v d
def NwA (K : PySem.W.Frag) (H H' : Hp) (xs : List V) (ds : List PyData) : Prop := ∀ W H'', (∀ w ∈ W, H w ≠ none) → Fr W H' H'' → DpAll K H'' xs ds
section
variable {K : PySem.W.Frag} {H H' H2 H0 : Hp} {v : V} {d : PyData} {xs : List V} {ds : List PyData} {W : List Addr} {t : Addr}
theorem Nw.now (h : Nw K H H' v d) : Dp K H' v d := h [] H' (by simp) .refl
theorem NwA.now (h : NwA K H H' xs ds) : DpAll K H' xs ds := h [] H' (by simp) .refl
theorem Nw.tup (ht : H t = none) (h : H' t = some (.tup xs)) (ha : NwA K H H' xs ds) : Nw K H H' (.ref t) (.tuple ds) := fun W H'' hw f => .tup (SqT.of (f.get h fun m => hw t m ht)) (ha W H'' hw f)
theorem Nw.lst (ht : H t = none) (h : H' t = some (.lst xs)) (ha : NwA K H H' xs ds) : Nw K H H' (.ref t) (.list ds) := fun W H'' hw f => .lst (SqL.of (f.get h fun m => hw t m ht)) (ha W H'' hw f)
theorem NwA.nil : NwA K H H' [] [] := fun _ _ _ _ => .nil
theorem NwA.cons (h : Nw K H H' v d) (ha : NwA K H H' xs ds) : NwA K H H' (v :: xs) (d :: ds) := fun W H'' hw f => .cons (h W H'' hw f) (ha W H'' hw f)
theorem NwA.snoc (ha : NwA K H H' xs ds) (h : Nw K H H' v d) : NwA K H H' (xs ++ [v]) (ds ++ [d]) := fun W H'' hw f => dpall_snoc (h W H'' hw f) (ha W H'' hw f)
theorem Nw.step (h : Nw K H H' v d) (hw : ∀ w ∈ W, H w ≠ none) (f : Fr W H' H2) : Nw K H H2 v d := fun W2 H'' hw2 f2 =>
  h (W ++ W2) H'' (fun w m => (List.mem_append.mp m).elim (hw w) (hw2 w)) ((f.mono fun w m => List.mem_append_left _ m).trans (f2.mono fun w m => List.mem_append_right _ m))
theorem NwA.step (h : NwA K H H' xs ds) (hw : ∀ w ∈ W, H w ≠ none) (f : Fr W H' H2) : NwA K H H2 xs ds := fun W2 H'' hw2 f2 =>
  h (W ++ W2) H'' (fun w m => (List.mem_append.mp m).elim (hw w) (hw2 w)) ((f.mono fun w m => List.mem_append_left _ m).trans (f2.mono fun w m => List.mem_append_right _ m))
theorem Nw.base (h : Nw K H H' v d) (f : Fr W H0 H) : Nw K H0 H' v d := fun W2 H'' hw f2 => h W2 H'' (fun w m e => hw w m (f.2 w e)) f2
theorem NwA.base (h : NwA K H H' xs ds) (f : Fr W H0 H) : NwA K H0 H' xs ds := fun W2 H'' hw f2 => h W2 H'' (fun w m e => hw w m (f.2 w e)) f2
theorem Nw.int (i : Int) : Nw K H H' (.int i) (.int i) := fun _ _ _ _ => .int i
theorem Nw.bl (b : Bool) : Nw K H H' (.bl b) (.bool b) := fun _ _ _ _ => .bl b
theorem Nw.non : Nw K H H' .non .none := fun _ _ _ _ => .non
theorem NwA.ints (ns : List Int) : NwA K H H' (ns.map V.int) (ns.map PyData.int) := fun _ _ _ _ => dp_ints ns
end
theorem ne_of_some {H : Hp} {p : Addr} {o : HO} (h : H p = some o) : H p ≠ none := fun e => by rw [e] at h; cases h
/-! rules with the written part told by name (in a comprehension's block the context is a bound one) -/
section
variable {X : Cx} (K : PySem.W.Frag) (h : X.K = K)
include h
theorem kIxL : IxR X (rIxL K) := h ▸ ix_list
theorem kIxT : IxR X (rIxT K) := h ▸ ix_tup
theorem kIxQ : IxR X (rIx K) := h ▸ ix_seq
theorem kIn : OpR X (compareOp .In) (rIn K false) := h ▸ op_in_seq
theorem kNi : OpR X (compareOp .NotIn) (rIn K true) := h ▸ op_notIn_seq
theorem kEqD (hu : X.A.units + 64 < cLine) : OpR X (compareOp .Eq) (rEqD K) := h ▸ op_eqD hu
theorem kNeD (hu : X.A.units + 64 < cLine) : OpR X (compareOp .NotEq) (rNeD K) := h ▸ op_neD hu
theorem kLen : CallR X (.builtin "len") (rLen K) := h ▸ cr_len
theorem kList : CallR X (.type "list") (rList K) := h ▸ cr_list
theorem kSlL : SlR X (rSlL K) := h ▸ sl_list
theorem kSlT : SlR X (rSlT K) := h ▸ sl_tup
theorem kIsi : CallR X (.builtin "isinstance") (rIsi K) := h ▸ call_isi
theorem kIndex : MtR X "list.index" (rIndex K) := h ▸ mt_index
end
theorem kBM {X : Cx} {K : PySem.W.Frag} {e : Expr} {T : String} {r : V → List V → Hp → VK → Prop} {to : TE} {t : TA} (h : X.K = K) (p : PE X e (tBM X.K T r to t)) : PE X e (tBM K T r to t) := h ▸ p
theorem kBM0 {X : Cx} {K : PySem.W.Frag} {e : Expr} {T : String} {r : V → List V → Hp → VK → Prop} {to : TE} (h : X.K = K) (p : PE X e (tBM0 X.K T r to)) : PE X e (tBM0 K T r to) := h ▸ p
theorem kFld {X : Cx} {K : PySem.W.Frag} {e : Expr} {f : Str} {ta : TE} (h : X.K = K) (p : PE X e (tFld X.K ta f)) : PE X e (tFld K ta f) := h ▸ p
theorem kTup {X : Cx} {K : PySem.W.Frag} {e : Expr} {n : Nat} {t : TGs} (h : X.K = K) (p : PG X e (gTup X.K n t)) : PG X e (gTup K n t) := h ▸ p
theorem kIL {X : Cx} {K : PySem.W.Frag} {e l : Expr} {t : TE} (h : X.K = K) (p : PI X e l (iList X.K t)) : PI X e l (iList K t) := h ▸ p
theorem kIT {X : Cx} {K : PySem.W.Frag} {e l : Expr} {t : TE} (h : X.K = K) (p : PI X e l (iTup X.K t)) : PI X e l (iTup K t) := h ▸ p
theorem kIE {X : Cx} {K : PySem.W.Frag} {e l : Expr} {t : TA} (h : X.K = K) (p : PI X e l (iEnum X.K t)) : PI X e l (iEnum K t) := h ▸ p
end Cw

namespace Cw
open PySem L2
/-! the hand's dial, in plain words -/
def oV : Option Int → V
  | none => .non
  | some i => .int i
structure Dl where
  here : List (Option Int)
  seen : List Bool
  hand : Nat
  lacks : Nat
def Dl.new (n : Nat) : Dl := ⟨List.replicate n none, List.replicate n false, 0, 0⟩
def spin (n : Nat) : Nat → List Bool → Nat → List Bool × Nat × List Nat
  | 0, s, h => (s, h, [])
  | k + 1, s, h => if s[h]? = some true then ((spin n k (s.set h false) ((h + 1) % n)).1, (spin n k (s.set h false) ((h + 1) % n)).2.1, h :: (spin n k (s.set h false) ((h + 1) % n)).2.2) else (s, h, [])
def Dl.spin (d : Dl) : List Bool × Nat × List Nat := Cw.spin d.here.length (d.seen.count true) d.seen d.hand
structure Tl where
  lack : Bool
  gone : Option Int
  passed : List Nat
def Dl.ask (d : Dl) (x : Int) : Dl × Tl :=
  if some x ∈ d.here then ({ d with seen := d.seen.set (d.here.idxOf (some x)) true }, ⟨false, none, []⟩)
  else (⟨d.here.set d.spin.2.1 (some x), d.spin.1.set d.spin.2.1 true, (d.spin.2.1 + 1) % d.here.length, d.lacks + 1⟩, ⟨true, (d.here[d.spin.2.1]?).join, d.spin.2.2⟩)
structure Dl.Wf (d : Dl) (n : Nat) : Prop where
  n0 : 0 < n
  n8 : n ≤ 8
  hl : d.here.length = n
  sl : d.seen.length = n
  hd : d.hand < n
  mark : ∀ i : Nat, d.seen[i]? = some true → ∃ x : Int, d.here[i]? = some (some x)
theorem spin_stop {n : Nat} {s : List Bool} {h : Nat} (e : ¬ s[h]? = some true) : ∀ k, spin n k s h = (s, h, [])
  | 0 => rfl
  | k + 1 => by unfold spin; rw [if_neg e]
theorem count_off {s : List Bool} {h : Nat} (e : s[h]? = some true) : s.count true = (s.set h false).count true + 1 := by
  obtain ⟨hl, e'⟩ := List.getElem?_eq_some_iff.mp e
  have hp : 0 < s.count true := List.count_pos_iff.mpr (e' ▸ List.getElem_mem hl)
  rw [List.count_set hl, e']
  simp
  omega
theorem spin_go {n : Nat} {s : List Bool} {h : Nat} (e : s[h]? = some true) : spin n (s.count true) s h =
    ((spin n ((s.set h false).count true) (s.set h false) ((h + 1) % n)).1, (spin n ((s.set h false).count true) (s.set h false) ((h + 1) % n)).2.1, h :: (spin n ((s.set h false).count true) (s.set h false) ((h + 1) % n)).2.2) := by
  rw [count_off e]
  show (if s[h]? = some true then _ else _) = _
  rw [if_pos e]
theorem spin_facts {n : Nat} (n0 : 0 < n) : ∀ (k : Nat) (s : List Bool) (h : Nat), s.count true ≤ k → s.length = n → h < n →
    (spin n k s h).1.length = n ∧ (spin n k s h).2.1 < n ∧ (¬ (spin n k s h).1[(spin n k s h).2.1]? = some true) ∧ (∀ i : Nat, (spin n k s h).1[i]? = some true → s[i]? = some true)
  | 0, s, h, hk, hl, hh => by
    refine ⟨hl, hh, ?_, fun i e => e⟩
    intro e
    have e' : s[h]? = some true := e
    have := count_off e'
    omega
  | k + 1, s, h, hk, hl, hh => by
    by_cases e : s[h]? = some true
    · have hc := count_off e
      have ih := spin_facts n0 k (s.set h false) ((h + 1) % n) (by omega) (by rw [List.length_set]; exact hl) (Nat.mod_lt _ n0)
      have q : spin n (k + 1) s h = ((spin n k (s.set h false) ((h + 1) % n)).1, (spin n k (s.set h false) ((h + 1) % n)).2.1, h :: (spin n k (s.set h false) ((h + 1) % n)).2.2) := by
        show (if s[h]? = some true then _ else _) = _
        rw [if_pos e]
      rw [q]
      refine ⟨ih.1, ih.2.1, ih.2.2.1, fun i hi => ?_⟩
      have z := ih.2.2.2 i hi
      by_cases hi' : i = h
      · rw [hi']; exact e
      · rw [List.getElem?_set_ne (fun z => hi' z.symm)] at z
        exact z
    · rw [spin_stop e]; exact ⟨hl, hh, e, fun i e => e⟩
theorem Dl.Wf.new {n : Nat} (n0 : 0 < n) (n8 : n ≤ 8) : (Dl.new n).Wf n := ⟨n0, n8, by simp [Dl.new], by simp [Dl.new], n0, fun i e => by
  have e' : (List.replicate n false)[i]? = some true := e
  rw [List.getElem?_replicate] at e'
  split at e' <;> simp at e'⟩
theorem Dl.Wf.ask {d : Dl} {n : Nat} (w : d.Wf n) (x : Int) : (d.ask x).1.Wf n := by
  obtain ⟨n0, n8, hl, sl, hd, mk⟩ := w
  unfold Dl.ask
  split
  · rename_i hm
    refine ⟨n0, n8, hl, by simp [sl], hd, fun i e => ?_⟩
    have e' : (d.seen.set (d.here.idxOf (some x)) true)[i]? = some true := e
    by_cases hi : i = d.here.idxOf (some x)
    · subst hi
      exact ⟨x, by rw [List.getElem?_eq_getElem (List.idxOf_lt_length_iff.mpr hm)]; simp⟩
    · rw [List.getElem?_set_ne (fun z => hi z.symm)] at e'
      exact mk i e'
  · have f := spin_facts n0 (d.seen.count true) d.seen d.hand (Nat.le_refl _) sl hd
    have es : d.spin = Cw.spin n (d.seen.count true) d.seen d.hand := by unfold Dl.spin; rw [hl]
    refine ⟨n0, n8, by simp [hl], by simp [es, f.1], ?_, fun i e => ?_⟩
    · show (d.spin.2.1 + 1) % d.here.length < n
      rw [hl]; exact Nat.mod_lt _ n0
    · have e' : (d.spin.1.set d.spin.2.1 true)[i]? = some true := e
      by_cases h : i = d.spin.2.1
      · subst h
        refine ⟨x, ?_⟩
        show (d.here.set d.spin.2.1 (some x))[d.spin.2.1]? = _
        rw [List.getElem?_set_self (by rw [hl, es]; exact f.2.1)]
      · rw [List.getElem?_set_ne (fun z => h z.symm), es] at e'
        obtain ⟨y, hy⟩ := mk i (f.2.2.2 i e')
        refine ⟨y, ?_⟩
        show (d.here.set d.spin.2.1 (some x))[i]? = _
        rw [List.getElem?_set_ne (fun z => h z.symm)]; exact hy
/-- all asks of a row -/
def askAll : Dl → List Int → List Tl
  | _, [] => []
  | d, x :: r => (d.ask x).2 :: askAll (d.ask x).1 r
def endAll : Dl → List Int → Dl
  | d, [] => d
  | d, x :: r => endAll (d.ask x).1 r
theorem askAll_app : ∀ (d : Dl) (a b : List Int), askAll d (a ++ b) = askAll d a ++ askAll (endAll d a) b
  | _, [], _ => rfl
  | d, x :: r, b => by simp [askAll, endAll, askAll_app]
theorem endAll_app : ∀ (d : Dl) (a b : List Int), endAll d (a ++ b) = endAll (endAll d a) b
  | _, [], _ => rfl
  | d, x :: r, b => by simp [endAll, endAll_app]
theorem askAll_len : ∀ (d : Dl) (a : List Int), (askAll d a).length = a.length
  | _, [] => rfl
  | d, x :: r => by simp [askAll, askAll_len]
theorem endAll_wf {n : Nat} : ∀ (d : Dl) (a : List Int), d.Wf n → (endAll d a).Wf n
  | _, [], w => w
  | d, x :: r, w => endAll_wf _ r (w.ask x)
/-! pages as values -/
theorem flat_oV (hs : List (Option Int)) : (hs.map oV).all flatV = true := by
  rw [List.all_map, List.all_eq_true]
  intro x _
  cases x <;> rfl
theorem flat_int (ns : List Int) : (ns.map V.int).all flatV = true := by
  rw [List.all_map, List.all_eq_true]
  intro x _
  rfl
theorem in_oV (x : Int) (hs : List (Option Int)) : inV (.int x) (hs.map oV) = decide (some x ∈ hs) := by
  unfold inV
  rw [List.any_map]
  induction hs with
  | nil => rfl
  | cons a r ih =>
    rw [List.any_cons, ih]
    cases a with
    | none => simp [oV, eqV]
    | some y =>
      by_cases e : y = x
      · subst e; simp [oV, eqV]
      · simp [oV, eqV, e, Ne.symm e]
theorem in_int (x : Int) (ns : List Int) : inV (.int x) (ns.map V.int) = decide (x ∈ ns) := by
  unfold inV
  rw [List.any_map]
  induction ns with
  | nil => rfl
  | cons y r ih =>
    rw [List.any_cons, ih]
    by_cases e : y = x
    · subst e; simp [eqV]
    · simp [eqV, e, Ne.symm e]
theorem w_index {K : PySem.W.Frag} {H : Hp} {Q : VK} {a : Addr} {hs : List (Option Int)} {x : Int} (h : SqL K H a (hs.map oV)) (hm : some x ∈ hs) (q : Q (.int ((hs.idxOf (some x) : Nat) : Int)) H) : rIndex K (.ref a) [.int x] H Q := by
  have hl := List.idxOf_lt_length_iff.mpr hm
  refine ⟨a, hs.map oV, .int x, hs.idxOf (some x), .int x, rfl, rfl, h, rfl, flat_oV hs, ?_, by simp [eqV], fun m z' hm' hz => ?_, q⟩
  · rw [List.getElem?_map, List.getElem?_eq_getElem hl]; simp [oV]
  · rw [List.getElem?_map, List.getElem?_eq_getElem (by omega)] at hz
    have hz' : oV hs[m] = z' := Option.some.inj hz
    subst hz'
    have ne : hs[m] ≠ some x := fun e => by
      have z := List.not_of_lt_findIdx (p := (· == some x)) (xs := hs) (i := m) hm'
      simp [e] at z
    cases e : hs[m] with
    | none => rfl
    | some y =>
      rw [e] at ne
      have : y ≠ x := fun z => ne (by rw [z])
      simp [oV, eqV, this]
end Cw
namespace Cw
open PySem L2
/-! a Dial as an object -/
theorem str_hs : ¬ (("here" : Str) = "seen") := by decide +kernel
theorem str_hh : ¬ (("here" : Str) = "hand") := by decide +kernel
theorem str_hl : ¬ (("here" : Str) = "lacks") := by decide +kernel
theorem str_sh : ¬ (("seen" : Str) = "hand") := by decide +kernel
theorem str_sl : ¬ (("seen" : Str) = "lacks") := by decide +kernel
theorem str_al : ¬ (("hand" : Str) = "lacks") := by decide +kernel
def dfl (a b : Addr) (h l : Int) : List (Str × V) := [("here", .ref a), ("seen", .ref b), ("hand", .int h), ("lacks", .int l)]
theorem dfl_made (a b : Addr) (h l : Int) : putF "lacks" (.int l) (putF "hand" (.int h) (putF "seen" (.ref b) (putF "here" (.ref a) []))) = dfl a b h l := by
  simp only [putF, if_neg str_hs, if_neg str_hh, if_neg str_hl, if_neg str_sh, if_neg str_sl, if_neg str_al, dfl]
theorem dfl_hand (a b : Addr) (h l y : Int) : putF "hand" (.int y) (dfl a b h l) = dfl a b y l := by
  simp only [dfl, putF, if_neg str_hh, if_neg str_sh, if_pos]
theorem dfl_lacks (a b : Addr) (h l y : Int) : putF "lacks" (.int y) (dfl a b h l) = dfl a b h y := by
  simp only [dfl, putF, if_neg str_hl, if_neg str_sl, if_neg str_al, if_pos]
theorem dfl_len (a b : Addr) (h l : Int) : (dfl a b h l).length < 1000 := by show 4 < 1000; decide
theorem lk_here (a b : Addr) (h l : Int) : (dfl a b h l).lookup ("here" : Str) = some (.ref a) := by
  rw [← dfl_made, lookup_putF, if_neg str_hl, lookup_putF, if_neg str_hh, lookup_putF, if_neg str_hs, lookup_putF, if_pos rfl]
theorem lk_seen (a b : Addr) (h l : Int) : (dfl a b h l).lookup ("seen" : Str) = some (.ref b) := by
  rw [← dfl_made, lookup_putF, if_neg str_sl, lookup_putF, if_neg str_sh, lookup_putF, if_pos rfl]
theorem lk_hand (a b : Addr) (h l : Int) : (dfl a b h l).lookup ("hand" : Str) = some (.int h) := by
  rw [← dfl_made, lookup_putF, if_neg str_al, lookup_putF, if_pos rfl]
theorem lk_lacks (a b : Addr) (h l : Int) : (dfl a b h l).lookup ("lacks" : Str) = some (.int l) := by
  rw [← dfl_made, lookup_putF, if_pos rfl]
theorem lk_no (a b : Addr) (h l : Int) {m : Str} (h1 : ¬ m = "lacks") (h2 : ¬ m = "hand") (h3 : ¬ m = "seen") (h4 : ¬ m = "here") : (dfl a b h l).lookup m = none := by
  rw [← dfl_made, lookup_putF, if_neg h1, lookup_putF, if_neg h2, lookup_putF, if_neg h3, lookup_putF, if_neg h4]
  rfl
/-- a Dial at p, its lists at a and b -/
def DialAt (C : Addr) (H : Hp) (p a b : Addr) (d : Dl) : Prop := (∃ dx, H p = some (.ins C dx (dfl a b d.hand d.lacks))) ∧ H a = some (.lst (d.here.map oV)) ∧ H b = some (.lst (d.seen.map V.bl))
theorem DialAt.keep {C p a b : Addr} {H H' : Hp} {d : Dl} {W : List Addr} (h : DialAt C H p a b d) (f : Fr W H H') (hp : p ∉ W) (ha : a ∉ W) (hb : b ∉ W) : DialAt C H' p a b d := by
  obtain ⟨⟨dx, h1⟩, h2, h3⟩ := h
  exact ⟨⟨dx, f.get h1 hp⟩, f.get h2 ha, f.get h3 hb⟩
theorem DialAt.keep0 {C p a b : Addr} {H H' : Hp} {d : Dl} (h : DialAt C H p a b d) (f : Fr [] H H') : DialAt C H' p a b d := h.keep f (by simp) (by simp) (by simp)
section
variable {K : PySem.W.Frag} {H : Hp}
theorem w_fld {ta : TE} {f : Str} {σ : L2.St} {Q : VK} (h : ta σ H fun x H1 => ∃ a C dx fs v, x = .ref a ∧ H1 a = some (.ins C dx fs) ∧ Cls K C ∧ NoAttr K C f ∧ fs.lookup f = some v ∧ Q v H1) : tFld K ta f σ H Q := h
theorem w_fldR {p C dx : Addr} {fs : List (Str × V)} {f : Str} {v : V} {P : V → Prop} (h : H p = some (.ins C dx fs)) (c : Cls K C) (n : NoAttr K C f) (l : fs.lookup f = some v) (q : P v) :
    ∃ a C dx fs v, V.ref p = .ref a ∧ H a = some (.ins C dx fs) ∧ Cls K C ∧ NoAttr K C f ∧ fs.lookup f = some v ∧ P v := ⟨p, C, dx, fs, v, rfl, h, c, n, l, q⟩
theorem w_sFld {ta tv : TE} {f : Str} {σ : L2.St} {nx : L2.St → Hp → Prop} {rt : VK} {bk ct : L2.St → Hp → Prop} (h : tv σ H fun y H1 => ta σ H1 fun x H2 => ∃ a C dx fs, x = .ref a ∧ H2 a = some (.ins C dx fs) ∧ Cls K C ∧ NoAttr K C f ∧ fs.length < 1000 ∧ nx σ (upd H2 a (.ins C dx (putF f y fs)))) :
    sFld K ta tv f ⟨nx, rt, bk, ct⟩ σ H := h
theorem w_sFldR {p C dx : Addr} {fs gs : List (Str × V)} {f : Str} {y : V} {N : Hp → Prop} (h : H p = some (.ins C dx fs)) (c : Cls K C) (n : NoAttr K C f) (l : fs.length < 1000) (e : putF f y fs = gs) (q : N (upd H p (.ins C dx gs))) :
    ∃ a C dx fs, V.ref p = .ref a ∧ H a = some (.ins C dx fs) ∧ Cls K C ∧ NoAttr K C f ∧ fs.length < 1000 ∧ N (upd H a (.ins C dx (putF f y fs))) := ⟨p, C, dx, fs, rfl, h, c, n, l, by rw [e]; exact q⟩
theorem w_aug {ta tv : TE} {rd : V → V → Hp → VK → Prop} {f : Str} {σ : L2.St} {nx : L2.St → Hp → Prop} {rt : VK} {bk ct : L2.St → Hp → Prop} (h : ta σ H fun x H1 => ∃ a C dx fs v, x = .ref a ∧ H1 a = some (.ins C dx fs) ∧ Cls K C ∧ NoAttr K C f ∧ fs.lookup f = some v ∧
  tv σ H1 fun y H2 => rd v y H2 fun z H3 => ∃ dx' fs', H3 a = some (.ins C dx' fs') ∧ fs'.length < 1000 ∧ nx σ (upd H3 a (.ins C dx' (putF f z fs')))) : sFldAug K ta tv rd f ⟨nx, rt, bk, ct⟩ σ H := h
theorem w_augR {p C dx : Addr} {fs : List (Str × V)} {f : Str} {v : V} {P : Addr → Addr → V → Prop} (h : H p = some (.ins C dx fs)) (c : Cls K C) (n : NoAttr K C f) (l : fs.lookup f = some v) (q : P p C v) :
    ∃ a C dx fs v, V.ref p = .ref a ∧ H a = some (.ins C dx fs) ∧ Cls K C ∧ NoAttr K C f ∧ fs.lookup f = some v ∧ P a C v := ⟨p, C, dx, fs, v, rfl, h, c, n, l, q⟩
theorem w_rAdd {i j : Int} {Q : VK} (q : Q (.int (i + j)) H) : rAdd (.int i) (.int j) H Q := ⟨i, j, rfl, rfl, q⟩
theorem w_augS {p C dx : Addr} {fs gs : List (Str × V)} {f : Str} {z : V} {N : Hp → Prop} (h : H p = some (.ins C dx fs)) (l : fs.length < 1000) (e : putF f z fs = gs) (q : N (upd H p (.ins C dx gs))) :
    ∃ dx' fs', H p = some (.ins C dx' fs') ∧ fs'.length < 1000 ∧ N (upd H p (.ins C dx' (putF f z fs'))) := ⟨dx, fs, h, l, by rw [e]; exact q⟩
theorem w_make {C : Addr} {sp : Sp} {dvs : List V} {E : XK} {t : TA} {σ : L2.St} {Q : VK} (h : t σ H fun vs H1 => ∀ x dx, H1 x = none → H1 dx = none → dx ≠ x → sp (.ref x :: (vs ++ dvs)) (upd (upd H1 dx (.own x)) x (.ins C dx [])) (fun v H2 => v = .non ∧ Q (.ref x) H2) E) : tMake C sp dvs E t σ H Q := h
theorem w_meth {C : Addr} {m : Str} {sp : Sp} {dvs : List V} {E : XK} {ta : TE} {t : TA} {σ : L2.St} {Q : VK} (h : ta σ H fun x H1 => ∃ a dx fs, x = .ref a ∧ H1 a = some (.ins C dx fs) ∧ fs.lookup m = none ∧ t σ H1 fun vs H2 => sp (x :: (vs ++ dvs)) H2 Q E) : tMeth C m sp dvs E ta t σ H Q := h
theorem w_methR {p C dx : Addr} {fs : List (Str × V)} {m : Str} {B : Prop} (h : H p = some (.ins C dx fs)) (l : fs.lookup m = none) (q : B) : ∃ a dx fs, V.ref p = .ref a ∧ H a = some (.ins C dx fs) ∧ fs.lookup m = none ∧ B := ⟨p, dx, fs, rfl, h, l, q⟩
end
/-! what a dial tells, as data -/
def oD : Option Int → PyData
  | none => .none
  | some i => .int i
def natsD (l : List Nat) : List PyData := l.map fun (i : Nat) => PyData.int (i : Int)
def tlD (t : Tl) : PyData := .tuple [.bool t.lack, oD t.gone, .list (natsD t.passed)]
def toldV (t : Tl) (q : Addr) : List V := [.bl t.lack, oV t.gone, .ref q]
def natsV (l : List Nat) : List V := l.map fun (i : Nat) => V.int (i : Int)
theorem nw_o {K : PySem.W.Frag} {H H' : Hp} (o : Option Int) : Nw K H H' (oV o) (oD o) := by
  cases o
  · exact Nw.non
  · exact Nw.int _
theorem nw_nats {K : PySem.W.Frag} {H H' : Hp} (l : List Nat) : NwA K H H' (natsV l) (natsD l) := by
  have e1 : natsV l = (l.map fun (i : Nat) => (i : Int)).map V.int := by simp [natsV]
  have e2 : natsD l = (l.map fun (i : Nat) => (i : Int)).map PyData.int := by simp [natsD]
  rw [e1, e2]
  exact NwA.ints _
theorem nw_tl {K : PySem.W.Frag} {H H' : Hp} {t q : Addr} (tl : Tl) (ht : H t = none) (hq : H q = none) (h1 : H' t = some (.tup (toldV tl q))) (h2 : H' q = some (.lst (natsV tl.passed))) : Nw K H H' (.ref t) (tlD tl) :=
  Nw.tup ht h1 (.cons (Nw.bl _) (.cons (nw_o _) (.cons (Nw.lst hq h2 (nw_nats _)) .nil)))
end Cw
namespace Cw
open PySem L2
/-! the rules that keep a row of pages -/
def keepS (rooms : Nat) (unseen : Bool) (kept : List Int) (x : Int) : List Int :=
  if x ∈ kept then (if unseen then kept.erase x ++ [x] else kept) else kept.drop (if kept.length = rooms then 1 else 0) ++ [x]
/-- of each ask whether the page lacked -/
def keepAll (rooms : Nat) (unseen : Bool) : List Int → List Int → List Bool
  | _, [] => []
  | kept, x :: r => decide (x ∉ kept) :: keepAll rooms unseen (keepS rooms unseen kept x) r
def keepEnd (rooms : Nat) (unseen : Bool) : List Int → List Int → List Int
  | kept, [] => kept
  | kept, x :: r => keepEnd rooms unseen (keepS rooms unseen kept x) r
structure KOk (rooms : Nat) (kept : List Int) : Prop where
  nd : kept.Nodup
  le : kept.length ≤ rooms
theorem KOk.step {rooms : Nat} {kept : List Int} (n0 : 0 < rooms) (h : KOk rooms kept) (u : Bool) (x : Int) : KOk rooms (keepS rooms u kept x) := by
  obtain ⟨nd, le⟩ := h
  unfold keepS
  split
  · rename_i hm
    split
    · refine ⟨?_, ?_⟩
      · rw [List.nodup_append]
        refine ⟨nd.erase x, by simp, fun a ha b hb => ?_⟩
        simp at hb
        subst hb
        intro e
        subst e
        exact (List.Nodup.mem_erase_iff nd).mp ha |>.1 rfl
      · rw [List.length_append, List.length_erase_of_mem hm]
        have := List.length_pos_of_mem hm
        simp
        omega
    · exact ⟨nd, le⟩
  · rename_i hm
    refine ⟨?_, ?_⟩
    · rw [List.nodup_append]
      refine ⟨nd.sublist (List.drop_sublist _ _), by simp, fun a ha b hb => ?_⟩
      simp at hb
      subst hb
      intro e
      subst e
      exact hm (List.mem_of_mem_drop ha)
    · rw [List.length_append, List.length_drop]
      simp
      split <;> omega
theorem keepAll_app (rooms : Nat) (u : Bool) : ∀ (k a b : List Int), keepAll rooms u k (a ++ b) = keepAll rooms u k a ++ keepAll rooms u (keepEnd rooms u k a) b
  | _, [], _ => rfl
  | k, x :: r, b => by simp [keepAll, keepEnd, keepAll_app]
theorem keepEnd_app (rooms : Nat) (u : Bool) : ∀ (k a b : List Int), keepEnd rooms u k (a ++ b) = keepEnd rooms u (keepEnd rooms u k a) b
  | _, [], _ => rfl
  | k, x :: r, b => by simp [keepEnd, keepEnd_app]
theorem keepAll_len (rooms : Nat) (u : Bool) : ∀ (k a : List Int), (keepAll rooms u k a).length = a.length
  | _, [] => rfl
  | k, x :: r => by simp [keepAll, keepAll_len]
theorem keepEnd_ok {rooms : Nat} (n0 : 0 < rooms) (u : Bool) : ∀ (k a : List Int), KOk rooms k → KOk rooms (keepEnd rooms u k a)
  | _, [], h => h
  | k, x :: r, h => keepEnd_ok n0 u _ r (h.step n0 u x)
/-- whether each ask of a row lacks, by a rule -/
def lackB (rooms : Nat) (z : Str) (row : List Int) : List Bool :=
  if z = Str.ofString "hand" then (askAll (Dl.new rooms) row).map Tl.lack else keepAll rooms (decide (z = Str.ofString "unseen")) [] row
theorem lackB_len (rooms : Nat) (z : Str) (row : List Int) : (lackB rooms z row).length = row.length := by
  unfold lackB
  split
  · rw [List.length_map, askAll_len]
  · exact keepAll_len _ _ _ _
/-- the places of the trues -/
def placesFrom : Nat → List Bool → List Int
  | _, [] => []
  | i, b :: r => if b then (i : Int) :: placesFrom (i + 1) r else placesFrom (i + 1) r
def places (bs : List Bool) : List Int := placesFrom 0 bs
theorem placesFrom_snoc : ∀ (i : Nat) (bs : List Bool) (b : Bool), placesFrom i (bs ++ [b]) = placesFrom i bs ++ (if b then [((i + bs.length : Nat) : Int)] else [])
  | i, [], b => by cases b <;> simp [placesFrom]
  | i, c :: r, b => by
    have h := placesFrom_snoc (i + 1) r b
    have e : i + 1 + r.length = i + (c :: r).length := by simp; omega
    rw [e] at h
    cases c <;> simp [placesFrom, h]
theorem places_snoc (bs : List Bool) (b : Bool) : places (bs ++ [b]) = places bs ++ (if b then [((bs.length : Nat) : Int)] else []) := by
  have h := placesFrom_snoc 0 bs b
  simpa [places] using h
theorem erase_filter {x : Int} : ∀ {k : List Int}, k.Nodup → k.erase x = k.filter fun y => decide (y ≠ x)
  | [], _ => rfl
  | y :: r, nd => by
    obtain ⟨h1, h2⟩ := List.nodup_cons.mp nd
    by_cases e : y = x
    · subst e
      rw [List.erase_cons_head, List.filter_cons_of_neg (by simp)]
      refine (List.filter_eq_self.mpr fun z hz => ?_).symm
      simp
      intro e
      subst e
      exact h1 hz
    · rw [List.erase_cons_tail (by simpa using e), List.filter_cons_of_pos (by simpa using e), erase_filter h2]
section
variable {σ : L2.St} {K : PySem.W.Frag} {H : Hp} {Q : VK}
theorem w_inI {p : Addr} {ns : List Int} {x : Int} (h : SqL K H p (ns.map V.int)) (q : Q (.bl (decide (x ∈ ns))) H) : rIn K false (.int x) (.ref p) H Q := w_inL h rfl (flat_int ns) (in_int x ns) q
theorem w_niI {p : Addr} {ns : List Int} {x : Int} (h : SqL K H p (ns.map V.int)) (q : Q (.bl (decide (x ∉ ns))) H) : rIn K true (.int x) (.ref p) H Q := w_niL h rfl (flat_int ns) (by rw [in_int]; simp) q
theorem w_remI {l : Addr} {ns : List Int} {x : Int} (h : H l = some (.lst (ns.map V.int))) (hm : x ∈ ns) (q : Q .non (upd H l (.lst ((ns.erase x).map V.int)))) : rRemI (.ref l) [.int x] H Q := by
  have hj := List.idxOf_lt_length_iff.mpr hm
  refine ⟨l, ns, x, ns.idxOf x, rfl, rfl, h, by rw [List.getElem?_eq_getElem hj]; simp, fun m hm' e => ?_, ?_⟩
  · have z := List.not_of_lt_findIdx (p := (· == x)) (xs := ns) (i := m) hm'
    rw [List.getElem?_eq_getElem (by omega)] at e
    rw [Option.some.inj e] at z
    simp at z
  · rw [← List.erase_eq_eraseIdx_of_idxOf rfl]; exact q
theorem w_sl {r : V → Option Int → Option Int → Hp → VK → Prop} {te : TE} {tl th : TO} (h : te σ H fun x H1 => tl σ H1 fun l H2 => th σ H2 fun u H3 => r x l u H3 Q) : tSl r te tl th σ H Q := h
theorem w_part {t : TE} {QO : Option Int → Hp → Prop} (h : t σ H fun x H1 => ∃ i, x = .int i ∧ QO (some i) H1) : tPart t σ H QO := h
theorem w_nopart {QO : Option Int → Hp → Prop} (h : QO none H) : tNoPart σ H QO := h
theorem w_isInt {i : Int} {P : Int → Prop} (h : P i) : ∃ k, V.int i = .int k ∧ P k := ⟨i, rfl, h⟩
theorem w_slL {a : Addr} {xs : List V} {lo hi : Option Int} (h : SqL K H a xs) (q : ∀ p, H p = none → Q (.ref p) (upd H p (.lst (cutV xs lo hi)))) : rSlL K (.ref a) lo hi H Q := ⟨a, xs, rfl, h, q⟩
end
theorem cut_from (xs : List V) (k : Nat) : cutV xs (some (k : Int)) none = xs.drop k := by
  unfold cutV
  rw [HT.sIx_nat, HT.sIx_none]
  rcases Nat.le_total k xs.length with h | h
  · rw [Nat.min_eq_left h]
    exact List.take_of_length_le (by rw [List.length_drop]; omega)
  · rw [Nat.min_eq_right h, List.drop_of_length_le h]
    simp
theorem cut_last (xs : List V) {n : Int} (h : 0 < n) : cutV xs (some (-n)) none = xs.drop (xs.length - n.toNat) := by
  unfold cutV
  have e : HT.sIx xs.length 0 (some (-n)) = xs.length - n.toNat := by
    show (if -n < 0 then (-n + (xs.length : Int)).toNat else _) = _
    rw [if_pos (by omega)]
    omega
  rw [e, HT.sIx_none]
  exact List.take_of_length_le (by rw [List.length_drop]; omega)
theorem cut_mid (xs : List V) (i j : Nat) : cutV xs (some (i : Int)) (some (j : Int)) = (xs.take j).drop i := by
  unfold cutV
  rw [HT.sIx_nat, HT.sIx_nat, List.drop_take]
  rcases Nat.le_total i xs.length with h | h
  · rw [Nat.min_eq_left h]
    rcases Nat.le_total j xs.length with h2 | h2
    · rw [Nat.min_eq_left h2]
    · rw [Nat.min_eq_right h2, List.take_of_length_le (by rw [List.length_drop]; omega), List.take_of_length_le (by rw [List.length_drop]; omega)]
  · rw [Nat.min_eq_right h, List.drop_of_length_le (Nat.le_refl _), List.drop_of_length_le h]
    simp
end Cw
namespace Cw
open PySem L2
/-! the law's own dial: a dict by texts -/
theorem str_pm : ¬ (("pages" : Str) = "marks") := by decide +kernel
theorem str_ph : ¬ (("pages" : Str) = "hand") := by decide +kernel
theorem str_pl : ¬ (("pages" : Str) = "lacks") := by decide +kernel
theorem str_mh : ¬ (("marks" : Str) = "hand") := by decide +kernel
theorem str_ml : ¬ (("marks" : Str) = "lacks") := by decide +kernel
theorem key_ne {a b : Str} (h : ¬ a = b) : ¬ ((Sum.inr a : Key) = Sum.inr b) := fun e => h (Sum.inr.inj e)
theorem key_ne' {a b : Str} (h : ¬ a = b) : ¬ ((Sum.inr b : Key) = Sum.inr a) := fun e => h (Sum.inr.inj e).symm
def ddl (a b : Addr) (h l : Int) : List (Key × V) := [(.inr "pages", .ref a), (.inr "marks", .ref b), (.inr "hand", .int h), (.inr "lacks", .int l)]
theorem ddl_made (a b : Addr) (h l : Int) : mergeK [] (ddl a b h l) = ddl a b h l := by
  show putK (putK (putK (putK [] (Sum.inr "pages" : Key) (V.ref a)) (Sum.inr "marks") (V.ref b)) (Sum.inr "hand") (V.int h)) (Sum.inr "lacks") (V.int l) = _
  rw [putK_new (kvs := []) (V.ref a) rfl]
  rw [putK_new (V.ref b) (by rw [List.nil_append, valV_neg (key_ne str_pm)]; rfl)]
  rw [putK_new (V.int h) (by simp only [List.nil_append, List.cons_append]; rw [valV_neg (key_ne str_ph), valV_neg (key_ne str_mh)]; rfl)]
  rw [putK_new (V.int l) (by simp only [List.nil_append, List.cons_append]; rw [valV_neg (key_ne str_pl), valV_neg (key_ne str_ml), valV_neg (key_ne str_al)]; rfl)]
  rfl
theorem ddl_pages (a b : Addr) (h l : Int) : valV (ddl a b h l) (.inr "pages") = some (.ref a) := valV_pos rfl
theorem ddl_marks (a b : Addr) (h l : Int) : valV (ddl a b h l) (.inr "marks") = some (.ref b) := by unfold ddl; rw [valV_neg (key_ne str_pm)]; exact valV_pos rfl
theorem ddl_hand (a b : Addr) (h l : Int) : valV (ddl a b h l) (.inr "hand") = some (.int h) := by unfold ddl; rw [valV_neg (key_ne str_ph), valV_neg (key_ne str_mh)]; exact valV_pos rfl
theorem ddl_lacks (a b : Addr) (h l : Int) : valV (ddl a b h l) (.inr "lacks") = some (.int l) := by unfold ddl; rw [valV_neg (key_ne str_pl), valV_neg (key_ne str_ml), valV_neg (key_ne str_al)]; exact valV_pos rfl
theorem ddl_putH (a b : Addr) (h l y : Int) : putK (ddl a b h l) (.inr "hand") (.int y) = ddl a b y l := by
  unfold putK
  rw [valV_any, ddl_hand, if_pos (show (some (V.int h)).isSome = true from rfl)]
  simp only [ddl, List.map_cons, List.map_nil, if_neg (key_ne str_ph), if_neg (key_ne str_mh), if_neg (key_ne' str_al), if_true]
theorem ddl_putL (a b : Addr) (h l y : Int) : putK (ddl a b h l) (.inr "lacks") (.int y) = ddl a b h y := by
  unfold putK
  rw [valV_any, ddl_lacks, if_pos (show (some (V.int l)).isSome = true from rfl)]
  simp only [ddl, List.map_cons, List.map_nil, if_neg (key_ne str_pl), if_neg (key_ne str_ml), if_neg (key_ne str_al), if_true]
theorem ddl_len (a b : Addr) (h l : Int) : (ddl a b h l).length < sizeLine := sz_lt (by show 4 < 100000; decide)
def LDial (H : Hp) (p a b : Addr) (d : Dl) : Prop := H p = some (.dK (ddl a b d.hand d.lacks)) ∧ H a = some (.lst (d.here.map oV)) ∧ H b = some (.lst (d.seen.map V.bl))
theorem LDial.keep {p a b : Addr} {H H' : Hp} {d : Dl} {W : List Addr} (h : LDial H p a b d) (f : Fr W H H') (hp : p ∉ W) (ha : a ∉ W) (hb : b ∉ W) : LDial H' p a b d := ⟨f.get h.1 hp, f.get h.2.1 ha, f.get h.2.2 hb⟩
section
variable {H : Hp} {σ : L2.St} {Q : VK}
theorem w_dget {td ty : TE} (h : td σ H fun x H1 => ty σ H1 fun y H2 => ∃ a v, x = .ref a ∧ DGet H2 a y (some v) ∧ Q v H2) : tDGet td ty σ H Q := h
theorem w_dgetS {d : Addr} {kvs : List (Key × V)} {z : Str} {v : V} {P : V → Prop} (h : H d = some (.dK kvs)) (hv : valV kvs (.inr z) = some v) (q : P v) : ∃ a v, V.ref d = .ref a ∧ DGet H a (.str z) (some v) ∧ P v :=
  ⟨d, v, rfl, by rw [← hv]; exact DGet.k (k := Sum.inr z) h, q⟩
theorem w_dput {td ty tv : TE} {nx : L2.St → Hp → Prop} {rt : VK} {bk ct : L2.St → Hp → Prop} (h : tv σ H fun v H1 => td σ H1 fun x H2 => ty σ H2 fun y H3 => ∃ a H4, x = .ref a ∧ DPut H3 a y v H4 ∧ nx σ H4) : sDPut td ty tv ⟨nx, rt, bk, ct⟩ σ H := h
theorem w_dputS {d : Addr} {kvs ks : List (Key × V)} {z : Str} {v : V} {N : Hp → Prop} (h : H d = some (.dK kvs)) (hl : kvs.length < sizeLine) (e : putK kvs (.inr z) v = ks) (q : N (upd H d (.dK ks))) : ∃ a H4, V.ref d = .ref a ∧ DPut H a (.str z) v H4 ∧ N H4 :=
  ⟨d, _, rfl, DPut.k (k := Sum.inr z) h hl, by rw [e]; exact q⟩
theorem w_rep {l : Addr} {k : Int} {xs : List V} (h : H l = some (.lst xs)) (h1 : 0 ≤ k) (h2 : k < 1000) (hz : xs.length ≤ 100) (q : ∀ p, H p = none → Q (.ref p) (upd H p (.lst (List.replicate k.toNat xs).flatten))) : rRep (.ref l) (.int k) H Q :=
  ⟨l, k, xs, rfl, rfl, h, by omega, by omega, sz_le (Nat.le_trans (Nat.mul_le_mul hz (show k.toNat ≤ 1000 by omega)) (by decide)), q⟩
theorem w_disp {trs : List (TE × TE)} (h : ∀ p, H p = none → tPairs trs σ (upd H p (.dK [])) fun ps H2 => H2 p = some (.dK []) ∧ ∃ kvs : List (Key × V), ps = kvs.map (fun kv => (kV kv.1, kv.2)) ∧ kvs.length ≤ 15 ∧ Q (.ref p) (upd H2 p (.dK (mergeK [] kvs)))) : tDisp trs σ H Q := h
theorem w_pairs {tk tv : TE} {r : List (TE × TE)} {QP : List (V × V) → Hp → Prop} (h : tk σ H fun x H1 => tv σ H1 fun y H2 => tPairs r σ H2 fun ps H3 => QP ((x, y) :: ps) H3) : tPairs ((tk, tv) :: r) σ H QP := h
theorem w_pairs0 {QP : List (V × V) → Hp → Prop} (h : QP [] H) : tPairs [] σ H QP := h
end
end Cw
namespace Cw
open PySem L2
def lkD (rooms : Nat) (z : Str) (ns : List Int) : Dl := if z = Str.ofString "hand" then endAll (Dl.new rooms) ns else Dl.new rooms
def lkK (rooms : Nat) (z : Str) (ns : List Int) : List Int := if z = Str.ofString "hand" then [] else keepEnd rooms (decide (z = Str.ofString "unseen")) [] ns
def lkB (rooms : Nat) (z : Str) (ns : List Int) (x : Int) : Bool := if z = Str.ofString "hand" then ((lkD rooms z ns).ask x).2.lack else decide (x ∉ lkK rooms z ns)
theorem lackB_snoc (rooms : Nat) (z : Str) (ns : List Int) (x : Int) : lackB rooms z (ns ++ [x]) = lackB rooms z ns ++ [lkB rooms z ns x] := by
  unfold lackB lkB lkD lkK
  by_cases h : z = Str.ofString "hand"
  · simp only [if_pos h, askAll_app, List.map_append]; rfl
  · simp only [if_neg h, keepAll_app]; rfl
theorem lkD_snoc (rooms : Nat) (z : Str) (ns : List Int) (x : Int) : lkD rooms z (ns ++ [x]) = if z = Str.ofString "hand" then ((lkD rooms z ns).ask x).1 else lkD rooms z ns := by
  unfold lkD
  by_cases h : z = Str.ofString "hand"
  · simp only [if_pos h, endAll_app]; rfl
  · simp only [if_neg h]
theorem lkK_snoc (rooms : Nat) (z : Str) (ns : List Int) (x : Int) : lkK rooms z (ns ++ [x]) = if z = Str.ofString "hand" then lkK rooms z ns else keepS rooms (decide (z = Str.ofString "unseen")) (lkK rooms z ns) x := by
  unfold lkK
  by_cases h : z = Str.ofString "hand"
  · simp only [if_pos h]
  · simp only [if_neg h, keepEnd_app]; rfl
theorem lkD_wf {rooms : Nat} (n0 : 0 < rooms) (n8 : rooms ≤ 8) (z : Str) (ns : List Int) : (lkD rooms z ns).Wf rooms := by
  unfold lkD
  split
  · exact endAll_wf _ _ (.new n0 n8)
  · exact .new n0 n8
theorem lkK_ok {rooms : Nat} (n0 : 0 < rooms) (z : Str) (ns : List Int) : KOk rooms (lkK rooms z ns) := by
  unfold lkK
  split
  · exact ⟨List.nodup_nil, Nat.zero_le _⟩
  · exact keepEnd_ok n0 _ _ _ ⟨List.nodup_nil, Nat.zero_le _⟩
end Cw
namespace Cw
open PySem L2
theorem placesFrom_len : ∀ (i : Nat) (bs : List Bool), (placesFrom i bs).length ≤ bs.length
  | _, [] => Nat.le_refl _
  | i, b :: r => by
    have h := placesFrom_len (i + 1) r
    cases b <;> simp [placesFrom] <;> omega
theorem places_len (bs : List Bool) : (places bs).length ≤ bs.length := placesFrom_len 0 bs
theorem w_rep1 {H : Hp} {Q : VK} {l : Addr} {k : Int} {v : V} (h : H l = some (.lst [v])) (h1 : 0 ≤ k) (h2 : k < 1000) (q : ∀ p, H p = none → Q (.ref p) (upd H p (.lst (List.replicate k.toNat v)))) : rRep (.ref l) (.int k) H Q := by
  refine w_rep h h1 h2 (by show 1 ≤ 100; decide) fun p hp => ?_
  have e : ∀ k : Nat, (List.replicate k [v]).flatten = List.replicate k v := fun k => by
    induction k with
    | zero => rfl
    | succ k ih => rw [List.replicate_succ, List.flatten_cons, ih]; rfl
  rw [e]
  exact q p hp
end Cw

namespace Cw
open PySem L2
/-! the unlike ones of a list, in their first order -/
def add1 (acc : List Int) (x : Int) : List Int := if x ∈ acc then acc else acc ++ [x]
def firsts (ns : List Int) : List Int := ns.foldl add1 []
theorem firsts_snoc (ns : List Int) (x : Int) : firsts (ns ++ [x]) = add1 (firsts ns) x := by unfold firsts; rw [List.foldl_append]; rfl
theorem firsts_facts : ∀ (ns : List Int), (firsts ns).Nodup ∧ ∀ x, x ∈ firsts ns ↔ x ∈ ns := by
  intro ns
  have h : ∀ (ns acc : List Int), acc.Nodup → (ns.foldl add1 acc).Nodup ∧ ∀ x, x ∈ ns.foldl add1 acc ↔ x ∈ acc ∨ x ∈ ns := by
    intro ns
    induction ns with
    | nil => intro acc nd; exact ⟨nd, fun x => by simp⟩
    | cons y r ih =>
      intro acc nd
      have e : (y :: r).foldl add1 acc = r.foldl add1 (add1 acc y) := rfl
      rw [e]
      by_cases hy : y ∈ acc
      · have ea : add1 acc y = acc := if_pos hy
        rw [ea]
        refine ⟨(ih acc nd).1, fun x => ?_⟩
        rw [(ih acc nd).2 x, List.mem_cons]
        constructor
        · rintro (h | h)
          · exact .inl h
          · exact .inr (.inr h)
        · rintro (h | h | h)
          · exact .inl h
          · subst h; exact .inl hy
          · exact .inr h
      · have ea : add1 acc y = acc ++ [y] := if_neg hy
        rw [ea]
        have nd2 : (acc ++ [y]).Nodup := by
          rw [List.nodup_append]
          refine ⟨nd, by simp, fun a ha b hb => ?_⟩
          simp at hb
          subst hb
          intro e
          subst e
          exact hy ha
        refine ⟨(ih _ nd2).1, fun x => ?_⟩
        rw [(ih _ nd2).2 x]
        simp only [List.mem_append, List.mem_cons, List.not_mem_nil, or_false, or_assoc]
  have := h ns [] List.nodup_nil
  exact ⟨this.1, fun x => by rw [show firsts ns = ns.foldl add1 [] from rfl, this.2 x]; simp⟩
theorem firsts_len_le (ns : List Int) : (firsts ns).length ≤ ns.length := by
  have h : ∀ (ns acc : List Int), (ns.foldl add1 acc).length ≤ acc.length + ns.length := by
    intro ns
    induction ns with
    | nil => intro acc; simp
    | cons y r ih =>
      intro acc
      have e : (y :: r).foldl add1 acc = r.foldl add1 (add1 acc y) := rfl
      rw [e]
      have := ih (add1 acc y)
      have h2 : (add1 acc y).length ≤ acc.length + 1 := by unfold add1; split <;> simp
      simp
      omega
  have z := h ns []
  simp at z
  exact z
theorem firstMet_firsts (ns : List Int) : PyProof.Rows.firstMet (fun i => ns.getD i 0) ns.length = firsts ns := by
  have hs : PyProof.Rows.step_dedup = add1 := by
    funext acc x
    unfold PyProof.Rows.step_dedup add1
    have e : (acc.any (· == x)) = decide (x ∈ acc) := by
      induction acc with
      | nil => rfl
      | cons y r ih =>
        rw [List.any_cons, ih]
        by_cases h : y = x
        · subst h; simp
        · simp [h, Ne.symm h]
    rw [e]
    by_cases h : x ∈ acc <;> simp [h]
  have e : (List.range ns.length).map (fun i => ns.getD i 0) = ns := by
    apply List.ext_getElem
    · simp
    · intro i h1 h2
      simp only [List.getElem_map, List.getElem_range]
      rw [List.getD_eq_getElem?_getD, List.getElem?_eq_getElem h2]
      rfl
  unfold PyProof.Rows.firstMet firsts
  rw [e, hs]
section
open PySem.Spec PyProof.Rows
def tLenSetD (K : PySem.W.Frag) (ta : TE) : TE := fun σ H Q => ta σ H fun x H1 => ∃ (l : Addr) (ns : List Int), x = .ref l ∧ SqL K H1 l (ns.map V.int) ∧ ns.length ≤ 4000 ∧ Q (.int (firsts ns).length) H1
theorem pe_lenSetD {X : Cx} {K : PySem.W.Frag} (hK : X.K = K) {a : Expr} {ta : TE} {p p2 q pos : Pos} (hg : Gl X "len") (hm : X.mg "len" = none) (hg2 : Gl X "set") (hm2 : X.mg "set" = none) (ha : PE X a ta) (hc : X.calm = true := by rfl)
    (na : starEach [a] X.env = (false, eval a X.env) :: starEach [] X.env := by rfl) : PE X (.Call (.Name "len" p) [.Call (.Name "set" p2) [a] [] q] [] pos) (tLenSetD K ta) := by
  subst hK
  refine ⟨fun pins s σ H Q I h => ?_⟩
  refine Call_ (ld_blt I hg hm boot_len ?_)
  refine PyProof.Rows.callWith_builtin1 (PyProof.Rows.args_cons ?_ rfl) rfl rfl
  refine Call_ (ld_blt I hg2 hm2 (show bootBuiltins ("set" : Str) = some (.type "set") by decide +kernel) ?_)
  refine PyProof.Rows.callWith_type1 (PyProof.Rows.args_cons (thn (ha.run pins s σ H _ I h) fun v s1 ⟨x, H1, I1, r1, q1⟩ => PyProof.Rows.args_nil ?_) na) na rfl
  obtain ⟨l, ns, rfl, hq, hl, q1⟩ := q1
  cases r1
  obtain ⟨its, r, pl, hz⟩ := I1.list hq
  have hlen : its.toArray.size = ns.length := by rw [List.size_toArray, ← r.length, List.length_map]
  refine PySem.call_set_list (I1.ok.hd hc) pl.isList (by simpa using RZ.intsAre_vals r) (by rw [hlen]; unfold PySem.scanBound; omega) fun h' tk hS hk => ?_
  refine PyProof.Rows.args_nil ?_
  rw [hlen, firstMet_firsts] at hS
  have hfl := firsts_len_le ns
  obtain ⟨o, es, ep, t, ho, hex, hd, _, _, _, hf, hn⟩ := hS
  have I2 : Inv X pins σ H1 { s1 with heap := h', toks := tk } := I1.kept fun b o e => hk b o (Heap.lt_size e) e
  exact PySem.call_len_set ho hex hd hf (by rw [hn] <;> omega) ⟨.int (firsts ns).length, H1, I2.tok _, ⟨_, by rw [hn]⟩, q1⟩
end
end Cw
namespace Cw
open PySem L2
/-! stretches -/
structure Cs where
  out : List (Int × Int)
  b : Nat
  seg : List Int
  n : Nat
def cstep (rooms : Nat) (s : Cs) (x : Int) : Cs :=
  if x ∉ firsts s.seg ∧ (firsts s.seg).length = rooms then ⟨s.out ++ [((s.b : Int), (s.n : Int))], s.n, [x], s.n + 1⟩ else ⟨s.out, s.b, s.seg ++ [x], s.n + 1⟩
def cst (rooms : Nat) (ns : List Int) : Cs := ns.foldl (cstep rooms) ⟨[], 0, [], 0⟩
theorem cst_snoc (rooms : Nat) (ns : List Int) (x : Int) : cst rooms (ns ++ [x]) = cstep rooms (cst rooms ns) x := by unfold cst; rw [List.foldl_append]; rfl
def parts (rooms : Nat) (ns : List Int) : List (Int × Int) := if ns = [] then [] else (cst rooms ns).out ++ [(((cst rooms ns).b : Int), (ns.length : Int))]
structure Cs.Ok (s : Cs) (rooms : Nat) (ns : List Int) : Prop where
  n : s.n = ns.length
  bn : s.b ≤ s.n
  seg : s.seg = ns.drop s.b
  le : (firsts s.seg).length ≤ rooms
  ol : s.out.length ≤ s.b
  ob : ∀ e ∈ s.out, 0 ≤ e.1 ∧ e.1 < e.2 ∧ e.2 ≤ s.b
  lt : ns ≠ [] → s.b < s.n
theorem list_snoc_ind {α : Type} {P : List α → Prop} (h0 : P []) (hs : ∀ l x, P l → P (l ++ [x])) : ∀ l, P l := by
  intro l
  have h : ∀ n, ∀ l : List α, l.length = n → P l := by
    intro n
    induction n with
    | zero => intro l hl; rw [List.eq_nil_of_length_eq_zero hl]; exact h0
    | succ n ih =>
      intro l hl
      have hne : l ≠ [] := by intro e; rw [e] at hl; cases hl
      rw [← List.dropLast_concat_getLast hne]
      exact hs _ _ (ih _ (by rw [List.length_dropLast]; omega))
  exact h _ l rfl
theorem cst_ok {rooms : Nat} (n0 : 0 < rooms) : ∀ ns : List Int, (cst rooms ns).Ok rooms ns := by
  refine list_snoc_ind ?_ ?_
  · exact ⟨rfl, Nat.le_refl _, rfl, Nat.zero_le _, Nat.le_refl _, fun e h => by simp [cst] at h, fun h => absurd rfl h⟩
  · intro ns x ⟨hn, hb, hs, hl, ho, hob, hlt⟩
    rw [cst_snoc]
    generalize cst rooms ns = s at *
    unfold cstep
    split
    · rename_i h
      have hne : ns ≠ [] := by
        intro e
        subst e
        rw [hs] at h
        have h2 := h.2
        simp [firsts] at h2
        omega
      have := hlt hne
      refine ⟨by simp [hn], by simp, by simp [hn], ?_, ?_, ?_, fun _ => Nat.lt_succ_self _⟩
      · show (firsts [x]).length ≤ rooms
        simp [firsts, add1]
        omega
      · simp
        omega
      · intro e he
        rcases List.mem_append.mp he with he | he
        · have := hob e he
          exact ⟨this.1, this.2.1, by show e.2 ≤ (s.n : Int); omega⟩
        · simp at he
          subst he
          exact ⟨by simp, by simp; omega, by simp⟩
    · rename_i h
      refine ⟨by simp [hn], by show s.b ≤ s.n + 1; omega, ?_, ?_, ho, hob, fun _ => by show s.b < s.n + 1; omega⟩
      · show s.seg ++ [x] = (ns ++ [x]).drop s.b
        rw [List.drop_append_of_le_length (by omega), hs]
      · show (firsts (s.seg ++ [x])).length ≤ rooms
        rw [firsts_snoc]
        unfold add1
        split
        · exact hl
        · rename_i h2
          have : (firsts s.seg).length ≠ rooms := fun e => h ⟨h2, e⟩
          rw [List.length_append]
          simp
          omega
def pairD (e : Int × Int) : PyData := .tuple [.int e.1, .int e.2]
/-- new tuples of two whole numbers -/
theorem nw_pair {K : PySem.W.Frag} {H H' : Hp} {t : Addr} {i j : Int} (ht : H t = none) (h : H' t = some (.tup [.int i, .int j])) : Nw K H H' (.ref t) (pairD (i, j)) := Nw.tup ht h (.cons (Nw.int _) (.cons (Nw.int _) .nil))
end Cw
namespace Cw
open PySem L2
theorem w_lenSetD {K : PySem.W.Frag} {H : Hp} {σ : L2.St} {Q : VK} {ta : TE} (h : ta σ H fun x H1 => ∃ (l : Addr) (ns : List Int), x = .ref l ∧ SqL K H1 l (ns.map V.int) ∧ ns.length ≤ 4000 ∧ Q (.int (firsts ns).length) H1) : tLenSetD K ta σ H Q := h
theorem cut_ints (ns : List Int) (i j : Nat) : cutV (ns.map V.int) (some (i : Int)) (some (j : Int)) = ((ns.take j).drop i).map V.int := by rw [cut_mid, ← List.map_take, ← List.map_drop]
theorem over_rooms {rooms : Nat} {seg : List Int} {x : Int} (h : (firsts seg).length ≤ rooms) : (rooms : Int) < ((firsts (seg ++ [x])).length : Int) ↔ (x ∉ firsts seg ∧ (firsts seg).length = rooms) := by
  rw [firsts_snoc]
  unfold add1
  by_cases hx : x ∈ firsts seg
  · rw [if_pos hx]
    constructor
    · intro z; omega
    · intro z; exact absurd hx z.1
  · rw [if_neg hx, List.length_append]
    simp [hx]
    omega
end Cw
namespace Cw
open PySem L2
theorem places_mem : ∀ bs : List Bool, ∀ p ∈ places bs, 0 ≤ p ∧ p < (bs.length : Int) := by
  refine list_snoc_ind (by intro p h; simp [places, placesFrom] at h) ?_
  intro l b ih p hp
  rw [places_snoc] at hp
  rcases List.mem_append.mp hp with h | h
  · have := ih p h
    rw [List.length_append]
    simp
    omega
  · cases b with
    | false => simp at h
    | true => simp at h; subst h; simp; omega
/-- places ahead of e -/
theorem places_take (e : Nat) : ∀ bs : List Bool, (places bs).filter (fun p => decide (p < (e : Int))) = places (bs.take e) := by
  refine list_snoc_ind (by simp [places, placesFrom]) ?_
  intro l b ih
  rw [places_snoc, List.filter_append, ih]
  by_cases h : e ≤ l.length
  · rw [List.take_append_of_le_length h]
    have : (if b = true then [((l.length : Nat) : Int)] else []).filter (fun p => decide (p < (e : Int))) = [] := by
      cases b <;> simp; omega
    rw [this, List.append_nil]
  · have h1 : (l ++ [b]).take e = l ++ [b] := List.take_of_length_le (by simp; omega)
    have h2 : l.take e = l := List.take_of_length_le (by omega)
    rw [h1, h2, places_snoc]
    congr 1
    cases b <;> simp; omega
/-- the places from b on, ahead of e -/
def cntL (bs : List Bool) (b e : Nat) : List Int := (places (bs.take e)).filter fun p => decide ((b : Int) ≤ p)
theorem cntL_start (bs : List Bool) (b : Nat) : cntL bs b b = [] := by
  unfold cntL
  rw [List.filter_eq_nil_iff]
  intro p hp
  have := places_mem _ p hp
  rw [List.length_take] at this
  simp
  omega
theorem cntL_succ {bs : List Bool} {b e : Nat} {v : Bool} (hb : b ≤ e) (h : bs[e]? = some v) : cntL bs b (e + 1) = cntL bs b e ++ (if v then [(e : Int)] else []) := by
  have hl := (List.getElem?_eq_some_iff.mp h).1
  unfold cntL
  rw [take_snoc h, places_snoc, List.filter_append, List.length_take, Nat.min_eq_left (by omega)]
  congr 1
  cases v <;> simp; omega
theorem cntL_law (bs : List Bool) (b e : Nat) : (places bs).filter (fun p => decide ((b : Int) ≤ p ∧ p < (e : Int))) = cntL bs b e := by
  unfold cntL
  rw [← places_take, List.filter_filter]
  congr 1
  funext p
  simp
theorem cntL_len (bs : List Bool) (b e : Nat) : (cntL bs b e).length ≤ bs.length := by
  unfold cntL
  refine Nat.le_trans (List.length_filter_le _ _) (Nat.le_trans (places_len _) ?_)
  rw [List.length_take]
  omega
theorem parts_mem {rooms : Nat} (n0 : 0 < rooms) (ns : List Int) : ∀ e ∈ parts rooms ns, 0 ≤ e.1 ∧ e.1 < e.2 ∧ e.2 ≤ (ns.length : Int) := by
  intro e he
  have o := cst_ok n0 ns
  unfold parts at he
  split at he
  · simp at he
  · rename_i hne
    rcases List.mem_append.mp he with h | h
    · have := o.ob e h
      have := o.bn
      have := o.n
      omega
    · simp at h
      subst h
      have := o.lt hne
      have := o.n
      simp
      omega
theorem parts_len {rooms : Nat} (n0 : 0 < rooms) (ns : List Int) : (parts rooms ns).length ≤ ns.length := by
  have o := cst_ok n0 ns
  unfold parts
  split
  · simp
  · rename_i hne
    have h1 := o.lt hne
    have h2 := o.ol
    have h3 := o.n
    rw [List.length_append]
    simp
    omega
def counts (bs : List Bool) (ps : List (Int × Int)) : List Int := ps.map fun e => ((cntL bs e.1.toNat e.2.toNat).length : Int)
theorem dp_pair {K : PySem.W.Frag} {H : Hp} {v : V} {e : Int × Int} (h : Dp K H v (pairD e)) : ∃ t, v = .ref t ∧ SqT K H t [.int e.1, .int e.2] := by
  unfold pairD at h
  cases h with
  | @tup t xs _ hs ha =>
    cases ha with
    | @cons v1 vr _ _ h1 h2 =>
    cases h1
    cases h2 with
    | @cons v2 vr2 _ _ h3 h4 =>
    cases h3
    cases h4
    exact ⟨t, rfl, hs⟩
end Cw
namespace Cw
open PySem L2
/-- xs are refs to tuples of two whole numbers, all new beside H; a list that changes is none of them -/
def PairsAt (H H' : Hp) (xs : List V) (ps : List (Int × Int)) : Prop := xs.length = ps.length ∧ ∀ (i : Nat) (e : Int × Int), ps[i]? = some e → ∃ t, xs[i]? = some (.ref t) ∧ H t = none ∧ H' t = some (.tup [.int e.1, .int e.2])
theorem PairsAt.nil {H H' : Hp} : PairsAt H H' [] [] := ⟨rfl, fun i e h => by simp at h⟩
theorem PairsAt.fr {H H' H2 : Hp} {xs : List V} {ps : List (Int × Int)} {W : List Addr} (h : PairsAt H H' xs ps) (f : Fr W H' H2) (hw : ∀ w ∈ W, ∃ l, H' w = some (.lst l)) : PairsAt H H2 xs ps := ⟨h.1, fun i e he => by
  obtain ⟨t, h1, h2, h3⟩ := h.2 i e he
  refine ⟨t, h1, h2, f.get h3 fun m => ?_⟩
  obtain ⟨l, hl⟩ := hw t m
  rw [h3] at hl
  cases hl⟩
theorem PairsAt.snoc {H H' : Hp} {xs : List V} {ps : List (Int × Int)} {t : Addr} {a b : Int} (h : PairsAt H H' xs ps) (ht : H t = none) (h2 : H' t = some (.tup [.int a, .int b])) : PairsAt H H' (xs ++ [.ref t]) (ps ++ [(a, b)]) := ⟨by simp [h.1], fun i e he => by
  rcases Nat.lt_or_ge i ps.length with l | l
  · rw [List.getElem?_append_left l] at he
    obtain ⟨u, h1, h3⟩ := h.2 i e he
    exact ⟨u, by rw [List.getElem?_append_left (by rw [h.1]; exact l)]; exact h1, h3⟩
  · rw [List.getElem?_append_right l] at he
    have hi : i - ps.length = 0 := by
      have := (List.getElem?_eq_some_iff.mp he).1
      simp at this
      omega
    rw [hi] at he
    have he' : (a, b) = e := Option.some.inj he
    subst he'
    exact ⟨t, by rw [List.getElem?_append_right (by rw [h.1]; exact l), h.1, hi]; rfl, ht, h2⟩⟩
theorem PairsAt.nwa {K : PySem.W.Frag} {H H' : Hp} : ∀ {xs : List V} {ps : List (Int × Int)}, PairsAt H H' xs ps → NwA K H H' xs (ps.map pairD)
  | [], [], _ => .nil
  | [], _ :: _, h => by have := h.1; simp at this
  | _ :: _, [], h => by have := h.1; simp at this
  | x :: xs, e :: ps, h => by
    obtain ⟨t, h1, h2, h3⟩ := h.2 0 e rfl
    have hx : x = .ref t := Option.some.inj h1
    subst hx
    exact .cons (nw_pair h2 h3) (PairsAt.nwa ⟨by have := h.1; simpa using this, fun i e' he => h.2 (i + 1) e' he⟩)
end Cw
namespace Cw
open PySem L2
theorem Box.nin {H : Hp} {b q p : Addr} (h : Box H b q) (hp : H p = none) : p ∉ [b, q] := by
  obtain ⟨z, ms, h1, h2, _⟩ := h
  intro m
  rcases List.mem_cons.mp m with m | m
  · subst m; rw [hp] at h1; cases h1
  · rw [List.mem_singleton.mp m] at hp; rw [hp] at h2; cases h2
end Cw
namespace Cw
open PySem L2
theorem fits_ints {k : Nat} {ns : List Int} (h : ns.length ≤ 100000) : fits (k + 1) (.list (ns.map PyData.int)) := by
  refine ⟨by rw [List.length_map]; exact h, fun x hx => ?_⟩
  obtain ⟨n, _, rfl⟩ := List.mem_map.mp hx
  cases k <;> trivial
theorem fits_pairs {k : Nat} {ps : List (Int × Int)} (h : ps.length ≤ 100000) : fits (k + 2) (.list (ps.map pairD)) := by
  refine ⟨by rw [List.length_map]; exact h, fun x hx => ?_⟩
  obtain ⟨e, _, rfl⟩ := List.mem_map.mp hx
  refine ⟨by show 2 ≤ 100000; omega, fun y hy => ?_⟩
  rcases List.mem_cons.mp hy with h | h
  · subst h; cases k <;> trivial
  · rw [List.mem_singleton.mp h]; cases k <;> trivial
theorem fits_two {k : Nat} {a b : PyData} (ha : fits k a) (hb : fits k b) : fits (k + 1) (.list [a, b]) := by
  refine ⟨by show 2 ≤ 100000; omega, fun y hy => ?_⟩
  rcases List.mem_cons.mp hy with h | h
  · subst h; exact ha
  · rw [List.mem_singleton.mp h]; exact hb
end Cw
namespace Cw
open PySem L2
theorem PairsAt.base {H0 H H' : Hp} {xs : List V} {ps : List (Int × Int)} {W : List Addr} (h : PairsAt H H' xs ps) (f : Fr W H0 H) : PairsAt H0 H' xs ps := ⟨h.1, fun i e he => by
  obtain ⟨t, h1, h2, h3⟩ := h.2 i e he
  exact ⟨t, h1, f.2 t h2, h3⟩⟩
end Cw

namespace Cw
open PySem L2
/-! l.index(x, i); min of a list of data -/
section
open PySem.Spec PyProof.Rows PySem.W
variable {X : Cx}
def rIndex3 (K : PySem.W.Frag) : V → List V → Hp → VK → Prop := fun x xs H Q => ∃ (a : Addr) (ys : List Int) (y : Int) (i j : Nat), x = V.ref a ∧ xs = [.int y, .int i] ∧ SqL K H a (ys.map V.int) ∧ i ≤ j ∧ ys[j]? = some y ∧
  (∀ m : Nat, i ≤ m → m < j → ys[m]? ≠ some y) ∧ Q (.int (j : Nat)) H
theorem mt_index3 : MtR X "list.index" (rIndex3 X.K) := by
  intro pins s σ H x xs v us Q I rx rxs h
  obtain ⟨a, ys, y, i, j, rfl, rfl, hs, hij, hz, hno, q⟩ := h
  cases rx
  cases rxs with
  | cons ry rt =>
    rename_i uy ut
    cases rt with
    | cons ri rt =>
    cases rt
    rename_i ui
    obtain ⟨its, rv, ⟨⟨cls, dd, data, sl⟩, n, ho, hc, hdn, hd⟩, hlen⟩ := I.list hs
    simp only at hc hd
    subst hc hd
    obtain ⟨ti, rfl⟩ := ri
    have fl : (ys.map V.int).all flatV = true := by simp [flatV]
    have hz' : (ys.map V.int)[j]? = some (.int y) := by rw [List.getElem?_map, hz]; rfl
    obtain ⟨u, hu, ru⟩ := rv.get hz'
    obtain ⟨hjl, hje⟩ := List.getElem?_eq_some_iff.mp hu
    have hvl := rv.length
    have hj : j < its.toArray.size := by simpa using hjl
    have hsl := sizeLine_eq
    have hsf : SeqAt.searchFrom (i : Int) its.toArray.size = i := SeqAt.searchFrom_nat i _
    refine call_meets PySem.F.slot_list_index ⟨_, ho, rfl⟩ PySem.F.entry_list_index (PySem.F.args_list_index_3 _ _ _)
      (SeqAt.list_index3_found a its.toArray n dd sl uy (fun m => match its[m]? with | some u => eqU (.int y) u | none => false) (i : Int) ti j hj (by rw [hsf]; exact hij) (by omega) ?_ ?_) ⟨ho, fun m hm => ?_, ?_⟩
    · show (match its[j]? with | some u => eqU (.int y) u | none => false) = true
      rw [hu]
      show eqU (.int y) u = true
      rw [eqU_of ru rfl]
      simp [eqV]
    · intro m hm h1 h2
      rw [hsf] at h1
      have hml : m < its.length := by simpa using hm
      have hmy : m < (ys.map V.int).length := by omega
      have hmy2 : m < ys.length := by simpa using hmy
      have hy' : (ys.map V.int)[m]? = some (.int ys[m]) := by rw [List.getElem?_map, List.getElem?_eq_getElem hmy2]; rfl
      obtain ⟨u2, hu2, ru2⟩ := rv.get hy'
      show (match its[m]? with | some u => eqU (.int y) u | none => false) = false
      rw [hu2]
      show eqU (.int y) u2 = false
      rw [eqU_of ru2 rfl]
      have hne := hno m h1 h2
      rw [List.getElem?_eq_getElem hmy2] at hne
      have : ys[m] ≠ y := fun e => hne (by rw [e])
      simp [eqV, this]
    · have hml : m < its.length := by simpa using hm
      have e1 : its[m]? = some its[m] := List.getElem?_eq_getElem hml
      show SeqAt.EqAt _ _ its.toArray[m] uy (match its[m]? with | some u => eqU (.int y) u | none => false)
      rw [e1]
      have := mem_eqAt (A := X.A.in1) (s := s) ry rfl rv fl its[m] (List.getElem_mem hml)
      simpa using this
    · exact ⟨.int (j : Nat), H, I.tok _, ⟨_, rfl⟩, q⟩
def rMinD (K : PySem.W.Frag) : List V → Hp → VK → Prop := fun vs H Q => ∃ (a : Addr) (xs : List V) (d : PyData) (ds : List PyData), vs = [.ref a] ∧ SqL K H a xs ∧ DpAll K H xs (d :: ds) ∧ AlikeAll (d :: ds) ∧ PyData.depthAll (d :: ds) ≤ 40 ∧ PyData.canLayAll0 (d :: ds) = true ∧
  ∀ (i : Nat) v, xs[i]? = some v → (d :: ds)[i]? = some (minD d ds) → Q v H
theorem dpall_at {K : PySem.W.Frag} {H : Hp} : ∀ {xs : List V} {ds : List PyData}, DpAll K H xs ds → ∀ {i : Nat} {x : V}, xs[i]? = some x → ∃ d, ds[i]? = some d ∧ Dp K H x d
  | [], _, _, i, x, h => by simp at h
  | y :: xs, _, .cons h1 h2, i, x, h => by
    cases i with
    | zero =>
      obtain rfl := Option.some.inj h
      exact ⟨_, rfl, h1⟩
    | succ i => exact dpall_at h2 (i := i) h
theorem cr_minD (hc : X.calm = true) (hu : X.A.units + 64 < cLine) : CallR X (.builtin "min") (rMinD X.K) := by
  intro pins s σ H vs us Q I r h
  obtain ⟨a, xs, d, ds, rfl, hs, hd, hal, hdp, hcl, q⟩ := h
  obtain ⟨its, rv, hl, _⟩ := I.list hs
  rw [Vals.ref1 r]
  obtain ⟨as, hr⟩ := Dp.readsAll I _ _ _ hd rv
  refine min_list_data (I.ok.hd hc) hl.isList (by simpa using hr) hal (by omega) fun i v h' tk bs hi r' hk => ?_
  have hi' : its[i]? = some v := by simpa using hi
  obtain ⟨hil, hie⟩ := List.getElem?_eq_some_iff.mp hi'
  have hvl := rv.length
  have hxi : i < xs.length := by omega
  obtain ⟨x, hx⟩ : ∃ x, xs[i]? = some x := ⟨xs[i], List.getElem?_eq_getElem hxi⟩
  obtain ⟨u, hu2, ru⟩ := rv.get hx
  rw [hi'] at hu2
  obtain rfl := Option.some.inj hu2
  have I2 : Inv X pins σ H { s with heap := h', toks := tk } := I.kept hk
  obtain ⟨dx, hdx, hDp⟩ := dpall_at hd hx
  obtain ⟨cs, rx⟩ := Dp.reads I2 dx x v hDp ru
  have e1 : dx = minD d ds := SeqAt.Reads.unique dx (minD d ds) v cs bs (by
    have : ∀ (l : List PyData), PyData.canLayAll0 l = true → ∀ z ∈ l, z.canLay0 = true := by
      intro l
      induction l with
      | nil => intro _ z hz; cases hz
      | cons w l ih =>
        intro hl z hz
        rw [PyData.canLayAll0, Bool.and_eq_true] at hl
        rcases List.mem_cons.mp hz with h | h
        · subst h; exact hl.1
        · exact ih hl.2 z h
    exact this _ hcl dx (List.mem_of_getElem? hdx)) rx r'
  exact ⟨x, H, I2, ru, q i x hx (by rw [← e1]; exact hdx)⟩
end
end Cw
namespace Cw
open PySem L2
section
open PySem.W
variable {X : Cx}
theorem kMinD {X : Cx} (K : PySem.W.Frag) (h : X.K = K) (hc : X.calm = true) (hu : X.A.units + 64 < cLine) : CallR X (.builtin "min") (rMinD K) := h ▸ cr_minD hc hu
theorem kIndex3 {X : Cx} (K : PySem.W.Frag) (h : X.K = K) : MtR X "list.index" (rIndex3 K) := h ▸ mt_index3
theorem kSorted {X : Cx} (K : PySem.W.Frag) (h : X.K = K) : CallR X (.builtin "sorted") (rSorted K) := h ▸ cr_sorted
theorem w_index3 {K : PySem.W.Frag} {H : Hp} {Q : VK} {a : Addr} {ns : List Int} {y : Int} {i : Nat} (h : SqL K H a (ns.map V.int)) (hm : y ∈ ns.drop i) (q : Q (.int ((i + (ns.drop i).idxOf y : Nat) : Int)) H) : rIndex3 K (.ref a) [.int y, .int i] H Q := by
  have hj := List.idxOf_lt_length_iff.mpr hm
  refine ⟨a, ns, y, i, i + (ns.drop i).idxOf y, rfl, rfl, h, Nat.le_add_right _ _, ?_, fun m h1 h2 e => ?_, q⟩
  · rw [← List.getElem?_drop, List.getElem?_eq_getElem hj]
    simp
  · obtain ⟨k, rfl⟩ : ∃ k, m = i + k := ⟨m - i, by omega⟩
    rw [← List.getElem?_drop] at e
    have hk : k < (ns.drop i).idxOf y := by omega
    have z := List.not_of_lt_findIdx (p := (· == y)) (xs := ns.drop i) (i := k) hk
    rw [List.getElem?_eq_getElem (by omega)] at e
    rw [Option.some.inj e] at z
    simp at z
theorem w_slFrom {K : PySem.W.Frag} {H : Hp} {Q : VK} {a : Addr} {ns : List Int} {k : Nat} (h : SqL K H a (ns.map V.int)) (q : ∀ p, H p = none → Q (.ref p) (upd H p (.lst ((ns.drop k).map V.int)))) : rSlL K (.ref a) (some (k : Int)) none H Q :=
  w_slL h fun p hp => by
    rw [cut_from, ← List.map_drop]
    exact q p hp
theorem w_slMid {K : PySem.W.Frag} {H : Hp} {Q : VK} {a : Addr} {ns : List Int} {i j : Nat} (h : SqL K H a (ns.map V.int)) (q : ∀ p, H p = none → Q (.ref p) (upd H p (.lst (((ns.take j).drop i).map V.int)))) : rSlL K (.ref a) (some (i : Int)) (some (j : Int)) H Q :=
  w_slL h fun p hp => by
    rw [cut_ints]
    exact q p hp
def sorts (ns : List Int) : List Int := ns.mergeSort (fun a b => decide (a ≤ b))
theorem sorts_perm (ns : List Int) : (sorts ns).Perm ns := List.mergeSort_perm _ _
theorem sorts_sorted (ns : List Int) : (sorts ns).Pairwise (· ≤ ·) := by
  have := List.pairwise_mergeSort (le := fun (a b : Int) => decide (a ≤ b)) (fun a b c h1 h2 => by simp at *; omega) (fun a b => by simp; omega) ns
  exact this.imp fun h => by simpa using h
theorem sorted_uniq : ∀ {xs ys : List Int}, xs.Perm ys → xs.Pairwise (· ≤ ·) → ys.Pairwise (· ≤ ·) → xs = ys := by
  intro xs ys h h1 h2
  exact h.eq_of_pairwise (fun a b _ _ h1 h2 => by omega) h1 h2
theorem w_sorted {K : PySem.W.Frag} {H : Hp} {Q : VK} {a : Addr} {ns : List Int} (h : SqL K H a (ns.map V.int)) (hl : ns.length < 64) (q : ∀ p, H p = none → Q (.ref p) (upd H p (.lst ((sorts ns).map V.int)))) : rSorted K [.ref a] H Q :=
  ⟨a, ns, rfl, h, hl, fun ns' p h1 h2 hp => by
    rw [sorted_uniq (h1.trans (sorts_perm ns).symm) h2 (sorts_sorted ns)]
    exact q p hp⟩
/-- the least of pairs of whole numbers -/
theorem minOf_spec (x : Int × Int) : ∀ xs : List (Int × Int), minOf x xs ∈ x :: xs ∧ ∀ y ∈ x :: xs, (minOf x xs).1 < y.1 ∨ ((minOf x xs).1 = y.1 ∧ (minOf x xs).2 ≤ y.2) := by
  have lt_iff : ∀ a b : Int × Int, DatumOrd.lt a b = true ↔ (a.1 < b.1 ∨ (a.1 = b.1 ∧ a.2 < b.2)) := by
    intro a b
    show (if a.1 = b.1 then decide (a.2 < b.2) else decide (a.1 < b.1)) = true ↔ _
    by_cases h : a.1 = b.1
    · rw [if_pos h]; simp [h]
    · rw [if_neg h]; simp [h]
  intro xs
  unfold minOf
  induction xs generalizing x with
  | nil => exact ⟨List.mem_singleton.mpr rfl, fun y hy => by rw [List.mem_singleton.mp hy]; exact .inr ⟨rfl, Int.le_refl _⟩⟩
  | cons z xs ih =>
    rw [List.foldl_cons]
    by_cases h : DatumOrd.lt z x = true
    · rw [if_pos h]
      obtain ⟨h1, h2⟩ := ih z
      rw [lt_iff] at h
      refine ⟨by simp only [List.mem_cons] at h1 ⊢; exact .inr h1, fun y hy => ?_⟩
      rcases List.mem_cons.mp hy with e | hy
      · subst e
        have := h2 z (by simp)
        omega
      · exact h2 y hy
    · rw [if_neg h]
      obtain ⟨h1, h2⟩ := ih x
      have h' : ¬ (z.1 < x.1 ∨ (z.1 = x.1 ∧ z.2 < x.2)) := fun e => h ((lt_iff z x).mpr e)
      refine ⟨by simp only [List.mem_cons] at h1 ⊢; rcases h1 with h1 | h1 <;> simp [h1], fun y hy => ?_⟩
      rcases List.mem_cons.mp hy with e | hy
      · subst e; exact h2 y (by simp)
      · rcases List.mem_cons.mp hy with e | hy
        · subst e
          have := h2 x (by simp)
          omega
        · exact h2 y (List.mem_cons_of_mem _ hy)
theorem lay_pairs : ∀ ps : List (Int × Int), PyData.canLayAll0 (ps.map pairD) = true
  | [] => rfl
  | e :: r => by simp [PyData.canLayAll0, pairD, PyData.canLay0, lay_pairs r]
theorem depth_pairs : ∀ ps : List (Int × Int), PyData.depthAll (ps.map pairD) ≤ 40
  | [] => by simp [PyData.depthAll]
  | e :: r => by
    have := depth_pairs r
    simp [PyData.depthAll, pairD, PyData.depth] at *
    omega
theorem w_minP {K : PySem.W.Frag} {H : Hp} {Q : VK} {a : Addr} {xs : List V} {ps : List (Int × Int)} {e : Int × Int} (h : SqL K H a xs) (hd : DpAll K H xs (ps.map pairD)) (he : e ∈ ps) (hm : ∀ y ∈ ps, e.1 < y.1 ∨ (e.1 = y.1 ∧ e.2 ≤ y.2))
    (q : ∀ t, SqT K H t [.int e.1, .int e.2] → Q (.ref t) H) : rMinD K [.ref a] H Q := by
  cases ps with
  | nil => cases he
  | cons p ps =>
    refine ⟨a, xs, pairD p, ps.map pairD, rfl, h, hd, (alikeAll_datum (p :: ps)), depth_pairs (p :: ps), lay_pairs (p :: ps), fun i v hv hdi => ?_⟩
    have e1 : minD (pairD p) (ps.map pairD) = pairD (minOf p ps) := minD_map p ps
    rw [e1] at hdi
    obtain ⟨v', hv', hdp⟩ := dpall_get hd (i := i) (d := pairD (minOf p ps)) hdi
    rw [hv] at hv'
    obtain rfl := Option.some.inj hv'
    obtain ⟨h1, h2⟩ := minOf_spec p ps
    have e2 : minOf p ps = e := by
      have a1 := h2 e he
      have a2 := hm _ h1
      refine Prod.ext ?_ ?_ <;> omega
    rw [e2] at hdp
    obtain ⟨t, rfl, ht⟩ := dp_pair hdp
    exact q t ht
end
end Cw
namespace Cw
open PySem L2
/-! the best one: mirror -/
def IsFar (rest kept : List Int) (y : Int) : Prop := y ∈ kept ∧ ∀ x ∈ kept, rest.idxOf x < rest.idxOf y ∨ (rest.idxOf x = rest.idxOf y ∧ y ≤ x)
def farStep (rest : List Int) (b x : Int) : Int := if rest.idxOf b < rest.idxOf x ∨ (rest.idxOf b = rest.idxOf x ∧ x < b) then x else b
def far (rest : List Int) : List Int → Int
  | [] => 0
  | k :: ks => ks.foldl (farStep rest) k
theorem IsFar.unique {rest kept : List Int} {a b : Int} (h1 : IsFar rest kept a) (h2 : IsFar rest kept b) : a = b := by
  have x := h1.2 b h2.1
  have y := h2.2 a h1.1
  omega
theorem far_spec (rest : List Int) : ∀ {kept : List Int}, kept ≠ [] → IsFar rest kept (far rest kept) := by
  have h : ∀ (ks : List Int) (k : Int), IsFar rest (k :: ks) (ks.foldl (farStep rest) k) := by
    intro ks
    induction ks with
    | nil => intro k; exact ⟨List.mem_singleton.mpr rfl, fun x hx => by rw [List.mem_singleton.mp hx]; exact .inr ⟨rfl, Int.le_refl _⟩⟩
    | cons z ks ih =>
      intro k
      rw [List.foldl_cons]
      by_cases hz : rest.idxOf k < rest.idxOf z ∨ (rest.idxOf k = rest.idxOf z ∧ z < k)
      · rw [show farStep rest k z = z from if_pos hz]
        obtain ⟨h1, h2⟩ := ih z
        refine ⟨List.mem_cons_of_mem _ h1, fun x hx => ?_⟩
        rcases List.mem_cons.mp hx with e | hx
        · subst e
          have := h2 z (by simp)
          omega
        · exact h2 x hx
      · rw [show farStep rest k z = k from if_neg hz]
        obtain ⟨h1, h2⟩ := ih k
        refine ⟨?_, fun x hx => ?_⟩
        · rcases List.mem_cons.mp h1 with h1 | h1
          · exact List.mem_cons.mpr (.inl h1)
          · exact List.mem_cons_of_mem _ (List.mem_cons_of_mem _ h1)
        · rcases List.mem_cons.mp hx with e | hx
          · subst e; exact h2 x (by simp)
          · rcases List.mem_cons.mp hx with e | hx
            · subst e
              have := h2 k (by simp)
              omega
            · exact h2 x (List.mem_cons_of_mem _ hx)
  intro kept hk
  cases kept with
  | nil => exact absurd rfl hk
  | cons k ks => exact h ks k
theorem far_eq {rest kept : List Int} {y : Int} (h : IsFar rest kept y) : far rest kept = y := (far_spec rest (fun e => by rw [e] at h; exact absurd h.1 (by simp))).unique h
structure Bs where
  kept : List Int
  lacks : List Int
  gone : List (Int × Int)
  n : Nat
def bstep (rooms : Nat) (row : List Int) (s : Bs) (x : Int) : Bs :=
  if x ∈ s.kept then ⟨s.kept, s.lacks, s.gone, s.n + 1⟩
  else if s.kept.length = rooms then ⟨s.kept.erase (far (row.drop s.n) s.kept) ++ [x], s.lacks ++ [(s.n : Int)], s.gone ++ [((s.n : Int), far (row.drop s.n) s.kept)], s.n + 1⟩
  else ⟨s.kept ++ [x], s.lacks ++ [(s.n : Int)], s.gone, s.n + 1⟩
def bst (rooms : Nat) (row xs : List Int) : Bs := xs.foldl (bstep rooms row) ⟨[], [], [], 0⟩
theorem bst_snoc (rooms : Nat) (row ns : List Int) (x : Int) : bst rooms row (ns ++ [x]) = bstep rooms row (bst rooms row ns) x := by unfold bst; rw [List.foldl_append]; rfl
structure Bs.Ok (s : Bs) (rooms : Nat) (ns : List Int) : Prop where
  n : s.n = ns.length
  nd : s.kept.Nodup
  sub : ∀ x ∈ s.kept, x ∈ ns
  le : s.kept.length ≤ rooms
  ll : s.lacks.length ≤ ns.length
  gl : s.gone.length ≤ ns.length
theorem bst_ok {rooms : Nat} (n0 : 0 < rooms) (row : List Int) : ∀ ns : List Int, (bst rooms row ns).Ok rooms ns := by
  refine list_snoc_ind ?_ ?_
  · exact ⟨rfl, List.nodup_nil, (fun x h => absurd h (by simp [bst])), Nat.zero_le _, Nat.le_refl _, Nat.le_refl _⟩
  · intro ns x ⟨h1, h2, h3, h4, h5, h6⟩
    rw [bst_snoc]
    generalize bst rooms row ns = s at *
    unfold bstep
    split
    · exact ⟨by simp [h1], h2, fun y hy => List.mem_append_left _ (h3 y hy), h4, by simp; omega, by simp; omega⟩
    · rename_i hx
      split
      · rename_i hl
        have hne : s.kept ≠ [] := fun e => by rw [e] at hl; simp at hl; omega
        have hf := (far_spec (row.drop s.n) hne).1
        refine ⟨by simp [h1], ?_, ?_, ?_, by simp; omega, by simp; omega⟩
        · rw [List.nodup_append]
          refine ⟨h2.erase _, by simp, fun a ha b hb e => ?_⟩
          simp at hb
          subst hb
          subst e
          exact hx (List.mem_of_mem_erase ha)
        · intro y hy
          rcases List.mem_append.mp hy with h | h
          · exact List.mem_append_left _ (h3 y (List.mem_of_mem_erase h))
          · simp at h; subst h; simp
        · rw [List.length_append, List.length_erase_of_mem hf]
          simp
          omega
      · rename_i hl
        refine ⟨by simp [h1], ?_, ?_, ?_, by simp; omega, by simp; omega⟩
        · rw [List.nodup_append]
          refine ⟨h2, by simp, fun a ha b hb e => ?_⟩
          simp at hb
          subst hb
          subst e
          exact hx ha
        · intro y hy
          rcases List.mem_append.mp hy with h | h
          · exact List.mem_append_left _ (h3 y h)
          · simp at h; subst h; simp
        · rw [List.length_append]
          simp
          omega
end Cw
namespace Cw
open PySem L2
theorem PairsAt.upL {H H' : Hp} {xs ys : List V} {ps : List (Int × Int)} {p : Addr} {o : HO} (h : PairsAt H H' xs ps) (hp : H' p = some (.lst ys)) : PairsAt H (upd H' p o) xs ps :=
  h.fr (W := [p]) (Fr.at (List.mem_singleton.mpr rfl)) fun w hw => ⟨ys, by rw [List.mem_singleton.mp hw]; exact hp⟩
theorem PairsAt.upN {H H' : Hp} {xs : List V} {ps : List (Int × Int)} {p : Addr} {o : HO} (h : PairsAt H H' xs ps) (hp : H' p = none) : PairsAt H (upd H' p o) xs ps :=
  h.fr (W := []) (Fr.new hp) (by simp)
theorem PairsAt.fr0 {H H' H2 : Hp} {xs : List V} {ps : List (Int × Int)} (h : PairsAt H H' xs ps) (f : Fr [] H' H2) : PairsAt H H2 xs ps := h.fr f (by simp)
end Cw
namespace Cw
open PySem L2
/-! [x for x in l if test] of whole numbers -/
def PvF (H : Hp) (ns : List Int) (p : Int → Bool) (D : Addr) (i : Nat) (acc : List V) (H' : Hp) : Prop := Fr [] H H' ∧ acc = ((ns.take i).filter p).map V.int
theorem l_filter {σ : L2.St} {K : PySem.W.Frag} {H : Hp} {g : TG} {tt : TT} {te : TE} {vs : List Nat} {Qd : Addr → Hp → Prop} {a : Addr} (ns : List Int) (p : Int → Bool) (hq : SqL K H a (ns.map V.int))
    (hs : ∀ D (i : Nat) y H', H D = none → ns[i]? = some y → Fr [] H H' → LcI (PvF H ns p) D i H' → g (.int y) (wipe σ vs) H' fun σ2 H2 => wipe σ2 vs = wipe σ vs ∧ tt σ2 H2 fun b H3 =>
      if b = true then te σ2 H3 fun y H4 => ∃ acc, H4 D = some (.lst acc) ∧ acc.length < sizeLine ∧ LcI (PvF H ns p) D (i + 1) (upd H4 D (.lst (acc ++ [y]))) else LcI (PvF H ns p) D (i + 1) H3)
    (hd : ∀ D H', H D = none → Fr [] H H' → H' D = some (.lst ((ns.filter p).map V.int)) → Qd D H') :
    ∃ b, V.ref a = V.ref b ∧ (∃ xs, SqL K H b xs) ∧ ∀ D, H D = none → ∃ W : Nat → Nat → Hp → Prop, (∃ m, W 0 m (upd H D (.lst []))) ∧ ∀ i m H, W i m H →
      ((Itl K b).stop i H ∧ Qd D H) ∨ ((Itl K b).go i H ∧ ∃ Nx : Hp → Prop, (∀ H', Nx H' → ∃ m', m' < m ∧ W (i + 1) m' H') ∧ ∀ x H', (Itl K b).yld i H x H' → g x (wipe σ vs) H' fun σ2 H2 => wipe σ2 vs = wipe σ vs ∧ tt σ2 H2 fun b H3 =>
        if b = true then te σ2 H3 fun y H4 => ∃ acc, H4 D = some (.lst acc) ∧ acc.length < sizeLine ∧ Nx (upd H4 D (.lst (acc ++ [y]))) else Nx H3) := by
  refine l_list (ns.map V.int) hq (PvF H ns p) (fun D hD => ⟨Fr.new hD, by simp⟩) (fun D i acc H' hD h _ => h.1.seqL hq) ?_ ?_
  · rintro D i x acc H' hD hi h hacc hla
    obtain ⟨y, hy, rfl⟩ := int_at hi
    exact hs D i y H' hD hy h.1 ⟨acc, h, hacc, hla⟩
  · rintro D acc H' hD ⟨F, rfl⟩ hacc hla
    rw [List.length_map, List.take_length] at hacc
    exact hd D H' hD F hacc
theorem lf_yes {H H' H4 : Hp} {ns : List Int} {p : Int → Bool} {D : Addr} {i : Nat} {y : Int} (I : LcI (PvF H ns p) D i H') (hD : H D = none) (hy : ns[i]? = some y) (hp : p y = true) (hl : i < 99999) (f : Fr [] H' H4) :
    ∃ acc, H4 D = some (.lst acc) ∧ acc.length < sizeLine ∧ LcI (PvF H ns p) D (i + 1) (upd H4 D (.lst (acc ++ [.int y]))) := by
  obtain ⟨acc, ⟨F, rfl⟩, h2, h3⟩ := I
  refine lc_end (f.get0 h2) h3 hl ⟨(F.trans f).loc hD, ?_⟩
  rw [take_snoc hy, List.filter_append, List.map_append, List.filter_cons_of_pos hp]
  rfl
theorem lf_no {H H' H3 : Hp} {ns : List Int} {p : Int → Bool} {D : Addr} {i : Nat} {y : Int} (I : LcI (PvF H ns p) D i H') (hy : ns[i]? = some y) (hp : p y = false) (f : Fr [] H' H3) : LcI (PvF H ns p) D (i + 1) H3 := by
  obtain ⟨acc, ⟨F, rfl⟩, h2, h3⟩ := I
  refine ⟨_, ⟨F.trans f, ?_⟩, f.get0 h2, by omega⟩
  rw [take_snoc hy, List.filter_append, List.filter_cons_of_neg (by simp [hp])]
  simp
/-! what the law's own best one lets go -/
def leftStep (rest : List Int) (left : List Int) (x : Int) : List Int := if x ∈ left ∧ 1 < left.length ∧ (left.filter (fun y => decide (y ∈ rest))) ≠ [] then left.filter (fun y => decide (y ≠ x)) else left
def leftAll (rest kept xs : List Int) : List Int := xs.foldl (leftStep rest) (sorts kept)
def nevers (rest kept : List Int) : List Int := (sorts kept).filter fun y => decide (y ∉ rest)
theorem mem_sorts {ns : List Int} {x : Int} : x ∈ sorts ns ↔ x ∈ ns := (sorts_perm ns).mem_iff
theorem never_far {rest kept tl : List Int} {p : Int} (h : nevers rest kept = p :: tl) : far rest kept = p := by
  have hs : (nevers rest kept).Pairwise (· ≤ ·) := (sorts_sorted kept).filter _
  rw [h, List.pairwise_cons] at hs
  have hm : ∀ y, y ∈ nevers rest kept ↔ y ∈ kept ∧ y ∉ rest := fun y => by simp [nevers, List.mem_filter, mem_sorts]
  have hp := (hm p).mp (by rw [h]; simp)
  have ep : rest.idxOf p = rest.length := List.idxOf_eq_length hp.2
  refine far_eq ⟨hp.1, fun x hx => ?_⟩
  by_cases hr : x ∈ rest
  · have := List.idxOf_lt_length_iff.mpr hr
    omega
  · have e2 : rest.idxOf x = rest.length := List.idxOf_eq_length hr
    have hxm := (hm x).mpr ⟨hx, hr⟩
    rw [h] at hxm
    rcases List.mem_cons.mp hxm with e | hxm
    · exact .inr ⟨by omega, by rw [e]; exact Int.le_refl _⟩
    · exact .inr ⟨by omega, hs.1 x hxm⟩
structure LeftOk (rest kept : List Int) (i : Nat) (left : List Int) : Prop where
  nd : left.Nodup
  ne : left ≠ []
  sub : ∀ y ∈ left, y ∈ kept
  one : left.length = 1 ∨ ∀ y ∈ left, y ∉ rest.take i
  gone : ∀ x ∈ kept, x ∉ left → ∀ y ∈ left, rest.idxOf x < rest.idxOf y
theorem left_ok {rest kept : List Int} (hk : kept ≠ []) (nd : kept.Nodup) (hr : ∀ x ∈ kept, x ∈ rest) : ∀ i, i ≤ rest.length → LeftOk rest kept i (leftAll rest kept (rest.take i)) := by
  intro i
  induction i with
  | zero =>
    intro _
    have e : leftAll rest kept (rest.take 0) = sorts kept := by simp [leftAll]
    rw [e]
    refine ⟨(sorts_perm kept).nodup_iff.mpr nd, ?_, fun y hy => mem_sorts.mp hy, .inr fun y _ => by simp, fun x hx hn => absurd (mem_sorts.mpr hx) hn⟩
    intro e
    have := (sorts_perm kept).length_eq
    rw [e] at this
    exact hk (List.eq_nil_of_length_eq_zero this.symm)
  | succ i ih =>
    intro hi
    obtain ⟨x, hx⟩ : ∃ x, rest[i]? = some x := ⟨rest[i], List.getElem?_eq_getElem (by omega)⟩
    have e : leftAll rest kept (rest.take (i + 1)) = leftStep rest (leftAll rest kept (rest.take i)) x := by
      unfold leftAll
      rw [take_snoc hx, List.foldl_append]
      rfl
    rw [e]
    obtain ⟨h1, h2, h3, h4, h5⟩ := ih (by omega)
    generalize leftAll rest kept (rest.take i) = left at *
    unfold leftStep
    split
    · rename_i hc
      obtain ⟨c1, c2, c3⟩ := hc
      have h4' : ∀ y ∈ left, y ∉ rest.take i := h4.resolve_left (by omega)
      have exi : rest.idxOf x = i := by
        have hil : i < rest.length := by omega
        have hxe : rest[i] = x := by
          rw [List.getElem?_eq_getElem hil] at hx
          exact Option.some.inj hx
        have h6 := h4' x c1
        have : rest = rest.take i ++ rest.drop i := (List.take_append_drop i rest).symm
        rw [this, List.idxOf_append]
        rw [if_neg h6, List.length_take, List.drop_eq_getElem_cons hil, hxe, List.idxOf_cons_self]
        omega
      have hmem : ∀ y, y ∈ left.filter (fun y => decide (y ≠ x)) ↔ y ∈ left ∧ y ≠ x := fun y => by simp [List.mem_filter]
      have far_after : ∀ y ∈ left, y ≠ x → i < rest.idxOf y := by
        intro y hy hne
        refine Nat.lt_of_not_le fun hle => ?_
        have hyr := hr y (h3 y hy)
        have hlt := List.idxOf_lt_length_iff.mpr hyr
        have hge : rest[rest.idxOf y] = y := List.getElem_idxOf hlt
        rcases Nat.lt_or_eq_of_le hle with hlt2 | heq
        · refine h4' y hy (List.mem_take_iff_getElem.mpr ⟨rest.idxOf y, by omega, hge⟩)
        · have : rest[i]? = some y := by rw [← heq, List.getElem?_eq_getElem hlt, hge]
          rw [hx] at this
          exact hne (Option.some.inj this).symm
      refine ⟨h1.filter _, ?_, fun y hy => h3 y ((hmem y).mp hy).1, .inr fun y hy => ?_, fun z hz hzn y hy => ?_⟩
      · intro e0
        match left, c1, c2, h1, e0 with
        | [a], _, c2, _, _ => simp at c2
        | a :: b :: r, c1, _, h1, e0 =>
          have hab : a ≠ b := by
            rw [List.nodup_cons] at h1
            intro e
            exact h1.1 (by rw [e]; simp)
          have ha : a ∉ (a :: b :: r).filter (fun y => decide (y ≠ x)) := by rw [e0]; simp
          have hb : b ∉ (a :: b :: r).filter (fun y => decide (y ≠ x)) := by rw [e0]; simp
          simp [List.mem_filter] at ha hb
          exact hab (ha.trans hb.symm)
      · obtain ⟨hy1, hy2⟩ := (hmem y).mp hy
        intro hm
        obtain ⟨j, hj, he⟩ := List.mem_take_iff_getElem.mp hm
        have hl := far_after y hy1 hy2
        have : rest.idxOf y ≤ j := by
          refine Nat.le_of_not_lt fun hlt => ?_
          have := List.not_of_lt_findIdx (p := (· == y)) (xs := rest) (i := j) hlt
          simp [he] at this
        omega
      · obtain ⟨hy1, hy2⟩ := (hmem y).mp hy
        by_cases hzl : z ∈ left
        · have hzx : z = x := by
            refine Classical.byContradiction fun hne => hzn ((hmem z).mpr ⟨hzl, hne⟩)
          rw [hzx, exi]
          exact far_after y hy1 hy2
        · exact h5 z hz hzl y hy1
    · rename_i hc
      refine ⟨h1, h2, h3, ?_, h5⟩
      by_cases hl : left.length = 1
      · exact .inl hl
      · refine .inr fun y hy hm => ?_
        have h4' := h4.resolve_left hl
        rw [take_snoc hx] at hm
        rcases List.mem_append.mp hm with hm | hm
        · exact h4' y hy hm
        · simp at hm
          subst hm
          refine hc ⟨hy, ?_, ?_⟩
          · have : 0 < left.length := List.length_pos_iff.mpr h2
            omega
          · exact List.ne_nil_of_mem (List.mem_filter.mpr ⟨hy, by simpa using hr _ (h3 _ hy)⟩)
theorem left_far {rest kept : List Int} (hk : kept ≠ []) (nd : kept.Nodup) (h : nevers rest kept = []) : leftAll rest kept rest = [far rest kept] := by
  have hr : ∀ x ∈ kept, x ∈ rest := by
    intro x hx
    refine Classical.byContradiction fun hn => ?_
    have : x ∈ nevers rest kept := by simp [nevers, List.mem_filter, mem_sorts, hx, hn]
    rw [h] at this
    cases this
  have ok := left_ok hk nd hr rest.length (Nat.le_refl _)
  rw [List.take_length] at ok
  obtain ⟨h1, h2, h3, h4, h5⟩ := ok
  generalize leftAll rest kept rest = left at *
  have hl : left.length = 1 := by
    rcases h4 with h | h
    · exact h
    · match left, h2 with
      | y :: r, _ => exact absurd (by rw [List.take_length]; exact hr y (h3 y (by simp))) (h y (by simp))
  match left, hl with
  | [y], _ =>
    rw [far_eq (y := y) ⟨h3 y (by simp), fun x hx => ?_⟩]
    by_cases hxy : x = y
    · exact .inr ⟨by rw [hxy], by rw [hxy]; exact Int.le_refl _⟩
    · exact .inl (h5 x hx (by simpa using hxy) y (by simp))
end Cw
namespace Cw
open PySem L2
theorem leftAll_len (rest kept : List Int) : ∀ xs, (leftAll rest kept xs).length ≤ kept.length := by
  refine list_snoc_ind (by unfold leftAll; rw [List.foldl_nil, (sorts_perm kept).length_eq]; exact Nat.le_refl _) ?_
  intro l x ih
  have e : leftAll rest kept (l ++ [x]) = leftStep rest (leftAll rest kept l) x := by unfold leftAll; rw [List.foldl_append]; rfl
  rw [e]
  unfold leftStep
  split
  · exact Nat.le_trans (List.length_filter_le _ _) ih
  · exact ih
theorem leftAll_snoc {rest kept : List Int} {i : Nat} {x : Int} (h : rest[i]? = some x) : leftAll rest kept (rest.take (i + 1)) = leftStep rest (leftAll rest kept (rest.take i)) x := by
  rw [take_snoc h]; unfold leftAll; rw [List.foldl_append]; rfl
theorem sorts_len (ns : List Int) : (sorts ns).length = ns.length := (sorts_perm ns).length_eq
end Cw
namespace Cw
theorem if_merge {b : Bool} {A B : Prop} (C : Prop) (h1 : b = true → C → A) (h2 : b = false → C → B) (h : C) : if b = true then A else B := by
  cases b
  · exact h2 rfl h
  · exact h1 rfl h
end Cw
namespace Cw
open PySem L2
theorem fits_twoT {k : Nat} {a b : PyData} (ha : fits k a) (hb : fits k b) : fits (k + 1) (.tuple [a, b]) := by
  refine ⟨by show 2 ≤ 100000; omega, fun y hy => ?_⟩
  rcases List.mem_cons.mp hy with h | h
  · subst h; exact ha
  · rw [List.mem_singleton.mp h]; exact hb
end Cw

namespace Cw
open PySem L2
/-! set(l) of whole numbers, sorted of it, at any length -/
section
open PySem.Spec PyProof.Rows
variable {P : Program} {w : World} {A : Around} {E : Value → Shared → Prop} {s : Shared}
/-- the fresh set as the model lays it -/
abbrev emptySet (w : World) : Obj := { cls := .type "set", dict := none, data := .set #[] 0 (.fresh 0 0 (!w.params.followText "set-order")) }
/-- what set.__init__ leaves -/
def Filled (P : Program) (w : World) (s : Shared) (ns : List Int) (s₂ : Shared) : Prop :=
  ∃ h' tk c, s₂ = { s with heap := h', toks := tk } ∧ SetR w h' s.heap.objs.size (fun j => decide (j ∈ ns)) c ∧ c ≤ ns.length ∧ ∀ b o, s.heap.get? b = some o → h'.get? b = some o
theorem fill_list {l : Addr} {items : Array Value} {ns : List Int} {A' : Around} (hh : A'.handled = none) (hl : s.heap.IsList l items) (hit : IntsAre items.toList ns) (hb : ns.length + 1 < scanBound) :
    wpAny (model P w) A' (Builtin.«set.__init__» ⟨[.ref s.heap.objs.size, .ref l], []⟩) (fun r s₂ => r = .done (.ret .none) ∧ Filled P w s ns s₂) E { s with heap := s.heap.push (emptySet w) } := by
  have hisz : items.size = ns.length := by
    have q := IntsAre.length hit
    rwa [Array.length_toList] at q
  obtain ⟨⟨ocls, odict, odata, oslots⟩, hol, hcl, nl, hdl⟩ := hl
  simp only at hcl hdl
  subst hcl hdl
  have hS : (s.heap.push (emptySet w)).get? s.heap.objs.size = some (emptySet w) := Heap.get?_push_size _ rfl
  have hol' : (s.heap.push (emptySet w)).get? l = some { cls := .type "list", dict := odict, data := .seq items nl, slots := oslots } := Heap.get?_push_of_some _ hol
  have hl1 : (s.heap.push (emptySet w)).IsList l items := ⟨_, hol', rfl, nl, rfl⟩
  have hT : Shared.TypeIs { s with heap := s.heap.push (emptySet w) } (.ref s.heap.objs.size) "set" := ⟨_, hS, rfl⟩
  have hsls := F.sub_list_set
  have hslf := F.sub_list_frozenset
  have hne : (Value.type "list" == Value.type "dict") = false := by decide
  have hlS : l < s.heap.objs.size := Heap.lt_size hol
  unfold Builtin.«set.__init__» noKeywords Builtin.Frozenset.updateFrom
  generalize hPI : pyIter = PI
  wp_walk
  subst hPI
  refine wpAny_pyIter_list hl1 (wpAny_bind (wpAny_runValue ?_))
  have hneI : l ≠ (s.heap.push (emptySet w)).objs.size := by rw [Heap.size_push]; exact Nat.ne_of_lt (Nat.lt_succ_of_lt hlS)
  have hSf : s.heap.objs.size ∉ [(s.heap.push (emptySet w)).objs.size, l] := by
    rw [Heap.size_push]
    intro m
    rcases List.mem_cons.mp m with m | m
    · exact Nat.ne_of_lt (Nat.lt_succ_self _) m
    · exact Nat.ne_of_gt hlS (List.mem_singleton.mp m)
  have hval : ∀ (i : Nat) (v : Value), items[i]? = some v → ∃ k t, ns[i]? = some k ∧ v = .int k t := fun i v hv => by
    have hi : i < ns.length := by rw [← hisz]; exact (Array.getElem?_eq_some_iff.mp hv).1
    obtain ⟨t, e⟩ := IntsAre.int_at hit i v (by rw [Array.getElem?_toList]; exact hv)
    refine ⟨ns[i], t, List.getElem?_eq_getElem hi, ?_⟩
    rw [e, List.getD_eq_getElem?_getD, List.getElem?_eq_getElem hi]
    rfl
  refine set_update_ints ((Walks.list (by simp [hh]) _ l hneI items).toS) s.heap.objs.size hSf ns hisz hb hval (items.size - 0) 0 _ (by omega) (Nat.zero_le _) ⟨⟨_, Heap.get?_push_size _ rfl, rfl, rfl⟩, hl1.push _⟩
    ⟨0, Nat.le_refl 0, setR_new_at (Heap.get?_push_of_some _ hS)⟩ ?_
  intro s' c' hm hc' hS'
  obtain ⟨h', g2, d', tk', os'⟩ := s'
  have eg : g2 = s.gens := hm.gens
  have ed : d' = s.drawn := hm.drawn
  have eo : os' = s.os := hm.os
  subst eg ed eo
  refine wpAny_pure ?_
  show wpAny _ _ (ret Value.none) _ _ _
  refine wpAny_pure ⟨rfl, h', tk', c', rfl, hS', by omega, fun b o e => ?_⟩
  have hb0 := Heap.lt_size e
  refine hm.heap b o ?_ (Heap.get?_push_of_some _ (Heap.get?_push_of_some _ e))
  rw [Heap.size_push]
  intro m
  rcases List.mem_cons.mp m with m | m
  · exact Nat.ne_of_lt hb0 m
  · exact Nat.ne_of_lt (Nat.lt_succ_of_lt hb0) (List.mem_singleton.mp m)
end
end Cw
namespace Cw
open PySem L2
section
open PySem.Spec PyProof.Rows
variable {P : Program} {w : World} {A : Around} {E : Value → Shared → Prop} {s : Shared}
theorem call_set_listR {l : Addr} {items : Array Value} {ns : List Int} {Q : Value → Shared → Prop} (hh : A.handled = none) (hl : s.heap.IsList l items) (hit : IntsAre items.toList ns) (hb : ns.length + 1 < scanBound)
    (h : ∀ s₂, Filled P w s ns s₂ → Q (.ref s.heap.objs.size) s₂) : wpAny (model P w) A (call (.type "set") [.ref l]) Q E s := by
  obtain ⟨c, tl, hmro⟩ := F.called_set.mro
  have hmade := F.called_set.made
  have hsub := F.called_set.sub
  refine wpAny_call (codeAny_of_tree ?_)
  show wpAny _ _ (callAny (.type "set") _) _ _ _
  refine wpAny_pure ⟨Code.quiet_builtin _ (by decide +kernel), codeAny_builtin F.entry_type_call ?_⟩
  rw [Around.under_plain (weight_type_call_type "set" [.ref l] []) rfl]
  have h1 := F.called_set.notType
  have h2 := F.called_set.canCreate
  have hct := F.typeCall_set_1 (.ref l)
  repeat (any_goals (first | assumption | wp_step))
  refine codeAny_mono (code_set_led1 (.ref l) (E := E) (Q₁ := fun v s₁ => v = .ref s.heap.objs.size ∧ s₁ = { s with heap := s.heap.push (emptySet w) }) ⟨rfl, rfl⟩) fun r s₁ hr => ?_
  rcases r with _ | fl
  · exact hr
  cases fl with
  | ret obj =>
    obtain ⟨rfl, rfl⟩ := hr
    have hT : Shared.TypeIs { s with heap := s.heap.push (emptySet w) } (.ref s.heap.objs.size) "set" := ⟨_, Heap.get?_push_size _ rfl, rfl⟩
    have hli := F.called_set.init.lookup
    have hbi := F.called_set.init.bind (.ref s.heap.objs.size)
    repeat (any_goals (first | assumption | wp_step))
    refine codeAny_mono (codeAny_call_builtin (R := wants (fun r s₂ => r = .none ∧ Filled P w s ns s₂) E) F.called_set.init.plain F.entry_set_init (check_set_init_1 hT ?_)) fun r₂ s₂ hr₂ => ?_
    · refine wpAny_mono (fill_list (E := E) (by simp [hh]) hl hit hb) ?_ ?_
      · rintro r s2 ⟨rfl, hf⟩
        exact ⟨rfl, hf⟩
      · intro e s2 he
        exact he
    · rcases r₂ with _ | fl₂
      · exact hr₂
      cases fl₂ with
      | ret r =>
        obtain ⟨rfl, hf⟩ := hr₂
        repeat (any_goals (first | assumption | wp_step))
        exact h _ hf
      | _ => exact hr₂.elim
  | _ => exact hr.elim
end
end Cw
namespace Cw
open PySem L2
section
open PySem.Spec PyProof.Rows
variable {P : Program} {w : World} {A : Around} {E : Value → Shared → Prop} {s : Shared}
/-- sorted of a set of whole numbers, any size -/
theorem sorted_setAny {a : Addr} {S : Int → Bool} {n : Nat} {Q : Value → Shared → Prop} (R : SetR w s.heap a S n) (hh : A.handled = none) (hz : n ≤ sizeLine)
    (hQ : ∀ s' p (out : Array Value) (c : Nat) (ns : List Int), (∀ b o, s.heap.get? b = some o → s'.heap.get? b = some o) → s'.gens = s.gens → s'.os = s.os → s.heap.objs.size ≤ p →
      s'.heap.get? p = some (seqObj "list" out c) → IntsAre out.toList ns → ns.Pairwise (· < ·) → (∀ k, k ∈ ns ↔ S k = true) → ns.length = n → Q (.ref p) s') :
    wpAny (model P w) A (call (.builtin "sorted") [.ref a]) Q E s := by
  obtain ⟨o, es, ep, t, ho, hex, hd, g, nd, hm, hb, hf, hn, hr, hl⟩ := R
  refine Calls.call_function_entry kind_sorted plain_sorted entry_sorted (args_sorted1 _) ?_
  unfold Builtin.«sorted»
  refine wpAny_bind (m := checkCount "sorted" 1 1 _) (wpAny_pure ?_)
  refine wpAny_bind (collect_set (A := A.in1) hh ⟨o, ho, hex.1, hd⟩ hf hb hr hl fun s1 vs k1 h1 g1 o1 pm => ?_)
  have hvl : vs.length = n := by rw [pm.length_eq, List.length_map, Array.length_toList]; exact hn
  have hI : IntsAre vs (vs.map Builtin.Re.reRawOf) := ints_of vs fun v hv => by
    obtain ⟨e, he, q⟩ := List.mem_map.mp (pm.mem_iff.mp hv)
    obtain ⟨k, tk, h2, _⟩ := g e he
    exact ⟨k, tk, by rw [← q]; exact h2⟩
  have pk : (vs.map Builtin.Re.reRawOf).Perm (es.toList.map keyOf) := by
    have q := pm.map Builtin.Re.reRawOf
    rwa [List.map_map] at q
  refine wpAny_bind (wpAny_newList ?_ (by rw [hvl]; exact hz))
  have hoL : (s1.heap.push (seqObj "list" vs.toArray 0)).get? s1.heap.objs.size = some (seqObj "list" vs.toArray 0) := Heap.get?_push_size _ rfl
  refine wpAny_bind (wpAny_holding (wpAny_call_entry slot_list_sort ⟨_, hoL, rfl⟩ entry_list_sort (list_sort_treeAny hoL hI (by rw [hvl]; exact hz) fun out ns' a1 a2 a3 => ⟨_, rfl, ?_⟩) (args_list_sort _)))
  obtain ⟨c, hc⟩ := sortedHeap_at (vs := vs) (out := out) hoL
  have pn := a2.trans pk
  refine wpAny_pure ⟨_, rfl, hQ _ s1.heap.objs.size out c ns' (fun b u e => ?_) g1 o1 h1 hc a1 (lt_of_le_nodup ns' a3 (pn.nodup_iff.mpr nd)) (fun k => by rw [pn.mem_iff, ← hm k]) ?_⟩
  · have q := k1 b u e
    have hlt := Heap.lt_size q
    show (sortedHeap (s1.heap.push (seqObj "list" vs.toArray 0)) s1.heap.objs.size vs out).get? b = some u
    rw [sortedHeap_old (Nat.ne_of_lt hlt) (by rw [size_push']; exact Nat.lt_succ_of_lt hlt)]
    exact Heap.get?_push_of_some _ q
  · rw [pn.length_eq, List.length_map, Array.length_toList]; exact hn
variable {X : Cx}
def rSetL (K : PySem.W.Frag) (w : World) : List V → Hp → VK → Prop := fun vs H Q => ∃ (l : Addr) (ns : List Int), vs = [.ref l] ∧ SqL K H l (ns.map V.int) ∧ ns.length ≤ 4000 ∧
  ∀ p c, H p = none → c ≤ ns.length → Q (.ref p) (upd H p (SetO w p (fun j => decide (j ∈ ns)) c))
theorem cr_setL (hc : X.calm = true) : CallR X (.type "set") (rSetL X.K X.w) := by
  intro pins s σ H vs us Q I r h
  obtain ⟨l, ns, rfl, hs, hl, q⟩ := h
  obtain ⟨its, rv, hp, _⟩ := I.list hs
  rw [Vals.ref1 r]
  refine call_set_listR (P := X.prog) (w := X.w) (I.ok.hd hc) hp.isList (by simpa using RZ.intsAre_vals rv) (by unfold scanBound; omega) ?_
  rintro s2 ⟨h', tk, c, rfl, hR, hcl, hk⟩
  have hn : H s.heap.objs.size = none := I.hok.fresh (Nat.le_refl _)
  exact ⟨.ref _, _, I.laid hk (Nat.le_refl _) (setO_new hR), rfl, q _ c hn hcl⟩
def rSortSet (w : World) : List V → Hp → VK → Prop := fun vs H Q => ∃ (a : Addr) (S : Int → Bool) (n : Nat), vs = [V.ref a] ∧ H a = some (SetO w a S n) ∧ n ≤ 100000 ∧
  ∀ (ns : List Int) (p : Addr), ns.Pairwise (· < ·) → (∀ k : Int, k ∈ ns ↔ S k = true) → H p = none → Q (.ref p) (upd H p (.lst (ns.map V.int)))
theorem cr_sortSet (hc : X.calm = true) : CallR X (.builtin "sorted") (rSortSet X.w) := by
  intro pins s σ H vs us Q I r h
  obtain ⟨a, S, n, rfl, ha, hz, q⟩ := h
  rw [Vals.ref1 r]
  refine sorted_setAny (setO_get I ha) (I.ok.hd hc) (sz_le hz) fun s' p out c ns k g o hp hg hi hs hm hl => ?_
  have hlen : (ns.map V.int).length ≤ sizeLine := by rw [List.length_map, hl]; exact sz_le hz
  have hn : H p = none := I.hok.fresh hp
  have J : Inv X pins σ (upd H p (.lst (ns.map V.int))) { s with heap := s'.heap, gens := s'.gens, drawn := s'.drawn, toks := s'.toks } :=
    I.call (ch := []) (Un.laid k hp hn) (I.hok.laid k hp ⟨hlen, out.toList, c, vals_of_ints hi, hg⟩) (by rw [g]; exact I.bare) (fun _ z => nomatch z)
  have e : s' = { s with heap := s'.heap, gens := s'.gens, drawn := s'.drawn, toks := s'.toks } := by
    cases s'
    cases o
    rfl
  rw [e]
  exact ⟨.ref p, _, J, rfl, q ns p hs hm hn⟩
theorem kSetL {X : Cx} (K : PySem.W.Frag) (w : World) (h : X.K = K) (hw : X.w = w) (hc : X.calm = true) : CallR X (.type "set") (rSetL K w) := h ▸ hw ▸ cr_setL hc
theorem kSortSet {X : Cx} (w : World) (hw : X.w = w) (hc : X.calm = true) : CallR X (.builtin "sorted") (rSortSet w) := hw ▸ cr_sortSet hc
def uniq (ns : List Int) : List Int := sorts (firsts ns)
theorem lt_sorted {ns : List Int} (h : ns.Pairwise (· < ·)) : ns.Pairwise (· ≤ ·) ∧ ns.Nodup := ⟨h.imp fun h => by omega, h.imp fun h => by omega⟩
theorem sorted_lt_uniq {xs ys : List Int} (h1 : xs.Pairwise (· < ·)) (h2 : ys.Pairwise (· < ·)) (h : ∀ k, k ∈ xs ↔ k ∈ ys) : xs = ys :=
  sorted_uniq ((List.perm_ext_iff_of_nodup (lt_sorted h1).2 (lt_sorted h2).2).mpr h) (lt_sorted h1).1 (lt_sorted h2).1
theorem uniq_spec (ns : List Int) : (uniq ns).Pairwise (· < ·) ∧ ∀ k, k ∈ uniq ns ↔ k ∈ ns := by
  have nd : (uniq ns).Nodup := (sorts_perm _).nodup_iff.mpr (firsts_facts ns).1
  refine ⟨lt_of_le_nodup _ (sorts_sorted _) nd, fun k => ?_⟩
  rw [show (k ∈ uniq ns ↔ k ∈ firsts ns) from mem_sorts]
  exact (firsts_facts ns).2 k
theorem uniq_lt {ns : List Int} (h : ns.Pairwise (· < ·)) : uniq ns = ns := sorted_lt_uniq (uniq_spec ns).1 h (uniq_spec ns).2
theorem w_setOf {K : PySem.W.Frag} {w : World} {H : Hp} {Q : VK} {l : Addr} {ns : List Int} (h : SqL K H l (ns.map V.int)) (hl : ns.length ≤ 4000) (q : ∀ p, H p = none → ∀ c, c ≤ ns.length → Q (.ref p) (upd H p (SetO w p (fun j => decide (j ∈ ns)) c))) : rSetL K w [.ref l] H Q :=
  ⟨l, ns, rfl, h, hl, fun p c hp hc => q p hp c hc⟩
theorem w_sortSet {w : World} {H : Hp} {Q : VK} {a : Addr} {ns : List Int} {n : Nat} (h : H a = some (SetO w a (fun j => decide (j ∈ ns)) n)) (hn : n ≤ 100000) (q : ∀ p, H p = none → Q (.ref p) (upd H p (.lst ((uniq ns).map V.int)))) : rSortSet w [.ref a] H Q :=
  ⟨a, _, n, rfl, h, hn, fun ns' p h1 h2 hp => by
    have e : ns' = uniq ns := sorted_lt_uniq h1 (uniq_spec ns).1 fun k => by rw [h2 k, (uniq_spec ns).2 k]; simp
    rw [e]
    exact q p hp⟩
end
end Cw
namespace Cw
open PySem L2
/-! dicts with keys that are whole numbers -/
section
variable {H : Hp} {σ : L2.St} {Q : VK}
theorem w_dnewK (q : ∀ p, H p = none → Q (.ref p) (upd H p (.dK []))) : tDNewK σ H Q := q
theorem w_dIn {ty td : TE} (h : ty σ H fun y H1 => td σ H1 fun x H2 => ∃ a o, x = .ref a ∧ DGet H2 a y o ∧ Q (.bl o.isSome) H2) : tDIn ty td σ H Q := h
theorem w_dInI {d : Addr} {kvs : List (Key × V)} {z : Int} {P : Option V → Prop} (h : H d = some (.dK kvs)) (q : P (valV kvs (.inl z))) : ∃ a o, V.ref d = .ref a ∧ DGet H a (.int z) o ∧ P o :=
  ⟨d, _, rfl, DGet.k (k := Sum.inl z) h, q⟩
theorem w_dgetI {d : Addr} {kvs : List (Key × V)} {z : Int} {v : V} {P : V → Prop} (h : H d = some (.dK kvs)) (hv : valV kvs (.inl z) = some v) (q : P v) : ∃ a v, V.ref d = .ref a ∧ DGet H a (.int z) (some v) ∧ P v :=
  ⟨d, v, rfl, by rw [← hv]; exact DGet.k (k := Sum.inl z) h, q⟩
theorem w_dputI {d : Addr} {kvs : List (Key × V)} {z : Int} {v : V} {N : Hp → Prop} (h : H d = some (.dK kvs)) (hl : kvs.length < sizeLine) (q : N (upd H d (.dK (putK kvs (.inl z) v)))) : ∃ a H4, V.ref d = .ref a ∧ DPut H a (.int z) v H4 ∧ N H4 :=
  ⟨d, _, rfl, DPut.k (k := Sum.inl z) h hl, q⟩
end
/-! spells -/
def lastAt (ns : List Int) (x : Int) : Option Nat := ((List.range ns.length).filter fun i => decide (ns[i]? = some x)).getLast?
theorem lastAt_snoc (ns : List Int) (y x : Int) : lastAt (ns ++ [y]) x = if y = x then some ns.length else lastAt ns x := by
  unfold lastAt
  rw [List.length_append, List.length_singleton, List.range_succ, List.filter_append]
  have e : (List.range ns.length).filter (fun i => decide ((ns ++ [y])[i]? = some x)) = (List.range ns.length).filter (fun i => decide (ns[i]? = some x)) := by
    refine List.filter_congr fun i hi => ?_
    rw [List.mem_range] at hi
    rw [List.getElem?_append_left hi]
  rw [e]
  by_cases h : y = x
  · subst h
    rw [if_pos rfl, List.filter_cons_of_pos (by simp)]
    simp
  · rw [if_neg h, List.filter_cons_of_neg (by simp [h])]
    simp
theorem lastAt_lt {ns : List Int} {x : Int} {j : Nat} (h : lastAt ns x = some j) : j < ns.length ∧ ns[j]? = some x := by
  have := List.mem_of_getLast? h
  rw [List.mem_filter, List.mem_range] at this
  exact ⟨this.1, by simpa using this.2⟩
def spellAt (ns : List Int) (e : Nat) : List (Int × Int) := match lastAt (ns.take e) (ns.getD e 0) with
  | none => []
  | some b => [((b : Int), (e : Int))]
def spellsTo (ns : List Int) (i : Nat) : List (Int × Int) := (List.range i).flatMap (spellAt ns)
theorem spellsTo_succ (ns : List Int) (i : Nat) : spellsTo ns (i + 1) = spellsTo ns i ++ spellAt ns i := by
  unfold spellsTo
  rw [List.range_succ, List.flatMap_append]
  simp
theorem spellAt_len (ns : List Int) (e : Nat) : (spellAt ns e).length ≤ 1 := by
  unfold spellAt
  split <;> simp
theorem spellsTo_len (ns : List Int) : ∀ i, (spellsTo ns i).length ≤ i
  | 0 => by simp [spellsTo]
  | i + 1 => by
    have := spellsTo_len ns i
    have := spellAt_len ns i
    rw [spellsTo_succ, List.length_append]
    omega
def spellsM (ns : List Int) : List (Int × Int) := spellsTo ns ns.length
theorem spellsTo_mem {ns : List Int} {i : Nat} {e : Int × Int} (h : e ∈ spellsTo ns i) : 0 ≤ e.1 ∧ e.1 < e.2 ∧ e.2 < (i : Int) := by
  unfold spellsTo at h
  rw [List.mem_flatMap] at h
  obtain ⟨k, hk, h⟩ := h
  rw [List.mem_range] at hk
  unfold spellAt at h
  split at h
  · simp at h
  · rename_i b hb
    have := (lastAt_lt hb).1
    rw [List.length_take] at this
    simp at h
    subst h
    refine ⟨by simp, by simp; omega, by simp; omega⟩
/-- no paper's place stands within -/
def isFree (places : List Int) (e : Int × Int) : Bool := decide (places.filter (fun p => decide (e.1 < p ∧ p < e.2)) = [])
def shownM (rooms : Int) (row places : List Int) : Int := (row.length : Int) - (((spellsM row).filter (isFree places)).length : Int) - (rooms - 1) * (places.length : Int)
end Cw
namespace Cw
open PySem L2
theorem PairsAt.upD {H H' : Hp} {xs : List V} {ps : List (Int × Int)} {p : Addr} {o : HO} {kvs : List (Key × V)} (h : PairsAt H H' xs ps) (hp : H' p = some (.dK kvs)) : PairsAt H (upd H' p o) xs ps := ⟨h.1, fun i e he => by
  obtain ⟨t, h1, h2, h3⟩ := h.2 i e he
  refine ⟨t, h1, h2, (upd_ne fun e => ?_).trans h3⟩
  rw [e, hp] at h3
  cases h3⟩
end Cw
namespace Cw
theorem ite_some {α : Type} {x : α} {A B : Prop} (h : A) : if (some x).isSome = true then A else B := h
theorem ite_none {α : Type} {A B : Prop} (h : B) : if (none : Option α).isSome = true then A else B := by rw [if_neg (by simp)]; exact h
end Cw
namespace Cw
/-- a paper: places in rising order, within the row -/
def PapOk (ns ps : List Int) : Prop := ps.Pairwise (· < ·) ∧ ∀ x ∈ ps, 0 ≤ x ∧ x < (ns.length : Int)
theorem rising_len : ∀ (ps : List Int) (lo hi : Int), ps.Pairwise (· < ·) → (∀ x ∈ ps, lo ≤ x ∧ x < hi) → lo ≤ hi → (ps.length : Int) ≤ hi - lo
  | [], lo, hi, _, _, h => by simp; omega
  | x :: r, lo, hi, h1, h2, h => by
    rw [List.pairwise_cons] at h1
    have hx := h2 x (by simp)
    have := rising_len r (x + 1) hi h1.2 (fun y hy => ⟨by have := h1.1 y hy; omega, (h2 y (List.mem_cons_of_mem _ hy)).2⟩) (by omega)
    rw [List.length_cons]
    omega
theorem PapOk.len {ns ps : List Int} (h : PapOk ns ps) (hl : ns.length ≤ 100) : ps.length ≤ 100 := by
  have := rising_len ps 0 ns.length h.1 h.2 (by omega)
  omega
end Cw
namespace Cw
open PySem L2
def lastL {α : Type} (xs : List α) : List α := xs.drop (xs.length - 1)
theorem lastL_eq {α : Type} (xs : List α) : lastL xs = match xs.getLast? with
    | none => []
    | some b => [b] := by
  unfold lastL
  rcases List.eq_nil_or_concat xs with rfl | ⟨ys, y, rfl⟩
  · rfl
  · rw [List.concat_eq_append, List.getLast?_concat, List.length_append, List.length_singleton, Nat.add_sub_cancel, List.drop_left]
theorem w_slLast {K : PySem.W.Frag} {H : Hp} {Q : VK} {a : Addr} {ns : List Int} (h : SqL K H a (ns.map V.int)) (q : ∀ p, H p = none → Q (.ref p) (upd H p (.lst ((lastL ns).map V.int)))) : rSlL K (.ref a) (some (-1)) none H Q :=
  w_slL h fun p hp => by
    rw [cut_last _ (n := 1) (by decide), List.length_map, ← List.map_drop]
    exact q p hp
/-- the earlier places that ask what place e asks -/
def begL (ns : List Int) (e j : Nat) : List Int := ((List.range j).filter (fun i => decide (ns[i]? = ns[e]?))).map fun i : Nat => (i : Int)
theorem begL_succ (ns : List Int) (e j : Nat) : begL ns e (j + 1) = begL ns e j ++ (if ns[j]? = ns[e]? then [(j : Int)] else []) := by
  unfold begL
  rw [List.range_succ, List.filter_append, List.map_append]
  congr 1
  by_cases h : ns[j]? = ns[e]?
  · rw [if_pos h, List.filter_cons_of_pos (by simpa using h)]; rfl
  · rw [if_neg h, List.filter_cons_of_neg (by simpa using h)]; rfl
theorem begL_len (ns : List Int) (e j : Nat) : (begL ns e j).length ≤ j := by
  unfold begL
  rw [List.length_map]
  have := List.length_filter_le (fun i => decide (ns[i]? = ns[e]?)) (List.range j)
  rwa [List.length_range] at this
theorem begL_last {ns : List Int} {e : Nat} {x : Int} (h : ns[e]? = some x) : lastL (begL ns e e) = match lastAt (ns.take e) x with
    | none => []
    | some b => [(b : Int)] := by
  have hl := (List.getElem?_eq_some_iff.mp h).1
  have e1 : lastAt (ns.take e) x = ((List.range e).filter (fun i => decide (ns[i]? = ns[e]?))).getLast? := by
    unfold lastAt
    rw [List.length_take, Nat.min_eq_left (by omega)]
    congr 1
    refine List.filter_congr fun i hi => ?_
    rw [List.mem_range] at hi
    rw [List.getElem?_take, if_pos hi, h]
  rw [lastL_eq, e1]
  unfold begL
  rw [List.getLast?_map]
  cases ((List.range e).filter (fun i => decide (ns[i]? = ns[e]?))).getLast? <;> rfl
theorem spellAt_eq {ns : List Int} {e : Nat} {x : Int} (h : ns[e]? = some x) : spellAt ns e = (lastL (begL ns e e)).map fun b => (b, (e : Int)) := by
  rw [begL_last h]
  unfold spellAt
  rw [List.getD_eq_getElem?_getD, h]
  show (match lastAt (ns.take e) x with | none => [] | some b => [((b : Int), (e : Int))]) = _
  cases lastAt (ns.take e) x <;> rfl
end Cw
namespace Cw
open PySem L2
theorem PairsAt.append {H H' : Hp} {xs ys : List V} {ps qs : List (Int × Int)} (h : PairsAt H H' xs ps) (h2 : PairsAt H H' ys qs) : PairsAt H H' (xs ++ ys) (ps ++ qs) := ⟨by simp [h.1, h2.1], fun i e he => by
  rcases Nat.lt_or_ge i ps.length with l | l
  · rw [List.getElem?_append_left l] at he
    rw [List.getElem?_append_left (by rw [h.1]; exact l)]
    exact h.2 i e he
  · rw [List.getElem?_append_right l] at he
    rw [List.getElem?_append_right (by rw [h.1]; exact l), h.1]
    exact h2.2 _ e he⟩
/-- places drawn in rising order -/
theorem pap_snoc {ps : List Int} {i : Nat} (h : ps.Pairwise (· < ·)) (hm : ∀ x ∈ ps, 0 ≤ x ∧ x < (i : Int)) : (ps ++ [(i : Int)]).Pairwise (· < ·) ∧ ∀ x ∈ ps ++ [(i : Int)], 0 ≤ x ∧ x < ((i + 1 : Nat) : Int) := by
  constructor
  · rw [List.pairwise_append]
    refine ⟨h, List.pairwise_singleton _ _, fun x hx y hy => ?_⟩
    rw [List.mem_singleton.mp hy]
    exact (hm x hx).2
  · intro x hx
    rcases List.mem_append.mp hx with hx | hx
    · have := hm x hx
      omega
    · rw [List.mem_singleton.mp hx]
      omega
end Cw
namespace Cw
open PySem L2
theorem Box.up {H : Hp} {b q D : Addr} {o : HO} (h : Box H b q) (nD : D ∉ [b, q]) : Box (upd H D o) b q :=
  h.keep (W := [D]) (Fr.at (List.mem_singleton.mpr rfl)) (fun m => nD (by rw [List.mem_singleton.mp m]; simp)) (fun m => nD (by rw [List.mem_singleton.mp m]; simp))
end Cw

namespace Cw
/-! ways of keeping pages; papers bound them from below -/
structure Way (r : Nat) (row : List Int) (S : Nat → List Int) : Prop where
  nd : ∀ i, i ≤ row.length → (S i).Nodup
  le : ∀ i, i ≤ row.length → (S i).length ≤ r
  zero : S 0 = []
  step : ∀ i x, row[i]? = some x → ∀ y ∈ S (i + 1), y = x ∨ y ∈ S i
  has : ∀ i x, row[i]? = some x → x ∈ S (i + 1)
def lackAt (row : List Int) (S : Nat → List Int) (i : Nat) : Bool := decide (row.getD i 0 ∉ S i)
def lackN (row : List Int) (S : Nat → List Int) : Nat := ((List.range row.length).filter (lackAt row S)).length
theorem nodup_len {α : Type} [DecidableEq α] : ∀ {l m : List α}, l.Nodup → (∀ x ∈ l, x ∈ m) → l.length ≤ m.length
  | [], _, _, _ => Nat.zero_le _
  | x :: l, m, h, hs => by
    rw [List.nodup_cons] at h
    have hx := hs x (by simp)
    have := nodup_len (l := l) (m := m.erase x) h.2 fun y hy => (List.mem_erase_of_ne (fun e => h.1 (by rw [← e]; exact hy))).mpr (hs y (List.mem_cons_of_mem _ hy))
    rw [List.length_erase_of_mem hx] at this
    have : 0 < m.length := List.length_pos_iff.mpr (List.ne_nil_of_mem hx)
    rw [List.length_cons]
    omega
theorem lastAt_none {ns : List Int} {x : Int} (h : lastAt ns x = none) : x ∉ ns := by
  intro hm
  obtain ⟨j, hj, he⟩ := List.mem_iff_getElem.mp hm
  unfold lastAt at h
  rw [List.getLast?_eq_none_iff] at h
  have : j ∈ (List.range ns.length).filter fun i => decide (ns[i]? = some x) := by
    rw [List.mem_filter, List.mem_range]
    exact ⟨hj, by rw [List.getElem?_eq_getElem hj, he]; simp⟩
  rw [h] at this
  cases this
theorem lastAt_last : ∀ {ns : List Int} {x : Int} {b : Nat}, lastAt ns x = some b → ∀ j, b < j → ns[j]? ≠ some x := by
  intro ns
  refine list_snoc_ind (P := fun ns => ∀ {x : Int} {b : Nat}, lastAt ns x = some b → ∀ j, b < j → ns[j]? ≠ some x) ?_ ?_ ns
  · intro x b h
    exact absurd h (by simp [lastAt])
  · intro l y ih x b h j hj
    rw [lastAt_snoc] at h
    by_cases hy : y = x
    · rw [if_pos hy] at h
      obtain rfl := Option.some.inj h
      rw [List.getElem?_eq_none (by simp; omega)]
      simp
    · rw [if_neg hy] at h
      rcases Nat.lt_trichotomy j l.length with hl | hl | hl
      · rw [List.getElem?_append_left hl]
        exact ih h j hj
      · subst hl
        simp [hy]
      · rw [List.getElem?_eq_none (by simp; omega)]
        simp
/-- a kept page was asked, and was kept since -/
theorem Way.kept {r : Nat} {row : List Int} {S : Nat → List Int} (w : Way r row S) {x : Int} : ∀ t, t ≤ row.length → x ∈ S t → ∃ b, lastAt (row.take t) x = some b ∧ b < t ∧ ∀ u, b < u → u ≤ t → x ∈ S u := by
  intro t
  induction t with
  | zero => intro _ h; rw [w.zero] at h; cases h
  | succ t ih =>
    intro ht h
    obtain ⟨y, hy⟩ : ∃ y, row[t]? = some y := ⟨row[t], List.getElem?_eq_getElem (by omega)⟩
    rw [take_snoc hy, lastAt_snoc, List.length_take, Nat.min_eq_left (by omega)]
    by_cases e : y = x
    · rw [if_pos e]
      exact ⟨t, rfl, Nat.lt_succ_self _, fun u h1 h2 => by rw [show u = t + 1 by omega]; exact h⟩
    · rw [if_neg e]
      rcases w.step t y hy x h with h2 | h2
      · exact absurd h2.symm e
      · obtain ⟨b, h3, h4, h5⟩ := ih (by omega) h2
        refine ⟨b, h3, by omega, fun u h6 h7 => ?_⟩
        rcases Nat.lt_or_eq_of_le h7 with h8 | h8
        · exact h5 u h6 (by omega)
        · rw [h8]; exact h
/-- the spell that ends at e -/
def spellB (row : List Int) (e : Nat) : Option Nat := lastAt (row.take e) (row.getD e 0)
def freeAt (row ps : List Int) (e : Nat) : Bool := match spellB row e with
  | none => false
  | some b => isFree ps ((b : Int), (e : Int))
theorem free_count (row ps : List Int) : ∀ i, ((spellsTo row i).filter (isFree ps)).length = ((List.range i).filter (freeAt row ps)).length
  | 0 => rfl
  | i + 1 => by
    rw [spellsTo_succ, List.range_succ, List.filter_append, List.filter_append, List.length_append, List.length_append, free_count row ps i]
    congr 1
    unfold spellAt
    show _ = ((List.filter (freeAt row ps) [i]).length)
    have e : freeAt row ps i = match spellB row i with | none => false | some b => isFree ps ((b : Int), (i : Int)) := rfl
    unfold spellB at e
    cases h : lastAt (row.take i) (row.getD i 0) with
    | none =>
      rw [h] at e
      rw [List.filter_cons_of_neg (by rw [e]; simp)]
      rfl
    | some b =>
      rw [h] at e
      have e2 : freeAt row ps i = isFree ps ((b : Int), (i : Int)) := e
      cases hf : isFree ps ((b : Int), (i : Int)) with
      | true => simp [e2, hf]
      | false => simp [e2, hf]
/-- the spell that ends at e stands over y -/
def over (row : List Int) (y : Int) (e : Nat) : Bool := match spellB row e with
  | none => false
  | some b => decide ((b : Int) < y ∧ y < (e : Int))
theorem over_iff {row : List Int} {y : Int} {e : Nat} : over row y e = true ↔ ∃ b, spellB row e = some b ∧ (b : Int) < y ∧ y < (e : Int) := by
  unfold over
  cases spellB row e with
  | none => simp
  | some b => simp
theorem not_free {row ps : List Int} {e b : Nat} (h : spellB row e = some b) : freeAt row ps e = false ↔ ∃ y ∈ ps, over row y e = true := by
  have e1 : freeAt row ps e = isFree ps ((b : Int), (e : Int)) := by unfold freeAt; rw [h]
  rw [e1]
  unfold isFree
  rw [decide_eq_false_iff_not]
  constructor
  · intro hn
    obtain ⟨y, hy⟩ := List.exists_mem_of_ne_nil _ hn
    rw [List.mem_filter] at hy
    exact ⟨y, hy.1, over_iff.mpr ⟨b, h, by simpa using hy.2⟩⟩
  · rintro ⟨y, hy, ho⟩ hn
    obtain ⟨b', hb', h1⟩ := over_iff.mp ho
    rw [h] at hb'
    obtain rfl := Option.some.inj hb'
    have : y ∈ ps.filter (fun p => decide ((b : Int) < p ∧ p < (e : Int))) := List.mem_filter.mpr ⟨hy, by simpa using h1⟩
    have hn' : ps.filter (fun p => decide ((b : Int) < p ∧ p < (e : Int))) = [] := hn
    rw [hn'] at this
    cases this
end Cw
namespace Cw
theorem filter_or_len {α : Type} (l : List α) (p q : α → Bool) : (l.filter fun x => p x || q x).length ≤ (l.filter p).length + (l.filter q).length := by
  induction l with
  | nil => simp
  | cons x l ih =>
    simp only [List.filter_cons]
    cases p x <;> cases q x <;> simp <;> omega
theorem filter_split {α : Type} (l : List α) (p q : α → Bool) : (l.filter p).length = (l.filter fun x => p x && q x).length + (l.filter fun x => p x && !q x).length := by
  induction l with
  | nil => simp
  | cons x l ih =>
    simp only [List.filter_cons]
    cases p x <;> cases q x <;> simp <;> omega
theorem filter_mono_len {α : Type} (l : List α) {p q : α → Bool} (h : ∀ x ∈ l, p x = true → q x = true) : (l.filter p).length ≤ (l.filter q).length := by
  induction l with
  | nil => simp
  | cons x l ih =>
    have ih' := ih fun y hy => h y (List.mem_cons_of_mem _ hy)
    have hx := h x (by simp)
    simp only [List.filter_cons]
    cases hp : p x <;> cases hq : q x <;> simp [hp, hq] at * <;> omega
/-- those over some y of ps are no more than the sum -/
theorem any_count {α β : Type} (l : List α) (P : β → α → Bool) {m : Nat} : ∀ ps : List β, (∀ y ∈ ps, (l.filter (P y)).length ≤ m) → (l.filter fun x => ps.any fun y => P y x).length ≤ m * ps.length
  | [], _ => by simp
  | y :: ps, h => by
    have h1 := h y (by simp)
    have h2 := any_count l P ps fun z hz => h z (List.mem_cons_of_mem _ hz)
    have h3 := filter_or_len l (P y) (fun x => ps.any fun y => P y x)
    simp only [List.any_cons, List.length_cons]
    rw [Nat.mul_add]
    omega
theorem hits_over {r : Nat} {row : List Int} {S : Nat → List Int} (w : Way r row S) (r0 : 0 < r) (y : Int) :
    ((List.range row.length).filter fun e => !lackAt row S e && over row y e).length ≤ r - 1 := by
  by_cases hne : ((List.range row.length).filter fun e => !lackAt row S e && over row y e) = []
  · rw [hne]; exact Nat.zero_le _
  have key : ∀ e ∈ (List.range row.length).filter (fun e => !lackAt row S e && over row y e), e < row.length ∧ row.getD e 0 ∈ S e ∧ ∃ b, spellB row e = some b ∧ (b : Int) < y ∧ y < (e : Int) := by
    intro e he
    rw [List.mem_filter, List.mem_range, Bool.and_eq_true] at he
    refine ⟨he.1, ?_, over_iff.mp he.2.2⟩
    have := he.2.1
    simpa [lackAt] using this
  obtain ⟨e0, he0⟩ := List.exists_mem_of_ne_nil _ hne
  obtain ⟨h1, h2, b0, h3, h4, h5⟩ := key e0 he0
  obtain ⟨t, rfl⟩ : ∃ t : Nat, y = (t : Int) := ⟨y.toNat, by omega⟩
  have htl : t < row.length := by omega
  have hx : row[t]? = some row[t] := List.getElem?_eq_getElem htl
  have hm : (((List.range row.length).filter fun e => !lackAt row S e && over row (t : Int) e).map fun e => row.getD e 0).length ≤ ((S (t + 1)).erase row[t]).length := by
    refine nodup_len ?_ ?_
    · rw [List.Nodup, List.pairwise_map]
      refine List.Pairwise.imp_of_mem (R := fun a b => a < b) ?_ (List.pairwise_lt_range.filter _)
      intro e e' he he' hlt heq
      obtain ⟨k1, k2, b, k3, k4, k5⟩ := key e he
      obtain ⟨k1', k2', b', k3', k4', k5'⟩ := key e' he'
      refine lastAt_last k3' e (by omega) ?_
      rw [List.getElem?_take, if_pos hlt, ← heq, List.getD_eq_getElem?_getD, List.getElem?_eq_getElem k1]
      rfl
    · intro x hxm
      obtain ⟨e, he, rfl⟩ := List.mem_map.mp hxm
      obtain ⟨k1, k2, b, k3, k4, k5⟩ := key e he
      obtain ⟨b', k6, k7, k8⟩ := w.kept e (by omega) k2
      have : b' = b := by
        unfold spellB at k3
        rw [k6] at k3
        exact Option.some.inj k3
      subst this
      have hin := k8 (t + 1) (by omega) (by omega)
      refine (List.mem_erase_of_ne fun heq => ?_).mpr hin
      refine lastAt_last k6 t (by omega) ?_
      rw [List.getElem?_take, if_pos (by omega), hx, heq]
  rw [List.length_map] at hm
  rw [List.length_erase_of_mem (w.has t _ hx)] at hm
  have := w.le (t + 1) (by omega)
  omega
theorem lack_hit (row : List Int) (S : Nat → List Int) : lackN row S + ((List.range row.length).filter fun e => !lackAt row S e).length = row.length := by
  have := filter_split (List.range row.length) (fun _ => true) (lackAt row S)
  have e : (List.range row.length).filter (fun _ => true) = List.range row.length := List.filter_eq_self.mpr (by simp)
  rw [e, List.length_range] at this
  simp only [Bool.true_and] at this
  show ((List.range row.length).filter fun x => lackAt row S x).length + _ = _
  omega
/-- no paper shows more than a way lacks -/
theorem weak {r : Nat} {row : List Int} {S : Nat → List Int} (w : Way r row S) (r0 : 0 < r) (ps : List Int) : shownM (r : Int) row ps ≤ (lackN row S : Int) := by
  have h1 := lack_hit row S
  have h2 := filter_split (List.range row.length) (fun e => !lackAt row S e) (freeAt row ps)
  have h3 : ((List.range row.length).filter fun e => !lackAt row S e && freeAt row ps e).length ≤ ((List.range row.length).filter (freeAt row ps)).length :=
    filter_mono_len _ fun e _ h => by rw [Bool.and_eq_true] at h; exact h.2
  have h4 : ((List.range row.length).filter fun e => !lackAt row S e && !freeAt row ps e).length ≤ (r - 1) * ps.length := by
    refine Nat.le_trans ?_ (any_count (List.range row.length) (fun y e => !lackAt row S e && over row y e) ps fun y _ => hits_over w r0 y)
    refine filter_mono_len _ fun e he h => ?_
    rw [List.mem_range] at he
    rw [Bool.and_eq_true] at h
    have hk : row.getD e 0 ∈ S e := by simpa [lackAt] using h.1
    obtain ⟨b, k1, _, _⟩ := w.kept e (by omega) hk
    obtain ⟨y, hy, ho⟩ := (not_free (ps := ps) (e := e) k1).mp (by simpa using h.2)
    exact List.any_eq_true.mpr ⟨y, hy, by rw [Bool.and_eq_true]; exact ⟨h.1, ho⟩⟩
  have h5 := free_count row ps row.length
  have e1 : ((r : Int) - 1) * (ps.length : Int) = (((r - 1) * ps.length : Nat) : Int) := by
    rw [Int.natCast_mul, Int.ofNat_sub r0]
    rfl
  unfold shownM spellsM
  rw [e1, h5]
  omega
end Cw
namespace Cw
/-! the best one is a way -/
def bestK (r : Nat) (row : List Int) (i : Nat) : List Int := (bst r row (row.take i)).kept
theorem bst_n {r : Nat} (r0 : 0 < r) {row : List Int} {i : Nat} (hi : i ≤ row.length) : (bst r row (row.take i)).n = i := by
  rw [(bst_ok r0 row (row.take i)).n, List.length_take, Nat.min_eq_left hi]
theorem bestK_succ {r : Nat} (r0 : 0 < r) {row : List Int} {i : Nat} {x : Int} (hx : row[i]? = some x) :
    bestK r row (i + 1) = if x ∈ bestK r row i then bestK r row i else if (bestK r row i).length = r then (bestK r row i).erase (far (row.drop i) (bestK r row i)) ++ [x] else bestK r row i ++ [x] := by
  have hl := (List.getElem?_eq_some_iff.mp hx).1
  have hn := bst_n r0 (row := row) (i := i) (by omega)
  unfold bestK
  rw [take_snoc hx, bst_snoc]
  unfold bstep
  rw [hn]
  split
  · rfl
  · split <;> rfl
theorem best_way {r : Nat} (r0 : 0 < r) (row : List Int) : Way r row (bestK r row) where
  nd i _ := (bst_ok r0 row (row.take i)).nd
  le i _ := (bst_ok r0 row (row.take i)).le
  zero := rfl
  step i x hx y hy := by
    rw [bestK_succ r0 hx] at hy
    split at hy
    · exact .inr hy
    · split at hy
      · rcases List.mem_append.mp hy with h | h
        · exact .inr (List.mem_of_mem_erase h)
        · exact .inl (List.mem_singleton.mp h)
      · rcases List.mem_append.mp hy with h | h
        · exact .inr h
        · exact .inl (List.mem_singleton.mp h)
  has i x hx := by
    rw [bestK_succ r0 hx]
    split
    · assumption
    · split <;> simp
theorem best_lacks {r : Nat} (r0 : 0 < r) (row : List Int) : ∀ i, i ≤ row.length → (bst r row (row.take i)).lacks = ((List.range i).filter (lackAt row (bestK r row))).map fun j : Nat => (j : Int)
  | 0, _ => rfl
  | i + 1, hi => by
    obtain ⟨x, hx⟩ : ∃ x, row[i]? = some x := ⟨row[i], List.getElem?_eq_getElem (by omega)⟩
    have ih := best_lacks r0 row i (by omega)
    have hn := bst_n r0 (row := row) (i := i) (by omega)
    have hg : row.getD i 0 = x := by rw [List.getD_eq_getElem?_getD, hx]; rfl
    rw [take_snoc hx, bst_snoc, List.range_succ, List.filter_append, List.map_append, ← ih]
    unfold bstep
    rw [hn]
    by_cases hm : x ∈ (bst r row (row.take i)).kept
    · rw [if_pos hm]
      have e : lackAt row (bestK r row) i = false := by unfold lackAt; rw [hg]; exact decide_eq_false fun h => h hm
      rw [List.filter_cons_of_neg (by simp [e])]
      simp
    · rw [if_neg hm]
      have e : lackAt row (bestK r row) i = true := by unfold lackAt; rw [hg]; exact decide_eq_true hm
      rw [List.filter_cons_of_pos e]
      split <;> rfl
def bestN (r : Nat) (row : List Int) : Nat := (bst r row row).lacks.length
theorem bestN_eq {r : Nat} (r0 : 0 < r) (row : List Int) : bestN r row = lackN row (bestK r row) := by
  have h := best_lacks r0 row row.length (Nat.le_refl _)
  rw [List.take_length] at h
  unfold bestN lackN
  rw [h, List.length_map]
/-! the best one's drops -/
def endOf (row : List Int) (p : Nat) (x : Int) : Nat := p + (row.drop p).idxOf x
structure Drop (r : Nat) (row : List Int) (p : Nat) : Prop where
  lt : p < row.length
  lack : row.getD p 0 ∉ bestK r row p
  full : (bestK r row p).length = r
  back : endOf row p (far (row.drop p) (bestK r row p)) < row.length
abbrev gone (r : Nat) (row : List Int) (p : Nat) : Int := far (row.drop p) (bestK r row p)
abbrev dropE (r : Nat) (row : List Int) (p : Nat) : Nat := endOf row p (gone r row p)
theorem endOf_at {row : List Int} {p : Nat} {x : Int} (h : endOf row p x < row.length) : row[endOf row p x]? = some x := by
  unfold endOf at h ⊢
  have hl : (row.drop p).idxOf x < (row.drop p).length := by rw [List.length_drop]; omega
  rw [← List.getElem?_drop, List.getElem?_eq_getElem hl]
  simp
theorem endOf_before {row : List Int} {p j : Nat} {x : Int} (h1 : p ≤ j) (h2 : j < endOf row p x) : row[j]? ≠ some x := by
  unfold endOf at h2
  intro e
  obtain ⟨k, rfl⟩ : ∃ k, j = p + k := ⟨j - p, by omega⟩
  rw [← List.getElem?_drop] at e
  have hk : k < (row.drop p).idxOf x := by omega
  have z := List.not_of_lt_findIdx (p := (· == x)) (xs := row.drop p) (i := k) hk
  rw [List.getElem?_eq_some_iff] at e
  obtain ⟨_, e⟩ := e
  simp [e] at z
theorem endOf_uniq {row : List Int} {p e : Nat} {x : Int} (h1 : p ≤ e) (h2 : row[e]? = some x) (h3 : ∀ j, p ≤ j → j < e → row[j]? ≠ some x) : endOf row p x = e := by
  have hel := (List.getElem?_eq_some_iff.mp h2).1
  rcases Nat.lt_trichotomy (endOf row p x) e with h | h | h
  · exact absurd (endOf_at (by omega)) (h3 _ (by unfold endOf; omega) h)
  · exact h
  · exact absurd h2 (endOf_before h1 h)
theorem far_end {r : Nat} {row : List Int} {p : Nat} {x : Int} (hx : x ∈ bestK r row p) : endOf row p x ≤ dropE r row p := by
  have := (far_spec (row.drop p) (kept := bestK r row p) (List.ne_nil_of_mem hx)).2 x hx
  unfold dropE endOf gone
  omega
theorem drop_gt {r : Nat} (r0 : 0 < r) {row : List Int} {p : Nat} (d : Drop r row p) : p < dropE r row p := by
  have hne : bestK r row p ≠ [] := fun e => by have := d.full; rw [e] at this; simp at this; omega
  have hf := (far_spec (row.drop p) hne).1
  refine Nat.lt_of_not_le fun h => ?_
  have e : dropE r row p = p := by
    have : p ≤ dropE r row p := by unfold dropE endOf; omega
    omega
  have h2 := endOf_at d.back
  rw [show endOf row p (far (row.drop p) (bestK r row p)) = p from e] at h2
  refine d.lack ?_
  rw [List.getD_eq_getElem?_getD, h2]
  exact hf
end Cw
namespace Cw
theorem ex_max (P : Nat → Prop) : ∀ n, (∃ p, p < n ∧ P p) → ∃ p, p < n ∧ P p ∧ ∀ q, q < n → P q → q ≤ p
  | 0, ⟨p, h, _⟩ => by omega
  | n + 1, h => by
    by_cases hn : P n
    · exact ⟨n, Nat.lt_succ_self _, hn, fun q hq _ => by omega⟩
    · obtain ⟨p, h1, h2⟩ := h
      have hpn : p ≠ n := fun e => hn (by rw [← e]; exact h2)
      obtain ⟨p', h3, h4, h5⟩ := ex_max P n ⟨p, by omega, h2⟩
      refine ⟨p', by omega, h4, fun q hq hP => h5 q ?_ hP⟩
      have : q ≠ n := fun e => hn (by rw [← e]; exact hP)
      omega
/-- the paper's places, from behind -/
theorem chain_ex {r : Nat} (r0 : 0 < r) (row : List Int) : ∀ B : Nat, ∃ Y : List Nat, Y.Pairwise (fun y' y => y' < y ∧ dropE r row y' ≤ y) ∧ (∀ y ∈ Y, Drop r row y ∧ dropE r row y ≤ B ∧ ∀ p, Drop r row p → y < p → dropE r row y < dropE r row p) ∧
    ∀ p, Drop r row p → dropE r row p ≤ B → ∃ y ∈ Y, p ≤ y ∧ y < dropE r row p := by
  intro B
  induction B using Nat.strongRecOn with
  | _ B ih =>
    by_cases hex : ∃ p, p < row.length ∧ (Drop r row p ∧ dropE r row p ≤ B)
    · obtain ⟨P, hP1, ⟨hP2, hP3⟩, hP4⟩ := ex_max (fun p => Drop r row p ∧ dropE r row p ≤ B) row.length hex
      have hlt := drop_gt r0 hP2
      obtain ⟨Y, hY1, hY2, hY3⟩ := ih P (by omega)
      refine ⟨Y ++ [P], ?_, ?_, ?_⟩
      · rw [List.pairwise_append]
        refine ⟨hY1, List.pairwise_singleton _ _, fun y hy z hz => ?_⟩
        rw [List.mem_singleton.mp hz]
        have h1 := hY2 y hy
        have := drop_gt r0 h1.1
        exact ⟨by omega, h1.2.1⟩
      · intro y hy
        rcases List.mem_append.mp hy with hy | hy
        · obtain ⟨h1, h2, h3⟩ := hY2 y hy
          exact ⟨h1, by omega, h3⟩
        · rw [List.mem_singleton.mp hy]
          refine ⟨hP2, hP3, fun p hp hlp => ?_⟩
          refine Nat.lt_of_not_le fun hle => ?_
          have := hP4 p hp.lt ⟨hp, by omega⟩
          omega
      · intro p hp hpB
        have hpP := hP4 p hp.lt ⟨hp, hpB⟩
        by_cases h : P < dropE r row p
        · exact ⟨P, by simp, hpP, h⟩
        · obtain ⟨y, hy, h1, h2⟩ := hY3 p hp (by omega)
          exact ⟨y, List.mem_append_left _ hy, h1, h2⟩
    · exact ⟨[], List.Pairwise.nil, (fun y hy => absurd hy (by simp)), (fun p hp hpB => absurd ⟨p, hp.lt, hp, hpB⟩ hex)⟩
end Cw
namespace Cw
theorem disjoint_count {α β : Type} (l : List α) (P : β → α → Bool) {m : Nat} : ∀ Y : List β, (∀ y ∈ Y, m ≤ (l.filter (P y)).length) → Y.Pairwise (fun a b => ∀ e ∈ l, P a e = true → P b e = true → False) → m * Y.length ≤ (l.filter fun x => Y.any fun y => P y x).length
  | [], _, _ => by simp
  | y :: Y, h, hd => by
    rw [List.pairwise_cons] at hd
    have h1 := h y (by simp)
    have h2 := disjoint_count l P Y (fun z hz => h z (List.mem_cons_of_mem _ hz)) hd.2
    have h3 := filter_split l (fun x => (y :: Y).any fun y => P y x) (P y)
    have h4 : (l.filter (P y)).length ≤ (l.filter fun x => ((y :: Y).any fun y => P y x) && P y x).length := filter_mono_len l fun x _ hx => by simp [hx]
    have h5 : (l.filter fun x => Y.any fun y => P y x).length ≤ (l.filter fun x => ((y :: Y).any fun y => P y x) && !P y x).length := filter_mono_len l fun x hxl hx => by
      obtain ⟨z, hz, hzx⟩ := List.any_eq_true.mp hx
      have hy : P y x = false := by
        cases hp : P y x with
        | false => rfl
        | true => exact (hd.1 z hz x hxl hp hzx).elim
      rw [List.any_cons, hx, hy]
      rfl
    rw [List.length_cons, Nat.mul_add]
    omega
theorem gone_of {r : Nat} (r0 : 0 < r) {row : List Int} {p : Nat} {x : Int} (hp : p < row.length) (h1 : x ∈ bestK r row p) (h2 : x ∉ bestK r row (p + 1)) : row.getD p 0 ∉ bestK r row p ∧ (bestK r row p).length = r ∧ x = gone r row p := by
  have hx : row[p]? = some row[p] := List.getElem?_eq_getElem hp
  have hg : row.getD p 0 = row[p] := by rw [List.getD_eq_getElem?_getD, hx]; rfl
  rw [bestK_succ r0 hx] at h2
  rw [hg]
  by_cases c1 : row[p] ∈ bestK r row p
  · rw [if_pos c1] at h2
    exact absurd h1 h2
  · rw [if_neg c1] at h2
    by_cases c2 : (bestK r row p).length = r
    · rw [if_pos c2] at h2
      refine ⟨c1, c2, Classical.byContradiction fun hne => h2 (List.mem_append_left _ ((List.mem_erase_of_ne hne).mpr h1))⟩
    · rw [if_neg c2] at h2
      exact absurd (List.mem_append_left _ h1) h2
/-- kept here, not kept there: between it went -/
theorem went {P : Nat → Prop} {i j : Nat} (h : i ≤ j) (h1 : P i) (h2 : ¬ P j) : ∃ p, i ≤ p ∧ p < j ∧ P p ∧ ¬ P (p + 1) := by
  induction j with
  | zero => exact absurd (by rw [show i = 0 by omega] at h1; exact h1) h2
  | succ j ih =>
    by_cases hj : P j
    · have : i ≠ j + 1 := fun e => h2 (by rw [← e]; exact h1)
      exact ⟨j, by omega, Nat.lt_succ_self _, hj, h2⟩
    · have : i ≠ j + 1 := fun e => h2 (by rw [← e]; exact h1)
      obtain ⟨p, a, b, c, d⟩ := ih (by omega) hj
      exact ⟨p, a, by omega, c, d⟩
theorem spell_ends {row : List Int} {b e p : Nat} {x : Int} (he : row[e]? = some x) (hb : lastAt (row.take e) x = some b) (h1 : b < p) (h2 : p ≤ e) : endOf row p x = e :=
  endOf_uniq h2 he fun j h3 h4 hj => lastAt_last hb j (by omega) (by rw [List.getElem?_take, if_pos h4]; exact hj)
theorem strong {r : Nat} (r0 : 0 < r) (row : List Int) : ∃ ps : List Int, PapOk row ps ∧ (∀ x ∈ ps, 1 ≤ x) ∧ (bestN r row : Int) ≤ shownM (r : Int) row ps := by
  obtain ⟨Y, hY1, hY2, hY3⟩ := chain_ex r0 row (row.length - 1)
  have w := best_way r0 row
  refine ⟨Y.map fun y : Nat => (y : Int), ⟨?_, ?_⟩, ?_, ?_⟩
  · rw [List.pairwise_map]
    exact hY1.imp fun h => by have := h.1; omega
  · intro x hx
    obtain ⟨y, hy, rfl⟩ := List.mem_map.mp hx
    have := (hY2 y hy).1.lt
    omega
  · intro x hx
    obtain ⟨y, hy, rfl⟩ := List.mem_map.mp hx
    have hf := (hY2 y hy).1.full
    by_cases h0 : y = 0
    · subst h0
      rw [show bestK r row 0 = [] from rfl] at hf
      simp at hf
      omega
    · omega
  -- free ones are hit
  have ha : ∀ e ∈ List.range row.length, freeAt row (Y.map fun y : Nat => (y : Int)) e = true → (!lackAt row (bestK r row) e && freeAt row (Y.map fun y : Nat => (y : Int)) e) = true := by
    intro e he hf
    rw [List.mem_range] at he
    rw [hf, Bool.and_true]
    cases hl : lackAt row (bestK r row) e with
    | false => rfl
    | true =>
      exfalso
      have hex : row[e]? = some (row.getD e 0) := by rw [List.getD_eq_getElem?_getD, List.getElem?_eq_getElem he]; rfl
      generalize hx : row.getD e 0 = x at hex
      have hl' : x ∉ bestK r row e := by unfold lackAt at hl; rw [hx] at hl; exact of_decide_eq_true hl
      cases hb : spellB row e with
      | none => unfold freeAt at hf; rw [hb] at hf; cases hf
      | some b =>
        have hb' : lastAt (row.take e) x = some b := by unfold spellB at hb; rw [hx] at hb; exact hb
        have hbl := lastAt_lt hb'
        rw [List.length_take] at hbl
        have hbx : row[b]? = some x := by
          have := hbl.2
          rw [List.getElem?_take] at this
          split at this
          · exact this
          · cases this
        obtain ⟨p, p1, p2, p3, p4⟩ := went (P := fun i => x ∈ bestK r row i) (i := b + 1) (j := e) (by omega) (w.has b x hbx) hl'
        obtain ⟨q1, q2, q3⟩ := gone_of r0 (by omega) p3 p4
        have hend : dropE r row p = e := by
          unfold dropE
          rw [← q3]
          exact spell_ends hex hb' (by omega) (by omega)
        have hd : Drop r row p := ⟨by omega, q1, q2, by rw [show endOf row p (far (row.drop p) (bestK r row p)) = e from hend]; exact he⟩
        obtain ⟨y, hy, y1, y2⟩ := hY3 p hd (by omega)
        rw [hend] at y2
        have hnf := (not_free (ps := Y.map fun y : Nat => (y : Int)) hb).mpr ⟨(y : Int), List.mem_map.mpr ⟨y, hy, rfl⟩, over_iff.mpr ⟨b, hb, by omega, by omega⟩⟩
        rw [hf] at hnf
        cases hnf
  -- over each place stand r - 1 hit ones
  have hb : ∀ y ∈ Y, r - 1 ≤ ((List.range row.length).filter fun e => !lackAt row (bestK r row) e && over row (y : Int) e).length := by
    intro y hy
    obtain ⟨hd, hB, hmax⟩ := hY2 y hy
    have hdl : dropE r row y < row.length := hd.back
    have hne : bestK r row y ≠ [] := fun e => by have := hd.full; rw [e] at this; simp at this; omega
    have hgm := (far_spec (row.drop y) hne).1
    have hnd := w.nd y (by have := hd.lt; omega)
    have key : ∀ x ∈ (bestK r row y).erase (gone r row y), endOf row y x < row.length ∧ endOf row y x ∈ (List.range row.length).filter fun e => !lackAt row (bestK r row) e && over row (y : Int) e := by
      intro x hx
      rw [hnd.mem_erase_iff] at hx
      have hle := far_end hx.2
      have hel : endOf row y x < row.length := by omega
      have hat := endOf_at hel
      have hye : y ≤ endOf row y x := by unfold endOf; omega
      generalize he : endOf row y x = e at *
      have hgd : row.getD e 0 = x := by rw [List.getD_eq_getElem?_getD, hat]; rfl
      have hhit : x ∈ bestK r row e := by
        refine Classical.byContradiction fun hn => ?_
        obtain ⟨p, p1, p2, p3, p4⟩ := went (P := fun i => x ∈ bestK r row i) hye hx.2 hn
        obtain ⟨q1, q2, q3⟩ := gone_of r0 (by omega) p3 p4
        by_cases hpy : p = y
        · subst hpy
          exact hx.1 q3
        · have hend : dropE r row p = e := by
            unfold dropE
            rw [← q3]
            exact endOf_uniq (by omega) hat fun j h3 h4 => endOf_before (p := y) (by omega) (by rw [he]; exact h4)
          have hdp : Drop r row p := ⟨by omega, q1, q2, by rw [show endOf row p (far (row.drop p) (bestK r row p)) = e from hend]; exact hel⟩
          have := hmax p hdp (by omega)
          omega
      refine ⟨hel, ?_⟩
      rw [List.mem_filter, List.mem_range, Bool.and_eq_true]
      obtain ⟨b, b1, b2, b3⟩ := w.kept e (by omega) hhit
      have hbl := lastAt_lt b1
      rw [List.length_take] at hbl
      have hbx : row[b]? = some x := by
        have := hbl.2
        rw [List.getElem?_take, if_pos (by omega)] at this
        exact this
      have hby : b < y := Nat.lt_of_not_le fun h => endOf_before (p := y) (x := x) h (by rw [he]; omega) hbx
      have hyne : y ≠ e := by
        intro h
        refine hd.lack ?_
        rw [h, hgd]
        exact hhit
      refine ⟨hel, ?_, over_iff.mpr ⟨b, by unfold spellB; rw [hgd]; exact b1, by omega, by omega⟩⟩
      unfold lackAt
      rw [hgd]
      simpa using hhit
    have hlen : (((bestK r row y).erase (gone r row y)).map (endOf row y)).length ≤ ((List.range row.length).filter fun e => !lackAt row (bestK r row) e && over row (y : Int) e).length := by
      refine nodup_len ?_ fun e he => ?_
      · rw [List.Nodup, List.pairwise_map]
        refine List.Pairwise.imp_of_mem ?_ (hnd.erase _)
        intro x x' hx hx' hne heq
        have a1 := endOf_at (key x hx).1
        have a2 := endOf_at (key x' hx').1
        rw [heq, a2] at a1
        exact hne (Option.some.inj a1).symm
      · obtain ⟨x, hx, rfl⟩ := List.mem_map.mp he
        exact (key x hx).2
    rw [List.length_map, List.length_erase_of_mem hgm, hd.full] at hlen
    exact hlen
  -- no hit one stands over two places
  have hc : Y.Pairwise (fun (a b : Nat) => ∀ e ∈ List.range row.length, (!lackAt row (bestK r row) e && over row (a : Int) e) = true → (!lackAt row (bestK r row) e && over row (b : Int) e) = true → False) := by
    refine hY1.imp fun {y' y} h e he h1 h2 => ?_
    rw [List.mem_range] at he
    rw [Bool.and_eq_true] at h1 h2
    obtain ⟨b, b1, b2, b3⟩ := over_iff.mp h1.2
    obtain ⟨b', b1', b2', b3'⟩ := over_iff.mp h2.2
    have hhit : row.getD e 0 ∈ bestK r row e := by simpa [lackAt] using h1.1
    have hex : row[e]? = some (row.getD e 0) := by rw [List.getD_eq_getElem?_getD, List.getElem?_eq_getElem he]; rfl
    obtain ⟨c, c1, c2, c3⟩ := w.kept e (by omega) hhit
    have hbc : b = c := by
      unfold spellB at b1
      rw [c1] at b1
      exact (Option.some.inj b1).symm
    subst hbc
    have hin := c3 y' (by omega) (by omega)
    have hend := spell_ends hex c1 (p := y') (by omega) (by omega)
    have := far_end hin
    rw [hend] at this
    omega
  have h1 := lack_hit row (bestK r row)
  have h2 := filter_split (List.range row.length) (fun e => !lackAt row (bestK r row) e) (freeAt row (Y.map fun y : Nat => (y : Int)))
  have h3 := filter_mono_len (List.range row.length) ha
  have h4 := disjoint_count (List.range row.length) (fun (y : Nat) e => !lackAt row (bestK r row) e && over row (y : Int) e) Y hb hc
  have h5 : ((List.range row.length).filter fun x => Y.any fun y => !lackAt row (bestK r row) x && over row (y : Int) x).length ≤ ((List.range row.length).filter fun e => !lackAt row (bestK r row) e && !freeAt row (Y.map fun y : Nat => (y : Int)) e).length := by
    refine filter_mono_len _ fun e he h => ?_
    obtain ⟨y, hy, ho⟩ := List.any_eq_true.mp h
    rw [Bool.and_eq_true] at ho
    rw [Bool.and_eq_true]
    obtain ⟨b, b1, _, _⟩ := over_iff.mp ho.2
    have := (not_free (ps := Y.map fun y : Nat => (y : Int)) b1).mpr ⟨(y : Int), List.mem_map.mpr ⟨y, hy, rfl⟩, ho.2⟩
    exact ⟨ho.1, by rw [this]; rfl⟩
  have h6 := free_count row (Y.map fun y : Nat => (y : Int)) row.length
  have e1 : ((r : Int) - 1) * ((Y.map fun y : Nat => (y : Int)).length : Int) = (((r - 1) * Y.length : Nat) : Int) := by
    rw [List.length_map, Int.natCast_mul, Int.ofNat_sub r0]
    rfl
  rw [bestN_eq r0]
  unfold shownM spellsM
  rw [e1, h6]
  omega
/-- no way lacks more seldom than the best one -/
theorem best_least {r : Nat} (r0 : 0 < r) {row : List Int} {S : Nat → List Int} (w : Way r row S) : bestN r row ≤ lackN row S := by
  obtain ⟨ps, _, _, h⟩ := strong r0 row
  have := weak w r0 ps
  omega
theorem shown_le {r : Nat} (r0 : 0 < r) (row ps : List Int) : shownM (r : Int) row ps ≤ (bestN r row : Int) := by
  rw [bestN_eq r0]
  exact weak (best_way r0 row) r0 ps
/-- a room more -/
theorem best_more {r : Nat} (r0 : 0 < r) (row : List Int) : bestN (r + 1) row ≤ bestN r row := by
  rw [bestN_eq r0]
  have w := best_way r0 row
  exact best_least (Nat.succ_pos r) ⟨w.nd, fun i h => Nat.le_succ_of_le (w.le i h), w.zero, w.step, w.has⟩
end Cw
namespace Cw
open PySem
/-! the rules are ways -/
def keepW (n : Nat) (u : Bool) (row : List Int) (i : Nat) : List Int := keepEnd n u [] (row.take i)
def dialW (n : Nat) (row : List Int) (i : Nat) : List Int := (endAll (Dl.new n) (row.take i)).here.filterMap id
def ruleW (n : Nat) (z : Str) (row : List Int) : Nat → List Int := if z = Str.ofString "hand" then dialW n row else keepW n (decide (z = Str.ofString "unseen")) row
theorem keepEnd_snoc (n : Nat) (u : Bool) (k l : List Int) (x : Int) : keepEnd n u k (l ++ [x]) = keepS n u (keepEnd n u k l) x := by rw [keepEnd_app]; rfl
theorem keepW_way {n : Nat} (n0 : 0 < n) (u : Bool) (row : List Int) : Way n row (keepW n u row) where
  nd i _ := (keepEnd_ok n0 u [] (row.take i) ⟨List.nodup_nil, Nat.zero_le _⟩).nd
  le i _ := (keepEnd_ok n0 u [] (row.take i) ⟨List.nodup_nil, Nat.zero_le _⟩).le
  zero := rfl
  step i x hx y hy := by
    unfold keepW at hy ⊢
    rw [take_snoc hx, keepEnd_snoc] at hy
    generalize keepEnd n u [] (row.take i) = k at *
    unfold keepS at hy
    split at hy
    · split at hy
      · rcases List.mem_append.mp hy with h | h
        · exact .inr (List.mem_of_mem_erase h)
        · exact .inl (List.mem_singleton.mp h)
      · exact .inr hy
    · rcases List.mem_append.mp hy with h | h
      · exact .inr (List.mem_of_mem_drop h)
      · exact .inl (List.mem_singleton.mp h)
  has i x hx := by
    unfold keepW
    rw [take_snoc hx, keepEnd_snoc]
    generalize keepEnd n u [] (row.take i) = k at *
    unfold keepS
    split
    · split
      · simp
      · assumption
    · simp
theorem mem_dial {hs : List (Option Int)} {x : Int} : x ∈ hs.filterMap id ↔ some x ∈ hs := by simp
theorem endAll_snoc (d : Dl) (l : List Int) (x : Int) : endAll d (l ++ [x]) = ((endAll d l).ask x).1 := by rw [endAll_app]; rfl
theorem set_nodup : ∀ (hs : List (Option Int)) (j : Nat) (x : Int), (hs.filterMap id).Nodup → some x ∉ hs → ((hs.set j (some x)).filterMap id).Nodup
  | [], j, x, h, hx => by simp
  | o :: hs, 0, x, h, hx => by
    rw [List.set_cons_zero, List.filterMap_cons]
    show (x :: hs.filterMap id).Nodup
    rw [List.nodup_cons]
    refine ⟨fun h2 => hx (List.mem_cons_of_mem _ (mem_dial.mp h2)), ?_⟩
    rw [List.filterMap_cons] at h
    cases o with
    | none => exact h
    | some y => exact (List.nodup_cons.mp h).2
  | o :: hs, j + 1, x, h, hx => by
    rw [List.set_cons_succ, List.filterMap_cons]
    have hx' : some x ∉ hs := fun h2 => hx (List.mem_cons_of_mem _ h2)
    rw [List.filterMap_cons] at h
    cases o with
    | none => exact set_nodup hs j x h hx'
    | some y =>
      have h' := List.nodup_cons.mp h
      show (y :: (hs.set j (some x)).filterMap id).Nodup
      rw [List.nodup_cons]
      refine ⟨fun h2 => ?_, set_nodup hs j x h'.2 hx'⟩
      rcases List.mem_or_eq_of_mem_set (mem_dial.mp h2) with h3 | h3
      · exact h'.1 (mem_dial.mpr h3)
      · have : y = x := Option.some.inj h3
        subst this
        exact hx (by simp)
theorem ask_here (d : Dl) (x : Int) : (d.ask x).1.here = if some x ∈ d.here then d.here else d.here.set d.spin.2.1 (some x) := by
  unfold Dl.ask
  split <;> rfl
theorem dialW_way {n : Nat} (n0 : 0 < n) (n8 : n ≤ 8) (row : List Int) : Way n row (dialW n row) := by
  have wf : ∀ i, (endAll (Dl.new n) (row.take i)).Wf n := fun i => endAll_wf _ _ (Dl.Wf.new n0 n8)
  refine ⟨fun i => ?_, fun i _ => ?_, ?_, fun i x hx y hy => ?_, fun i x hx => ?_⟩
  · induction i with
    | zero =>
      intro _
      have e : dialW n row 0 = [] := by unfold dialW; simp [endAll, Dl.new]
      rw [e]
      exact List.nodup_nil
    | succ i ih =>
      intro hi
      obtain ⟨x, hx⟩ : ∃ x, row[i]? = some x := ⟨row[i], List.getElem?_eq_getElem (by omega)⟩
      have ih := ih (by omega)
      unfold dialW at ih ⊢
      rw [take_snoc hx, endAll_snoc, ask_here]
      split
      · exact ih
      · exact set_nodup _ _ _ ih ‹_›
  · unfold dialW
    have := (wf i).hl
    exact Nat.le_trans (List.length_filterMap_le _ _) (by omega)
  · unfold dialW
    simp [endAll, Dl.new]
  · unfold dialW at hy ⊢
    rw [take_snoc hx, endAll_snoc, ask_here] at hy
    rw [mem_dial] at hy ⊢
    split at hy
    · exact .inr hy
    · rcases List.mem_or_eq_of_mem_set hy with h | h
      · exact .inr h
      · exact .inl (Option.some.inj h)
  · unfold dialW
    rw [take_snoc hx, endAll_snoc, ask_here, mem_dial]
    split
    · assumption
    · have w := wf i
      have hs := (spin_facts n0 _ (endAll (Dl.new n) (row.take i)).seen (endAll (Dl.new n) (row.take i)).hand (Nat.le_refl _) w.sl w.hd).2.1
      have hlt : (endAll (Dl.new n) (row.take i)).spin.2.1 < (endAll (Dl.new n) (row.take i)).here.length := by
        rw [w.hl]
        show (Cw.spin _ _ _ _).2.1 < n
        rw [w.hl]
        exact hs
      exact List.mem_iff_getElem.mpr ⟨_, by rw [List.length_set]; exact hlt, List.getElem_set_self _⟩
theorem ruleW_way {n : Nat} (n0 : 0 < n) (n8 : n ≤ 8) (z : Str) (row : List Int) : Way n row (ruleW n z row) := by
  unfold ruleW
  split
  · exact dialW_way n0 n8 row
  · exact keepW_way n0 _ row
theorem lackB_take (n : Nat) (z : Str) (row : List Int) : ∀ i, i ≤ row.length → lackB n z (row.take i) = (List.range i).map (lackAt row (ruleW n z row))
  | 0, _ => by
    unfold lackB
    split <;> simp [askAll, keepAll]
  | i + 1, hi => by
    obtain ⟨x, hx⟩ : ∃ x, row[i]? = some x := ⟨row[i], List.getElem?_eq_getElem (by omega)⟩
    have hg : row.getD i 0 = x := by rw [List.getD_eq_getElem?_getD, hx]; rfl
    rw [List.range_succ, List.map_append, ← lackB_take n z row i (by omega), take_snoc hx]
    unfold lackB ruleW lackAt
    rw [List.map_cons, List.map_nil, hg]
    by_cases hz : z = Str.ofString "hand"
    · rw [if_pos hz, if_pos hz, if_pos hz, askAll_app, List.map_append]
      congr 1
      show [((endAll (Dl.new n) (row.take i)).ask x).2.lack] = _
      unfold dialW Dl.ask
      split
      · rename_i h; rw [decide_eq_false (fun h2 => h2 (mem_dial.mpr h))]
      · rename_i h
        show [true] = _
        have hn : ¬ x ∈ (endAll (Dl.new n) (row.take i)).here.filterMap id := fun h2 => h (mem_dial.mp h2)
        rw [decide_eq_true hn]
    · rw [if_neg hz, if_neg hz, if_neg hz, keepAll_app]
      rfl
theorem placesFrom_cnt : ∀ (i : Nat) (bs : List Bool), (placesFrom i bs).length = (bs.filter id).length
  | _, [] => rfl
  | i, b :: bs => by
    have := placesFrom_cnt (i + 1) bs
    cases b <;> simp [placesFrom, this]
theorem lacking_len (n : Nat) (z : Str) (row : List Int) : (places (lackB n z row)).length = lackN row (ruleW n z row) := by
  have h := lackB_take n z row row.length (Nat.le_refl _)
  rw [List.take_length] at h
  unfold places lackN
  rw [placesFrom_cnt, h, List.filter_map, List.length_map]
  rfl
theorem best_le_rule {n : Nat} (n0 : 0 < n) (n8 : n ≤ 8) (z : Str) (row : List Int) : bestN n row ≤ (places (lackB n z row)).length := by
  rw [lacking_len]
  exact best_least n0 (ruleW_way n0 n8 z row)
end Cw

namespace Cw
open PySem
/-! the fewest lacks of all ways, gone through by sets of pages kept -/
/-- a way's first steps: what is kept behind i asks, and how many lacked -/
inductive Goes (r : Nat) (row : List Int) : Nat → List Int → Nat → Prop
  | zero : Goes r row 0 [] 0
  | hit {i : Nat} {K : List Int} {m : Nat} {x : Int} : Goes r row i K m → row[i]? = some x → x ∈ K → Goes r row (i + 1) K m
  | miss {i : Nat} {K L : List Int} {m : Nat} {x : Int} : Goes r row i K m → row[i]? = some x → x ∉ K → L.Nodup → L.length ≤ r → x ∈ L → (∀ y ∈ L, y = x ∨ y ∈ K) → Goes r row (i + 1) L (m + 1)
structure WayTo (r : Nat) (row : List Int) (i : Nat) (K : List Int) (m : Nat) (S : Nat → List Int) : Prop where
  nd : ∀ j, j ≤ i → (S j).Nodup
  le : ∀ j, j ≤ i → (S j).length ≤ r
  zero : S 0 = []
  step : ∀ j x, j < i → row[j]? = some x → ∀ y ∈ S (j + 1), y = x ∨ y ∈ S j
  has : ∀ j x, j < i → row[j]? = some x → x ∈ S (j + 1)
  last : S i = K
  cnt : ((List.range i).filter (lackAt row S)).length = m
theorem wayTo_more {r : Nat} {row : List Int} {i : Nat} {K L : List Int} {m m' : Nat} {x : Int} {S : Nat → List Int} (w : WayTo r row i K m S) (hx : row[i]? = some x) (nd : L.Nodup) (le : L.length ≤ r) (hL : ∀ y ∈ L, y = x ∨ y ∈ K) (hxL : x ∈ L)
    (hm : m' = m + if x ∈ K then 0 else 1) : ∃ S', WayTo r row (i + 1) L m' S' := by
  obtain ⟨w1, w2, w3, w4, w5, w6, w7⟩ := w
  have old : ∀ j, j ≤ i → (if j ≤ i then S j else L) = S j := fun j h => if_pos h
  have new : (if i + 1 ≤ i then S (i + 1) else L) = L := if_neg (by omega)
  refine ⟨fun j => if j ≤ i then S j else L, fun j hj => ?_, fun j hj => ?_, ?_, fun j y hj hy z hz => ?_, fun j y hj hy => ?_, new, ?_⟩
  · rcases Nat.lt_or_ge i j with h | h
    · simp only [if_neg (show ¬ j ≤ i by omega)]; exact nd
    · simp only [if_pos h]; exact w1 j h
  · rcases Nat.lt_or_ge i j with h | h
    · simp only [if_neg (show ¬ j ≤ i by omega)]; exact le
    · simp only [if_pos h]; exact w2 j h
  · show (if 0 ≤ i then S 0 else L) = []
    rw [if_pos (Nat.zero_le i)]; exact w3
  · have hz : z ∈ (if j + 1 ≤ i then S (j + 1) else L) := hz
    show z = y ∨ z ∈ (if j ≤ i then S j else L)
    rcases Nat.lt_or_ge j i with h | h
    · rw [old _ (by omega)] at hz
      rw [old j (by omega)]
      exact w4 j y h hy z hz
    · have : j = i := by omega
      subst this
      rw [new] at hz
      rw [old j (Nat.le_refl _)]
      rw [hx] at hy
      obtain rfl := Option.some.inj hy
      rw [w6]
      exact hL z hz
  · rcases Nat.lt_or_ge j i with h | h
    · simp only [old (j + 1) (by omega)]
      exact w5 j y h hy
    · have : j = i := by omega
      subst this
      simp only [new]
      rw [hx] at hy
      obtain rfl := Option.some.inj hy
      exact hxL
  · rw [List.range_succ, List.filter_append, List.length_append, hm]
    congr 1
    · rw [← w7]
      congr 1
      refine List.filter_congr fun j hj => ?_
      rw [List.mem_range] at hj
      unfold lackAt
      simp only [old j (by omega)]
    · have hg : row.getD i 0 = x := by rw [List.getD_eq_getElem?_getD, hx]; rfl
      by_cases h : x ∈ K
      · rw [if_pos h, List.filter_cons_of_neg]
        · rfl
        · unfold lackAt
          simp only [old i (Nat.le_refl _)]
          rw [w6, hg]
          simpa using h
      · rw [if_neg h, List.filter_cons_of_pos]
        · rfl
        · unfold lackAt
          simp only [old i (Nat.le_refl _)]
          rw [w6, hg]
          simpa using h
theorem goes_ok {r : Nat} {row : List Int} {i : Nat} {K : List Int} {m : Nat} (g : Goes r row i K m) : K.Nodup ∧ K.length ≤ r ∧ ∃ S, WayTo r row i K m S := by
  induction g with
  | zero => exact ⟨List.nodup_nil, Nat.zero_le _, fun _ => [], fun _ _ => List.nodup_nil, fun _ _ => Nat.zero_le _, rfl, fun j _ h => by omega, fun j _ h => by omega, rfl, rfl⟩
  | hit g hx hxK ih =>
    obtain ⟨nd, le, S, w⟩ := ih
    exact ⟨nd, le, wayTo_more w hx nd le (fun y hy => .inr hy) hxK (by rw [if_pos hxK]; rfl)⟩
  | miss g hx hxK nd2 le2 hxL hL ih =>
    obtain ⟨nd, le, S, w⟩ := ih
    exact ⟨nd2, le2, wayTo_more w hx nd2 le2 hL hxL (by rw [if_neg hxK])⟩
theorem goes_best {r : Nat} (r0 : 0 < r) {row : List Int} {K : List Int} {m : Nat} (g : Goes r row row.length K m) : bestN r row ≤ m := by
  obtain ⟨_, _, S, w⟩ := goes_ok g
  have e : lackN row S = m := w.cnt
  rw [← e]
  refine best_least r0 ⟨fun i h => w.nd i h, fun i h => w.le i h, w.zero, fun i x hx => w.step i x (List.getElem?_eq_some_iff.mp hx).1 hx, fun i x hx => w.has i x (List.getElem?_eq_some_iff.mp hx).1 hx⟩
/-! what is known, by sets -/
abbrev Kn : Type := List (List Int × Int)
def look (kn : Kn) (k : List Int) : Option Int := (kn.find? fun e => decide (e.1 = k)).map (·.2)
def put (kn : Kn) (k : List Int) (v : Int) : Kn := if (look kn k).isSome then kn.map fun e => if e.1 = k then (e.1, v) else e else kn ++ [(k, v)]
def least (a b : Int) : Int := if b < a then b else a
def relax (kn : Kn) (k : List Int) (c : Int) : Kn := put kn k (least c ((look kn k).getD c))
def succs (r : Nat) (x : Int) (K : List Int) : List (List Int) := if x ∈ K then [K] else if K.length = r then K.map fun g => sorts (K.filter (fun y => decide (y ≠ g)) ++ [x]) else [sorts (K ++ [x])]
def costs (x : Int) (e : List Int × Int) : Int := e.2 + if x ∈ e.1 then 0 else 1
def fewE (r : Nat) (x : Int) (lt : Kn) (e : List Int × Int) : Kn := (succs r x e.1).foldl (fun lt o => relax lt o (costs x e)) lt
def fewS (r : Nat) (kn : Kn) (x : Int) : Kn := kn.foldl (fewE r x) []
def fewM (r : Nat) (row : List Int) : Kn := row.foldl (fewS r) [([], 0)]
theorem look_nil (k : List Int) : look [] k = none := rfl
theorem look_mem {kn : Kn} {k : List Int} {v : Int} (h : look kn k = some v) : (k, v) ∈ kn := by
  unfold look at h
  obtain ⟨e, he, rfl⟩ := Option.map_eq_some_iff.mp h
  have := List.find?_some he
  have hk : e.1 = k := of_decide_eq_true this
  rw [← hk]
  exact List.mem_of_find?_eq_some he
theorem look_some {kn : Kn} {e : List Int × Int} (h : e ∈ kn) : (look kn e.1).isSome = true := by
  unfold look
  rw [Option.isSome_map, List.find?_isSome]
  exact ⟨e, h, by simp⟩
theorem look_put {kn : Kn} {k : List Int} {v : Int} (k' : List Int) : look (put kn k v) k' = if k = k' then some v else look kn k' := by
  unfold put
  by_cases h : (look kn k).isSome = true
  · rw [if_pos h]
    have gen : ∀ l : Kn, look (l.map fun e => if e.1 = k then (e.1, v) else e) k' = if k = k' then (look l k).map fun _ => v else look l k' := by
      intro l
      induction l with
      | nil => by_cases e : k = k' <;> simp [look, e]
      | cons a l ih =>
        unfold look at ih ⊢
        rw [List.map_cons, List.find?_cons, List.find?_cons, List.find?_cons]
        by_cases ha : a.1 = k
        · by_cases e : k = k'
          · subst e
            simp [ha]
          · have h2 : ¬ a.1 = k' := fun z => e (ha.symm.trans z)
            rw [if_neg e] at ih ⊢
            simp only [ha, if_true, decide_eq_true_eq]
            rw [decide_eq_false (show ¬ k = k' from e)]
            exact ih
        · by_cases e : k = k'
          · subst e
            rw [if_pos rfl] at ih ⊢
            simp only [if_neg ha, decide_eq_false ha]
            exact ih
          · rw [if_neg e] at ih ⊢
            simp only [if_neg ha]
            cases decide (a.1 = k') with
            | true => rfl
            | false => exact ih
    rw [gen]
    by_cases e : k = k'
    · rw [if_pos e, if_pos e]
      cases hl : look kn k with
      | none => rw [hl] at h; cases h
      | some w => rfl
    · rw [if_neg e, if_neg e]
  · rw [if_neg h]
    unfold look at h ⊢
    rw [List.find?_append]
    by_cases e : k = k'
    · subst e
      rw [if_pos rfl]
      cases hf : kn.find? fun e => decide (e.1 = k) with
      | none => simp [hf]
      | some w => rw [hf] at h; exact absurd rfl h
    · rw [if_neg e]
      cases hf : kn.find? fun e => decide (e.1 = k') with
      | none => simp [e]
      | some w => rfl
theorem keys_put (kn : Kn) (k : List Int) (v : Int) : (put kn k v).map (·.1) = if (look kn k).isSome then kn.map (·.1) else kn.map (·.1) ++ [k] := by
  unfold put
  split
  · rw [List.map_map]
    refine List.map_congr_left fun e _ => ?_
    simp only [Function.comp]
    split <;> rfl
  · rw [List.map_append]; rfl
structure KnOk (r : Nat) (row : List Int) (i : Nat) (kn : Kn) : Prop where
  keys : (kn.map (·.1)).Nodup
  good : ∀ e ∈ kn, e.1.Pairwise (· < ·) ∧ (∀ y ∈ e.1, 0 ≤ y ∧ y < 12) ∧ ∃ m : Nat, e.2 = (m : Int) ∧ Goes r row i e.1 m
theorem look_of_mem {kn : Kn} (nd : (kn.map (·.1)).Nodup) {e : List Int × Int} (h : e ∈ kn) : look kn e.1 = some e.2 := by
  induction kn with
  | nil => cases h
  | cons a l ih =>
    rw [List.map_cons, List.nodup_cons] at nd
    unfold look
    rw [List.find?_cons]
    rcases List.mem_cons.mp h with h | h
    · subst h; simp
    · have : ¬ a.1 = e.1 := fun z => nd.1 (by rw [z]; exact List.mem_map.mpr ⟨e, h, rfl⟩)
      rw [decide_eq_false this]
      exact ih nd.2 h
theorem put_mem {kn : Kn} {k : List Int} {v : Int} {e : List Int × Int} (h : e ∈ put kn k v) : e = (k, v) ∨ e ∈ kn := by
  unfold put at h
  split at h
  · obtain ⟨a, ha, rfl⟩ := List.mem_map.mp h
    split
    · rename_i hk; exact .inl (by rw [hk])
    · exact .inr ha
  · rcases List.mem_append.mp h with h | h
    · exact .inr h
    · exact .inl (List.mem_singleton.mp h)
theorem put_keys_nodup {kn : Kn} (nd : (kn.map (·.1)).Nodup) (k : List Int) (v : Int) : ((put kn k v).map (·.1)).Nodup := by
  rw [keys_put]
  split
  · exact nd
  · rename_i h
    rw [List.nodup_append]
    refine ⟨nd, by simp, fun a ha b hb e => ?_⟩
    rw [List.mem_singleton.mp hb] at e
    obtain ⟨c, hc, rfl⟩ := List.mem_map.mp ha
    exact h (by rw [← e]; exact look_some hc)
theorem relax_ok {r : Nat} {row : List Int} {i : Nat} {kn : Kn} (ok : KnOk r row i kn) {k : List Int} {m : Nat} (h1 : k.Pairwise (· < ·)) (h2 : ∀ y ∈ k, 0 ≤ y ∧ y < 12) (g : Goes r row i k m) : KnOk r row i (relax kn k (m : Int)) := by
  refine ⟨put_keys_nodup ok.keys _ _, fun e he => ?_⟩
  rcases put_mem he with h | h
  · subst h
    refine ⟨h1, h2, ?_⟩
    unfold least
    split
    · cases hl : look kn k with
      | none => exact ⟨m, rfl, g⟩
      | some v => exact (ok.good _ (look_mem hl)).2.2
    · exact ⟨m, rfl, g⟩
  · exact ok.good e h
theorem relax_has (kn : Kn) (k : List Int) (c : Int) : ∃ v, look (relax kn k c) k = some v ∧ v ≤ c := by
  unfold relax
  rw [look_put, if_pos rfl]
  refine ⟨_, rfl, ?_⟩
  unfold least
  split <;> omega
theorem relax_keeps {kn : Kn} {k' : List Int} {v : Int} (h : look kn k' = some v) (k : List Int) (c : Int) : ∃ v', look (relax kn k c) k' = some v' ∧ v' ≤ v := by
  unfold relax
  rw [look_put]
  by_cases e : k = k'
  · subst e
    rw [if_pos rfl]
    refine ⟨_, rfl, ?_⟩
    rw [h]
    unfold least
    simp only [Option.getD_some]
    split <;> omega
  · rw [if_neg e]; exact ⟨v, h, Int.le_refl _⟩
theorem fold_keeps {k' : List Int} (c : Int) : ∀ (os : List (List Int)) (kn : Kn) (v : Int), look kn k' = some v → ∃ v', look (os.foldl (fun lt o => relax lt o c) kn) k' = some v' ∧ v' ≤ v
  | [], kn, v, h => ⟨v, h, Int.le_refl _⟩
  | o :: os, kn, v, h => by
    obtain ⟨v1, h1, l1⟩ := relax_keeps h o c
    obtain ⟨v2, h2, l2⟩ := fold_keeps c os _ v1 h1
    exact ⟨v2, h2, by omega⟩
theorem fold_has (c : Int) {o : List Int} : ∀ (os : List (List Int)) (kn : Kn), o ∈ os → ∃ v, look (os.foldl (fun lt o => relax lt o c) kn) o = some v ∧ v ≤ c
  | [], _, h => by cases h
  | a :: os, kn, h => by
    by_cases e : o = a
    · subst e
      obtain ⟨v1, h1, l1⟩ := relax_has kn o c
      obtain ⟨v2, h2, l2⟩ := fold_keeps c os _ v1 h1
      exact ⟨v2, h2, by omega⟩
    · exact fold_has c os _ ((List.mem_cons.mp h).resolve_left e)
theorem fewE_keeps {r : Nat} {x : Int} {k' : List Int} : ∀ (es : Kn) (lt : Kn) (v : Int), look lt k' = some v → ∃ v', look (es.foldl (fewE r x) lt) k' = some v' ∧ v' ≤ v
  | [], lt, v, h => ⟨v, h, Int.le_refl _⟩
  | e :: es, lt, v, h => by
    obtain ⟨v1, h1, l1⟩ := fold_keeps (costs x e) (succs r x e.1) lt v h
    obtain ⟨v2, h2, l2⟩ := fewE_keeps es _ v1 h1
    exact ⟨v2, h2, by omega⟩
theorem fewE_has {r : Nat} {x : Int} {e : List Int × Int} {o : List Int} : ∀ (es : Kn) (lt : Kn), e ∈ es → o ∈ succs r x e.1 → ∃ v, look (es.foldl (fewE r x) lt) o = some v ∧ v ≤ costs x e
  | [], _, h, _ => by cases h
  | a :: es, lt, h, ho => by
    by_cases q : e = a
    · subst q
      obtain ⟨v1, h1, l1⟩ := fold_has (costs x e) (succs r x e.1) lt ho
      obtain ⟨v2, h2, l2⟩ := fewE_keeps (r := r) (x := x) es _ v1 h1
      exact ⟨v2, h2, by omega⟩
    · exact fewE_has es _ ((List.mem_cons.mp h).resolve_left q) ho
theorem sorts_lt {l : List Int} (nd : l.Nodup) : (sorts l).Pairwise (· < ·) := by
  have h1 := sorts_sorted l
  have h2 : (sorts l).Nodup := (sorts_perm l).nodup_iff.mpr nd
  have : (sorts l).Pairwise fun a b => a ≤ b ∧ a ≠ b := h1.and h2
  exact this.imp fun h => by omega
theorem filter_ne {K : List Int} (nd : K.Nodup) (g : Int) : K.filter (fun y => decide (y ≠ g)) = K.erase g := (erase_filter nd).symm
theorem succs_good {r : Nat} (r0 : 0 < r) {row : List Int} {i : Nat} {x : Int} (hx : row[i]? = some x) (hx0 : 0 ≤ x ∧ x < 12) {K : List Int} {m : Nat} (h1 : K.Pairwise (· < ·)) (h2 : ∀ y ∈ K, 0 ≤ y ∧ y < 12) (g : Goes r row i K m) {o : List Int} (ho : o ∈ succs r x K) :
    o.Pairwise (· < ·) ∧ (∀ y ∈ o, 0 ≤ y ∧ y < 12) ∧ Goes r row (i + 1) o (m + if x ∈ K then 0 else 1) := by
  obtain ⟨nd, le, _⟩ := goes_ok g
  unfold succs at ho
  by_cases hm : x ∈ K
  · rw [if_pos hm] at ho ⊢
    rw [List.mem_singleton.mp ho]
    exact ⟨h1, h2, .hit g hx hm⟩
  · rw [if_neg hm] at ho ⊢
    by_cases hl : K.length = r
    · rw [if_pos hl] at ho
      obtain ⟨y, hy, rfl⟩ := List.mem_map.mp ho
      rw [filter_ne nd]
      have hmem : ∀ z, z ∈ sorts (K.erase y ++ [x]) ↔ z ∈ K.erase y ∨ z = x := fun z => by rw [mem_sorts]; simp
      have nd2 : (K.erase y ++ [x]).Nodup := by
        rw [List.nodup_append]
        refine ⟨nd.erase y, by simp, fun a ha b hb e => ?_⟩
        rw [List.mem_singleton.mp hb] at e
        subst e
        exact hm (List.mem_of_mem_erase ha)
      refine ⟨sorts_lt nd2, fun z hz => ?_, .miss g hx hm ((sorts_perm _).nodup_iff.mpr nd2) ?_ ((hmem x).mpr (.inr rfl)) fun z hz => ?_⟩
      · rcases (hmem z).mp hz with h | h
        · exact h2 z (List.mem_of_mem_erase h)
        · rw [h]; exact hx0
      · rw [sorts_len, List.length_append, List.length_erase_of_mem hy]
        simp
        omega
      · rcases (hmem z).mp hz with h | h
        · exact .inr (List.mem_of_mem_erase h)
        · exact .inl h
    · rw [if_neg hl] at ho
      rw [List.mem_singleton.mp ho]
      have hmem : ∀ z, z ∈ sorts (K ++ [x]) ↔ z ∈ K ∨ z = x := fun z => by rw [mem_sorts]; simp
      have nd2 : (K ++ [x]).Nodup := by
        rw [List.nodup_append]
        refine ⟨nd, by simp, fun a ha b hb e => ?_⟩
        rw [List.mem_singleton.mp hb] at e
        subst e
        exact hm ha
      refine ⟨sorts_lt nd2, fun z hz => ?_, .miss g hx hm ((sorts_perm _).nodup_iff.mpr nd2) ?_ ((hmem x).mpr (.inr rfl)) fun z hz => ?_⟩
      · rcases (hmem z).mp hz with h | h
        · exact h2 z h
        · rw [h]; exact hx0
      · rw [sorts_len, List.length_append]
        simp
        omega
      · rcases (hmem z).mp hz with h | h
        · exact .inr h
        · exact .inl h
theorem fold_ok {r : Nat} {row : List Int} {i m : Nat} : ∀ (os : List (List Int)) (lt : Kn), KnOk r row i lt → (∀ o ∈ os, o.Pairwise (· < ·) ∧ (∀ y ∈ o, 0 ≤ y ∧ y < 12) ∧ Goes r row i o m) → KnOk r row i (os.foldl (fun lt o => relax lt o (m : Int)) lt)
  | [], _, h, _ => h
  | o :: os, lt, h, hs => by
    obtain ⟨a, b, c⟩ := hs o (by simp)
    exact fold_ok os _ (relax_ok h a b c) fun o ho => hs o (List.mem_cons_of_mem _ ho)
theorem fewE_ok {r : Nat} (r0 : 0 < r) {row : List Int} {i : Nat} {x : Int} (hx : row[i]? = some x) (hx0 : 0 ≤ x ∧ x < 12) {lt : Kn} (h : KnOk r row (i + 1) lt) {e : List Int × Int} (he : e.1.Pairwise (· < ·) ∧ (∀ y ∈ e.1, 0 ≤ y ∧ y < 12) ∧ ∃ m : Nat, e.2 = (m : Int) ∧ Goes r row i e.1 m) (os : List (List Int)) (hos : ∀ o ∈ os, o ∈ succs r x e.1) :
    KnOk r row (i + 1) (os.foldl (fun lt o => relax lt o (costs x e)) lt) := by
  obtain ⟨h1, h2, m, hm, g⟩ := he
  have hc : costs x e = ((m + if x ∈ e.1 then 0 else 1 : Nat) : Int) := by
    unfold costs
    rw [hm]
    split <;> simp
  rw [hc]
  exact fold_ok _ lt h fun o ho => succs_good r0 hx hx0 h1 h2 g (hos o ho)
theorem fewS_ok {r : Nat} (r0 : 0 < r) {row : List Int} {i : Nat} {x : Int} (hx : row[i]? = some x) (hx0 : 0 ≤ x ∧ x < 12) : ∀ (es : Kn) (lt : Kn), KnOk r row (i + 1) lt → (∀ e ∈ es, e.1.Pairwise (· < ·) ∧ (∀ y ∈ e.1, 0 ≤ y ∧ y < 12) ∧ ∃ m : Nat, e.2 = (m : Int) ∧ Goes r row i e.1 m) → KnOk r row (i + 1) (es.foldl (fewE r x) lt)
  | [], _, h, _ => h
  | e :: es, lt, h, hs => fewS_ok r0 hx hx0 es _ (fewE_ok r0 hx hx0 h (hs e (by simp)) _ fun o ho => ho) fun e he => hs e (List.mem_cons_of_mem _ he)
theorem kn_nil (r : Nat) (row : List Int) (i : Nat) : KnOk r row i [] := ⟨List.nodup_nil, fun e h => by cases h⟩
theorem fewM_succ (r : Nat) {row : List Int} {i : Nat} {x : Int} (hx : row[i]? = some x) : fewM r (row.take (i + 1)) = fewS r (fewM r (row.take i)) x := by
  unfold fewM
  rw [take_snoc hx, List.foldl_append]
  rfl
theorem fewM_ok {r : Nat} (r0 : 0 < r) {row : List Int} (hp : ∀ x ∈ row, 0 ≤ x ∧ x < 12) : ∀ i, i ≤ row.length → KnOk r row i (fewM r (row.take i)) ∧ ∃ v, look (fewM r (row.take i)) (sorts (bestK r row i)) = some v ∧ v ≤ ((bst r row (row.take i)).lacks.length : Int)
  | 0, _ => by
    refine ⟨⟨by simp [fewM], fun e he => ?_⟩, 0, ?_, by simp [bst]⟩
    · have : e = ([], 0) := by simpa [fewM] using he
      subst this
      exact ⟨.nil, by simp, 0, rfl, .zero⟩
    · have : bestK r row 0 = [] := by simp [bestK, bst]
      have e : sorts (bestK r row 0) = [] := by
        rw [this]
        exact List.eq_nil_of_length_eq_zero (by rw [sorts_len]; rfl)
      rw [e]
      simp [fewM, look]
  | i + 1, hi => by
    obtain ⟨x, hx⟩ : ∃ x, row[i]? = some x := ⟨row[i], List.getElem?_eq_getElem (by omega)⟩
    have hx0 := hp x (List.mem_of_getElem? hx)
    obtain ⟨ok, v, hv, hl⟩ := fewM_ok r0 hp i (by omega)
    rw [fewM_succ r hx]
    refine ⟨fewS_ok r0 hx hx0 _ _ (kn_nil _ _ _) fun e he => ok.good e he, ?_⟩
    have hw := best_way r0 row
    have nd := hw.nd i (by omega)
    have hb : sorts (bestK r row (i + 1)) ∈ succs r x (sorts (bestK r row i)) := by
      have hs := bestK_succ r0 hx
      rw [hs]
      unfold succs
      by_cases h1 : x ∈ bestK r row i
      · rw [if_pos h1, if_pos (mem_sorts.mpr h1)]
        simp
      · rw [if_neg h1, if_neg (fun z => h1 (mem_sorts.mp z)), sorts_len]
        by_cases h2 : (bestK r row i).length = r
        · rw [if_pos h2, if_pos h2]
          have hne : bestK r row i ≠ [] := fun z => by rw [z] at h2; simp at h2; omega
          have hf := (far_spec (row.drop i) hne).1
          refine List.mem_map.mpr ⟨far (row.drop i) (bestK r row i), mem_sorts.mpr hf, ?_⟩
          refine sorted_uniq ?_ (sorts_sorted _) (sorts_sorted _)
          refine (sorts_perm _).trans (List.Perm.trans ?_ (sorts_perm _).symm)
          refine List.Perm.append_right _ ?_
          rw [filter_ne ((sorts_perm _).nodup_iff.mpr nd)]
          exact (sorts_perm _).erase _
        · rw [if_neg h2, if_neg h2]
          refine List.mem_singleton.mpr (sorted_uniq ?_ (sorts_sorted _) (sorts_sorted _))
          exact (sorts_perm _).trans (List.Perm.trans (List.Perm.append_right _ (sorts_perm _).symm) (sorts_perm _).symm)
    obtain ⟨v', hv', hl'⟩ := fewE_has (r := r) (x := x) _ [] (look_mem hv) hb
    refine ⟨v', hv', ?_⟩
    have e1 : (bst r row (row.take (i + 1))).lacks.length = (bst r row (row.take i)).lacks.length + if x ∈ bestK r row i then 0 else 1 := by
      rw [take_snoc hx, bst_snoc]
      unfold bestK bstep
      split
      · rfl
      · split <;> simp
    rw [e1]
    unfold costs at hl'
    simp only [mem_sorts] at hl'
    split at hl' <;> rename_i h
    · rw [if_pos h]; omega
    · rw [if_neg h]; omega
/-- the least of what is known behind the whole row -/
theorem few_best {r : Nat} (r0 : 0 < r) {row : List Int} (hp : ∀ x ∈ row, 0 ≤ x ∧ x < 12) : (∃ e ∈ fewM r row, e.2 = (bestN r row : Int)) ∧ ∀ e ∈ fewM r row, (bestN r row : Int) ≤ e.2 := by
  obtain ⟨ok, v, hv, hl⟩ := fewM_ok r0 hp row.length (Nat.le_refl _)
  rw [List.take_length] at ok hv hl
  have low : ∀ e ∈ fewM r row, (bestN r row : Int) ≤ e.2 := fun e he => by
    obtain ⟨_, _, m, hm, g⟩ := ok.good e he
    have := goes_best r0 g
    omega
  have hmem := look_mem hv
  have h1 := low _ hmem
  have h2 : v ≤ (bestN r row : Int) := hl
  exact ⟨⟨_, hmem, by simp only at h1 ⊢; omega⟩, low⟩
/-! how many sets there are -/
def subs : Nat → List (List Int)
  | 0 => [[]]
  | n + 1 => subs n ++ (subs n).map fun l => l ++ [(n : Int)]
theorem subs_len : ∀ n, (subs n).length = 2 ^ n
  | 0 => rfl
  | n + 1 => by
    unfold subs
    rw [List.length_append, List.length_map, subs_len n, Nat.pow_succ]
    omega
theorem subs_mem : ∀ (n : Nat) (l : List Int), l.Pairwise (· < ·) → (∀ y ∈ l, 0 ≤ y ∧ y < (n : Int)) → l ∈ subs n
  | 0, l, _, h => by
    cases l with
    | nil => simp [subs]
    | cons a l => have := h a (by simp); omega
  | n + 1, l, hp, h => by
    unfold subs
    by_cases hn : (n : Int) ∈ l
    · have hne : l ≠ [] := List.ne_nil_of_mem hn
      have e := List.dropLast_concat_getLast hne
      have hlast : l.getLast hne = (n : Int) := by
        have hm := h _ (List.getLast_mem hne)
        rw [← e] at hn
        rcases List.mem_append.mp hn with h1 | h1
        · rw [← e, List.pairwise_append] at hp
          have := hp.2.2 _ h1 (l.getLast hne) (by simp)
          omega
        · exact (List.mem_singleton.mp h1).symm
      refine List.mem_append_right _ (List.mem_map.mpr ⟨l.dropLast, subs_mem n _ (hp.sublist (List.dropLast_sublist l)) fun y hy => ?_, by rw [← hlast]; exact e⟩)
      have h1 := h y ((List.dropLast_sublist l).subset hy)
      rw [← e, List.pairwise_append] at hp
      have := hp.2.2 y hy (l.getLast hne) (by simp)
      omega
    · refine List.mem_append_left _ (subs_mem n l hp fun y hy => ?_)
      have h1 := h y hy
      have : y ≠ (n : Int) := fun e => hn (by rw [← e]; exact hy)
      omega
theorem kn_len {r : Nat} {row : List Int} {i : Nat} {kn : Kn} (ok : KnOk r row i kn) : kn.length ≤ 4096 := by
  have := nodup_len (m := subs 12) ok.keys fun k hk => by
    obtain ⟨e, he, rfl⟩ := List.mem_map.mp hk
    obtain ⟨h1, h2, _⟩ := ok.good e he
    exact subs_mem 12 _ h1 h2
  rw [List.length_map, subs_len] at this
  exact this
end Cw

namespace Cw
open PySem
/-! other numbers of the pages -/
abbrev Inj {α β : Type} (f : α → β) : Prop := ∀ x y, f x = f y → x = y
theorem inj_opt {f : Int → Int} (hf : Inj f) : Inj (Option.map f) := fun x y h => by
  cases x <;> cases y <;> simp at h
  · rfl
  · rw [hf _ _ h]
theorem mem_re {α β : Type} {f : α → β} (hf : Inj f) {l : List α} {x : α} : f x ∈ l.map f ↔ x ∈ l :=
  ⟨fun h => by obtain ⟨y, h1, h2⟩ := List.mem_map.mp h; rw [← hf _ _ h2]; exact h1, fun h => List.mem_map.mpr ⟨x, h, rfl⟩⟩
theorem idx_re {α β : Type} [BEq α] [LawfulBEq α] [BEq β] [LawfulBEq β] {f : α → β} (hf : Inj f) {x : α} : ∀ l : List α, (l.map f).idxOf (f x) = l.idxOf x
  | [] => rfl
  | y :: l => by
    rw [List.map_cons, List.idxOf_cons, List.idxOf_cons, idx_re hf l]
    have e : (f y == f x) = (y == x) := by
      by_cases h : y = x
      · rw [h, beq_self_eq_true, beq_self_eq_true]
      · rw [beq_false_of_ne h, beq_false_of_ne fun e => h (hf _ _ e)]
    rw [e]
theorem erase_re {f : Int → Int} (hf : Inj f) {x : Int} : ∀ l : List Int, (l.map f).erase (f x) = (l.erase x).map f
  | [] => rfl
  | y :: l => by
    by_cases h : y = x
    · subst h; simp
    · have : f y ≠ f x := fun e => h (hf _ _ e)
      rw [List.map_cons, List.erase_cons_tail (by simpa using this), List.erase_cons_tail (by simpa using h), List.map_cons, erase_re hf l]
theorem keepS_re {f : Int → Int} (hf : Inj f) (n : Nat) (u : Bool) (k : List Int) (x : Int) : keepS n u (k.map f) (f x) = (keepS n u k x).map f := by
  unfold keepS
  by_cases h : x ∈ k
  · rw [if_pos h, if_pos ((mem_re hf).mpr h), erase_re hf]
    cases u <;> simp
  · rw [if_neg h, if_neg (fun z => h ((mem_re hf).mp z)), List.length_map, List.map_append, List.map_drop]
    rfl
theorem keepAll_re {f : Int → Int} (hf : Inj f) (n : Nat) (u : Bool) : ∀ (k r : List Int), keepAll n u (k.map f) (r.map f) = keepAll n u k r
  | _, [] => rfl
  | k, x :: r => by
    have h : decide (f x ∉ k.map f) = decide (x ∉ k) := by
      by_cases h : x ∈ k
      · have h2 := (mem_re hf).mpr h
        have a1 : ¬ (x ∉ k) := fun z => z h
        have a2 : ¬ (f x ∉ k.map f) := fun z => z h2
        rw [decide_eq_false a1, decide_eq_false a2]
      · have h2 : f x ∉ k.map f := fun z => h ((mem_re hf).mp z)
        rw [decide_eq_true h, decide_eq_true h2]
    rw [List.map_cons, keepAll, keepAll, h, keepS_re hf, keepAll_re hf n u]
def Dl.re (f : Int → Int) (d : Dl) : Dl := ⟨d.here.map (Option.map f), d.seen, d.hand, d.lacks⟩
def Tl.re (f : Int → Int) (t : Tl) : Tl := ⟨t.lack, t.gone.map f, t.passed⟩
theorem ask_re {f : Int → Int} (hf : Inj f) (d : Dl) (x : Int) : (d.re f).ask (f x) = ((d.ask x).1.re f, (d.ask x).2.re f) := by
  have hm : some (f x) ∈ (d.re f).here ↔ some x ∈ d.here := mem_re (inj_opt hf) (x := some x)
  have hi : (d.re f).here.idxOf (some (f x)) = d.here.idxOf (some x) := idx_re (inj_opt hf) (x := some x) d.here
  have hs : (d.re f).spin = d.spin := by
    unfold Dl.spin Dl.re
    simp only [List.length_map]
  unfold Dl.ask
  by_cases h : some x ∈ d.here
  · rw [if_pos h, if_pos (hm.mpr h), hi]
    rfl
  · rw [if_neg h, if_neg (fun z => h (hm.mp z)), hs]
    have e1 : (d.re f).here.set d.spin.2.1 (some (f x)) = (d.here.set d.spin.2.1 (some x)).map (Option.map f) := by
      rw [List.map_set]; rfl
    have e2 : ((d.re f).here[d.spin.2.1]?).join = ((d.here[d.spin.2.1]?).join).map f := by
      show ((d.here.map (Option.map f))[d.spin.2.1]?).join = _
      rw [List.getElem?_map]
      cases d.here[d.spin.2.1]? with
      | none => rfl
      | some o => rfl
    have e3 : (d.re f).here.length = d.here.length := List.length_map _
    rw [e1, e2, e3]
    rfl
theorem askAll_re {f : Int → Int} (hf : Inj f) : ∀ (d : Dl) (r : List Int), askAll (d.re f) (r.map f) = (askAll d r).map (Tl.re f)
  | _, [] => rfl
  | d, x :: r => by
    rw [List.map_cons, askAll, askAll, ask_re hf, List.map_cons, askAll_re hf]
theorem new_re (f : Int → Int) (n : Nat) : (Dl.new n).re f = Dl.new n := by
  unfold Dl.re Dl.new
  simp
theorem told_re {f : Int → Int} (hf : Inj f) (n : Nat) (r : List Int) : askAll (Dl.new n) (r.map f) = (askAll (Dl.new n) r).map (Tl.re f) := by
  rw [← askAll_re hf, new_re]
theorem lackB_re {f : Int → Int} (hf : Inj f) (n : Nat) (z : Str) (r : List Int) : lackB n z (r.map f) = lackB n z r := by
  unfold lackB
  split
  · rw [told_re hf, List.map_map]
    rfl
  · exact keepAll_re hf n _ [] r
theorem lastAt_re {f : Int → Int} (hf : Inj f) (l : List Int) (x : Int) : lastAt (l.map f) (f x) = lastAt l x := by
  unfold lastAt
  rw [List.length_map]
  congr 1
  congr 1
  funext i
  rw [List.getElem?_map]
  cases h : l[i]? with
  | none => simp
  | some y =>
    by_cases e : y = x
    · subst e; simp
    · have : f y ≠ f x := fun q => e (hf _ _ q)
      simp [e, this]
theorem getD_re {f : Int → Int} {l : List Int} {e : Nat} (h : e < l.length) : (l.map f).getD e 0 = f (l.getD e 0) := by
  rw [List.getD_eq_getElem?_getD, List.getD_eq_getElem?_getD, List.getElem?_map, List.getElem?_eq_getElem h]
  rfl
theorem spells_re {f : Int → Int} (hf : Inj f) (l : List Int) : spellsM (l.map f) = spellsM l := by
  have h : ∀ i, i ≤ l.length → spellsTo (l.map f) i = spellsTo l i := by
    intro i
    induction i with
    | zero => intro _; rfl
    | succ i ih =>
      intro hi
      rw [spellsTo_succ, spellsTo_succ, ih (by omega)]
      congr 1
      unfold spellAt
      rw [getD_re (by omega), ← List.map_take, lastAt_re hf]
  unfold spellsM
  rw [List.length_map]
  exact h _ (Nat.le_refl _)
theorem shown_re {f : Int → Int} (hf : Inj f) (r : Int) (l ps : List Int) : shownM r (l.map f) ps = shownM r l ps := by
  unfold shownM
  rw [spells_re hf, List.length_map]
theorem best_re {f : Int → Int} (hf : Inj f) {r : Nat} (r0 : 0 < r) (l : List Int) : bestN r (l.map f) = bestN r l := by
  obtain ⟨p1, _, _, h1⟩ := strong r0 l
  obtain ⟨p2, _, _, h2⟩ := strong r0 (l.map f)
  have a1 := shown_le r0 (l.map f) p1
  have a2 := shown_le r0 l p2
  rw [shown_re hf] at a1 h2
  omega
theorem firsts_re {f : Int → Int} (hf : Inj f) : ∀ l : List Int, firsts (l.map f) = (firsts l).map f := by
  refine list_snoc_ind rfl ?_
  intro l x ih
  rw [List.map_append, List.map_cons, List.map_nil, firsts_snoc, firsts_snoc, ih]
  unfold add1
  by_cases h : x ∈ firsts l
  · rw [if_pos h, if_pos ((mem_re hf).mpr h)]
  · rw [if_neg h, if_neg (fun z => h ((mem_re hf).mp z)), List.map_append]
    rfl
theorem cst_re {f : Int → Int} (hf : Inj f) (n : Nat) : ∀ l : List Int, cst n (l.map f) = ⟨(cst n l).out, (cst n l).b, (cst n l).seg.map f, (cst n l).n⟩ := by
  refine list_snoc_ind rfl ?_
  intro l x ih
  rw [List.map_append, List.map_cons, List.map_nil, cst_snoc, cst_snoc, ih]
  generalize cst n l = s
  unfold cstep
  simp only [firsts_re hf, List.length_map, mem_re hf]
  split
  · rfl
  · simp
theorem parts_re {f : Int → Int} (hf : Inj f) (n : Nat) (l : List Int) : parts n (l.map f) = parts n l := by
  unfold parts
  rw [cst_re hf, List.length_map]
  cases l with
  | nil => rfl
  | cons x l => rw [if_neg (by simp), if_neg (by simp)]
/-! a room more by the rule that looks who wasn't asked for for longest -/
def Suf (n : Nat) (k' k : List Int) : Prop := k'.Nodup ∧ k.length ≤ n ∧ (k' = k ∨ ∃ a, k' = a :: k ∧ k.length = n)
theorem suf_step {n : Nat} (n0 : 0 < n) {k' k : List Int} (h : Suf n k' k) (x : Int) : (x ∈ k → x ∈ k') ∧ Suf n (keepS (n + 1) true k' x) (keepS n true k x) := by
  obtain ⟨nd, le, h⟩ := h
  have ok' : KOk (n + 1) k' := ⟨nd, by
    rcases h with h | ⟨a, h, h2⟩
    · rw [h]; omega
    · rw [h, List.length_cons]; omega⟩
  have ok : KOk n k := ⟨by
    rcases h with h | ⟨a, h, h2⟩
    · rw [h] at nd; exact nd
    · rw [h] at nd; exact (List.nodup_cons.mp nd).2, le⟩
  have o1 := ok'.step (Nat.succ_pos n) true x
  have o2 := ok.step n0 true x
  refine ⟨fun hx => ?_, o1.nd, o2.le, ?_⟩
  · rcases h with h | ⟨a, h, _⟩
    · rw [h]; exact hx
    · rw [h]; exact List.mem_cons_of_mem _ hx
  · rcases h with h | ⟨a, h, hl⟩
    · subst h
      unfold keepS
      by_cases hx : x ∈ k'
      · rw [if_pos hx, if_pos hx]; exact .inl rfl
      · rw [if_neg hx, if_neg hx, if_neg (by omega)]
        by_cases hl : k'.length = n
        · rw [if_pos hl]
          cases k' with
          | nil => simp at hl; omega
          | cons a r =>
            refine .inr ⟨a, by simp, ?_⟩
            simp at hl ⊢
            exact hl
        · rw [if_neg hl]; exact .inl rfl
    · subst h
      have ha : a ∉ k := (List.nodup_cons.mp nd).1
      unfold keepS
      by_cases hx : x ∈ k
      · rw [if_pos hx, if_pos (List.mem_cons_of_mem _ hx)]
        have hne : a ≠ x := fun e => ha (by rw [e]; exact hx)
        refine .inr ⟨a, ?_, ?_⟩
        · show (a :: k).erase x ++ [x] = _
          rw [List.erase_cons_tail (by simpa using hne)]
          rfl
        · show (k.erase x ++ [x]).length = n
          rw [List.length_append, List.length_erase_of_mem hx]
          simp
          omega
      · rw [if_neg hx, if_pos hl]
        obtain ⟨c, r, hk⟩ : ∃ c r, k = c :: r := by
          cases k with
          | nil => simp at hl; omega
          | cons c r => exact ⟨c, r, rfl⟩
        subst hk
        by_cases hxa : x = a
        · subst hxa
          rw [if_pos (by simp)]
          refine .inr ⟨c, ?_, ?_⟩
          · show (x :: c :: r).erase x ++ [x] = _
            rw [List.erase_cons_head]
            rfl
          · simp at hl ⊢
            exact hl
        · rw [if_neg (by simp at hx ⊢; exact ⟨hxa, hx⟩), if_pos (by simp at hl ⊢; exact hl)]
          refine .inr ⟨c, rfl, ?_⟩
          simp at hl ⊢
          exact hl
theorem unseen_more {n : Nat} (n0 : 0 < n) : ∀ (r k' k : List Int), Suf n k' k → ((keepAll (n + 1) true k' r).filter id).length ≤ ((keepAll n true k r).filter id).length
  | [], _, _, _ => Nat.le_refl _
  | x :: r, k', k, h => by
    obtain ⟨h1, h2⟩ := suf_step n0 h x
    have ih := unseen_more n0 r _ _ h2
    rw [keepAll, keepAll]
    by_cases hx : x ∈ k
    · have a1 : ¬ (x ∉ k) := fun z => z hx
      have a2 : ¬ (x ∉ k') := fun z => z (h1 hx)
      rw [decide_eq_false a1, decide_eq_false a2]
      exact ih
    · rw [decide_eq_true hx]
      show _ ≤ (true :: (keepAll n true (keepS n true k x) r).filter id).length
      rw [List.length_cons]
      cases decide (x ∉ k') with
      | true =>
        show (true :: (keepAll (n + 1) true (keepS (n + 1) true k' x) r).filter id).length ≤ _
        rw [List.length_cons]
        omega
      | false =>
        show ((keepAll (n + 1) true (keepS (n + 1) true k' x) r).filter id).length ≤ _
        omega
theorem unseen_room {n : Nat} (n0 : 0 < n) (row : List Int) : (places (lackB (n + 1) (Str.ofString "unseen") row)).length ≤ (places (lackB n (Str.ofString "unseen") row)).length := by
  unfold places
  rw [placesFrom_cnt, placesFrom_cnt]
  have hne : ¬ (Str.ofString "unseen") = Str.ofString "hand" := by decide +kernel
  unfold lackB
  rw [if_neg hne, if_neg hne, decide_eq_true rfl]
  exact unseen_more n0 row [] [] ⟨List.nodup_nil, Nat.zero_le _, .inl rfl⟩
end Cw

namespace Cw
open PySem L2
/-! what a dial tells: tuples and lists new beside H -/
def TlAt (H H' : Hp) (xs : List V) (ts : List Tl) : Prop := xs.length = ts.length ∧ ∀ (i : Nat) (tl : Tl), ts[i]? = some tl → ∃ t q, xs[i]? = some (.ref t) ∧ H t = none ∧ H q = none ∧ H' t = some (.tup (toldV tl q)) ∧ H' q = some (.lst (natsV tl.passed))
theorem TlAt.nil {H H' : Hp} : TlAt H H' [] [] := ⟨rfl, fun i e h => by simp at h⟩
theorem TlAt.snoc {H H' : Hp} {xs : List V} {ts : List Tl} {t q : Addr} {tl : Tl} (h : TlAt H H' xs ts) (ht : H t = none) (hq : H q = none) (h1 : H' t = some (.tup (toldV tl q))) (h2 : H' q = some (.lst (natsV tl.passed))) : TlAt H H' (xs ++ [.ref t]) (ts ++ [tl]) := ⟨by simp [h.1], fun i e he => by
  rcases Nat.lt_or_ge i ts.length with l | l
  · rw [List.getElem?_append_left l] at he
    rw [List.getElem?_append_left (by rw [h.1]; exact l)]
    exact h.2 i e he
  · rw [List.getElem?_append_right l] at he
    have hi : i - ts.length = 0 := by
      have := (List.getElem?_eq_some_iff.mp he).1
      simp at this
      omega
    rw [hi] at he
    have he' : tl = e := Option.some.inj he
    subst he'
    exact ⟨t, q, by rw [List.getElem?_append_right (by rw [h.1]; exact l), h.1, hi]; rfl, ht, hq, h1, h2⟩⟩
theorem TlAt.step {H H' H2 : Hp} {xs : List V} {ts : List Tl} {W : List Addr} (h : TlAt H H' xs ts) (hw : ∀ w ∈ W, H w ≠ none) (f : Fr W H' H2) : TlAt H H2 xs ts := ⟨h.1, fun i e he => by
  obtain ⟨t, q, h1, h2, h3, h4, h5⟩ := h.2 i e he
  exact ⟨t, q, h1, h2, h3, f.get h4 (fun m => hw t m h2), f.get h5 (fun m => hw q m h3)⟩⟩
theorem TlAt.base {H0 H H' : Hp} {xs : List V} {ts : List Tl} {W : List Addr} (h : TlAt H H' xs ts) (f : Fr W H0 H) : TlAt H0 H' xs ts := ⟨h.1, fun i e he => by
  obtain ⟨t, q, h1, h2, h3, h4⟩ := h.2 i e he
  exact ⟨t, q, h1, f.2 t h2, f.2 q h3, h4⟩⟩
theorem TlAt.nwa {K : PySem.W.Frag} {H H' : Hp} : ∀ {xs : List V} {ts : List Tl}, TlAt H H' xs ts → NwA K H H' xs (ts.map tlD)
  | [], [], _ => .nil
  | [], _ :: _, h => by have := h.1; simp at this
  | _ :: _, [], h => by have := h.1; simp at this
  | x :: xs, e :: ts, h => by
    obtain ⟨t, q, h1, h2, h3, h4, h5⟩ := h.2 0 e rfl
    have hx : x = .ref t := Option.some.inj h1
    subst hx
    exact .cons (nw_tl e h2 h3 h4 h5) (TlAt.nwa ⟨by have := h.1; simpa using this, fun i e' he => h.2 (i + 1) e' he⟩)
end Cw

namespace Cw
open PySem L2
/-! the same data compared -/
section
variable {K : PySem.W.Frag} {H : Hp}
theorem dp_same : ∀ (d : PyData) (v : V), Dp K H v d → PyData.eqv d d = true := fun d v h =>
  Dp.rec (motive_1 := fun v d _ => PyData.eqv d d = true) (motive_2 := fun vs ds _ => PyData.eqvAll ds ds = true)
    (by simp [PyData.eqv]) (fun b => by simp [PyData.eqv]) (fun i => by simp [PyData.eqv]) (fun x => by simp [PyData.eqv])
    (fun _ _ ih => by simp only [PyData.eqv]; exact ih) (fun _ _ ih => by simp only [PyData.eqv]; exact ih)
    (by simp [PyData.eqvAll]) (fun _ _ a b => by simp [PyData.eqvAll, a, b]) h
theorem fits_depth : ∀ (k : Nat) (d : PyData), fits k d → d.depth ≤ k := by
  intro k
  induction k with
  | zero =>
    intro d h
    cases d <;> simp [fits] at h <;> simp [PyData.depth]
  | succ k ih =>
    intro d h
    have all : ∀ ds : List PyData, (∀ x ∈ ds, fits k x) → PyData.depthAll ds ≤ k := by
      intro ds
      induction ds with
      | nil => intro _; simp [PyData.depthAll]
      | cons x ds ih2 =>
        intro h
        have h1 := ih x (h x (by simp))
        have h2 := ih2 fun y hy => h y (List.mem_cons_of_mem _ hy)
        simp [PyData.depthAll]
        omega
    cases d with
    | list ds => have := all ds h.2; simp [PyData.depth]; omega
    | tuple ds => have := all ds h.2; simp [PyData.depth]; omega
    | dict kvs => exact h.elim
    | _ => simp [PyData.depth]
theorem dp_shaped {d : PyData} {k : Nat} (hc : d.canLay0 = true) (hf : fits k d) (hk : k ≤ 60) : SeqAt.shaped d = true := by
  have h2 := fits_depth k d hf
  unfold SeqAt.shaped
  rw [hc, Bool.true_and]
  exact decide_eq_true (by omega)
theorem w_eqSame {x y : V} {Q : VK} (d : PyData) {k : Nat} (h1 : Dp K H x d) (h2 : Dp K H y d) (hc : d.canLay0 = true) (hf : fits k d) (hk : k ≤ 60) (q : Q (.bl true) H) : rEqD K x y H Q :=
  ⟨d, d, h1, h2, dp_shaped hc hf hk, dp_shaped hc hf hk, by rw [dp_same d x h1]; exact q⟩
theorem w_neSame {x y : V} {Q : VK} (d : PyData) {k : Nat} (h1 : Dp K H x d) (h2 : Dp K H y d) (hc : d.canLay0 = true) (hf : fits k d) (hk : k ≤ 60) (q : Q (.bl false) H) : rNeD K x y H Q :=
  ⟨d, d, h1, h2, dp_shaped hc hf hk, dp_shaped hc hf hk, by rw [dp_same d x h1]; exact q⟩
end
theorem lay_nats : ∀ l : List Nat, PyData.canLayAll0 (natsD l) = true
  | [] => rfl
  | n :: r => by
    have := lay_nats r
    unfold natsD at this ⊢
    simp [PyData.canLayAll0, PyData.canLay0, this]
theorem lay_tls : ∀ ts : List Tl, PyData.canLayAll0 (ts.map tlD) = true
  | [] => rfl
  | t :: r => by
    have h1 := lay_tls r
    have h2 := lay_nats t.passed
    cases hg : t.gone <;> simp [PyData.canLayAll0, tlD, PyData.canLay0, oD, hg, h1, h2]
theorem fits_tls {ts : List Tl} (h : ts.length ≤ 100000) (hp : ∀ t ∈ ts, t.passed.length ≤ 100000) {k : Nat} : fits (k + 3) (.list (ts.map tlD)) := by
  refine ⟨by rw [List.length_map]; exact h, fun d hd => ?_⟩
  obtain ⟨t, ht, rfl⟩ := List.mem_map.mp hd
  refine ⟨by show 3 ≤ 100000; decide, fun e he => ?_⟩
  simp only [List.mem_cons, List.not_mem_nil, or_false] at he
  rcases he with rfl | rfl | rfl
  · trivial
  · cases t.gone <;> trivial
  · refine ⟨by unfold natsD; rw [List.length_map]; exact hp t ht, fun e he => ?_⟩
    unfold natsD at he
    obtain ⟨i, _, rfl⟩ := List.mem_map.mp he
    cases k <;> trivial
theorem spin_len (n : Nat) : ∀ (k : Nat) (s : List Bool) (h : Nat), (spin n k s h).2.2.length ≤ k
  | 0, _, _ => Nat.le_refl _
  | k + 1, s, h => by
    unfold spin
    split
    · have := spin_len n k (s.set h false) ((h + 1) % n)
      simp
      omega
    · exact Nat.zero_le _
theorem ask_passed {d : Dl} {n : Nat} (w : d.Wf n) (x : Int) : (d.ask x).2.passed.length ≤ 8 := by
  unfold Dl.ask
  split
  · exact Nat.zero_le _
  · show d.spin.2.2.length ≤ 8
    unfold Dl.spin
    have h1 := spin_len d.here.length (d.seen.count true) d.seen d.hand
    have h2 := List.count_le_length (a := true) (l := d.seen)
    have := w.sl
    have := w.n8
    omega
theorem askAll_passed {n : Nat} : ∀ (r : List Int) (d : Dl), d.Wf n → ∀ t ∈ askAll d r, t.passed.length ≤ 8
  | [], _, _, t, h => by cases h
  | x :: r, d, w, t, h => by
    rcases List.mem_cons.mp h with h | h
    · rw [h]; exact ask_passed w x
    · exact askAll_passed r _ (w.ask x) t h
/-! new numbers, drawn one by one -/
def base12 : List Int := (List.range 12).map fun i : Nat => (0 : Int) + (i : Int)
theorem rg12 : rgV 0 12 = base12.map V.int := by unfold rgV base12; rw [List.map_map]; rfl
def nmF (ns : List Int) (x : Int) : Int := if 0 ≤ x ∧ x < 12 then ns.getD x.toNat 0 else x
theorem base12_mem {x : Int} : x ∈ base12 ↔ 0 ≤ x ∧ x < 12 := by
  unfold base12
  rw [List.mem_map]
  constructor
  · rintro ⟨i, hi, rfl⟩
    rw [List.mem_range] at hi
    omega
  · rintro ⟨h1, h2⟩
    exact ⟨x.toNat, List.mem_range.mpr (by omega), by omega⟩
theorem base12_nodup : base12.Nodup := by decide
theorem nm_in {ns : List Int} (h : ns.Perm base12) {x : Int} (h0 : 0 ≤ x) (h1 : x < 12) : 0 ≤ nmF ns x ∧ nmF ns x < 12 := by
  have hl : ns.length = 12 := by rw [h.length_eq]; rfl
  unfold nmF
  rw [if_pos ⟨h0, h1⟩, List.getD_eq_getElem?_getD, List.getElem?_eq_getElem (by omega)]
  exact base12_mem.mp (h.mem_iff.mp (List.getElem_mem _))
theorem nm_inj {ns : List Int} (h : ns.Perm base12) : Inj (nmF ns) := by
  have hl : ns.length = 12 := by rw [h.length_eq]; rfl
  have nd : ns.Nodup := h.nodup_iff.mpr base12_nodup
  intro x y e
  by_cases hx : 0 ≤ x ∧ x < 12 <;> by_cases hy : 0 ≤ y ∧ y < 12
  · unfold nmF at e
    rw [if_pos hx, if_pos hy, List.getD_eq_getElem?_getD, List.getD_eq_getElem?_getD, List.getElem?_eq_getElem (by omega), List.getElem?_eq_getElem (by omega)] at e
    have := (List.getElem_inj nd).mp e
    omega
  · have h1 := nm_in h hx.1 hx.2
    rw [e] at h1
    unfold nmF at h1
    rw [if_neg hy] at h1
    exact absurd h1 hy
  · have h1 := nm_in h hy.1 hy.2
    rw [← e] at h1
    unfold nmF at h1
    rw [if_neg hx] at h1
    exact absurd h1 hx
  · unfold nmF at e
    rw [if_neg hx, if_neg hy] at e
    exact e
theorem nm_at {ns : List Int} (h : ns.Perm base12) {x : Int} (h0 : 0 ≤ x) (h1 : x < 12) : atI (ns.map V.int) x = some (.int (nmF ns x)) := by
  have hl : ns.length = 12 := by rw [h.length_eq]; rfl
  obtain ⟨k, rfl⟩ : ∃ k : Nat, x = (k : Int) := ⟨x.toNat, by omega⟩
  refine atI_nat ?_
  unfold nmF
  rw [if_pos ⟨h0, h1⟩, Int.toNat_natCast, List.getElem?_map, List.getD_eq_getElem?_getD, List.getElem?_eq_getElem (by omega)]
  rfl
theorem erase_map {f : Int → V} (ns : List Int) (k : Nat) : (ns.map f).eraseIdx k = (ns.eraseIdx k).map f := by
  rw [List.eraseIdx_eq_take_drop_succ, List.eraseIdx_eq_take_drop_succ, List.map_append, List.map_take, List.map_drop]
/-- l.pop(r) -/
theorem w_popI {H : Hp} {Q : VK} {l : Addr} {ns : List Int} {r : Int} (h : H l = some (.lst (ns.map V.int))) (h0 : 0 ≤ r) (h1 : r < ns.length) (hz : ns.length < 1000000)
    (q : ∀ y, ns[r.toNat]? = some y → Q (.int y) (upd H l (.lst ((ns.eraseIdx r.toNat).map V.int)))) : rPopAt (.ref l) [.int r] H Q := by
  obtain ⟨k, rfl⟩ : ∃ k : Nat, r = (k : Int) := ⟨r.toNat, by omega⟩
  have hk : k < ns.length := by omega
  refine ⟨l, ns.map V.int, (k : Int), k, .int ns[k], rfl, rfl, h, by omega, by omega, ?_, ?_, ?_⟩
  · unfold seqIndex?
    rw [List.length_map]
    simp
    omega
  · rw [List.getElem?_map, List.getElem?_eq_getElem hk]; rfl
  · rw [erase_map]
    exact q _ (List.getElem?_eq_getElem hk)
theorem perm_pop {ns lf : List Int} {k : Nat} {y : Int} (hk : lf[k]? = some y) {b : List Int} (h : (ns ++ lf).Perm b) : ((ns ++ [y]) ++ lf.eraseIdx k).Perm b := by
  obtain ⟨hl, rfl⟩ := List.getElem?_eq_some_iff.mp hk
  rw [List.append_assoc]
  refine (List.Perm.append_left ns ?_).trans h
  have e : lf = lf.take k ++ lf[k] :: lf.drop (k + 1) := by rw [← List.drop_eq_getElem_cons hl, List.take_append_drop]
  refine List.Perm.trans ?_ (List.Perm.of_eq e.symm)
  rw [List.eraseIdx_eq_take_drop_succ]
  show (lf[k] :: (lf.take k ++ lf.drop (k + 1))).Perm _
  exact List.perm_middle.symm
end Cw

namespace Cw
open PySem L2
/-! sorted(t) of a tuple of whole numbers; a display with one tuple for a key -/
section
open PySem.Spec PyProof.Rows
variable {P : Program} {w : World} {A : Around} {E : Value → Shared → Prop} {s : Shared}
theorem gather_tup {t : Addr} {us : List Value} {Q : List Value → Shared → Prop} (ht : s.heap.IsTuple t us.toArray) (hz : us.length ≤ sizeLine)
    (q : ∀ h', (∀ b o, s.heap.get? b = some o → h'.get? b = some o) → s.heap.objs.size ≤ h'.objs.size → Q us { s with heap := h' }) : wpAny (model P w) A (collect (.ref t)) Q E s := by
  obtain ⟨to, hto, hcls, tn, hdat⟩ := id ht
  have at2 : (s.heap.push (seqObj "list" #[] 0)).get? t = some to := Heap.get?_push_of_some _ hto
  unfold collect
  refine wpAny_bind (wpAny_runValue (codeAny_builtin PyProof.Rows.entry_proto_collect' ?_))
  show wpAny _ _ (do again (.builtin "list.__iadd__" ⟨[← newList [], .ref t], []⟩)) _ _ s
  refine wpAny_bind (wpAny_newList (wpAny_pure ⟨Code.quiet_builtin _ (by decide +kernel), codeAny_builtin PyProof.Rows.entry_list_iadd' ?_⟩))
  show wpAny _ _ (Builtin.List.listExtendWith (.ref s.heap.objs.size) (.ref t) (.ref s.heap.objs.size)) _ _ { s with heap := s.heap.push (seqObj "list" #[] 0) }
  unfold Builtin.List.listExtendWith
  refine wpAny_bind (wpAny_typeOf (T := "tuple") ⟨to, at2, hcls⟩ ?_)
  have tt : (Value.type "tuple" == Value.type "tuple") = true := by rfl
  rw [if_pos (by rw [tt]; simp)]
  refine wpAny_bind (listItems_at at2 hdat (wpAny_bind (listItems_at (xs := #[]) (n := 0) (Heap.get?_push_size _ rfl) rfl ?_)))
  rw [if_neg (by simp)]
  have hsize : (#[] ++ us.toArray).size ≤ sizeLine + 1 := by
    rw [Array.size_append, List.size_toArray]
    simp
    omega
  refine wpAny_bind (listUpdate_at (xs := #[]) (n := 0) (Heap.get?_push_size _ rfl) rfl (wpAny_pure ?_) (Nat.zero_le _) hsize)
  show wpAny (model P w) A (do
      let o ← load s.heap.objs.size
      match o.data with
      | .seq xs _ => pure xs.toList
      | _ => unsupported "internal:collect") Q E { s with heap := (s.heap.push (seqObj "list" #[] 0)).update s.heap.objs.size (Obj.mapSeq (· ++ us.toArray)) }
  refine wpAny_bind (wpAny_load (get?_update_seq (Heap.get?_push_size _ rfl) _) ?_)
  have e : ((#[] : Array Value) ++ us.toArray).toList = us := by simp
  show wpAny _ _ (pure ((#[] : Array Value) ++ us.toArray).toList) Q E _
  rw [e]
  refine wpAny_pure (q _ (fun b o hb => ?_) ?_)
  · have hlt := Heap.lt_size hb
    rw [Heap.get?_update_ne _ _ _ _ (Nat.ne_of_lt hlt)]
    exact Heap.get?_push_of_some _ hb
  · rw [Heap.size_update, size_push']
    omega
theorem sorted_tupAny {a : Addr} {us : List Value} {ns : List Int} {Q : Value → Shared → Prop} (ht : s.heap.IsTuple a us.toArray) (hI : IntsAre us ns) (hz : us.length ≤ sizeLine)
    (q : ∀ h' p (out : Array Value) (c : Nat) (ms : List Int), (∀ b o, s.heap.get? b = some o → h'.get? b = some o) → s.heap.objs.size ≤ p → h'.get? p = some (seqObj "list" out c) → IntsAre out.toList ms → ms.Perm ns → ms.Pairwise (· ≤ ·) → Q (.ref p) { s with heap := h' }) :
    wpAny (model P w) A (call (.builtin "sorted") [.ref a]) Q E s := by
  refine Calls.call_function_entry PyProof.Rows.kind_sorted plain_sorted PyProof.Rows.entry_sorted (PyProof.Rows.args_sorted1 _) ?_
  unfold Builtin.«sorted»
  refine wpAny_bind (m := checkCount "sorted" 1 1 _) (wpAny_pure (wpAny_bind (gather_tup (A := A.in1) ht hz fun h1 k1 z1 => wpAny_bind (wpAny_newList ?_ hz))))
  have lo : (h1.push (seqObj "list" us.toArray 0)).get? h1.objs.size = some (seqObj "list" us.toArray 0) := Heap.get?_push_size _ rfl
  refine wpAny_bind (wpAny_holding (wpAny_call_entry slot_list_sort ⟨_, lo, rfl⟩ PyProof.Rows.entry_list_sort (list_sort_treeAny lo hI hz fun out ms a1 a2 a3 => ⟨_, rfl, ?_⟩) (PyProof.Rows.args_list_sort _)))
  obtain ⟨c, hc⟩ := sortedHeap_at (vs := us) (out := out) lo
  refine wpAny_pure ⟨_, rfl, q _ h1.objs.size out c ms (fun b u e => ?_) z1 hc a1 a2 a3⟩
  have e2 := k1 b u e
  have hlt := Heap.lt_size e2
  show (sortedHeap (h1.push (seqObj "list" us.toArray 0)) h1.objs.size us out).get? b = some u
  rw [sortedHeap_old (Nat.ne_of_lt hlt) (by rw [size_push']; exact Nat.lt_succ_of_lt hlt)]
  exact Heap.get?_push_of_some _ e2
variable {X : Cx}
def rSortTI (K : PySem.W.Frag) : List V → Hp → VK → Prop := fun vs H Q => ∃ (a : Addr) (ns : List Int), vs = [V.ref a] ∧ SqT K H a (ns.map V.int) ∧ ns.length ≤ 100000 ∧
  ∀ (ms : List Int) (p : Addr), ms.Perm ns → ms.Pairwise (· ≤ ·) → H p = none → Q (.ref p) (upd H p (.lst (ms.map V.int)))
theorem cr_sortTI : CallR X (.builtin "sorted") (rSortTI X.K) := by
  intro pins s σ H vs us Q I r h
  obtain ⟨a, ns, rfl, hs, hz, q⟩ := h
  obtain ⟨its, rv, ht, _⟩ := I.tuple hs
  rw [Vals.ref1 r]
  have hI : IntsAre its ns := by simpa using RZ.intsAre_vals rv
  have hl : its.length = ns.length := IntsAre.length hI
  refine sorted_tupAny ht hI (by rw [hl]; exact sz_le hz) fun h' p out c ms k hp hg hi hpm hs => ?_
  have hlen : (ms.map V.int).length ≤ sizeLine := by rw [List.length_map, hpm.length_eq]; exact sz_le hz
  have hn : H p = none := I.hok.fresh hp
  exact ⟨.ref p, upd H p (.lst (ms.map V.int)), I.laid (t' := s.toks) k hp ⟨hlen, out.toList, c, vals_of_ints hi, hg⟩, rfl, q ms p hpm hs hn⟩
def tDisp1T (tk tv : TE) : TE := fun σ H Q => ∀ p, H p = none → tk σ (upd H p (.dT [])) fun x H1 => tv σ H1 fun y H2 => ∃ (b : Addr) (k : List Key), x = .ref b ∧ H2 b = some (.tup (k.map kV)) ∧ H2 p = some (.dT []) ∧ Q (.ref p) (upd H2 p (.dT [(k, y)]))
theorem pe_disp1T {k v : Expr} {tk tv : TE} {pos : Pos} (hu : X.A.units + 1 < cLine) (hk : PE X k tk) (hv : PE X v tv) : PE X (.Dict [some k] [v] pos) (tDisp1T tk tv) := by
  refine ⟨fun pins s σ H Q I q => ?_⟩
  have hn := I.hok.fresh (Nat.le_refl s.heap.objs.size)
  have I1 := I.laid (a := s.heap.objs.size) (o := .dT []) (h' := s.heap.push { cls := .type "dict", data := .dict #[] }) (t' := s.toks) (fun _ _ z => Heap.get?_push_of_some _ z) (Nat.le_refl _) (dt_empty s.heap I.big)
  refine wpAny_Dict_any rfl rfl (by simp) (by show 1 ≤ 15; decide) (pairTrees_cons_walk (thn (hk.run pins _ σ _ _ I1 (q _ hn)) fun u s1 ⟨x, H1, I2, rx, q1⟩ => thn (hv.run pins s1 σ H1 _ I2 q1) fun z s2 ⟨y, H2, I3, ry, b, ks, ex, eb, ed, q2⟩ => pairTrees_nil_walk ?_))
  subst ex
  obtain rfl : u = Value.ref b := rx
  obtain ⟨z0, hd, xs0, r0, dd⟩ := dt_of I3.hok ed
  cases r0
  have hroom : (tupleKind (mixKind X.prog X.w)).room X.A := by show X.A.units < cLine; omega
  refine wpAny_storeAllH hroom [(Value.ref b, z)] [(ks, b, z)] [] s2 _ ⟨rfl, rfl, key_of I3.hok eb, trivial⟩ dd (by rw [sizeLine_eq]; show 1 ≤ 16777216; decide) fun h' tk2 dd' hs => ?_
  obtain ⟨o, es, ep, ho, h2, h3, h4, _, h5⟩ := dd'
  refine ⟨.ref s.heap.objs.size, upd H2 s.heap.objs.size (.dT [(ks, y)]), d_write I3 (by rw [ed]; exact True.intro) hs ⟨o, ho⟩ ⟨by rw [sizeLine_eq]; show 1 ≤ 16777216; decide, hd, _, .cons ⟨rfl, ?_, ry⟩ .nil, o, es, ep, ho, h2, h3, h4, h5⟩, rfl, q2⟩
  show upd H2 s.heap.objs.size (.dT [(ks, y)]) b = _
  rw [upd_ne (ne_of eb ed (fun z => nomatch z))]
  exact eb
end
end Cw
namespace Cw
open PySem L2
theorem kSortTI {X : Cx} (K : PySem.W.Frag) (h : X.K = K) : CallR X (.builtin "sorted") (rSortTI K) := h ▸ cr_sortTI
def rTupOf (K : PySem.W.Frag) : List V → Hp → VK → Prop := fun xs H Q => ∃ p ys, xs = [.ref p] ∧ ((SqL K H p ys ∧ ∀ l, H l = none → Q (.ref l) (upd H l (.tup ys))) ∨ (SqT K H p ys ∧ Q (.ref p) H))
theorem kTupOf {X : Cx} (K : PySem.W.Frag) (h : X.K = K) : CallR X (.type "tuple") (rTupOf K) := h ▸ call_tuple_of
theorem kCatA {X : Cx} (K : PySem.W.Frag) (h : X.K = K) : OpR X (binaryOp .Add) (rCatA K) := h ▸ op_catA
theorem kMinI {X : Cx} (K : PySem.W.Frag) (h : X.K = K) (hc : X.calm = true) : CallR X (.builtin "min") (rMin K) := h ▸ cr_min hc
section
variable {K : PySem.W.Frag} {H : Hp} {Q : VK} {σ : L2.St}
theorem w_sortTI {a : Addr} {ns : List Int} (h : SqT K H a (ns.map V.int)) (hl : ns.length ≤ 100000) (q : ∀ p, H p = none → Q (.ref p) (upd H p (.lst ((sorts ns).map V.int)))) : rSortTI K [.ref a] H Q :=
  ⟨a, ns, rfl, h, hl, fun ms p h1 h2 hp => by
    rw [sorted_uniq (h1.trans (sorts_perm ns).symm) h2 (sorts_sorted ns)]
    exact q p hp⟩
theorem w_tupOf {a : Addr} {xs : List V} (h : SqL K H a xs) (q : ∀ p, H p = none → Q (.ref p) (upd H p (.tup xs))) : rTupOf K [.ref a] H Q := ⟨a, xs, rfl, .inl ⟨h, q⟩⟩
theorem w_catA {a b : Addr} {xs ys : List V} (h1 : SqT K H a xs) (h2 : SqT K H b ys) (hy : ys ≠ []) (hz : xs.length + ys.length ≤ 100000) (q : ∀ p H', Fr [] H H' → SqT K H' p (xs ++ ys) → Q (.ref p) H') : rCatA K (.ref a) (.ref b) H Q :=
  ⟨a, b, xs, ys, rfl, rfl, h1, h2, sz_le hz, fun e => q b H .refl (by rw [e]; exact h2), fun _ e => absurd e hy, fun _ _ p hp => q p _ (Fr.new hp) (SqT.of upd_same)⟩
theorem w_minI {a : Addr} {ns : List Int} {m : Int} (h : SqL K H a (ns.map V.int)) (hm : m ∈ ns) (hl : ∀ y ∈ ns, m ≤ y) (q : Q (.int m) H) : rMin K [.ref a] H Q :=
  ⟨a, ns, rfl, h, List.length_pos_of_mem hm, fun m' h1 h2 => by
    have e : m' = m := by
      have a1 := h2 m hm
      have a2 := hl m' h1
      omega
    rw [e]
    exact q⟩
theorem w_niT {p : Addr} {ns : List Int} {x : Int} (h : SqT K H p (ns.map V.int)) (q : Q (.bl (decide (x ∉ ns))) H) : rIn K true (.int x) (.ref p) H Q :=
  ⟨p, ns.map V.int, rfl, .inr h, rfl, flat_int ns, by
    rw [if_pos rfl, in_int]
    have e : (!decide (x ∈ ns)) = decide (x ∉ ns) := by simp
    rw [e]
    exact q⟩
theorem w_dnewT (q : ∀ p, H p = none → Q (.ref p) (upd H p (.dT []))) : tDNewT σ H Q := q
theorem w_disp1T {tk tv : TE} (q : ∀ p, H p = none → tk σ (upd H p (.dT [])) fun x H1 => tv σ H1 fun y H2 => ∃ (b : Addr) (k : List Key), x = .ref b ∧ H2 b = some (.tup (k.map kV)) ∧ H2 p = some (.dT []) ∧ Q (.ref p) (upd H2 p (.dT [(k, y)]))) : tDisp1T tk tv σ H Q := q
def encT (kn : Kn) : List (List Key × V) := kn.map fun e => (e.1.map Sum.inl, V.int e.2)
theorem key_inj {a b : List Int} (h : a.map (Sum.inl : Int → Key) = b.map Sum.inl) : a = b := by
  have := congrArg (List.map fun k : Key => match k with | .inl i => i | .inr _ => 0) h
  simpa [List.map_map, Function.comp_def] using this
theorem key_vals (k : List Int) : (k.map (Sum.inl : Int → Key)).map kV = k.map V.int := by rw [List.map_map]; rfl
theorem valV_enc (kn : Kn) (k : List Int) : valV (encT kn) (k.map Sum.inl) = (look kn k).map V.int := by
  unfold look
  induction kn with
  | nil => rfl
  | cons e kn ih =>
    unfold encT at ih ⊢
    rw [List.map_cons, List.find?_cons]
    by_cases h : e.1 = k
    · rw [valV_pos (by rw [h]), decide_eq_true h]
      rfl
    · rw [valV_neg (fun z => h (key_inj z)), decide_eq_false h]
      exact ih
theorem putK_enc (kn : Kn) (k : List Int) (v : Int) : putK (encT kn) (k.map Sum.inl) (.int v) = encT (put kn k v) := by
  unfold putK put
  rw [valV_any, valV_enc, Option.isSome_map]
  split
  · unfold encT
    rw [List.map_map, List.map_map]
    refine List.map_congr_left fun e _ => ?_
    simp only [Function.comp]
    by_cases h : e.1 = k
    · rw [if_pos (by rw [h]), if_pos h]
    · rw [if_neg (fun z => h (key_inj z)), if_neg h]
  · unfold encT
    rw [List.map_append]
    rfl
theorem encT_at {kn : Kn} {i : Nat} {k : List Key} {v : V} (h : (encT kn)[i]? = some (k, v)) : ∃ e, kn[i]? = some e ∧ k = e.1.map Sum.inl ∧ v = .int e.2 := by
  unfold encT at h
  rw [List.getElem?_map] at h
  obtain ⟨e, he, q⟩ := Option.map_eq_some_iff.mp h
  exact ⟨e, he, (congrArg Prod.fst q).symm, (congrArg Prod.snd q).symm⟩
theorem encT_len (kn : Kn) : (encT kn).length = kn.length := List.length_map _
theorem w_get2 {td ty tx : TE} (h : td σ H fun x H1 => ∃ a, x = .ref a ∧ IsD H1 a ∧ ty σ H1 fun y H2 => tx σ H2 fun z H3 => ∃ o, DGet H3 a y o ∧ Q (o.getD z) H3) : tDGet2 td ty tx σ H Q := h
theorem w_isD {d : Addr} {kvs : List (List Key × V)} {P : Addr → Prop} (h : H d = some (.dT kvs)) (q : P d) : ∃ a, V.ref d = .ref a ∧ IsD H a ∧ P a := ⟨d, rfl, .inr ⟨kvs, .inl h⟩, q⟩
theorem w_getT {d b : Addr} {kn : Kn} {k : List Int} {P : Option V → Prop} (h : H d = some (.dT (encT kn))) (hb : H b = some (.tup (k.map V.int))) (q : P ((look kn k).map V.int)) : ∃ o, DGet H d (.ref b) o ∧ P o :=
  ⟨_, DGet.t (k := k.map Sum.inl) h (by rw [key_vals]; exact hb), by rw [valV_enc]; exact q⟩
theorem getD_int (o : Option Int) (c : Int) : (o.map V.int).getD (.int c) = .int (o.getD c) := by cases o <;> rfl
theorem w_dgetF {d b : Addr} {o : Obj} {kn : Kn} {k : List Int} {v : Int} {P : V → Prop} (h : H d = some (.frz o (.dT (encT kn)))) (hb : H b = some (.tup (k.map V.int))) (hv : look kn k = some v) (q : P (.int v)) : ∃ a v, V.ref d = .ref a ∧ DGet H a (.ref b) (some v) ∧ P v :=
  ⟨d, .int v, rfl, .inr ⟨encT kn, k.map Sum.inl, b, .inr ⟨o, h⟩, rfl, by rw [key_vals]; exact hb, by rw [valV_enc, hv]; rfl⟩, q⟩
theorem w_dputT {d b : Addr} {kn : Kn} {k : List Int} {v : Int} {N : Hp → Prop} (h : H d = some (.dT (encT kn))) (hb : H b = some (.tup (k.map V.int))) (hl : kn.length < 100000) (q : N (upd H d (.dT (encT (put kn k v))))) : ∃ a H4, V.ref d = .ref a ∧ DPut H a (.ref b) (.int v) H4 ∧ N H4 :=
  ⟨d, _, rfl, DPut.t (k := k.map Sum.inl) h (by rw [key_vals]; exact hb) (by rw [encT_len]; exact sz_lt hl), by rw [putK_enc]; exact q⟩
theorem w_iKeys {td : TE} {R : It → Hp → Prop} (h : td σ H fun x H1 => ∃ d o, x = .ref d ∧ ((∃ kvs, H1 d = some (.frz o (.dK kvs)) ∧ R (Itk d o kvs) H1) ∨ ∃ kvs, H1 d = some (.frz o (.dT kvs)) ∧ R (Itkt d o kvs) H1)) : iKeys td σ H R := h
theorem w_lock {t : TS} {nx : L2.St → Hp → Prop} {rt : VK} {bk ct : L2.St → Hp → Prop} {d : Addr} {kvs : List (List Key × V)} (h : H d = some (.dT kvs)) (q : ∀ od, t ⟨fun σ' H' => H' d = some (.frz od (.dT kvs)) ∧ nx σ' (upd H' d (.dT kvs)), fun v H' => H' d = some (.frz od (.dT kvs)) ∧ rt v (upd H' d (.dT kvs)),
    fun σ' H' => H' d = some (.frz od (.dT kvs)) ∧ bk σ' (upd H' d (.dT kvs)), fun σ' H' => H' d = some (.frz od (.dT kvs)) ∧ ct σ' (upd H' d (.dT kvs))⟩ σ (upd H d (.frz od (.dT kvs)))) : tLock t ⟨nx, rt, bk, ct⟩ σ H := ⟨d, _, h, True.intro, q⟩
theorem w_lockE {t : TE} {d : Addr} {kvs : List (List Key × V)} (h : H d = some (.dT kvs)) (q : ∀ od, t σ (upd H d (.frz od (.dT kvs))) fun v H' => H' d = some (.frz od (.dT kvs)) ∧ Q v (upd H' d (.dT kvs))) : tLockE t σ H Q := ⟨d, _, h, True.intro, q⟩
theorem f_keysT {g : TG} {tb : TS} {nx : L2.St → Hp → Prop} {rt : VK} {d : Addr} {od : Obj} (kn : Kn) (Pv : Nat → L2.St → Hp → Prop) (h0 : Pv 0 σ H) (hl : ∀ i σ H, Pv i σ H → H d = some (.frz od (.dT (encT kn))))
    (hs : ∀ i e q σ H, kn[i]? = some e → H q = some (.tup (e.1.map V.int)) → Pv i σ H → g (.ref q) σ H fun σ2 H2 => tb ⟨Pv (i + 1), rt, nx, Pv (i + 1)⟩ σ2 H2) (hd : ∀ σ H, Pv kn.length σ H → nx σ H) :
    ∃ d' o, V.ref d = .ref d' ∧ ((∃ kvs, H d' = some (.frz o (.dK kvs)) ∧ ∃ W : Nat → Nat → L2.St → Hp → Prop, (∃ m, W 0 m σ H) ∧ ∀ i m σ H, W i m σ H →
        ((Itk d' o kvs).stop i H ∧ nx σ H) ∨ ((Itk d' o kvs).go i H ∧ ∃ N : L2.St → Hp → Prop, (∀ σ' H', N σ' H' → ∃ m', m' < m ∧ W (i + 1) m' σ' H') ∧ ∀ x H', (Itk d' o kvs).yld i H x H' → g x σ H' fun σ2 H2 => tb ⟨N, rt, nx, N⟩ σ2 H2)) ∨
      ∃ kvs, H d' = some (.frz o (.dT kvs)) ∧ ∃ W : Nat → Nat → L2.St → Hp → Prop, (∃ m, W 0 m σ H) ∧ ∀ i m σ H, W i m σ H →
        ((Itkt d' o kvs).stop i H ∧ nx σ H) ∨ ((Itkt d' o kvs).go i H ∧ ∃ N : L2.St → Hp → Prop, (∀ σ' H', N σ' H' → ∃ m', m' < m ∧ W (i + 1) m' σ' H') ∧ ∀ x H', (Itkt d' o kvs).yld i H x H' → g x σ H' fun σ2 H2 => tb ⟨N, rt, nx, N⟩ σ2 H2)) := by
  refine ⟨d, od, rfl, .inr ⟨encT kn, hl 0 σ H h0, fun i m σ H => m = kn.length - i ∧ i ≤ kn.length ∧ Pv i σ H, ⟨kn.length, by simp, Nat.zero_le _, h0⟩, ?_⟩⟩
  rintro i m σ H ⟨rfl, hi, p⟩
  have q := hl i σ H p
  by_cases hlt : i < kn.length
  · refine .inr ⟨⟨q, by rw [encT_len]; exact hlt⟩, Pv (i + 1), fun σ' H' p' => ⟨kn.length - (i + 1), by omega, rfl, hlt, p'⟩, fun x H' y => ?_⟩
    obtain ⟨rfl, k, v, b, hk, rfl, hb⟩ := y
    obtain ⟨e, he, rfl, rfl⟩ := encT_at hk
    rw [key_vals] at hb
    exact hs i e b σ H' he hb p
  · have e : i = kn.length := by omega
    subst e
    exact .inl ⟨⟨q, by rw [encT_len]; exact Nat.le_refl _⟩, hd σ H p⟩
theorem l_keysT {g : TG} {tt : TT} {te : TE} {vs : List Nat} {Qd : Addr → Hp → Prop} {d : Addr} {od : Obj} (kn : Kn) (hq : H d = some (.frz od (.dT (encT kn)))) (Pv : Addr → Nat → List V → Hp → Prop) (h0 : ∀ D, H D = none → Pv D 0 [] (upd H D (.lst [])))
    (hl : ∀ D i acc H', H D = none → Pv D i acc H' → H' D = some (.lst acc) → H' d = some (.frz od (.dT (encT kn))))
    (hs : ∀ D i e q acc H', H D = none → kn[i]? = some e → H' q = some (.tup (e.1.map V.int)) → Pv D i acc H' → H' D = some (.lst acc) → acc.length ≤ i → g (.ref q) (wipe σ vs) H' fun σ2 H2 => wipe σ2 vs = wipe σ vs ∧ tt σ2 H2 fun b H3 =>
      if b = true then te σ2 H3 fun y H4 => ∃ acc, H4 D = some (.lst acc) ∧ acc.length < sizeLine ∧ LcI Pv D (i + 1) (upd H4 D (.lst (acc ++ [y]))) else LcI Pv D (i + 1) H3)
    (hd : ∀ D acc H', H D = none → Pv D kn.length acc H' → H' D = some (.lst acc) → acc.length ≤ kn.length → Qd D H') :
    ∃ d' o, V.ref d = .ref d' ∧ ((∃ kvs, H d' = some (.frz o (.dK kvs)) ∧ ∀ D, H D = none → ∃ W : Nat → Nat → Hp → Prop, (∃ m, W 0 m (upd H D (.lst []))) ∧ ∀ i m H, W i m H →
        ((Itk d' o kvs).stop i H ∧ Qd D H) ∨ ((Itk d' o kvs).go i H ∧ ∃ Nx : Hp → Prop, (∀ H', Nx H' → ∃ m', m' < m ∧ W (i + 1) m' H') ∧ ∀ x H', (Itk d' o kvs).yld i H x H' → g x (wipe σ vs) H' fun σ2 H2 => wipe σ2 vs = wipe σ vs ∧ tt σ2 H2 fun b H3 =>
          if b = true then te σ2 H3 fun y H4 => ∃ acc, H4 D = some (.lst acc) ∧ acc.length < sizeLine ∧ Nx (upd H4 D (.lst (acc ++ [y]))) else Nx H3)) ∨
      ∃ kvs, H d' = some (.frz o (.dT kvs)) ∧ ∀ D, H D = none → ∃ W : Nat → Nat → Hp → Prop, (∃ m, W 0 m (upd H D (.lst []))) ∧ ∀ i m H, W i m H →
        ((Itkt d' o kvs).stop i H ∧ Qd D H) ∨ ((Itkt d' o kvs).go i H ∧ ∃ Nx : Hp → Prop, (∀ H', Nx H' → ∃ m', m' < m ∧ W (i + 1) m' H') ∧ ∀ x H', (Itkt d' o kvs).yld i H x H' → g x (wipe σ vs) H' fun σ2 H2 => wipe σ2 vs = wipe σ vs ∧ tt σ2 H2 fun b H3 =>
          if b = true then te σ2 H3 fun y H4 => ∃ acc, H4 D = some (.lst acc) ∧ acc.length < sizeLine ∧ Nx (upd H4 D (.lst (acc ++ [y]))) else Nx H3)) := by
  refine ⟨d, od, rfl, .inr ⟨encT kn, hq, fun D hD => ⟨fun i m H' => m = kn.length - i ∧ i ≤ kn.length ∧ LcI Pv D i H', ⟨kn.length, by simp, Nat.zero_le _, [], h0 D hD, upd_same, Nat.le_refl _⟩, ?_⟩⟩⟩
  rintro i m H' ⟨rfl, hi, acc, p, e, l⟩
  have q := hl D i acc H' hD p e
  by_cases hlt : i < kn.length
  · refine .inr ⟨⟨q, by rw [encT_len]; exact hlt⟩, LcI Pv D (i + 1), fun H2 p' => ⟨kn.length - (i + 1), by omega, rfl, hlt, p'⟩, fun x H2 y => ?_⟩
    obtain ⟨rfl, k, v, b, hk, rfl, hb⟩ := y
    obtain ⟨u, hu, rfl, rfl⟩ := encT_at hk
    rw [key_vals] at hb
    exact hs D i u b acc H2 hD hu hb p e l
  · have e' : i = kn.length := by omega
    subst e'
    exact .inl ⟨⟨q, by rw [encT_len]; exact Nat.le_refl _⟩, hd D acc H' hD p e l⟩
theorem w_iTup {tl : TE} {R : It → Hp → Prop} (h : tl σ H fun x H1 => ∃ a, x = V.ref a ∧ (∃ xs, SqT K H1 a xs) ∧ R (Itt K a) H1) : iTup K tl σ H R := h
theorem l_tup {g : TG} {tt : TT} {te : TE} {vs : List Nat} {Qd : Addr → Hp → Prop} {a : Addr} (xs : List V) (hq : SqT K H a xs) (Pv : Addr → Nat → List V → Hp → Prop) (h0 : ∀ D, H D = none → Pv D 0 [] (upd H D (.lst [])))
    (hl : ∀ D i acc H', H D = none → Pv D i acc H' → H' D = some (.lst acc) → SqT K H' a xs)
    (hs : ∀ D (i : Nat) x acc H', H D = none → xs[i]? = some x → Pv D i acc H' → H' D = some (.lst acc) → acc.length ≤ i → g x (wipe σ vs) H' fun σ2 H2 => wipe σ2 vs = wipe σ vs ∧ tt σ2 H2 fun b H3 =>
      if b = true then te σ2 H3 fun y H4 => ∃ acc, H4 D = some (.lst acc) ∧ acc.length < sizeLine ∧ LcI Pv D (i + 1) (upd H4 D (.lst (acc ++ [y]))) else LcI Pv D (i + 1) H3)
    (hd : ∀ D acc H', H D = none → Pv D xs.length acc H' → H' D = some (.lst acc) → acc.length ≤ xs.length → Qd D H') :
    ∃ b, V.ref a = V.ref b ∧ (∃ xs, SqT K H b xs) ∧ ∀ D, H D = none → ∃ W : Nat → Nat → Hp → Prop, (∃ m, W 0 m (upd H D (.lst []))) ∧ ∀ i m H, W i m H →
      ((Itt K b).stop i H ∧ Qd D H) ∨ ((Itt K b).go i H ∧ ∃ Nx : Hp → Prop, (∀ H', Nx H' → ∃ m', m' < m ∧ W (i + 1) m' H') ∧ ∀ x H', (Itt K b).yld i H x H' → g x (wipe σ vs) H' fun σ2 H2 => wipe σ2 vs = wipe σ vs ∧ tt σ2 H2 fun b H3 =>
        if b = true then te σ2 H3 fun y H4 => ∃ acc, H4 D = some (.lst acc) ∧ acc.length < sizeLine ∧ Nx (upd H4 D (.lst (acc ++ [y]))) else Nx H3) := by
  refine ⟨a, rfl, ⟨xs, hq⟩, fun D hD => lc_tup (K := K) (a := a) (xs := xs) (LcI Pv D) ⟨[], h0 D hD, upd_same, Nat.le_refl _⟩ (fun i H' _ ⟨acc, p, e, _⟩ => hl D i acc H' hD p e) (fun i x H' hx ⟨acc, p, e, l⟩ => hs D i x acc H' hD hx p e l) (fun H' ⟨acc, p, e, l⟩ => hd D acc H' hD p e l)⟩
/-- [x for x in t if test] of a tuple of whole numbers -/
theorem l_filterT {g : TG} {tt : TT} {te : TE} {vs : List Nat} {Qd : Addr → Hp → Prop} {a : Addr} (ns : List Int) (p : Int → Bool) (hq : SqT K H a (ns.map V.int))
    (hs : ∀ D (i : Nat) y H', H D = none → ns[i]? = some y → Fr [] H H' → LcI (PvF H ns p) D i H' → g (.int y) (wipe σ vs) H' fun σ2 H2 => wipe σ2 vs = wipe σ vs ∧ tt σ2 H2 fun b H3 =>
      if b = true then te σ2 H3 fun y H4 => ∃ acc, H4 D = some (.lst acc) ∧ acc.length < sizeLine ∧ LcI (PvF H ns p) D (i + 1) (upd H4 D (.lst (acc ++ [y]))) else LcI (PvF H ns p) D (i + 1) H3)
    (hd : ∀ D H', H D = none → Fr [] H H' → H' D = some (.lst ((ns.filter p).map V.int)) → Qd D H') :
    ∃ b, V.ref a = V.ref b ∧ (∃ xs, SqT K H b xs) ∧ ∀ D, H D = none → ∃ W : Nat → Nat → Hp → Prop, (∃ m, W 0 m (upd H D (.lst []))) ∧ ∀ i m H, W i m H →
      ((Itt K b).stop i H ∧ Qd D H) ∨ ((Itt K b).go i H ∧ ∃ Nx : Hp → Prop, (∀ H', Nx H' → ∃ m', m' < m ∧ W (i + 1) m' H') ∧ ∀ x H', (Itt K b).yld i H x H' → g x (wipe σ vs) H' fun σ2 H2 => wipe σ2 vs = wipe σ vs ∧ tt σ2 H2 fun b H3 =>
        if b = true then te σ2 H3 fun y H4 => ∃ acc, H4 D = some (.lst acc) ∧ acc.length < sizeLine ∧ Nx (upd H4 D (.lst (acc ++ [y]))) else Nx H3) := by
  refine l_tup (ns.map V.int) hq (PvF H ns p) (fun D hD => ⟨Fr.new hD, by simp⟩) (fun D i acc H' hD h _ => h.1.seqT hq) ?_ ?_
  · rintro D i x acc H' hD hi h hacc hla
    obtain ⟨y, hy, rfl⟩ := int_at hi
    exact hs D i y H' hD hy h.1 ⟨acc, h, hacc, hla⟩
  · rintro D acc H' hD ⟨F, rfl⟩ hacc hla
    rw [List.length_map, List.take_length] at hacc
    exact hd D H' hD F hacc
end
/-- xs are refs to tuples of whole numbers -/
def TupsAt (H : Hp) (xs : List V) (os : List (List Int)) : Prop := xs.length = os.length ∧ ∀ (i : Nat) (o : List Int), os[i]? = some o → ∃ t, xs[i]? = some (.ref t) ∧ H t = some (.tup (o.map V.int))
theorem TupsAt.nil {H : Hp} : TupsAt H [] [] := ⟨rfl, fun i e h => by simp at h⟩
theorem TupsAt.fr0 {H H' : Hp} {xs : List V} {os : List (List Int)} (h : TupsAt H xs os) (f : Fr [] H H') : TupsAt H' xs os := ⟨h.1, fun i o ho => by
  obtain ⟨t, h1, h2⟩ := h.2 i o ho
  exact ⟨t, h1, f.get0 h2⟩⟩
theorem TupsAt.snoc {H : Hp} {xs : List V} {os : List (List Int)} {t : Addr} {o : List Int} (h : TupsAt H xs os) (ht : H t = some (.tup (o.map V.int))) : TupsAt H (xs ++ [.ref t]) (os ++ [o]) := ⟨by simp [h.1], fun i e he => by
  rcases Nat.lt_or_ge i os.length with l | l
  · rw [List.getElem?_append_left l] at he
    rw [List.getElem?_append_left (by rw [h.1]; exact l)]
    exact h.2 i e he
  · rw [List.getElem?_append_right l] at he
    have hi : i - os.length = 0 := by
      have := (List.getElem?_eq_some_iff.mp he).1
      simp at this
      omega
    rw [hi] at he
    obtain rfl := Option.some.inj he
    exact ⟨t, by rw [List.getElem?_append_right (by rw [h.1]; exact l), h.1, hi]; rfl, ht⟩⟩
theorem TupsAt.one {H : Hp} {t : Addr} {o : List Int} (ht : H t = some (.tup (o.map V.int))) : TupsAt H [.ref t] [o] := TupsAt.snoc .nil ht
/-- lists and dicts that change are no tuples -/
theorem TupsAt.up {H : Hp} {xs : List V} {os : List (List Int)} {p : Addr} {u v : HO} (h : TupsAt H xs os) (hp : H p = some u) (hu : ∀ ys, u ≠ .tup ys) : TupsAt (upd H p v) xs os := ⟨h.1, fun i o ho => by
  obtain ⟨t, h1, h2⟩ := h.2 i o ho
  refine ⟨t, h1, (upd_ne fun e => ?_).trans h2⟩
  subst e
  rw [hp] at h2
  exact hu _ (Option.some.inj h2)⟩
end Cw

namespace Cw
open PySem L2
/-! how many Trues a list has -/
section
open PySem.Spec PyProof.Rows PySem.W
variable {X : Cx}
theorem cnt_vals {y : V} (fy : flatV y = true) : ∀ {zs : List V} {us : List Value}, Vals zs us → zs.all flatV = true → us.countP (eqU y) = zs.countP (fun z => eqV z y)
  | _, _, .nil, _ => rfl
  | _, _, .cons (a := z) (b := u) (l₁ := zs) (l₂ := us) ru rt, h => by
    rw [List.all_cons, Bool.and_eq_true] at h
    rw [List.countP_cons, List.countP_cons, cnt_vals fy rt h.2, eqU_of ru h.1]
def rCntB (K : PySem.W.Frag) : V → List V → Hp → VK → Prop := fun x xs H Q => ∃ (p : Addr) (bs : List Bool), x = .ref p ∧ xs = [.bl true] ∧ SqL K H p (bs.map V.bl) ∧ Q (.int (bs.filter id).length) H
theorem mt_countB : MtR X "list.count" (rCntB X.K) := by
  intro pins s σ H x xs v us Q I rx rxs h
  obtain ⟨p, bs, rfl, rfl, hs, q⟩ := h
  cases rx
  obtain ⟨u, rfl, ru⟩ := rxs.one
  obtain ⟨its, rv, ⟨⟨cls, dd, data, sl⟩, n, ho, hc, hdn, hd⟩, hlen⟩ := I.list hs
  simp only at hc hd
  subst hc hd
  have fb : (bs.map V.bl).all flatV = true := by
    rw [List.all_map, List.all_eq_true]
    intro b _
    rfl
  refine call_meets PySem.F.slot_list_count ⟨_, ho, rfl⟩ PySem.F.entry_list_count (PySem.F.args_list_count_2 _ _)
    (SeqAt.list_countAt p its.toArray n dd sl u (eqU (.bl true))) ⟨ho, fun y hy => mem_eqAt ru rfl rv fb y (by simpa using hy), ?_⟩
  have ec : its.toArray.toList.countP (eqU (.bl true)) = (bs.filter id).length := by
    rw [List.toList_toArray, cnt_vals rfl rv fb, List.countP_map, List.countP_eq_length_filter]
    congr 1
    refine List.filter_congr fun b _ => ?_
    cases b <;> simp [eqV]
  refine ⟨.int (bs.filter id).length, H, I.tok _, ⟨s.toks, ?_⟩, q⟩
  show Value.int ((its.toArray.toList.countP (eqU (.bl true)) : Nat) : Int) s.toks = Value.int ((bs.filter id).length : Nat) s.toks
  rw [ec]
end
theorem kCountB {X : Cx} (K : PySem.W.Frag) (h : X.K = K) : MtR X "list.count" (rCntB K) := h ▸ mt_countB
theorem kMaxI {X : Cx} (K : PySem.W.Frag) (h : X.K = K) (hc : X.calm = true) : CallR X (.builtin "max") (rMax K) := h ▸ cr_max hc
section
variable {K : PySem.W.Frag} {H : Hp} {Q : VK}
theorem w_countB {p : Addr} {bs : List Bool} (h : SqL K H p (bs.map V.bl)) (q : Q (.int (bs.filter id).length) H) : rCntB K (.ref p) [.bl true] H Q := ⟨p, bs, rfl, rfl, h, q⟩
theorem w_maxI {a : Addr} {ns : List Int} {m : Int} (h : SqL K H a (ns.map V.int)) (hm : m ∈ ns) (hl : ∀ y ∈ ns, y ≤ m) (q : Q (.int m) H) : rMax K [.ref a] H Q :=
  ⟨a, ns, rfl, h, List.length_pos_of_mem hm, fun m' h1 h2 => by
    have e : m' = m := by
      have a1 := h2 m hm
      have a2 := hl m' h1
      omega
    rw [e]
    exact q⟩
theorem w_indexI {a : Addr} {ns : List Int} {x : Int} (h : SqL K H a (ns.map V.int)) (hm : x ∈ ns) (q : Q (.int ((ns.idxOf x : Nat) : Int)) H) : rIndex K (.ref a) [.int x] H Q := by
  have hl := List.idxOf_lt_length_iff.mpr hm
  refine ⟨a, ns.map V.int, .int x, ns.idxOf x, .int x, rfl, rfl, h, rfl, flat_int ns, ?_, by simp [eqV], fun m z' hm' hz => ?_, q⟩
  · rw [List.getElem?_map, List.getElem?_eq_getElem hl]; simp
  · rw [List.getElem?_map, List.getElem?_eq_getElem (by omega)] at hz
    obtain rfl := Option.some.inj hz
    have ne : ns[m] ≠ x := fun e => by
      have z := List.not_of_lt_findIdx (p := (· == x)) (xs := ns) (i := m) hm'
      simp [e] at z
    simp [eqV, ne]
end
/-! lists of rows, new beside H and none of A -/
def RowsAt (A : List Addr) (H H' : Hp) (xs : List V) (rs : List (List Int)) : Prop := xs.length = rs.length ∧ ∀ (i : Nat) (r : List Int), rs[i]? = some r → ∃ l, xs[i]? = some (.ref l) ∧ H l = none ∧ l ∉ A ∧ H' l = some (.lst (r.map V.int))
theorem RowsAt.nil {A : List Addr} {H H' : Hp} : RowsAt A H H' [] [] := ⟨rfl, fun i e h => by simp at h⟩
theorem RowsAt.fr {A W : List Addr} {H H' H2 : Hp} {xs : List V} {rs : List (List Int)} (h : RowsAt A H H' xs rs) (f : Fr W H' H2) (hw : ∀ w ∈ W, w ∈ A) : RowsAt A H H2 xs rs := ⟨h.1, fun i r hr => by
  obtain ⟨l, h1, h2, h3, h4⟩ := h.2 i r hr
  exact ⟨l, h1, h2, h3, f.get h4 (fun m => h3 (hw _ m))⟩⟩
theorem RowsAt.fr0 {A : List Addr} {H H' H2 : Hp} {xs : List V} {rs : List (List Int)} (h : RowsAt A H H' xs rs) (f : Fr [] H' H2) : RowsAt A H H2 xs rs := h.fr f (by simp)
theorem RowsAt.add {A : List Addr} {H H' : Hp} {xs : List V} {rs : List (List Int)} {p : Addr} (h : RowsAt A H H' xs rs) (hp : H' p = none) : RowsAt (p :: A) H H' xs rs := ⟨h.1, fun i r hr => by
  obtain ⟨l, h1, h2, h3, h4⟩ := h.2 i r hr
  refine ⟨l, h1, h2, fun m => ?_, h4⟩
  rcases List.mem_cons.mp m with m | m
  · rw [m, hp] at h4; cases h4
  · exact h3 m⟩
theorem RowsAt.less {A B : List Addr} {H H' : Hp} {xs : List V} {rs : List (List Int)} (h : RowsAt A H H' xs rs) (hb : ∀ x ∈ B, x ∈ A) : RowsAt B H H' xs rs := ⟨h.1, fun i r hr => by
  obtain ⟨l, h1, h2, h3, h4⟩ := h.2 i r hr
  exact ⟨l, h1, h2, fun m => h3 (hb _ m), h4⟩⟩
theorem RowsAt.base {A W : List Addr} {H0 H H' : Hp} {xs : List V} {rs : List (List Int)} (h : RowsAt A H H' xs rs) (f : Fr W H0 H) : RowsAt A H0 H' xs rs := ⟨h.1, fun i r hr => by
  obtain ⟨l, h1, h2, h3⟩ := h.2 i r hr
  exact ⟨l, h1, f.2 l h2, h3⟩⟩
theorem RowsAt.append {A : List Addr} {H H' : Hp} {xs ys : List V} {rs qs : List (List Int)} (h : RowsAt A H H' xs rs) (h2 : RowsAt A H H' ys qs) : RowsAt A H H' (xs ++ ys) (rs ++ qs) := ⟨by simp [h.1, h2.1], fun i r hr => by
  rcases Nat.lt_or_ge i rs.length with lt | ge
  · rw [List.getElem?_append_left lt] at hr
    rw [List.getElem?_append_left (by rw [h.1]; exact lt)]
    exact h.2 i r hr
  · rw [List.getElem?_append_right ge] at hr
    rw [List.getElem?_append_right (by rw [h.1]; exact ge), h.1]
    exact h2.2 _ r hr⟩
theorem RowsAt.one {A : List Addr} {H H' : Hp} {l : Addr} {r : List Int} (hl : H l = none) (al : l ∉ A) (h : H' l = some (.lst (r.map V.int))) : RowsAt A H H' [.ref l] [r] := ⟨rfl, fun i e he => by
  match i, he with
  | 0, he =>
    obtain rfl := Option.some.inj he
    exact ⟨l, rfl, hl, al, h⟩⟩
theorem RowsAt.snoc {A : List Addr} {H H' : Hp} {xs : List V} {rs : List (List Int)} {l : Addr} {r : List Int} (h : RowsAt A H H' xs rs) (hl : H l = none) (al : l ∉ A) (h2 : H' l = some (.lst (r.map V.int))) : RowsAt A H H' (xs ++ [.ref l]) (rs ++ [r]) := h.append (.one hl al h2)
/-! all rows of so long -/
def nextR (p : Nat) (r : List Int) : List (List Int) := (List.range p).map fun q : Nat => r ++ [(q : Int)]
def rowsM (p : Nat) : Nat → List (List Int)
  | 0 => [[]]
  | k + 1 => (rowsM p k).flatMap (nextR p)
theorem nextR_len (p : Nat) (r : List Int) : (nextR p r).length = p := by unfold nextR; rw [List.length_map, List.length_range]
theorem flat_len {p : Nat} : ∀ rs : List (List Int), (rs.flatMap (nextR p)).length = rs.length * p
  | [] => by simp
  | r :: rs => by rw [List.flatMap_cons, List.length_append, nextR_len, flat_len rs, List.length_cons, Nat.succ_mul]; omega
theorem rowsM_len (p : Nat) : ∀ k, (rowsM p k).length = p ^ k
  | 0 => rfl
  | k + 1 => by unfold rowsM; rw [flat_len, rowsM_len p k, Nat.pow_succ]
theorem rowsM_mem {p : Nat} : ∀ (k : Nat) (r : List Int), r ∈ rowsM p k → r.length = k ∧ ∀ x ∈ r, 0 ≤ x ∧ x < (p : Int)
  | 0, r, h => by
    have : r = [] := by simpa [rowsM] using h
    subst this
    exact ⟨rfl, by simp⟩
  | k + 1, r, h => by
    unfold rowsM at h
    obtain ⟨r0, h1, h2⟩ := List.mem_flatMap.mp h
    obtain ⟨i1, i2⟩ := rowsM_mem k r0 h1
    unfold nextR at h2
    obtain ⟨q, hq, rfl⟩ := List.mem_map.mp h2
    rw [List.mem_range] at hq
    refine ⟨by simp [i1], fun x hx => ?_⟩
    rcases List.mem_append.mp hx with hx | hx
    · exact i2 x hx
    · rw [List.mem_singleton.mp hx]
      omega
theorem pow_fits {p k n : Nat} (hp : 1 ≤ p) (h : k ≤ n) (hn : p ^ n ≤ 5000) : p ^ k ≤ 5000 := Nat.le_trans (Nat.pow_le_pow_right hp h) hn
/-! the worst row -/
def moreM (n : Nat) (z : Str) (r : List Int) : Int := ((places (lackB n z r)).length : Int) - (bestN n r : Int)
def worstStep (n : Nat) (z : Str) (b : Int × Option (List Int)) (r : List Int) : Int × Option (List Int) := if b.1 < moreM n z r then (moreM n z r, some r) else b
def worstM (n : Nat) (z : Str) (rs : List (List Int)) : Int × Option (List Int) := rs.foldl (worstStep n z) (-1, none)
theorem more_pos {n : Nat} (n0 : 0 < n) (n8 : n ≤ 8) (z : Str) (r : List Int) : 0 ≤ moreM n z r := by
  have := best_le_rule n0 n8 z r
  unfold moreM
  omega
theorem worstM_some {n : Nat} (n0 : 0 < n) (n8 : n ≤ 8) (z : Str) : ∀ rs : List (List Int), (rs = [] ∧ worstM n z rs = (-1, none)) ∨ ∃ r, r ∈ rs ∧ worstM n z rs = (moreM n z r, some r) := by
  refine list_snoc_ind (.inl ⟨rfl, rfl⟩) ?_
  intro l r ih
  have e : worstM n z (l ++ [r]) = worstStep n z (worstM n z l) r := by unfold worstM; rw [List.foldl_append]; rfl
  rw [e]
  right
  unfold worstStep
  rcases ih with ⟨_, h⟩ | ⟨r0, h0, h⟩
  · rw [h, if_pos (by have := more_pos n0 n8 z r; show (-1 : Int) < _; omega)]
    exact ⟨r, by simp, rfl⟩
  · rw [h]
    by_cases c : moreM n z r0 < moreM n z r
    · rw [if_pos c]; exact ⟨r, by simp, rfl⟩
    · rw [if_neg c]; exact ⟨r0, by simp [h0], rfl⟩
end Cw
namespace Cw
open PySem
/-! by the page whose next ask is farthest, ties as they fall -/
def askF (row : List Int) (i : Nat) (z : Int) : Nat := if z ∈ row.drop i then (row.drop i).idxOf z else row.length
inductive Sel (n : Nat) (row : List Int) : Nat → List Int → Nat → Prop
  | zero : Sel n row 0 [] 0
  | hit {i : Nat} {K : List Int} {c : Nat} {x : Int} : Sel n row i K c → row[i]? = some x → x ∈ K → Sel n row (i + 1) K c
  | room {i : Nat} {K : List Int} {c : Nat} {x : Int} : Sel n row i K c → row[i]? = some x → x ∉ K → K.length ≠ n → Sel n row (i + 1) (K ++ [x]) (c + 1)
  | full {i : Nat} {K : List Int} {c : Nat} {x y : Int} : Sel n row i K c → row[i]? = some x → x ∉ K → K.length = n → y ∈ K → (∀ z ∈ K, askF row i z ≤ askF row i y) → Sel n row (i + 1) (K.erase y ++ [x]) (c + 1)
theorem sub_eq {A B : List Int} (nd : A.Nodup) (h : ∀ x ∈ A, x ∈ B) (hl : A.length = B.length) : ∀ x ∈ B, x ∈ A := by
  intro x hx
  refine Classical.byContradiction fun hn => ?_
  have := nodup_len (l := x :: A) (m := B) (List.nodup_cons.mpr ⟨hn, nd⟩) fun y hy => by
    rcases List.mem_cons.mp hy with e | e
    · rw [e]; exact hx
    · exact h y e
  rw [List.length_cons] at this
  omega
theorem idx_same {l : List Int} {x y : Int} (hx : x ∈ l) (h : l.idxOf x = l.idxOf y) : x = y := by
  have h1 := List.idxOf_lt_length_iff.mpr hx
  have e1 : l[l.idxOf x] = x := List.getElem_idxOf h1
  have h2 : l.idxOf y < l.length := by rw [← h]; exact h1
  have e2 : l[l.idxOf y] = y := List.getElem_idxOf h2
  rw [← e1, ← e2]
  simp only [h]
structure Sim (n : Nat) (row : List Int) (i : Nat) (K : List Int) (c : Nat) : Prop where
  nd : K.Nodup
  ln : K.length = (bestK n row i).length
  fut : ∀ x ∈ row.drop i, x ∈ K ↔ x ∈ bestK n row i
  cnt : c = (bst n row (row.take i)).lacks.length
theorem sel_sim {n : Nat} (n0 : 0 < n) {row : List Int} {i : Nat} {K : List Int} {c : Nat} (s : Sel n row i K c) (hi : i ≤ row.length) : Sim n row i K c := by
  have way := best_way n0 row
  have cntS : ∀ i x, row[i]? = some x → (bst n row (row.take (i + 1))).lacks.length = (bst n row (row.take i)).lacks.length + if x ∈ bestK n row i then 0 else 1 := fun i x hx => by
    rw [take_snoc hx, bst_snoc]
    unfold bestK bstep
    split
    · rfl
    · split <;> simp
  have dropS : ∀ i x, row[i]? = some x → row.drop i = x :: row.drop (i + 1) := fun i x hx => by
    obtain ⟨hl, rfl⟩ := List.getElem?_eq_some_iff.mp hx
    exact List.drop_eq_getElem_cons hl
  have ndx : ∀ (K : List Int) (x : Int), K.Nodup → x ∉ K → (K ++ [x]).Nodup := fun K x nd hx => by
    rw [List.nodup_append]
    refine ⟨nd, by simp, fun a ha b hb e => ?_⟩
    rw [List.mem_singleton.mp hb] at e
    subst e
    exact hx ha
  induction s with
  | zero => exact ⟨List.nodup_nil, by simp [bestK, bst], fun x _ => by simp [bestK, bst], by simp [bst]⟩
  | @hit i K c x s hx hxK ih =>
    obtain ⟨nd, ln, fut, cnt⟩ := ih (by omega)
    have hd := dropS i x hx
    have hxB : x ∈ bestK n row i := (fut x (by rw [hd]; simp)).mp hxK
    have hB : bestK n row (i + 1) = bestK n row i := by rw [bestK_succ n0 hx, if_pos hxB]
    refine ⟨nd, by rw [hB]; exact ln, fun y hy => ?_, by rw [cntS i x hx, if_pos hxB]; exact cnt⟩
    rw [hB]
    exact fut y (by rw [hd]; exact List.mem_cons_of_mem _ hy)
  | @room i K c x s hx hxK hne ih =>
    obtain ⟨nd, ln, fut, cnt⟩ := ih (by omega)
    have hd := dropS i x hx
    have hxB : x ∉ bestK n row i := fun h => hxK ((fut x (by rw [hd]; simp)).mpr h)
    have hB : bestK n row (i + 1) = bestK n row i ++ [x] := by rw [bestK_succ n0 hx, if_neg hxB, if_neg (by rw [← ln]; exact hne)]
    refine ⟨ndx K x nd hxK, by rw [hB, List.length_append, List.length_append, ln], fun y hy => ?_, by rw [cntS i x hx, if_neg hxB, cnt]⟩
    rw [hB, List.mem_append, List.mem_append, fut y (by rw [hd]; exact List.mem_cons_of_mem _ hy)]
  | @full i K c x y s hx hxK hl hy hfar ih =>
    obtain ⟨nd, ln, fut, cnt⟩ := ih (by omega)
    have hil := (List.getElem?_eq_some_iff.mp hx).1
    have hd := dropS i x hx
    have hxB : x ∉ bestK n row i := fun h => hxK ((fut x (by rw [hd]; simp)).mpr h)
    have hBl : (bestK n row i).length = n := by rw [← ln]; exact hl
    have ndB := way.nd i (by omega)
    have hne : bestK n row i ≠ [] := fun z => by rw [z] at hBl; simp at hBl; omega
    obtain ⟨hb, hbf⟩ := far_spec (row.drop i) hne
    have hB : bestK n row (i + 1) = (bestK n row i).erase (far (row.drop i) (bestK n row i)) ++ [x] := by rw [bestK_succ n0 hx, if_neg hxB, if_pos hBl]
    generalize far (row.drop i) (bestK n row i) = b at *
    have restl : (row.drop i).length ≤ row.length := by rw [List.length_drop]; omega
    have ltr : ∀ z, z ∈ row.drop i → (row.drop i).idxOf z < (row.drop i).length := fun z hz => List.idxOf_lt_length_iff.mpr hz
    have outr : ∀ z, z ∉ row.drop i → (row.drop i).idxOf z = (row.drop i).length := fun z hz => List.idxOf_eq_length hz
    have fin : ∀ z, z ∈ row.drop i → askF row i z = (row.drop i).idxOf z := fun z hz => if_pos hz
    have fout : ∀ z, z ∉ row.drop i → askF row i z = row.length := fun z hz => if_neg hz
    have same : y ∈ row.drop i ∨ b ∈ row.drop i → y = b := by
      intro h
      have bothIn : (∀ z ∈ K, z ∈ row.drop i) ∨ (∀ z ∈ bestK n row i, z ∈ row.drop i) := by
        rcases h with h | h
        · refine .inl fun z hz => Classical.byContradiction fun hn => ?_
          have h1 := hfar z hz
          rw [fout z hn, fin y h] at h1
          have := ltr y h
          omega
        · refine .inr fun z hz => Classical.byContradiction fun hn => ?_
          have h1 := hbf z hz
          rw [outr z hn] at h1
          have := ltr b h
          omega
      have KB : ∀ z, z ∈ K ↔ z ∈ bestK n row i := by
        rcases bothIn with h | h
        · have sub : ∀ z ∈ K, z ∈ bestK n row i := fun z hz => (fut z (h z hz)).mp hz
          exact fun z => ⟨sub z, sub_eq nd sub ln z⟩
        · have sub : ∀ z ∈ bestK n row i, z ∈ K := fun z hz => (fut z (h z hz)).mpr hz
          exact fun z => ⟨sub_eq ndB sub ln.symm z, sub z⟩
      have allIn : ∀ z ∈ K, z ∈ row.drop i := by
        rcases bothIn with h | h
        · exact h
        · exact fun z hz => h z ((KB z).mp hz)
      have hbK := (KB b).mpr hb
      have hyB := (KB y).mp hy
      have h1 := hfar b hbK
      rw [fin b (allIn b hbK), fin y (allIn y hy)] at h1
      have h2 := hbf y hyB
      exact idx_same (allIn y hy) (by omega)
    refine ⟨ndx _ x (nd.erase y) (fun h => hxK (List.mem_of_mem_erase h)), ?_, fun z hz => ?_, by rw [cntS i x hx, if_neg hxB, cnt]⟩
    · rw [hB, List.length_append, List.length_append, List.length_erase_of_mem hy, List.length_erase_of_mem hb, ln]
    · have hz' : z ∈ row.drop i := by rw [hd]; exact List.mem_cons_of_mem _ hz
      rw [hB, List.mem_append, List.mem_append, nd.mem_erase_iff, ndB.mem_erase_iff, fut z hz']
      constructor
      · rintro (⟨h1, h2⟩ | h)
        · refine .inl ⟨fun e => h1 ?_, h2⟩
          rw [e]
          exact (same (.inr (by rw [← e]; exact hz'))).symm
        · exact .inr h
      · rintro (⟨h1, h2⟩ | h)
        · refine .inl ⟨fun e => h1 ?_, h2⟩
          rw [e]
          exact same (.inl (by rw [← e]; exact hz'))
        · exact .inr h
theorem sel_best {n : Nat} (n0 : 0 < n) {row : List Int} {K : List Int} {c : Nat} (s : Sel n row row.length K c) : c = bestN n row := by
  have := (sel_sim n0 s (Nat.le_refl _)).cnt
  rw [List.take_length] at this
  exact this
end Cw
namespace Cw
/-- the first place of the most -/
theorem first_max {f : Int → Nat} {K : List Int} (hK : K ≠ []) : ∃ j y, K[j]? = some y ∧ (∀ z ∈ K, f z ≤ f y) ∧ (K.map fun z => (f z : Int)).idxOf (f y : Int) = j := by
    obtain ⟨y, hy, hm⟩ : ∃ y ∈ K, ∀ z ∈ K, f z ≤ f y := by
      have : ∀ (l : List Int) (a : Int), ∃ y ∈ a :: l, ∀ z ∈ a :: l, f z ≤ f y := by
        intro l
        induction l with
        | nil => intro a; exact ⟨a, by simp, by simp⟩
        | cons b l ih =>
          intro a
          obtain ⟨y, hy, hm⟩ := ih b
          by_cases h : f a ≤ f y
          · refine ⟨y, List.mem_cons_of_mem _ hy, fun z hz => ?_⟩
            rcases List.mem_cons.mp hz with e | e
            · rw [e]; exact h
            · exact hm z e
          · refine ⟨a, by simp, fun z hz => ?_⟩
            rcases List.mem_cons.mp hz with e | e
            · rw [e]; exact Nat.le_refl _
            · have := hm z e; omega
      cases K with
      | nil => exact absurd rfl hK
      | cons a l => exact this l a
    have hin : (f y : Int) ∈ K.map fun z => (f z : Int) := List.mem_map.mpr ⟨y, hy, rfl⟩
    have hlt := List.idxOf_lt_length_iff.mpr hin
    have hlt2 : (K.map fun z => (f z : Int)).idxOf (f y : Int) < K.length := by rw [List.length_map] at hlt; exact hlt
    have he : (K.map fun z => (f z : Int))[(K.map fun z => (f z : Int)).idxOf (f y : Int)] = (f y : Int) := List.getElem_idxOf hlt
    rw [List.getElem_map] at he
    refine ⟨_, _, List.getElem?_eq_getElem hlt2, fun z hz => ?_, ?_⟩
    · have := hm z hz
      omega
    · rw [he]
end Cw
namespace Cw
theorem erase_at : ∀ {l : List Int} {j : Nat}, l.Nodup → ∀ h : j < l.length, l.eraseIdx j = l.erase l[j]
  | [], _, _, h => absurd h (Nat.not_lt_zero _)
  | a :: l, 0, _, _ => by simp
  | a :: l, j + 1, nd, h => by
    rw [List.nodup_cons] at nd
    have hj : j < l.length := by simpa using h
    have hne : a ≠ l[j] := fun e => nd.1 (by rw [e]; exact List.getElem_mem hj)
    rw [List.eraseIdx_cons_succ, List.getElem_cons_succ, List.erase_cons_tail (by simpa using hne), erase_at nd.2 hj]
end Cw

namespace Cw
open PySem L2
/-! an own exception: made, raised, caught, asked in a def that the suite calls -/
section
open PySem.Spec PyProof.Rows PySem.W
/-- a def that is handed the exception which the suite holds: a its address, c its class, d its dict -/
structure FnX (P : Program) (w : World) (K : PySem.W.Frag) (mg : Str → Option Value) (base : Heap) (CX : CXT) (k : Nat) (f : Addr) (fd : FuncData) (ps : List Str) (sp : Addr → Value → Option Addr → Sp) : Prop where
  len : ∀ a c d vs H Q E, sp a c d vs H Q E → vs.length = ps.length
  run : ∀ (A : Around) (outer : List Env) (s : Shared) (H : Hp) (args : Args) (us : List Value) (vs : List V) (Q : VK) (E : XK) (p : Addr × Obj) (c : Value) (d : Option Addr), L2H.RoomH k A → Zc c d p.2 → (∃ vs, p.2.data = .fields vs) → L2H.PinOk outer H s p → Env0 P w K mg base A outer s H →
    BindsTo s fd args (ps.zip us) → Vals vs us → sp p.1 c d vs H Q E → codeAny (model P w) A (.call (.ref f) args) (CR CX outer P w H s Q E) s
theorem fn_ofX {P : Program} {w : World} {K : PySem.W.Frag} {mg : Str → Option Value} {base : Heap} {CX : CXT} {k : Nat} {f : Addr} {name qual : Str} {params : Arguments} {body : List Stmt} {scope : Scope} {dV kV doc pm cdv ct oc : Value} {an od : Option Addr}
    {osl : Array (Option Value)} {N ps : List Str} {sp : Addr → Value → Option Addr → Sp} (lk : K.lookup f = some ⟨oc, od, .func (PySem.W.fnOf name qual params body scope dV kV doc pm an cdv ct), osl⟩) (hcd : PySem.W.codeIn K cdv qual = true) (S : FnScope N ps scope)
    (len : ∀ a c d vs H Q E, sp a c d vs H Q E → vs.length = ps.length)
    (hbody : ∀ (A : Around) (outer : List Env) (s : Shared) (H : Hp) (vs : List V) (Q : VK) (E : XK) (p : Addr × Obj) (c : Value) (d : Option Addr), Zc c d p.2 → (∃ vs, p.2.data = .fields vs) → L2H.RoomH k (A.deeper (envOfC qual scope s.heap.objs.size f cdv)) → sp p.1 c d vs H Q E →
      ∃ t, PSs (L2H.cxH CX P w K mg base N qual scope f cdv A outer s H E p) body t ∧ t { nx := fun _ H' => Q .non H', rt := Q } (L2.start N vs) H) :
    FnX P w K mg base CX (k + 1) f (PySem.W.fnOf name qual params body scope dV kV doc pm an cdv ct) ps sp := by
  refine ⟨len, fun A outer s H args us vs Q E p c d hr hz hf hpin e0 hb r hsp => ?_⟩
  have hl := len _ _ _ _ _ _ _ hsp
  have KX : K.In s.heap := e0.mod.kin.keeps fun b o e => (e0.bs b o e).1
  have lim : s.heap.NoLimit := e0.mod.nolimit.keeps fun b o e => (e0.bs b o e).1
  have hkind : ∀ y ∈ ps.zip us, scope.names.lookup y.1 = some .local ∨ (scope.names.lookup y.1 = some .cell ∧ ((cellsFrom (s.heap.objs.size + 1) scope.names []).lookup y.1).isSome = true) := fun ⟨n, v⟩ hy => by
    rcases S.par n (List.of_mem_zip hy).1 with q | q
    · exact .inl q
    · exact .inr ⟨q, PySem.W.cellsFrom_some _ _ _ (.inl q)⟩
  refine codeAny_call_function hr.depth (KX _ _ lk) rfl S.co S.gen rfl (PySem.W.codeRec_of KX hcd) (hb _ _ _ _ ?_)
  refine wpAny_newFunctionEnv_cells S.kind hkind fun env he s1 x => ?_
  subst he
  refine ⟨lim.keeps x.toInCall.keep, codeAny_func ?_⟩
  obtain ⟨t, ht, hq⟩ := hbody A outer s H vs Q E p c d hz hf (hr.deeper _) hsp
  have I : Inv (L2H.cxH CX P w K mg base N qual scope f cdv A outer s H E p) [] (L2.start N vs) H s1 := L2H.inv_startH S hpin e0 hl r x
  refine wpAny_mono (ht.run [] s1 (L2.start N vs) H _ I hq) (fun fl s' hs => ?_) fun e s' hs => hs
  have fin : ∀ {σ' : L2.St} {H' : Hp} {v : V} {u : Value}, Inv (L2H.cxH CX P w K mg base N qual scope f cdv A outer s H E p) [] σ' H' s' → RelV v u → Q v H' → CE outer P w H s Q u s' :=
    fun {σ' H' v u} J rv q => ⟨v, H', J.os, J.bare, J.base, J.hok, rv, q⟩
  cases fl with
  | ret u =>
    obtain ⟨v, σ', H', J, rv, q⟩ := hs
    exact fin J rv q
  | next =>
    obtain ⟨σ', H', J, q⟩ := hs
    exact fin (v := V.non) (u := Value.none) J rfl q
  | brk =>
    obtain ⟨_, _, _, q⟩ := hs
    exact False.elim q
  | cont =>
    obtain ⟨_, _, _, q⟩ := hs
    exact False.elim q
section
variable {X : Cx} {CX : CXT} {k : Nat} {f C : Addr} {fd : FuncData} {ps : List Str} {E : XK} {x m : Str} {q pos apos : Pos} {e o : Expr} {es : List Expr} {ta : TE} {t : TA}
theorem run_fnX {sp : Sp} {spx : Addr → Value → Option Addr → Sp} {pins : List (Addr × Obj)} {σ : L2.St} {H : Hp} {s : Shared} {Q : VK} {us : List Value} {vs : List V} {p : Addr × Obj} {c : Value} {d : Option Addr} (F : FnX X.prog X.w X.K X.mg X.base CX k f fd ps spx) (hr : L2H.RoomH k X.A)
    (hp : p ∈ X.pn) (hz : Zc c d p.2) (hf : ∃ vs, p.2.data = .fields vs) (hb : Binds X.K fd ps []) (hx : Passes CX X E)
    (I : Inv X pins σ H s) (r : Vals vs us) (h : spx p.1 c d vs H Q E) : wpAny (model X.prog X.w) X.A (call (.ref f) us) (EP X pins σ Q) X.xe s := by
  have hl : us.length = ps.length := by rw [← r.length]; exact F.len _ _ _ _ _ _ _ h
  have b := hb s us I.kIn (by rw [List.append_nil]; exact hl)
  rw [List.append_nil] at b
  have P1 := I.pin p (List.mem_append_left _ hp)
  have hpin : L2H.PinOk X.stack H s p := ⟨P1.1, P1.2.1, fun hm => (List.mem_cons.mp (I.stkSub p.1 hm)).elim P1.2.2.1 P1.2.2.2.1, P1.2.2.2.2⟩
  refine wpAny_call (codeAny_mono (F.run X.A X.stack s H ⟨us, []⟩ us vs Q E p c d hr hz hf hpin I.env0 b r h) fun r s' hq => ?_)
  cases r with
  | error e => exact hx pins σ H s e s' I hq
  | ok fl =>
    cases fl with
    | ret u => exact I.after hq
    | next => exact False.elim hq
    | brk => exact False.elim hq
    | cont => exact False.elim hq
/-- the call, within the suite -/
theorem pe_callX {a : Addr} {oe : Obj} {c : Value} {d : Option Addr} {pn : List (Addr × Obj)} {spx : Addr → Value → Option Addr → Sp} (F : FnX X.prog X.w X.K X.mg X.base CX k f fd ps spx) (hr : L2H.RoomH k X.A) (hz : Zc c d oe) (hf : ∃ vs, oe.data = .fields vs)
    (hg : Gl (X.suite a ((a, oe) :: pn)) x) (hm : X.mg x = some (.ref f)) (hk : PySem.W.keepIn X.K (.ref f) = true) (hb : Binds X.K fd ps []) (hx : Passes CX (X.suite a ((a, oe) :: pn)) E)
    (ha : PA (X.suite a ((a, oe) :: pn)) (e :: es) t) (hdb : (x == ("__debug__" : Str)) = false := by decide) (he : starEach (e :: es) X.env = (false, eval e X.env) :: starEach es X.env := by rfl) (hpl : (backTo pos (starEach es X.env)).any (·.1) = false := by rfl) :
    PE (X.suite a ((a, oe) :: pn)) (.Call (.Name x q) (e :: es) [] pos) (tCall (spx a c d) [] E t) := by
  refine ⟨fun pins s σ H Q I h => ?_⟩
  refine wpAny_Call_Name_kw (ld_glob I hg hm ?_ hdb)
  refine PySem.W.callWith_K (h₀ := X.base) I.ok.mod.kin hk (thn (ha.run pos pins s σ H _ I h) fun us s1 ⟨vs, H1, I1, r, q⟩ => ⟨I1.kIn, ?_⟩) he hpl
  have q : spx a c d (vs ++ []) H1 Q E := q
  rw [List.append_nil] at q
  exact run_fnX (X := X.suite a ((a, oe) :: pn)) (sp := spx a c d) (p := (a, oe)) F ⟨hr.dp, hr.un⟩ List.mem_cons_self hz hf hb hx I1 r q
/-- isinstance(e, c), e the exception that is pinned -/
def rIsX (K : PySem.W.Frag) (D a : Addr) (d : Option Addr) : List V → Hp → VK → Prop := fun xs H Q => ∃ (c : V) (cv : Value) (b : Bool), xs = [.ref a, c] ∧ (∀ u, RelV c u → u = cv) ∧ PySem.W.kitOne K (.ref D) cv = some b ∧ (∀ dd, d = some dd → ∃ fs, H dd = some (.xd fs)) ∧ Q (.bl b) H
theorem call_isX {D : Addr} {d : Option Addr} {p : Addr × Obj} (T : L2.ExcC X.K D) (hp : p ∈ X.pn) (hz : Zc (.ref D) d p.2) (hf : ∃ vs, p.2.data = .fields vs) : CallR X (.builtin "isinstance") (rIsX X.K D p.1 d) := by
  intro pins s σ H xs us Q I r h
  obtain ⟨c, cv, b, rfl, hcv, e, hdd, q⟩ := h
  cases r with
  | cons rx rr =>
    cases rr with
    | @cons _ u0 _ _ rt rr =>
      cases rr
      cases rx
      have ec := hcv _ rt
      rw [← ec] at e
      obtain ⟨hget, _⟩ := I.pin p (List.mem_append.mpr (.inl hp))
      obtain ⟨vs, hv⟩ := hf
      have no : PySem.W.notCls p.2 = true := by unfold PySem.W.notCls; rw [hv]
      have hcl : (PySem.W.clsIn X.K D).isSome = true := by
        obtain ⟨cd, hc, _⟩ := PySem.W.any_some T.hd
        rw [hc]; rfl
      have go : ∀ od, PySem.W.InstAt s.heap p.1 p.2 D od → wpAny (model X.prog X.w) X.A (call (.builtin "isinstance") [.ref p.1, u0]) (EP X pins σ Q) X.xe s := fun od J =>
        PySem.W.kia_one (PySem.W.kitx_exc hcl T.hg T.hk T.hs T.ha T.hn T.ht T.hm) I.kIn J e (fun z => nomatch z) fun tk => ⟨.bl b, H, I.kept (t' := tk) fun _ _ z => z, rfl, q⟩
      cases d with
      | none => exact go none ⟨hget, hz.1, no, by rw [hz.2]; trivial⟩
      | some dd =>
        obtain ⟨fs, hx⟩ := hdd dd rfl
        have hx : ObjOk X.prog X.w H s.heap dd (.xd fs) := I.hok dd _ hx
        obtain ⟨mA, hns, hr⟩ := hx
        obtain ⟨od, ho, hl⟩ := lookIn_ns hns
        exact go (some od) ⟨hget, hz.1, no, by rw [hz.2]; exact ho⟩
/-- B.__init__(self, ..), B an own class that has ValueError's: nothing of it is told -/
theorem pe_ownInit {B : Addr} {pl : Sem Bool} (hg : Gl X x) (hm : X.mg x = some (.ref B)) (rd : PySem.W.readsIn X.K B (.type "type") = true) (ga : PySem.W.specialIn X.K (.ref B) "__getattribute__" = some (some (.builtin "type.__getattribute__")))
    (vV : PySem.W.findCls X.K (.ref B) (.type "type") "__init__" = some (.val (.builtin "ValueError.__init__"))) (ha : PA X (e :: es) t)
    {p1 p2 : Pos} (hdb : (x == ("__debug__" : Str)) = false := by decide)
    (hc : eval (.Call (.Attribute (.Name x p1) "__init__" p2) (e :: es) [] pos) X.env = (do
      let ov ← eval (.Name x p1) X.env
      standAt p2.atName
      let (f, first) ← holding [ov] (getMethod ov "__init__" pl)
      callWith pos f first (backTo pos (starEach (e :: es) X.env)) (backToKw pos (keywordEach [] X.env))) := by rfl)
    (he : starEach (e :: es) X.env = (false, eval e X.env) :: starEach es X.env := by rfl) (hpl : (backTo pos (starEach es X.env)).any (·.1) = false := by rfl) :
    PE X (.Call (.Attribute (.Name x p1) "__init__" p2) (e :: es) [] pos) (tVeI X.K t) := by
  refine ⟨fun pins s σ H Q I h => ?_⟩
  refine PySem.W.methodCall_KW (ld_glob I hg hm ?_ hdb) hc
  refine PySem.W.method_cls I.kIn ga (PySem.W.cls_value I.kIn rd vV (by decide +kernel) ?_)
  show wpAny _ _ (callWith pos (Value.builtin "ValueError.__init__") [] (backTo pos (starEach (e :: es) X.env)) []) _ _ _
  refine PyProof.Rows.callWith_method1 (thn (ha.run pos pins _ σ H _ (I.tok _) h) fun us s1 ⟨vs, H1, I1, r1, a, C, ws, ev, hl, T, ea, q⟩ => ?_) he hpl
  subst ev
  cases r1 with
  | @cons _ u0 _ ur ra rw' =>
    obtain rfl : u0 = Value.ref a := ra
    have hlen : ur.length ≤ sizeLine := by
      rw [← Paired.length rw', sizeLine_eq]
      omega
    exact oinit_ok T I1 ea hlen fun s' J => ⟨.non, H1, J, rfl, q⟩
/-- o.m(e, ..) that may raise -/
def tMethX (C : Addr) (m : Str) (sp : Sp) (E : L2.St → XK) (ta : TE) (t : TA) : TE := fun σ H Q => ta σ H fun x H1 => ∃ a dx fs, x = .ref a ∧ H1 a = some (.ins C dx fs) ∧ fs.lookup m = none ∧ t σ H1 fun vs H2 => sp (x :: vs) H2 Q (E σ)
theorem pe_methX {sp : Sp} {E : L2.St → XK} {pl : Sem Bool} (he : PE X o ta) (c : Cls X.K C) (hm : Meth X.K C m f) (F : FnOk X.prog X.w X.K X.mg X.base CX k f fd ps sp) (hr : Room k X.A) (hb : Binds X.K fd ps []) (hx : ∀ σ, PassesAt CX X σ (E σ)) (ha : PA X (e :: es) t)
    (hst : starEach (e :: es) X.env = (false, eval e X.env) :: starEach es X.env := by rfl) (hpl : (backTo pos (starEach es X.env)).any (·.1) = false := by rfl)
    (ht : eval (.Call (.Attribute o m apos) (e :: es) [] pos) X.env = (do
      let ov ← eval o X.env
      standAt apos.atName
      let (f, first) ← holding [ov] (getMethod ov m pl)
      callWith pos f first (backTo pos (starEach (e :: es) X.env)) (backToKw pos (keywordEach [] X.env))) := by rfl) :
    PE X (.Call (.Attribute o m apos) (e :: es) [] pos) (tMethX C m sp E ta t) := by
  refine ⟨fun pins s σ H Q I h => ?_⟩
  refine PySem.W.methodCall_KW (pl := pl) (thn (he.run pins s σ H _ I h) fun u s1 ⟨x, H1, I1, rx, a, dx, fs, ex, ea, l, q⟩ => ?_) ht
  subst ex
  obtain rfl : u = Value.ref a := rx
  refine getmeth_ok I1 ea c hm l ?_
  refine PySem.W.callWith_K (first := [.ref a]) (h₀ := X.base) I.ok.mod.kin hm.kp (thn (ha.run pos pins s1 σ H1 _ I1 q) fun us s2 ⟨vs, H2, I2, r, q2⟩ => ⟨I2.kIn, ?_⟩) hst hpl
  exact run_fnS (us := .ref a :: us) (vs := .ref a :: vs) F hr hb (hx σ) I2 (.cons rfl r) q2
end
/-- a def that is handed the caught exception, by its body -/
theorem fun_okH {P : Program} {w : World} {K : PySem.W.Frag} {mg : Str → Option Value} {base : Heap} {x qual : Str} {st : Stmt} {f : Addr} {fd : FuncData} {N ps : List Str} {k : Nat} {sp : Addr → Value → Option Addr → Sp} (F : Fun K x qual st f fd) (S : FnScope N ps (defScope st))
    (len : ∀ a c d vs H Q E, sp a c d vs H Q E → vs.length = ps.length)
    (hbody : ∀ (cdv : Value) (A : Around) (outer : List Env) (s : Shared) (H : Hp) (vs : List V) (Q : VK) (E : XK) (p : Addr × Obj) (c : Value) (d : Option Addr), Zc c d p.2 → (∃ vs, p.2.data = .fields vs) → L2H.RoomH k (A.deeper (envOfC qual (defScope st) s.heap.objs.size f cdv)) → sp p.1 c d vs H Q E →
      ∃ t, PSs (L2H.cxH CX0 P w K mg base N qual (defScope st) f cdv A outer s H E p).nox (defBody st) t ∧ t { nx := fun _ H' => Q .non H', rt := Q } (L2.start N vs) H) : FnX P w K mg base CX0 (k + 1) f fd ps sp := by
  obtain ⟨oc, od, kV, doc, pm, an, cdv, ct, osl, rfl, lk, hcd⟩ := F.ex
  refine fn_ofX lk hcd S len fun A outer s H vs Q E p c d hz hf hr hsp => ?_
  obtain ⟨t, h, q⟩ := hbody cdv A outer s H vs Q E p c d hz hf hr hsp
  exact ⟨t, h.nox, q⟩
/-- two promises in one -/
theorem fn_or {P : Program} {w : World} {K : PySem.W.Frag} {mg : Str → Option Value} {base : Heap} {CX : CXT} {j k : Nat} {f : Addr} {fd : FuncData} {ps : List Str} {s0 s1 : Sp} (F0 : FnOk P w K mg base CX0 j f fd ps s0) (F1 : FnOk P w K mg base CX k f fd ps s1) (h : j ≤ k) :
    FnOk P w K mg base CX k f fd ps (fun vs H Q E => s0 vs H Q E ∨ s1 vs H Q E) := by
  refine ⟨fun vs H Q E z => z.elim (F0.len _ _ _ _) (F1.len _ _ _ _), fun A outer s H args us vs Q E hr e0 hb r z => ?_⟩
  rcases z with z | z
  · refine codeAny_mono (F0.run A outer s H args us vs Q E (hr.mono h) e0 hb r z) fun r s' hq => ?_
    cases r with
    | error e => exact False.elim hq
    | ok fl => cases fl <;> exact hq
  · exact F1.run A outer s H args us vs Q E hr e0 hb r z
theorem kit_ref {K : PySem.W.Frag} {C : Addr} {t : Value} {b : Bool} (hc : PySem.W.isClsIn K C = true) (ht : PySem.W.typeIn K (.ref C) = some (.type "type")) (hs : PySem.W.subIn K t (.ref C) = some b) (hn : (t == .ref C) = true → b = true) : PySem.W.kitOne K t (.ref C) = some b := by
  unfold PySem.W.kitOne
  split
  · rename_i z
    rw [hn z]
  · have e2 : ((PySem.W.clsIn K C).isSome && PySem.W.typeIn K (.ref C) == some (.type "type")) = true := by
      have h2' : (PySem.W.clsIn K C).isSome = true := hc
      rw [h2', ht] <;> rfl
    show (if ((PySem.W.clsIn K C).isSome && PySem.W.typeIn K (.ref C) == some (.type "type")) = true then _ else none) = _
    rw [if_pos e2]
    exact hs
theorem kit_VE {K : PySem.W.Frag} {D : Addr} {b : Bool} (hs : PySem.W.subIn K (.ref D) (.type "ValueError") = some b) : PySem.W.kitOne K (.ref D) (.type "ValueError") = some b := by
  unfold PySem.W.kitOne
  rw [if_neg (by simp)]
  show (if PySem.W.kitMeta "ValueError" = true then _ else none) = _
  rw [if_pos (by decide +kernel)]
  exact hs
/-- what is said of a class of one's own that names errors -/
structure ErrC (K : PySem.W.Frag) (C : Addr) : Prop where
  ex : PySem.W.subIn K (.ref C) (.type "BaseException") = some true
  hd : PySem.W.hasDictIn K C = true
  ty : PySem.W.typeIn K (.ref C) = some (.type "type")
  ic : PySem.W.isClsIn K C = true
theorem ErrC.exm {K : PySem.W.Frag} {C : Addr} {t : Value} {b : Bool} (h : ErrC K C) (hs : PySem.W.subIn K t (.ref C) = some b) : PySem.W.exmOne K t (.ref C) = some b := PySem.W.exm_ref h.ex h.hd h.ty hs
theorem ErrC.kit {K : PySem.W.Frag} {C : Addr} {t : Value} {b : Bool} (h : ErrC K C) (hs : PySem.W.subIn K t (.ref C) = some b) (hn : (t == .ref C) = true → b = true) : PySem.W.kitOne K t (.ref C) = some b := kit_ref h.ic h.ty hs hn
/-- .. of which there are instances here -/
structure ErrI (K : PySem.W.Frag) (C : Addr) : Prop extends ErrC K C where
  ga : PySem.W.findIn K (.ref C) "__getattribute__" = some (some (.builtin "BaseException.__getattribute__"))
  gg : PySem.W.findIn K (.ref C) "__getattr__" = some none
  ca : PySem.W.findIn K (.ref C) "__class__" = some (some (.builtin "object.__class__"))
  cn : PySem.W.specialIn K (.builtin "object.__class__") "__get__" = some (some (.builtin "getset_descriptor.__get__"))
  ct : PySem.W.takesIn K (.builtin "object.__class__") = some true
  mo : PySem.W.mroIn K C (.type "object") = some true
theorem ErrI.isE {K : PySem.W.Frag} {C : Addr} (h : ErrI K C) : L2.ExcC K C := ⟨h.ga, h.gg, h.ex, h.hd, h.ca, h.cn, h.ct, h.mo⟩
theorem ErrI.xf {K : PySem.W.Frag} {C : Addr} (h : ErrI K C) : XfC K C := ⟨h.ga, h.gg, h.ex, h.hd⟩
theorem kIsX {X : Cx} {K : PySem.W.Frag} {D : Addr} {d : Option Addr} {p : Addr × Obj} (h : X.K = K) (T : L2.ExcC K D) (hp : p ∈ X.pn) (hz : Zc (.ref D) d p.2) (hf : ∃ vs, p.2.data = .fields vs) : CallR X (.builtin "isinstance") (rIsX K D p.1 d) := by
  subst h
  exact call_isX T hp hz hf
theorem w_isX {K : PySem.W.Frag} {H : Hp} {Q : VK} {D C a : Addr} {d : Option Addr} {b : Bool} (e : PySem.W.kitOne K (.ref D) (.ref C) = some b) (hd : ∀ dd, d = some dd → ∃ fs, H dd = some (.xd fs)) (q : Q (.bl b) H) : rIsX K D a d [.ref a, .ref C] H Q :=
  ⟨_, _, b, rfl, fun u r => r, e, hd, q⟩
theorem w_isXT {K : PySem.W.Frag} {H : Hp} {Q : VK} {D a : Addr} {T : String} {d : Option Addr} {b : Bool} (e : PySem.W.kitOne K (.ref D) (.type T) = some b) (hd : ∀ dd, d = some dd → ∃ fs, H dd = some (.xd fs)) (q : Q (.bl b) H) : rIsX K D a d [.ref a, .ty T] H Q :=
  ⟨_, _, b, rfl, fun u r => r, e, hd, q⟩
/-- two classes apart -/
theorem cls_ne {K : PySem.W.Frag} {D C : Addr} {b : Bool} (h1 : PySem.W.subIn K (.ref D) (.ref D) = some true) (h2 : PySem.W.subIn K (.ref D) (.ref C) = some b) : (Value.ref D == Value.ref C) = true → b = true := fun z => by
  have e : Value.ref D = Value.ref C := beq_iff_eq.mp z
  rw [← e, h1] at h2
  exact (Option.some.inj h2).symm
end
end Cw

namespace Cw
open PySem L2
/-! the text by places -/
def top (i : Nat) : Stmt := PySem.Challenge.pw_clockhand_k02_the_hand.main.body.getD i (.Pass ⟨0, 0, 0, 0⟩)
abbrev s_BadRow_init : Stmt := inClass (top 3) 0
abbrev N_BadRow_init : List Str := ["self", "place"]
theorem sc_BadRow_init : FnScope N_BadRow_init ["self", "place"] (defScope s_BadRow_init) := ⟨rfl, rfl, rfl, by decide +kernel, rfl, by decide +kernel, by decide +kernel⟩
abbrev s_need_rooms : Stmt := top 10
abbrev N_need_rooms : List Str := ["rooms"]
theorem sc_need_rooms : FnScope N_need_rooms ["rooms"] (defScope s_need_rooms) := ⟨rfl, rfl, rfl, by decide +kernel, rfl, by decide +kernel, by decide +kernel⟩
abbrev s_is_page : Stmt := top 11
abbrev N_is_page : List Str := ["page"]
theorem sc_is_page : FnScope N_is_page ["page"] (defScope s_is_page) := ⟨rfl, rfl, rfl, by decide +kernel, rfl, by decide +kernel, by decide +kernel⟩
abbrev s_need_row : Stmt := top 12
abbrev N_need_row : List Str := ["row", "place", "page"]
theorem sc_need_row : FnScope N_need_row ["row"] (defScope s_need_row) := ⟨rfl, rfl, rfl, by decide +kernel, rfl, by decide +kernel, by decide +kernel⟩
abbrev s_need_both : Stmt := top 13
abbrev N_need_both : List Str := ["rooms", "row"]
theorem sc_need_both : FnScope N_need_both ["rooms", "row"] (defScope s_need_both) := ⟨rfl, rfl, rfl, by decide +kernel, rfl, by decide +kernel, by decide +kernel⟩
abbrev s_Dial_init : Stmt := inClass (top 15) 0
abbrev N_Dial_init : List Str := ["self", "rooms", "room"]
theorem sc_Dial_init : FnScope N_Dial_init ["self", "rooms"] (defScope s_Dial_init) := ⟨rfl, rfl, rfl, by decide +kernel, rfl, by decide +kernel, by decide +kernel⟩
abbrev s_Dial_ask : Stmt := inClass (top 15) 1
abbrev N_Dial_ask : List Str := ["self", "page", "passed", "gone"]
theorem sc_Dial_ask : FnScope N_Dial_ask ["self", "page"] (defScope s_Dial_ask) := ⟨rfl, rfl, rfl, by decide +kernel, rfl, by decide +kernel, by decide +kernel⟩
abbrev s_Dial_pages : Stmt := inClass (top 15) 2
abbrev N_Dial_pages : List Str := ["self"]
theorem sc_Dial_pages : FnScope N_Dial_pages ["self"] (defScope s_Dial_pages) := ⟨rfl, rfl, rfl, by decide +kernel, rfl, by decide +kernel, by decide +kernel⟩
abbrev s_Dial_looked : Stmt := inClass (top 15) 3
abbrev N_Dial_looked : List Str := ["self"]
theorem sc_Dial_looked : FnScope N_Dial_looked ["self"] (defScope s_Dial_looked) := ⟨rfl, rfl, rfl, by decide +kernel, rfl, by decide +kernel, by decide +kernel⟩
abbrev s_Dial_points : Stmt := inClass (top 15) 4
abbrev N_Dial_points : List Str := ["self"]
theorem sc_Dial_points : FnScope N_Dial_points ["self"] (defScope s_Dial_points) := ⟨rfl, rfl, rfl, by decide +kernel, rfl, by decide +kernel, by decide +kernel⟩
abbrev s_Dial_lacked : Stmt := inClass (top 15) 5
abbrev N_Dial_lacked : List Str := ["self"]
theorem sc_Dial_lacked : FnScope N_Dial_lacked ["self"] (defScope s_Dial_lacked) := ⟨rfl, rfl, rfl, by decide +kernel, rfl, by decide +kernel, by decide +kernel⟩
abbrev s_round_told : Stmt := top 16
abbrev N_round_told : List Str := ["rooms", "row", "dial", "page"]
theorem sc_round_told : FnScope N_round_told ["rooms", "row"] (defScope s_round_told) := ⟨rfl, rfl, rfl, by decide +kernel, rfl, by decide +kernel, by decide +kernel⟩
abbrev s_told : Stmt := top 17
abbrev N_told : List Str := ["rooms", "row"]
theorem sc_told : FnScope N_told ["rooms", "row"] (defScope s_told) := ⟨rfl, rfl, rfl, by decide +kernel, rfl, by decide +kernel, by decide +kernel⟩
abbrev s_l_begun : Stmt := top 19
abbrev N_l_begun : List Str := ["_law_script", "_law_stirred", "_law_cell"]
theorem sc_l_begun : FnScope N_l_begun ["_law_script"] (defScope s_l_begun) := ⟨rfl, rfl, rfl, by decide +kernel, rfl, by decide +kernel, by decide +kernel⟩
abbrev s_l_take : Stmt := top 20
abbrev N_l_take : List Str := ["_law_box", "_law_many", "_law_number"]
theorem sc_l_take : FnScope N_l_take ["_law_box", "_law_many"] (defScope s_l_take) := ⟨rfl, rfl, rfl, by decide +kernel, rfl, by decide +kernel, by decide +kernel⟩
abbrev s_l_alike : Stmt := top 21
abbrev N_l_alike : List Str := ["_law_found", "_law_due", "_law_k"]
theorem sc_l_alike : FnScope N_l_alike ["_law_found", "_law_due"] (defScope s_l_alike) := ⟨rfl, rfl, rfl, by decide +kernel, rfl, by decide +kernel, by decide +kernel⟩
abbrev s_l_class : Stmt := top 22
abbrev N_l_class : List Str := ["_law_e", "_law_kinds", "_law_words"]
theorem sc_l_class : FnScope N_l_class ["_law_e"] (defScope s_l_class) := ⟨rfl, rfl, rfl, by decide +kernel, rfl, by decide +kernel, by decide +kernel⟩
abbrev s_l_row : Stmt := top 23
abbrev N_l_row : List Str := ["_law_box", "_law_most", "_law_pages", "_law_found", "_law_way", "_law_turn", "_law_page"]
theorem sc_l_row : FnScope N_l_row ["_law_box", "_law_most"] (defScope s_l_row) := ⟨rfl, rfl, rfl, by decide +kernel, rfl, by decide +kernel, by decide +kernel⟩
abbrev s_l_dial : Stmt := top 24
abbrev N_l_dial : List Str := ["_law_rooms"]
theorem sc_l_dial : FnScope N_l_dial ["_law_rooms"] (defScope s_l_dial) := ⟨rfl, rfl, rfl, by decide +kernel, rfl, by decide +kernel, by decide +kernel⟩
abbrev s_l_ask : Stmt := top 25
abbrev N_l_ask : List Str := ["_law_dial_here", "_law_page", "_law_rooms", "_law_passed", "_law_at", "_law_gone"]
theorem sc_l_ask : FnScope N_l_ask ["_law_dial_here", "_law_page"] (defScope s_l_ask) := ⟨rfl, rfl, rfl, by decide +kernel, rfl, by decide +kernel, by decide +kernel⟩
abbrev s_l_told : Stmt := top 26
abbrev N_l_told : List Str := ["_law_dial_here", "_law_page", "_law_e", "_law_word"]
theorem sc_l_told : FnScope N_l_told ["_law_dial_here", "_law_page"] (defScope s_l_told) := ⟨rfl, rfl, rfl, by decide +kernel, rfl, by decide +kernel, by decide +kernel⟩
abbrev s_l_is : Stmt := top 27
abbrev N_l_is : List Str := ["_law_dial_here", "_law_due", "_law_again", "_law_found"]
theorem sc_l_is : FnScope N_l_is ["_law_dial_here", "_law_due"] (defScope s_l_is) := ⟨rfl, rfl, rfl, by decide +kernel, rfl, by decide +kernel, by decide +kernel⟩
abbrev s_l_law : Stmt := top 28
abbrev N_l_law : List Str := ["_law_script", "_law_box", "_law_rooms", "_law_dials", "_law_dues", "_law_row_here", "_law_page", "_law_anew", "_law_due", "_law_handed", "_law_again", "_law_side", "_law_out", "_law_found"]
theorem sc_l_law : FnScope N_l_law ["_law_script"] (defScope s_l_law) := ⟨rfl, rfl, rfl, by decide +kernel, rfl, by decide +kernel, by decide +kernel⟩
/-- where the defs stand -/
structure Ad where
  a_BadRow_init : Addr
  d_BadRow_init : FuncData
  a_need_rooms : Addr
  d_need_rooms : FuncData
  a_is_page : Addr
  d_is_page : FuncData
  a_need_row : Addr
  d_need_row : FuncData
  a_need_both : Addr
  d_need_both : FuncData
  a_Dial_init : Addr
  d_Dial_init : FuncData
  a_Dial_ask : Addr
  d_Dial_ask : FuncData
  a_Dial_pages : Addr
  d_Dial_pages : FuncData
  a_Dial_looked : Addr
  d_Dial_looked : FuncData
  a_Dial_points : Addr
  d_Dial_points : FuncData
  a_Dial_lacked : Addr
  d_Dial_lacked : FuncData
  a_round_told : Addr
  d_round_told : FuncData
  a_told : Addr
  d_told : FuncData
  a_l_begun : Addr
  d_l_begun : FuncData
  a_l_take : Addr
  d_l_take : FuncData
  a_l_alike : Addr
  d_l_alike : FuncData
  a_l_class : Addr
  d_l_class : FuncData
  a_l_row : Addr
  d_l_row : FuncData
  a_l_dial : Addr
  d_l_dial : FuncData
  a_l_ask : Addr
  d_l_ask : FuncData
  a_l_told : Addr
  d_l_told : FuncData
  a_l_is : Addr
  d_l_is : FuncData
  a_l_law : Addr
  d_l_law : FuncData
  t_MOST_ROOMS : Tok
  t_MOST_PAGES : Tok
  t_MOST_ASKS : Tok
  C_Dial : Addr
  C_PageError : Addr
  C_BadRooms : Addr
  C_BadRow : Addr
  C_BadRule : Addr
  C_TooMany : Addr
/-- what the top has written -/
structure Txt (K : PySem.W.Frag) (mg : Str → Option Value) (ad : Ad) : Prop where
  F_BadRow_init : Fun K "__init__" "BadRow.__init__" s_BadRow_init ad.a_BadRow_init ad.d_BadRow_init
  b_BadRow_init : Binds K ad.d_BadRow_init ["self", "place"] []
  ii_BadRow : PySem.W.findIn K (.ref ad.C_BadRow) "__init__" = some (some (.ref ad.a_BadRow_init))
  ti_BadRow : PySem.W.typeIn K (.ref ad.a_BadRow_init) = some (.type "function")
  F_need_rooms : Fun K "need_rooms" "need_rooms" s_need_rooms ad.a_need_rooms ad.d_need_rooms
  b_need_rooms : Binds K ad.d_need_rooms ["rooms"] []
  m_need_rooms : mg "need_rooms" = some (.ref ad.a_need_rooms)
  F_is_page : Fun K "is_page" "is_page" s_is_page ad.a_is_page ad.d_is_page
  b_is_page : Binds K ad.d_is_page ["page"] []
  m_is_page : mg "is_page" = some (.ref ad.a_is_page)
  F_need_row : Fun K "need_row" "need_row" s_need_row ad.a_need_row ad.d_need_row
  b_need_row : Binds K ad.d_need_row ["row"] []
  m_need_row : mg "need_row" = some (.ref ad.a_need_row)
  F_need_both : Fun K "need_both" "need_both" s_need_both ad.a_need_both ad.d_need_both
  b_need_both : Binds K ad.d_need_both ["rooms", "row"] []
  m_need_both : mg "need_both" = some (.ref ad.a_need_both)
  F_Dial_init : Fun K "__init__" "Dial.__init__" s_Dial_init ad.a_Dial_init ad.d_Dial_init
  b_Dial_init : Binds K ad.d_Dial_init ["self", "rooms"] []
  mk_Dial : Mk K ad.C_Dial ad.a_Dial_init
  F_Dial_ask : Fun K "ask" "Dial.ask" s_Dial_ask ad.a_Dial_ask ad.d_Dial_ask
  b_Dial_ask : Binds K ad.d_Dial_ask ["self", "page"] []
  mt_Dial_ask : Meth K ad.C_Dial "ask" ad.a_Dial_ask
  F_Dial_pages : Fun K "pages" "Dial.pages" s_Dial_pages ad.a_Dial_pages ad.d_Dial_pages
  b_Dial_pages : Binds K ad.d_Dial_pages ["self"] []
  mt_Dial_pages : Meth K ad.C_Dial "pages" ad.a_Dial_pages
  F_Dial_looked : Fun K "looked" "Dial.looked" s_Dial_looked ad.a_Dial_looked ad.d_Dial_looked
  b_Dial_looked : Binds K ad.d_Dial_looked ["self"] []
  mt_Dial_looked : Meth K ad.C_Dial "looked" ad.a_Dial_looked
  F_Dial_points : Fun K "points" "Dial.points" s_Dial_points ad.a_Dial_points ad.d_Dial_points
  b_Dial_points : Binds K ad.d_Dial_points ["self"] []
  mt_Dial_points : Meth K ad.C_Dial "points" ad.a_Dial_points
  F_Dial_lacked : Fun K "lacked" "Dial.lacked" s_Dial_lacked ad.a_Dial_lacked ad.d_Dial_lacked
  b_Dial_lacked : Binds K ad.d_Dial_lacked ["self"] []
  mt_Dial_lacked : Meth K ad.C_Dial "lacked" ad.a_Dial_lacked
  F_round_told : Fun K "round_told" "round_told" s_round_told ad.a_round_told ad.d_round_told
  b_round_told : Binds K ad.d_round_told ["rooms", "row"] []
  m_round_told : mg "round_told" = some (.ref ad.a_round_told)
  F_told : Fun K "told" "told" s_told ad.a_told ad.d_told
  b_told : Binds K ad.d_told ["rooms", "row"] []
  m_told : mg "told" = some (.ref ad.a_told)
  F_l_begun : Fun K "_law_begun" "_law_begun" s_l_begun ad.a_l_begun ad.d_l_begun
  b_l_begun : Binds K ad.d_l_begun ["_law_script"] []
  m_l_begun : mg "_law_begun" = some (.ref ad.a_l_begun)
  F_l_take : Fun K "_law_take" "_law_take" s_l_take ad.a_l_take ad.d_l_take
  b_l_take : Binds K ad.d_l_take ["_law_box", "_law_many"] []
  m_l_take : mg "_law_take" = some (.ref ad.a_l_take)
  F_l_alike : Fun K "_law_alike" "_law_alike" s_l_alike ad.a_l_alike ad.d_l_alike
  b_l_alike : Binds K ad.d_l_alike ["_law_found", "_law_due"] []
  m_l_alike : mg "_law_alike" = some (.ref ad.a_l_alike)
  F_l_class : Fun K "_law_class" "_law_class" s_l_class ad.a_l_class ad.d_l_class
  b_l_class : Binds K ad.d_l_class ["_law_e"] []
  m_l_class : mg "_law_class" = some (.ref ad.a_l_class)
  F_l_row : Fun K "_law_row" "_law_row" s_l_row ad.a_l_row ad.d_l_row
  b_l_row : Binds K ad.d_l_row ["_law_box", "_law_most"] []
  m_l_row : mg "_law_row" = some (.ref ad.a_l_row)
  F_l_dial : Fun K "_law_dial" "_law_dial" s_l_dial ad.a_l_dial ad.d_l_dial
  b_l_dial : Binds K ad.d_l_dial ["_law_rooms"] []
  m_l_dial : mg "_law_dial" = some (.ref ad.a_l_dial)
  F_l_ask : Fun K "_law_ask" "_law_ask" s_l_ask ad.a_l_ask ad.d_l_ask
  b_l_ask : Binds K ad.d_l_ask ["_law_dial_here", "_law_page"] []
  m_l_ask : mg "_law_ask" = some (.ref ad.a_l_ask)
  F_l_told : Fun K "_law_told" "_law_told" s_l_told ad.a_l_told ad.d_l_told
  b_l_told : Binds K ad.d_l_told ["_law_dial_here", "_law_page"] []
  m_l_told : mg "_law_told" = some (.ref ad.a_l_told)
  F_l_is : Fun K "_law_is" "_law_is" s_l_is ad.a_l_is ad.d_l_is
  b_l_is : Binds K ad.d_l_is ["_law_dial_here", "_law_due"] []
  m_l_is : mg "_law_is" = some (.ref ad.a_l_is)
  F_l_law : Fun K "law" "law" s_l_law ad.a_l_law ad.d_l_law
  b_l_law : Binds K ad.d_l_law ["_law_script"] []
  m_l_law : mg "law" = some (.ref ad.a_l_law)
  m_MOST_ROOMS : mg "MOST_ROOMS" = some (.int 8 ad.t_MOST_ROOMS)
  m_MOST_PAGES : mg "MOST_PAGES" = some (.int 12 ad.t_MOST_PAGES)
  m_MOST_ASKS : mg "MOST_ASKS" = some (.int 100 ad.t_MOST_ASKS)
  cl_Dial : Cls K ad.C_Dial
  m_Dial : mg "Dial" = some (.ref ad.C_Dial)
  n_Dial_here : NoAttr K ad.C_Dial "here"
  n_Dial_seen : NoAttr K ad.C_Dial "seen"
  n_Dial_hand : NoAttr K ad.C_Dial "hand"
  n_Dial_lacks : NoAttr K ad.C_Dial "lacks"
  m_PageError : mg "PageError" = some (.ref ad.C_PageError)
  er_PageError : ErrC K ad.C_PageError
  m_BadRooms : mg "BadRooms" = some (.ref ad.C_BadRooms)
  er_BadRooms : ErrC K ad.C_BadRooms
  m_BadRow : mg "BadRow" = some (.ref ad.C_BadRow)
  er_BadRow : ErrI K ad.C_BadRow
  s_BadRow_PageError : PySem.W.subIn K (.ref ad.C_BadRow) (.ref ad.C_PageError) = some true
  s_BadRow_BadRooms : PySem.W.subIn K (.ref ad.C_BadRow) (.ref ad.C_BadRooms) = some false
  s_BadRow_BadRow : PySem.W.subIn K (.ref ad.C_BadRow) (.ref ad.C_BadRow) = some true
  s_BadRow_BadRule : PySem.W.subIn K (.ref ad.C_BadRow) (.ref ad.C_BadRule) = some false
  s_BadRow_TooMany : PySem.W.subIn K (.ref ad.C_BadRow) (.ref ad.C_TooMany) = some false
  s_BadRow_VE : PySem.W.subIn K (.ref ad.C_BadRow) (.type "ValueError") = some true
  ox_BadRow : OexC K ad.C_BadRow
  n_BadRow_place : PySem.W.findIn K (.ref ad.C_BadRow) "place" = some none
  m_BadRule : mg "BadRule" = some (.ref ad.C_BadRule)
  er_BadRule : ErrC K ad.C_BadRule
  m_TooMany : mg "TooMany" = some (.ref ad.C_TooMany)
  er_TooMany : ErrC K ad.C_TooMany
  rd_PageError : PySem.W.readsIn K ad.C_PageError (.type "type") = true
  sg_PageError : PySem.W.specialIn K (.ref ad.C_PageError) "__getattribute__" = some (some (.builtin "type.__getattribute__"))
  fc_PageError : PySem.W.findCls K (.ref ad.C_PageError) (.type "type") "__init__" = some (.val (.builtin "ValueError.__init__"))
  z_ValueError : mg "ValueError" = none
  z_len : mg "len" = none
  z_int : mg "int" = none
  z_min : mg "min" = none
  z_list : mg "list" = none
  z_tuple : mg "tuple" = none
  z_isinstance : mg "isinstance" = none
  z_range : mg "range" = none
  z_enumerate : mg "enumerate" = none
  z_bool : mg "bool" = none
  z_str : mg "str" = none

/-! the stepping words: one row a key -/
local macro_rules | `(tactic| walk_at "cw ne") => `(tactic| first
  | assumption
  | ((with_reducible apply ne_s); assumption)
  | ((with_reducible apply ne_n); (· assumption); (walk_at "cw at"))
  | ((with_reducible apply ne_n'); (· assumption); (walk_at "cw at")))
local macro_rules | `(tactic| walk_at "cw at") => `(tactic| first
  | assumption
  | with_reducible exact upd_same
  | ((with_reducible apply at_ne); (· walk_at "cw ne"); (walk_at "cw at"))
  | ((with_reducible apply Fr.get0); (· assumption); (walk_at "cw at")))
local macro_rules | `(tactic| walk_at "cw sq") => `(tactic| first
  | assumption
  | ((with_reducible apply SqL.of); (walk_at "cw at"))
  | ((with_reducible apply SqT.of); (walk_at "cw at"))
  | ((with_reducible apply sq_new); (· walk_at "cw sq"); (· assumption))
  | ((with_reducible apply st_new); (· walk_at "cw sq"); (· assumption))
  | ((with_reducible apply Fr.seqL); (· assumption); (walk_at "cw sq"))
  | ((with_reducible apply Fr.seqT); (· assumption); (walk_at "cw sq")))
local macro_rules | `(tactic| walk_at "cw sz") => `(tactic| first
  | (show _ ≤ sizeLine; exact sz_le (by first | decide | omega | (simp only [List.length_append, List.length_map, List.length_cons, List.length_nil]; omega)))
  | (show _ < sizeLine; exact sz_lt (by first | decide | omega | (simp only [List.length_append, List.length_map, List.length_cons, List.length_nil]; omega))))
local macro_rules | `(tactic| walk_at "cw num") => `(tactic| first
  | ((with_reducible apply cpos_); omega)
  | ((with_reducible apply cdiv_) <;> omega)
  | ((with_reducible apply cmul_l) <;> omega)
  | ((with_reducible apply cmul_r) <;> omega))
local macro_rules | `(tactic| walk_at "cw ix") => `(tactic| first
  | exact rfl
  | assumption
  | with_reducible exact atI_0
  | exact atI_nat (by assumption))
local macro_rules | `(tactic| walk_at "cw ixn") => `(tactic| first
  | assumption
  | with_reducible exact ixN_0
  | with_reducible exact ixN_1
  | exact ixN_nat (by assumption))
local macro_rules | `(tactic| walk_at "cw set") => `(tactic| first
  | (simp only [List.set_cons_zero, List.set_cons_succ]; exact rfl)
  | exact rfl)
local macro_rules | `(tactic| walk_at "cw ty") => `(tactic| first
  | with_reducible exact .base .non
  | with_reducible exact .base (.bl _)
  | with_reducible exact .base (.int _)
  | with_reducible exact .base (.str _)
  | ((with_reducible apply ty_L); walk_at "cw sq")
  | ((with_reducible apply ty_T); walk_at "cw sq"))
local macro_rules | `(tactic| walk_at "cw kit") => `(tactic| first
  | with_reducible exact kb_NoneType_bool
  | with_reducible exact kb_NoneType_int
  | with_reducible exact kb_NoneType_str
  | with_reducible exact kb_NoneType_tuple
  | with_reducible exact kb_NoneType_list
  | with_reducible exact kb_bool_bool
  | with_reducible exact kb_bool_int
  | with_reducible exact kb_bool_str
  | with_reducible exact kb_bool_tuple
  | with_reducible exact kb_bool_list
  | with_reducible exact kb_int_bool
  | with_reducible exact kb_int_int
  | with_reducible exact kb_int_str
  | with_reducible exact kb_int_tuple
  | with_reducible exact kb_int_list
  | with_reducible exact kb_str_bool
  | with_reducible exact kb_str_int
  | with_reducible exact kb_str_str
  | with_reducible exact kb_str_tuple
  | with_reducible exact kb_str_list
  | with_reducible exact kb_list_bool
  | with_reducible exact kb_list_int
  | with_reducible exact kb_list_str
  | with_reducible exact kb_list_tuple
  | with_reducible exact kb_list_list
  | with_reducible exact kb_tuple_bool
  | with_reducible exact kb_tuple_int
  | with_reducible exact kb_tuple_str
  | with_reducible exact kb_tuple_tuple
  | with_reducible exact kb_tuple_list)
local macro_rules | `(tactic| walk_at "cw yes") => `(tactic| first
  | with_reducible rfl
  | assumption
  | omega)
local macro_rules | `(tactic| walk_at "cw no") => `(tactic| first
  | assumption
  | (intro cwh; cases cwh; done)
  | omega)
local macro_rules | `(tactic| walk_at "cw1") => `(tactic| first
  | with_reducible apply w_seq
  | with_reducible apply w_asg
  | with_reducible apply w_gn
  | ((with_reducible apply w_var); (· exact rfl))
  | with_reducible apply w_c
  | with_reducible apply w_op
  | with_reducible apply w_I0
  | ((with_reducible apply w_I); (· walk_at "cw num"))
  | with_reducible apply w_cb
  | with_reducible apply w_cons
  | with_reducible apply w_nil
  | with_reducible apply w_test
  | with_reducible apply w_B
  | with_reducible apply w_isbl
  | with_reducible apply w_ifS
  | with_reducible apply iteT
  | with_reducible apply iteF
  | with_reducible apply ite_nf
  | with_reducible apply ite_nt
  | with_reducible apply w_eqI
  | with_reducible apply w_neI
  | with_reducible apply w_eqB
  | with_reducible apply w_neB
  | with_reducible apply w_eqS
  | ((with_reducible apply w_ixL); (· walk_at "cw sq"); (· walk_at "cw ix"))
  | ((with_reducible apply w_ixT); (· walk_at "cw sq"); (· walk_at "cw ix"))
  | with_reducible apply w_and
  | with_reducible apply w_or
  | with_reducible apply w_not
  | with_reducible apply w_notV
  | with_reducible apply w_andV
  | with_reducible apply w_orV
  | with_reducible apply w_if
  | with_reducible apply w_isN
  | with_reducible apply w_notN
  | with_reducible apply w_chain
  | with_reducible apply w_un
  | with_reducible apply w_U
  | with_reducible apply w_drop
  | with_reducible apply w_ret
  | with_reducible apply w_next
  | with_reducible apply w_brk
  | with_reducible apply w_cont
  | with_reducible apply w_sub
  | ((with_reducible apply w_pop0); (· walk_at "cw at"); (· first | omega | (simp only [List.length_map]; omega)))
  | ((with_reducible apply w_gTup); (· walk_at "cw sq"); (· exact rfl))
  | with_reducible apply w_gCons
  | with_reducible apply w_gNil
  | with_reducible apply w_yes
  | ((with_reducible apply w_wipe); (· exact rfl))
  | with_reducible apply w_iEnum
  | with_reducible apply w_lc
  | with_reducible apply w_for
  | with_reducible apply w_iList
  | with_reducible apply w_iRng1
  | with_reducible apply w_iRng2
  | with_reducible apply w_lst
  | with_reducible apply w_tup
  | with_reducible apply w_call
  | with_reducible apply w_bm
  | with_reducible apply w_bm0
  | ((with_reducible apply w_tyL); (· walk_at "cw sq"))
  | ((with_reducible apply w_append); (· walk_at "cw at"); (· walk_at "cw sz"))
  | ((with_reducible apply w_lenL); (· walk_at "cw sq"))
  | ((with_reducible apply w_isi); (· walk_at "cw ty"); (· walk_at "cw kit"))
  | ((with_reducible apply w_lenT); (· walk_at "cw sq"))
  | ((with_reducible apply w_ixQL); (· walk_at "cw sq"); (· walk_at "cw ix"))
  | ((with_reducible apply w_ixQT); (· walk_at "cw sq"); (· walk_at "cw ix"))
  | ((with_reducible apply ite_dT); (· walk_at "cw yes"))
  | ((with_reducible apply ite_dF); (· walk_at "cw no"))
  | ((with_reducible apply ite_nT); (· walk_at "cw no"))
  | ((with_reducible apply ite_nF); (· walk_at "cw yes"))
  | with_reducible apply w_intB
  | with_reducible apply w_intI
  | with_reducible apply w_min2
  | ((with_reducible apply w_setL); (· walk_at "cw at"); (· walk_at "cw ixn"); (· walk_at "cw set"))
  | ((with_reducible apply w_listL); (· walk_at "cw sq"); intro lp lpn)
  | ((with_reducible apply w_new); (· walk_at "cw sz"); intro np npn)
  | ((with_reducible apply w_eqD0); (· walk_at "cw sq"); (· walk_at "cw sq"))
  | ((with_reducible apply w_neD0); (· walk_at "cw sq"); (· walk_at "cw sq"))
  | ((with_reducible apply w_neDI); (· walk_at "cw sq"); (· walk_at "cw sq"))
  | ((with_reducible apply w_eqDI); (· walk_at "cw sq"); (· walk_at "cw sq")))
local macro_rules | `(tactic| walk_at "cw") => `(tactic| repeat walk_at "cw1")
local macro_rules | `(tactic| walk_at "cw if") => `(tactic| first
  | with_reducible apply ite_d
  | with_reducible apply ite_nd
  | with_reducible apply ite_b)

local macro_rules | `(tactic| walk_at "cw attr") => `(tactic| first
  | with_reducible exact Txt.n_Dial_here (by assumption)
  | with_reducible exact Txt.n_Dial_seen (by assumption)
  | with_reducible exact Txt.n_Dial_hand (by assumption)
  | with_reducible exact Txt.n_Dial_lacks (by assumption))
local macro_rules | `(tactic| walk_at "cw lk") => `(tactic| first
  | with_reducible exact lk_here _ _ _ _
  | with_reducible exact lk_seen _ _ _ _
  | with_reducible exact lk_hand _ _ _ _
  | with_reducible exact lk_lacks _ _ _ _)
local macro_rules | `(tactic| walk_at "cw put") => `(tactic| first
  | with_reducible exact dfl_hand _ _ _ _ _
  | with_reducible exact dfl_lacks _ _ _ _ _)
local macro_rules | `(tactic| walk_at "cw dk") => `(tactic| first
  | with_reducible exact ddl_pages _ _ _ _
  | with_reducible exact ddl_marks _ _ _ _
  | with_reducible exact ddl_hand _ _ _ _
  | with_reducible exact ddl_lacks _ _ _ _)
local macro_rules | `(tactic| walk_at "cw dp") => `(tactic| first
  | with_reducible exact ddl_putH _ _ _ _ _
  | with_reducible exact ddl_putL _ _ _ _ _)
local macro_rules | `(tactic| walk_at "cw2") => `(tactic| first
  | walk_at "cw1"
  | with_reducible apply w_fld
  | ((with_reducible apply w_fldR); (· walk_at "cw at"); (· exact Txt.cl_Dial (by assumption)); (· walk_at "cw attr"); (· walk_at "cw lk"))
  | with_reducible apply w_sFld
  | ((with_reducible apply w_sFldR); (· walk_at "cw at"); (· exact Txt.cl_Dial (by assumption)); (· walk_at "cw attr"); (· exact dfl_len _ _ _ _); (· walk_at "cw put"))
  | with_reducible apply w_aug
  | ((with_reducible apply w_augR); (· walk_at "cw at"); (· exact Txt.cl_Dial (by assumption)); (· walk_at "cw attr"); (· walk_at "cw lk"))
  | with_reducible apply w_rAdd
  | ((with_reducible apply w_augS); (· walk_at "cw at"); (· exact dfl_len _ _ _ _); (· walk_at "cw put"))
  | ((with_reducible apply w_inI); (· walk_at "cw sq"))
  | ((with_reducible apply w_niI); (· walk_at "cw sq"))
  | with_reducible apply w_sl
  | with_reducible apply w_part
  | with_reducible apply w_nopart
  | with_reducible apply w_isInt
  | ((with_reducible apply w_slL); (· walk_at "cw sq"); intro slp slpn)
  | ((with_reducible apply w_cat); (· walk_at "cw at"); (· walk_at "cw at"); (· walk_at "cw sz"); intro ctp ctpn)
  | with_reducible apply w_dget
  | ((with_reducible apply w_dgetS); (· walk_at "cw at"); (· walk_at "cw dk"))
  | with_reducible apply w_dput
  | ((with_reducible apply w_dputS); (· walk_at "cw at"); (· exact ddl_len _ _ _ _); (· walk_at "cw dp"))
  | ((with_reducible apply w_rep); (· walk_at "cw at"); (· omega); (· omega); (· exact (by decide)); intro rpp rppn)
  | ((with_reducible apply w_disp); intro dpp dppn)
  | with_reducible apply w_pairs
  | with_reducible apply w_pairs0
  | with_reducible apply w_make
  | with_reducible apply w_meth)
local macro_rules | `(tactic| walk_at "cwd") => `(tactic| repeat walk_at "cw2")

local macro_rules | `(tactic| walk_at "cw3") => `(tactic| first
  | walk_at "cw2"
  | with_reducible apply w_lenSetD)
local macro_rules | `(tactic| walk_at "cws") => `(tactic| repeat walk_at "cw3")

local macro_rules | `(tactic| walk_at "cw len") => `(tactic| first
  | omega
  | (simp only [List.length_append, List.length_map, List.length_cons, List.length_nil] at *; omega))
local macro_rules | `(tactic| walk_at "cw4") => `(tactic| first
  | ((with_reducible apply w_slFrom); (· walk_at "cw sq"); intro slp slpn)
  | ((with_reducible apply w_slMid); (· walk_at "cw sq"); intro slp slpn)
  | ((with_reducible apply w_sorted); (· walk_at "cw sq"); (· walk_at "cw len"); intro srp srpn)
  | walk_at "cw3")
local macro_rules | `(tactic| walk_at "cwb") => `(tactic| repeat walk_at "cw4")

local macro_rules | `(tactic| walk_at "cw5") => `(tactic| first
  | ((with_reducible apply w_slLast); (· walk_at "cw sq"); intro slp slpn)
  | walk_at "cw4"
  | ((with_reducible apply w_dnewK); intro dkp dkpn)
  | with_reducible apply ite_some
  | with_reducible apply ite_none
  | with_reducible apply w_dIn
  | ((with_reducible apply w_dInI); (· walk_at "cw at"))
  | ((with_reducible apply w_dgetI); (· walk_at "cw at"); (· assumption))
  | ((with_reducible apply w_dputI); (· walk_at "cw at"); (· walk_at "cw sz"))
  | ((with_reducible apply w_setOf); (· walk_at "cw sq"); (· walk_at "cw len"); intro sop sopn soc socn)
  | ((with_reducible apply w_sortSet); (· walk_at "cw at"); (· walk_at "cw len"); intro ssp sspn))
local macro_rules | `(tactic| walk_at "cwp") => `(tactic| repeat walk_at "cw5")

local macro_rules | `(tactic| walk_at "cw6") => `(tactic| first
  | walk_at "cw5"
  | with_reducible apply w_iKeys
  | with_reducible apply w_iTup
  | ((with_reducible apply w_dnewT); intro dtp dtpn)
  | ((with_reducible apply w_disp1T); intro ddp ddpn)
  | ((with_reducible apply w_niT); (· walk_at "cw sq"))
  | ((with_reducible apply w_sortTI); (· walk_at "cw sq"); (· walk_at "cw len"); intro stp stpn)
  | ((with_reducible apply w_tupOf); (· walk_at "cw sq"); intro top topn)
  | with_reducible apply w_get2
  | ((with_reducible apply w_isD); (· walk_at "cw at"))
  | ((with_reducible apply w_getT); (· walk_at "cw at"); (· walk_at "cw at"))
  | ((with_reducible apply w_dgetF); (· walk_at "cw at"); (· walk_at "cw at"); (· assumption))
  | ((with_reducible apply w_dputT); (· walk_at "cw at"); (· walk_at "cw at"); (· walk_at "cw len")))
local macro_rules | `(tactic| walk_at "cwf") => `(tactic| repeat walk_at "cw6")

local macro_rules | `(tactic| walk_at "cw7") => `(tactic| first
  | walk_at "cw6"
  | ((with_reducible apply w_countB); (· walk_at "cw sq")))
local macro_rules | `(tactic| walk_at "cwk") => `(tactic| repeat walk_at "cw7")

section
variable {P : Program} {w : World} {K : PySem.W.Frag} {mg : Str → Option Value} {base : Heap} {ad : Ad}
/-! BadRow.__init__ -/
def sp_BadRow_init (C : Addr) : Sp := fun vs H Q _ => ∃ (a : Addr) (x : Int), vs = [.ref a, .int x] ∧ H a = some (exo a C none) ∧ ∀ d, H d = none → d ≠ a → Q .non (upd (upd H d (exd d [("place", .int x)])) a (exo a C (some d)))
theorem ok_BadRow_init (T : Txt K mg ad) : FnOk P w K mg base CX0 1 ad.a_BadRow_init ad.d_BadRow_init ["self", "place"] (sp_BadRow_init ad.C_BadRow) := by
  refine T.F_BadRow_init.ok sc_BadRow_init (fun vs H Q E h => ?_) (fun cdv A outer s H vs Q E hr h => ?_)
  · obtain ⟨a, x, rfl, _⟩ := h
    rfl
  obtain ⟨a, x, rfl, ha, k⟩ := h
  refine ⟨_, (pss_cons (ps_expr (pe_ownInit (by rfl) T.m_PageError T.rd_PageError T.sg_PageError T.fc_PageError (pa_cons (pv 0) (pa_cons pe_str pa_nil))))
    (pss_one (ps_ost (pv 0) (pv 1)))), ?_⟩
  try dsimp only [L2.cxOf, L2.Cx.nox]
  walk_at "cw"
  dsimp only [tVeI]
  walk_at "cw"
  refine ⟨a, ad.C_BadRow, _, rfl, by decide, T.ox_BadRow, ha, ?_⟩
  walk_at "cw"
  dsimp only [tOst]
  walk_at "cw"
  exact ⟨a, ad.C_BadRow, rfl, T.ox_BadRow, T.n_BadRow_place, .inl ⟨ha, fun d h1 h2 => k d h1 h2⟩⟩

/-! need_rooms -/
def sp_need_rooms : Sp := fun vs H Q _ => ∃ r : Int, vs = [.int r] ∧ 1 ≤ r ∧ r ≤ 8 ∧ Q .non H
theorem c_need_rooms {H : Hp} {Q : VK} {E : XK} {r : Int} (h1 : 1 ≤ r) (h2 : r ≤ 8) (q : Q .non H) : sp_need_rooms ([.int r] ++ []) H Q E := ⟨r, rfl, h1, h2, q⟩
theorem ok_need_rooms (T : Txt K mg ad) : FnOk P w K mg base CX0 1 ad.a_need_rooms ad.d_need_rooms ["rooms"] sp_need_rooms := by
  refine T.F_need_rooms.ok sc_need_rooms (fun vs H Q E h => ?_) (fun cdv A outer s H vs Q E hr h => ?_)
  · obtain ⟨r, rfl, _⟩ := h
    rfl
  obtain ⟨r, rfl, h1, h2, q⟩ := h
  refine ⟨_, (pss_one (ps_if (pt_not (pt_chain op_le op_le pe_int (pv 0) (pe_glob (v := .int 8) rfl T.m_MOST_ROOMS ⟨_, rfl⟩))) (pss_one ps_never) pss_nil)), ?_⟩
  try dsimp only [L2.cxOf, L2.Cx.nox]
  walk_at "cw"
  exact q

/-! is_page -/
def sp_is_page : Sp := fun vs H Q _ => ∃ x : Int, vs = [.int x] ∧ Q (.bl (decide (0 ≤ x ∧ x < 12))) H
theorem c_is_page {H : Hp} {Q : VK} {E : XK} {x : Int} (h1 : 0 ≤ x) (h2 : x < 12) (q : Q (.bl true) H) : sp_is_page ([.int x] ++ []) H Q E := ⟨x, rfl, by rw [decide_eq_true ⟨h1, h2⟩]; exact q⟩
theorem c_is_page_no {H : Hp} {Q : VK} {E : XK} {x : Int} (h : ¬ (0 ≤ x ∧ x < 12)) (q : Q (.bl false) H) : sp_is_page ([.int x] ++ []) H Q E := ⟨x, rfl, by rw [decide_eq_false h]; exact q⟩
theorem ok_is_page (T : Txt K mg ad) : FnOk P w K mg base CX0 1 ad.a_is_page ad.d_is_page ["page"] sp_is_page := by
  refine T.F_is_page.ok sc_is_page (fun vs H Q E h => ?_) (fun cdv A outer s H vs Q E hr h => ?_)
  · obtain ⟨x, rfl, _⟩ := h
    rfl
  obtain ⟨x, rfl, q⟩ := h
  refine ⟨_, (pss_one (ps_ret (pe_chain op_le op_lt pe_int (pv 0) (pe_glob (v := .int 12) rfl T.m_MOST_PAGES ⟨_, rfl⟩)))), ?_⟩
  try dsimp only [L2.cxOf, L2.Cx.nox]
  walk_at "cw"
  walk_at "cw if" <;> intro e
  · walk_at "cw"
    have z : decide (x < 12) = decide (0 ≤ x ∧ x < 12) := by
      by_cases h : x < 12
      · rw [decide_eq_true h, decide_eq_true ⟨e, h⟩]
      · rw [decide_eq_false h, decide_eq_false fun z => h z.2]
    rw [z]
    exact q
  · walk_at "cw"
    rw [decide_eq_false fun z : 0 ≤ x ∧ x < 12 => e z.1] at q
    exact q

/-! need_row -/
/-- a row that may be handed in -/
def RowOk (ns : List Int) : Prop := ns.length ≤ 100 ∧ ∀ x ∈ ns, 0 ≤ x ∧ x < 12
def sp_need_row (K : PySem.W.Frag) : Sp := fun vs H Q _ => ∃ (a : Addr) (ns : List Int), vs = [.ref a] ∧ SqL K H a (ns.map V.int) ∧ RowOk ns ∧ ∀ H', Fr [] H H' → Q .non H'
theorem c_need_row {H : Hp} {Q : VK} {E : XK} {a : Addr} {ns : List Int} (h : SqL K H a (ns.map V.int)) (hr : RowOk ns) (q : ∀ H', Fr [] H H' → Q .non H') : sp_need_row K ([.ref a] ++ []) H Q E := ⟨a, ns, rfl, h, hr, q⟩
theorem ok_need_row (T : Txt K mg ad) : FnOk P w K mg base CX0 2 ad.a_need_row ad.d_need_row ["row"] (sp_need_row K) := by
  refine T.F_need_row.ok sc_need_row (fun vs H Q E h => ?_) (fun cdv A outer s H vs Q E hr h => ?_)
  · obtain ⟨a, ns, rfl, _⟩ := h
    rfl
  obtain ⟨a, ns, rfl, hS, ⟨hl, hp⟩, k⟩ := h
  refine ⟨_, (pss_one (ps_for PassesOwn.never rfl (kIE (K := K) rfl (pi_enum (by rfl) T.z_enumerate (pa_cons (pv 0) pa_nil))) (kTup (K := K) (n := 2) rfl (pg_tup (by rfl) (pgs_cons (pg_name (i := 1) sc_need_row.nd rfl (by first | exact Or.inl rfl | exact Or.inr rfl)) (pgs_cons (pg_name (i := 2) sc_need_row.nd rfl (by first | exact Or.inl rfl | exact Or.inr rfl)) pgs_nil)))) (pss_one (ps_if (PW.pt (pw_or (pt_cmpR op_ge (pv 1) (pe_glob (v := .int 100) rfl T.m_MOST_ASKS ⟨_, rfl⟩) (nomark _)) (pw_or1 (pt_not (pt_val (pe_call (ok_is_page T) (hr.mono (by decide)) (by rfl) T.m_is_page T.F_is_page.kp T.b_is_page .nil pass0 (pa_cons (pv 2) pa_nil))))))) (pss_one ps_never) pss_nil)))), ?_⟩
  try dsimp only [L2.cxOf, L2.Cx.nox]
  walk_at "cw"
  refine f_enum (ns.map V.int) hS (fun i σ H' => ∃ v1 v2 : Option V, σ = [some (.ref a), v1, v2] ∧ Fr [] H H') ⟨none, none, rfl, .refl⟩ (fun i σ H' _ ⟨_, _, _, f⟩ => f.seqL hS) ?_ ?_
  · rintro i x t σ H' hi ⟨v1, v2, rfl, f⟩ ht
    obtain ⟨z, hz, rfl⟩ := int_at hi
    have hzl := (List.getElem?_eq_some_iff.mp hz).1
    obtain ⟨z0, z1⟩ := hp z (List.mem_of_getElem? hz)
    walk_at "cw"
    refine c_is_page z0 z1 ?_
    walk_at "cw"
    exact ⟨_, _, rfl, f.more (Fr.new ht)⟩
  · rintro σ H' ⟨v1, v2, rfl, f⟩
    exact k H' f

/-! need_both -/
def sp_need_both (K : PySem.W.Frag) : Sp := fun vs H Q _ => ∃ (r : Int) (a : Addr) (ns : List Int), vs = [.int r, .ref a] ∧ 1 ≤ r ∧ r ≤ 8 ∧ SqL K H a (ns.map V.int) ∧ RowOk ns ∧ ∀ H', Fr [] H H' → Q .non H'
theorem c_need_both {H : Hp} {Q : VK} {E : XK} {r : Int} {a : Addr} {ns : List Int} (h1 : 1 ≤ r) (h2 : r ≤ 8) (h : SqL K H a (ns.map V.int)) (hr : RowOk ns) (q : ∀ H', Fr [] H H' → Q .non H') : sp_need_both K ([.int r, .ref a] ++ []) H Q E := ⟨r, a, ns, rfl, h1, h2, h, hr, q⟩
theorem ok_need_both (T : Txt K mg ad) : FnOk P w K mg base CX0 3 ad.a_need_both ad.d_need_both ["rooms", "row"] (sp_need_both K) := by
  refine T.F_need_both.ok sc_need_both (fun vs H Q E h => ?_) (fun cdv A outer s H vs Q E hr h => ?_)
  · obtain ⟨r, a, ns, rfl, _⟩ := h
    rfl
  obtain ⟨r, a, ns, rfl, h1, h2, hS, hR, k⟩ := h
  refine ⟨_, (pss_cons (ps_expr (pe_call (ok_need_rooms T) (hr.mono (by decide)) (by rfl) T.m_need_rooms T.F_need_rooms.kp T.b_need_rooms .nil pass0 (pa_cons (pv 0) pa_nil)))
    (pss_one (ps_expr (pe_call (ok_need_row T) (hr.mono (by decide)) (by rfl) T.m_need_row T.F_need_row.kp T.b_need_row .nil pass0 (pa_cons (pv 1) pa_nil))))), ?_⟩
  try dsimp only [L2.cxOf, L2.Cx.nox]
  walk_at "cw"
  refine c_need_rooms h1 h2 ?_
  walk_at "cw"
  refine c_need_row hS hR fun H' f => ?_
  exact k H' f

/-! Dial.__init__ -/
def sp_Dial_init (C : Addr) : Sp := fun vs H Q _ => ∃ (p dx : Addr) (n : Int), vs = [.ref p, .int n] ∧ H p = some (.ins C dx []) ∧ 1 ≤ n ∧ n ≤ 8 ∧
  ∀ a b H', Fr [p] H H' → H a = none → H b = none → a ≠ b → DialAt C H' p a b (Dl.new n.toNat) → Q .non H'
theorem ok_Dial_init (T : Txt K mg ad) : FnOk P w K mg base CX0 2 ad.a_Dial_init ad.d_Dial_init ["self", "rooms"] (sp_Dial_init ad.C_Dial) := by
  refine T.F_Dial_init.ok sc_Dial_init (fun vs H Q E h => ?_) (fun cdv A outer s H vs Q E hr h => ?_)
  · obtain ⟨p, dx, n, rfl, _⟩ := h
    rfl
  obtain ⟨p, dx, n, rfl, hp, n0, n8, k⟩ := h
  refine ⟨_, (pss_cons (ps_expr (pe_call (ok_need_rooms T) (hr.mono (by decide)) (by rfl) T.m_need_rooms T.F_need_rooms.kp T.b_need_rooms .nil pass0 (pa_cons (pv 1) pa_nil)))
    (pss_cons (ps_fld (pv 0) (pe_lc (own := [("room", 2)]) (by rfl) sc_Dial_init.nd (pi_range1 (by rfl) T.z_range (pa_cons (pv 1) pa_nil)) (blkOk_by (own := [("room", 2)]) (N := N_Dial_init) (sc := defScope s_Dial_init) (by decide +kernel)) (fun _ _ _ _ _ => (pg_name (i := 2) sc_Dial_init.nd rfl (by first | exact Or.inl rfl | exact Or.inr rfl))) (fun _ _ _ _ _ => pts_nil) (fun _ _ _ _ _ => pe_non)) rfl)
    (pss_cons (ps_fld (pv 0) (pe_lc (own := [("room", 2)]) (by rfl) sc_Dial_init.nd (pi_range1 (by rfl) T.z_range (pa_cons (pv 1) pa_nil)) (blkOk_by (own := [("room", 2)]) (N := N_Dial_init) (sc := defScope s_Dial_init) (by decide +kernel)) (fun _ _ _ _ _ => (pg_name (i := 2) sc_Dial_init.nd rfl (by first | exact Or.inl rfl | exact Or.inr rfl))) (fun _ _ _ _ _ => pts_nil) (fun _ _ _ _ _ => pe_bl)) rfl)
    (pss_cons (ps_fld (pv 0) pe_int rfl)
    (pss_one (ps_fld (pv 0) pe_int rfl)))))), ?_⟩
  try dsimp only [L2.cxOf, L2.Cx.nox]
  walk_at "cwd"
  refine c_need_rooms n0 n8 ?_
  walk_at "cwd"
  refine l_rng1 (j := n) (by omega) (by omega) (fun D i acc H' => Fr [] H H' ∧ acc = List.replicate i V.non) (fun D hD => ⟨Fr.new hD, rfl⟩) ?_ ?_
  · rintro D i acc H' hD hi ⟨f, rfl⟩ hacc hl
    walk_at "cwd"
    exact lc_end hacc (by simp) (by omega) ⟨f.comp (W1 := [D]) (Fr.at (by simp)) (by simp [hD]), by rw [List.replicate_succ']⟩
  rintro a acc H1 ha ⟨f1, rfl⟩ h1 _
  walk_at "cwd"
  refine w_sFldR (f1.get0 hp) T.cl_Dial T.n_Dial_here (by decide) rfl ?_
  walk_at "cwd"
  generalize hE : upd H1 p (.ins ad.C_Dial dx (putF "here" (.ref a) [])) = H2
  have hp1 := f1.get0 hp
  have F2 : Fr [p] H1 H2 := hE ▸ Fr.at (by simp)
  have nap : a ≠ p := fun e => by rw [e, hp] at ha; cases ha
  have h2 : H2 p = some (.ins ad.C_Dial dx (putF "here" (.ref a) [])) := hE ▸ upd_same
  have h2a : H2 a = some (.lst (List.replicate n.toNat V.non)) := F2.get h1 (by simp [nap])
  clear hE
  refine l_rng1 (j := n) (by omega) (by omega) (fun D i acc H' => Fr [] H2 H' ∧ acc = List.replicate i (V.bl false)) (fun D hD => ⟨Fr.new hD, rfl⟩) ?_ ?_
  · rintro D i acc H' hD hi ⟨f, rfl⟩ hacc hl
    walk_at "cwd"
    exact lc_end hacc (by simp) (by omega) ⟨f.comp (W1 := [D]) (Fr.at (by simp)) (by simp [hD]), by rw [List.replicate_succ']⟩
  rintro b acc H3 hb ⟨f3, rfl⟩ h3 _
  walk_at "cwd"
  have nbp : b ≠ p := ne_s (ne_of_none h2 hb)
  have nab : a ≠ b := ne_of_none h2a hb
  refine w_sFldR (f3.get0 h2) T.cl_Dial T.n_Dial_seen (by simp [putF]) rfl ?_
  walk_at "cwd"
  refine w_sFldR upd_same T.cl_Dial T.n_Dial_hand (by simp [putF, str_hs]) rfl ?_
  walk_at "cwd"
  refine w_sFldR upd_same T.cl_Dial T.n_Dial_lacks (by simp [putF, str_hs, str_hh, str_sh]) (dfl_made a b 0 0) ?_
  rw [upd_upd, upd_upd]
  have F : Fr [p] H H3 := (f1.of0.trans F2).more f3
  refine k a b _ (F.trans (Fr.at (by simp))) ha (f1.free (F2.free hb)) nab ⟨⟨dx, upd_same⟩, ?_, ?_⟩
  · rw [upd_ne nap, f3.get0 h2a]; simp [Dl.new, oV]
  · rw [upd_ne nbp, h3]; simp [Dl.new]

/-! Dial.ask -/
def sp_Dial_ask (C : Addr) : Sp := fun vs H Q _ => ∃ (p a b : Addr) (d : Dl) (n : Nat) (x : Int), vs = [.ref p, .int x] ∧ DialAt C H p a b d ∧ d.Wf n ∧ p ≠ a ∧ p ≠ b ∧ a ≠ b ∧ 0 ≤ x ∧ x < 12 ∧
  ∀ t q H', Fr [p, a, b] H H' → DialAt C H' p a b (d.ask x).1 → H t = none → H q = none → H' t = some (.tup (toldV (d.ask x).2 q)) → H' q = some (.lst (natsV (d.ask x).2.passed)) → Q (.ref t) H'
theorem ok_Dial_ask (T : Txt K mg ad) : FnOk P w K mg base CX0 2 ad.a_Dial_ask ad.d_Dial_ask ["self", "page"] (sp_Dial_ask ad.C_Dial) := by
  refine T.F_Dial_ask.ok sc_Dial_ask (fun vs H Q E h => ?_) (fun cdv A outer s H vs Q E hr h => ?_)
  · obtain ⟨p, a, b, d, n, x, rfl, _⟩ := h
    rfl
  obtain ⟨p, a, b, d, n, x, rfl, hD, hW, npa, npb, nab, x0, x1, k⟩ := h
  obtain ⟨⟨dx, h1⟩, h2, h3⟩ := id hD
  obtain ⟨n0, n8, hl, sl, hd, mk⟩ := id hW
  have hml : (d.here.map oV).length = n := by rw [List.length_map]; exact hl
  refine ⟨_, (pss_cons (ps_if (pt_not (pt_val (pe_call (ok_is_page T) (hr.mono (by decide)) (by rfl) T.m_is_page T.F_is_page.kp T.b_is_page .nil pass0 (pa_cons (pv 1) pa_nil)))) (pss_one ps_never) pss_nil)
    (pss_cons (ps_if (pt_cmpR (kIn K rfl) (pv 1) (kFld (K := K) rfl (pe_fld (pv 0) rfl)) (by with_unfolding_all rfl)) (pss_cons (ps_asg pe_bl (pg_sub (kFld (K := K) rfl (pe_fld (pv 0) rfl)) (kBM (K := K) rfl (pe_bm PySem.F.plainAttrs_list PySem.F.slot_list_index PySem.F.type_list_index (kIndex K rfl) (kFld (K := K) rfl (pe_fld (pv 0) rfl)) (pa_cons (pv 1) pa_nil))) set_list))
    (pss_one (ps_ret (pe_tup (pa_cons pe_bl (pa_cons pe_non (pa_cons (pe_lst pa_nil) pa_nil))))))) pss_nil)
    (pss_cons (ps_set (i := 2) sc_Dial_ask.nd rfl (by first | exact Or.inl rfl | exact Or.inr rfl) (pe_lst pa_nil))
    (C8.pss_cut (ps_while PassesOwn.never (PW.pt (pw_and (pt_cmpR op_notN1 (pe_ix (kIxL K rfl) (kFld (K := K) rfl (pe_fld (pv 0) rfl)) (kFld (K := K) rfl (pe_fld (pv 0) rfl)) (fun _ _ => rfl)) pe_non (nomark _)) (pw_and1 (pt_val (pe_ix (kIxL K rfl) (kFld (K := K) rfl (pe_fld (pv 0) rfl)) (kFld (K := K) rfl (pe_fld (pv 0) rfl)) (fun _ _ => rfl)))))) (pss_cons (ps_asg pe_bl (pg_sub (kFld (K := K) rfl (pe_fld (pv 0) rfl)) (kFld (K := K) rfl (pe_fld (pv 0) rfl)) set_list))
    (pss_cons (ps_expr (kBM (K := K) rfl (pe_bm PySem.F.plainAttrs_list PySem.F.slot_list_append PySem.F.type_list_append mt_append (pv 2) (pa_cons (kFld (K := K) rfl (pe_fld (pv 0) rfl)) pa_nil))))
    (pss_one (ps_fld (pv 0) (pe_op op_mod (pe_op op_add (kFld (K := K) rfl (pe_fld (pv 0) rfl)) pe_int) (pe_callB (kLen K rfl) (by rfl) T.z_len (by decide +kernel) (pa_cons (kFld (K := K) rfl (pe_fld (pv 0) rfl)) pa_nil))) rfl)))))
    (pss_cons (ps_set (i := 3) sc_Dial_ask.nd rfl (by first | exact Or.inl rfl | exact Or.inr rfl) (pe_ix (kIxL K rfl) (kFld (K := K) rfl (pe_fld (pv 0) rfl)) (kFld (K := K) rfl (pe_fld (pv 0) rfl)) (fun _ _ => rfl)))
    (pss_cons (ps_asg (pv 1) (pg_sub (kFld (K := K) rfl (pe_fld (pv 0) rfl)) (kFld (K := K) rfl (pe_fld (pv 0) rfl)) set_list))
    (pss_cons (ps_asg pe_bl (pg_sub (kFld (K := K) rfl (pe_fld (pv 0) rfl)) (kFld (K := K) rfl (pe_fld (pv 0) rfl)) set_list))
    (pss_cons (ps_fld (pv 0) (pe_op op_mod (pe_op op_add (kFld (K := K) rfl (pe_fld (pv 0) rfl)) pe_int) (pe_callB (kLen K rfl) (by rfl) T.z_len (by decide +kernel) (pa_cons (kFld (K := K) rfl (pe_fld (pv 0) rfl)) pa_nil))) rfl)
    (pss_cons (ps_fldaug (pv 0) pe_int in_add)
    (pss_one (ps_ret (pe_tup (pa_cons pe_bl (pa_cons (pv 3) (pa_cons (pv 2) pa_nil))))))))))))))), ?_⟩
  try dsimp only [L2.cxOf, L2.Cx.nox]
  walk_at "cwd"
  refine c_is_page x0 x1 ?_
  walk_at "cwd"
  refine w_inL (SqL.of h2) rfl (flat_oV _) (in_oV x d.here) ?_
  walk_at "cwd"
  walk_at "cw if" <;> intro e
  · walk_at "cwd"
    refine w_index (SqL.of h2) e ?_
    have hj := List.idxOf_lt_length_iff.mpr e
    refine w_setL h3 (ixN_nat (by rw [List.length_map]; omega)) rfl ?_
    walk_at "cwd"
    rename_i q hq t ht
    have ea : d.ask x = ({ d with seen := d.seen.set (d.here.idxOf (some x)) true }, ⟨false, none, []⟩) := by unfold Dl.ask; rw [if_pos e]
    rw [ea] at k
    have hq0 : H q = none := upd_none hq
    have ht0 : H t = none := upd_none (upd_none ht)
    have ntq : q ≠ t := ne_of_none upd_same ht
    have nq : ∀ c o, H c = some o → c ≠ q := fun c o h => ne_of_none h hq0
    have nt : ∀ c o, H c = some o → c ≠ t := fun c o h => ne_of_none h ht0
    refine k t q _ (((Fr.at (by simp)).trans (Fr.new hq)).trans (Fr.new ht)) ⟨⟨dx, ?_⟩, ?_, ?_⟩ ht0 hq0 upd_same ?_
    · rw [upd_ne (nt p _ h1), upd_ne (nq p _ h1), upd_ne npb]; exact h1
    · rw [upd_ne (nt a _ h2), upd_ne (nq a _ h2), upd_ne nab]; exact h2
    · rw [upd_ne (nt b _ h3), upd_ne (nq b _ h3), upd_same, List.map_set]
    · rw [upd_ne ntq]; exact upd_same
  · walk_at "cwd"
    rename_i q hq
    have npq : p ≠ q := ne_of_none h1 hq
    have naq : a ≠ q := ne_of_none h2 hq
    have nbq : b ≠ q := ne_of_none h3 hq
    refine w_cut (fun σ H' => ∃ v, σ = [some (.ref p), some (.int x), some (.ref q), v] ∧ Fr [p, a, b] H H' ∧ H' p = some (.ins ad.C_Dial dx (dfl a b d.spin.2.1 d.lacks)) ∧ H' a = some (.lst (d.here.map oV)) ∧
      H' b = some (.lst (d.spin.1.map V.bl)) ∧ H' q = some (.lst (natsV d.spin.2.2))) ?_ ?_
    · refine f_while (fun m σ H' => ∃ (sc : List Bool) (hc : Nat) (pc : List Nat), m = sc.count true ∧ σ = [some (.ref p), some (.int x), some (.ref q), none] ∧ Fr [p, a, b] H H' ∧
        H' p = some (.ins ad.C_Dial dx (dfl a b hc d.lacks)) ∧ H' a = some (.lst (d.here.map oV)) ∧ H' b = some (.lst (sc.map V.bl)) ∧ H' q = some (.lst (natsV pc)) ∧ sc.length = n ∧ hc < n ∧ pc.length + sc.count true ≤ 8 ∧
        (∀ i : Nat, sc[i]? = some true → d.seen[i]? = some true) ∧ ((Cw.spin n (sc.count true) sc hc).1, (Cw.spin n (sc.count true) sc hc).2.1, pc ++ (Cw.spin n (sc.count true) sc hc).2.2) = d.spin)
        (d.seen.count true) ⟨d.seen, d.hand, [], rfl, rfl, Fr.new hq, ?_, ?_, ?_, upd_same, sl, hd, ?_, fun _ h => h, ?_⟩ ?_
      · rw [upd_ne npq]; exact h1
      · rw [upd_ne naq]; exact h2
      · rw [upd_ne nbq]; exact h3
      · have := List.count_le_length (a := true) (l := d.seen)
        simp
        omega
      · unfold Dl.spin
        rw [hl]
        simp
      rintro m σ H1 ⟨sc, hc, pc, rfl, rfl, F, g1, g2, g3, g4, cl, ch, cz, cs, ce⟩
      have hat : atI (d.here.map oV) (hc : Int) = some (oV d.here[hc]) := atI_nat (by rw [List.getElem?_map, List.getElem?_eq_getElem (by omega)]; rfl)
      have sat : atI (sc.map V.bl) (hc : Int) = some (.bl sc[hc]) := atI_nat (by rw [List.getElem?_map, List.getElem?_eq_getElem (by omega)]; rfl)
      have gs : sc[hc]? = some sc[hc] := List.getElem?_eq_getElem (by omega)
      -- the hand stops
      have fin : ¬ sc[hc]? = some true → ∃ v, [some (V.ref p), some (.int x), some (.ref q), none] = [some (.ref p), some (.int x), some (.ref q), v] ∧ Fr [p, a, b] H H1 ∧ H1 p = some (.ins ad.C_Dial dx (dfl a b d.spin.2.1 d.lacks)) ∧ H1 a = some (.lst (d.here.map oV)) ∧
          H1 b = some (.lst (d.spin.1.map V.bl)) ∧ H1 q = some (.lst (natsV d.spin.2.2)) := fun z => by
        rw [spin_stop z] at ce
        rw [← ce]
        exact ⟨none, rfl, F, g1, g2, g3, by simpa using g4⟩
      walk_at "cwd"
      walk_at "cw if" <;> intro e1
      · walk_at "cwd"
        walk_at "cw if" <;> intro e2
        · rw [e2] at gs
          walk_at "cwd"
          refine w_turn ?_
          have co := count_off gs
          have go := spin_go (n := n) gs
          walk_at "cwd"
          refine w_setL g3 (ixN_nat (by rw [List.length_map]; omega)) List.map_set.symm ?_
          have nqb : q ≠ b := ne_s nbq
          have nqp : q ≠ p := ne_s npq
          walk_at "cwd"
          refine w_append (xs := natsV pc) (by walk_at "cw at") (sz_lt (by simp [natsV]; omega)) ?_
          walk_at "cwd"
          refine ⟨p, _, dx, _, rfl, (by walk_at "cw at"), T.cl_Dial, T.n_Dial_hand, dfl_len _ _ _ _, ?_⟩
          have em : ((hc : Int) + 1) % (n : Int) = (((hc + 1) % n : Nat) : Int) := by rw [Int.natCast_emod, Int.natCast_add]; rfl
          rw [hml, dfl_hand, em]
          rw [go] at ce
          refine ⟨(sc.set hc false).count true, by omega, sc.set hc false, (hc + 1) % n, pc ++ [hc], rfl, rfl, ?_, upd_same, ?_, ?_, ?_, by simp [cl], Nat.mod_lt _ n0, by simp; omega, fun i hi => ?_, ?_⟩
          · exact ((F.trans (Fr.at (by simp))).comp (W1 := [q]) (Fr.at (by simp)) (by simp [hq])).trans (Fr.at (by simp))
          · rw [upd_ne (ne_s npa), upd_ne naq, upd_ne nab]; exact g2
          · rw [upd_ne (ne_s npb), upd_ne nbq, upd_same]
          · rw [upd_ne nqp, upd_same]; simp [natsV]
          · by_cases hi' : i = hc
            · rw [hi', List.getElem?_set_self (by omega)] at hi; cases hi
            · rw [List.getElem?_set_ne (fun z => hi' z.symm)] at hi; exact cs i hi
          · rw [← ce]; simp
        · walk_at "cwd"
          exact fin (by rw [gs, e2]; simp)
      · walk_at "cwd"
        refine fin fun z => ?_
        obtain ⟨y, hy⟩ := mk hc (cs hc z)
        rw [List.getElem?_eq_getElem (by omega)] at hy
        rw [Option.some.inj hy] at e1
        cases e1
    · rintro σ H1 ⟨v, rfl, F, g1, g2, g3, g4⟩
      have hf := spin_facts n0 (d.seen.count true) d.seen d.hand (Nat.le_refl _) sl hd
      have es : d.spin = Cw.spin n (d.seen.count true) d.seen d.hand := by unfold Dl.spin; rw [hl]
      rw [← es] at hf
      obtain ⟨f1, f2, f3, f4⟩ := hf
      have hat : atI (d.here.map oV) (d.spin.2.1 : Int) = some (oV (d.here[d.spin.2.1]?).join) := atI_nat (by rw [List.getElem?_map, List.getElem?_eq_getElem (by omega)]; rfl)
      walk_at "cwd"
      refine w_setL g2 (ixN_nat (by rw [List.length_map]; omega)) (show (d.here.map oV).set d.spin.2.1 (oV (some x)) = _ from List.map_set.symm) ?_
      walk_at "cwd"
      refine w_setL (xs := d.spin.1.map V.bl) (by walk_at "cw at") (ixN_nat (by rw [List.length_map]; omega)) List.map_set.symm ?_
      walk_at "cwd"
      have hml2 : ((d.here.set d.spin.2.1 (some x)).map oV).length = n := by rw [List.length_map, List.length_set]; exact hl
      rw [hml2]
      walk_at "cwd"
      rename_i t ht
      have em : ((d.spin.2.1 : Int) + 1) % (n : Int) = (((d.spin.2.1 + 1) % d.here.length : Nat) : Int) := by rw [hl, Int.natCast_emod, Int.natCast_add]; rfl
      have ea : d.ask x = (⟨d.here.set d.spin.2.1 (some x), d.spin.1.set d.spin.2.1 true, (d.spin.2.1 + 1) % d.here.length, d.lacks + 1⟩, ⟨true, (d.here[d.spin.2.1]?).join, d.spin.2.2⟩) := by unfold Dl.ask; rw [if_neg e]
      rw [ea] at k
      have ht1 : H1 t = none := upd_none (upd_none (upd_none (upd_none ht)))
      have ntp : p ≠ t := ne_of_none g1 ht1
      have nta : a ≠ t := ne_of_none g2 ht1
      have ntb : b ≠ t := ne_of_none g3 ht1
      have ntq : q ≠ t := ne_of_none g4 ht1
      refine k t q _ (((((F.trans (Fr.at (by simp))).trans (Fr.at (by simp))).trans (Fr.at (by simp))).trans (Fr.at (by simp))).trans (Fr.new ht)) ⟨⟨dx, ?_⟩, ?_, ?_⟩ (F.free ht1) hq upd_same ?_
      · rw [upd_ne ntp, upd_same, em]; rfl
      · rw [upd_ne nta, upd_ne (ne_s npa), upd_ne (ne_s npa), upd_ne nab, upd_same]
      · rw [upd_ne ntb, upd_ne (ne_s npb), upd_ne (ne_s npb), upd_same]
      · rw [upd_ne ntq, upd_ne (ne_s npq), upd_ne (ne_s npq), upd_ne (ne_s nbq), upd_ne (ne_s naq)]; exact g4
/-! .. of what is no page -/
def sp_Dial_askN (CB : Addr) : Sp := fun vs H _ E => ∃ (p : Addr) (x : Int), vs = [.ref p, .int x] ∧ ¬ (0 ≤ x ∧ x < 12) ∧ ∀ d H', Fr [] H H' → H d = none → H' d = some (.xd [("place", .int 0)]) → E (.ref CB) (some d) H'
theorem ok_Dial_askN (T : Txt K mg ad) : FnOk P w K mg base (L2.CX P w) 3 ad.a_Dial_ask ad.d_Dial_ask ["self", "page"] (sp_Dial_askN ad.C_BadRow) := by
  refine T.F_Dial_ask.okX sc_Dial_ask (fun vs H Q E h => ?_) (fun cdv A outer s H vs Q E hr h => ?_)
  · obtain ⟨p, x, rfl, _⟩ := h
    rfl
  obtain ⟨p, x, rfl, hx, k⟩ := h
  refine ⟨_, (pss_cons (ps_if (pt_not (pt_val (pe_call (ok_is_page T) (hr.mono (by decide)) (by rfl) T.m_is_page T.F_is_page.kp T.b_is_page .nil pass0 (pa_cons (pv 1) pa_nil)))) (pss_one (ps_raise rfl (takes_of rfl rfl rfl rfl) (pmk_oex T.ox_BadRow T.ii_BadRow T.ti_BadRow (ok_BadRow_init T) (hr.mono (by decide)) T.b_BadRow_init .nil pass0 (by rfl) T.m_BadRow (pa_cons pe_int pa_nil)))) pss_nil)
    (pss_cons (ps_if (pt_cmpR (kIn K rfl) (pv 1) (kFld (K := K) rfl (pe_fld (pv 0) rfl)) (by with_unfolding_all rfl)) (pss_cons (ps_asg pe_bl (pg_sub (kFld (K := K) rfl (pe_fld (pv 0) rfl)) (kBM (K := K) rfl (pe_bm PySem.F.plainAttrs_list PySem.F.slot_list_index PySem.F.type_list_index (kIndex K rfl) (kFld (K := K) rfl (pe_fld (pv 0) rfl)) (pa_cons (pv 1) pa_nil))) set_list))
    (pss_one (ps_ret (pe_tup (pa_cons pe_bl (pa_cons pe_non (pa_cons (pe_lst pa_nil) pa_nil))))))) pss_nil)
    (pss_cons (ps_set (i := 2) sc_Dial_ask.nd rfl (by first | exact Or.inl rfl | exact Or.inr rfl) (pe_lst pa_nil))
    (C8.pss_cut (ps_while (passes_of rfl) (PW.pt (pw_and (pt_cmpR op_notN1 (pe_ix (kIxL K rfl) (kFld (K := K) rfl (pe_fld (pv 0) rfl)) (kFld (K := K) rfl (pe_fld (pv 0) rfl)) (fun _ _ => rfl)) pe_non (nomark _)) (pw_and1 (pt_val (pe_ix (kIxL K rfl) (kFld (K := K) rfl (pe_fld (pv 0) rfl)) (kFld (K := K) rfl (pe_fld (pv 0) rfl)) (fun _ _ => rfl)))))) (pss_cons (ps_asg pe_bl (pg_sub (kFld (K := K) rfl (pe_fld (pv 0) rfl)) (kFld (K := K) rfl (pe_fld (pv 0) rfl)) set_list))
    (pss_cons (ps_expr (kBM (K := K) rfl (pe_bm PySem.F.plainAttrs_list PySem.F.slot_list_append PySem.F.type_list_append mt_append (pv 2) (pa_cons (kFld (K := K) rfl (pe_fld (pv 0) rfl)) pa_nil))))
    (pss_one (ps_fld (pv 0) (pe_op op_mod (pe_op op_add (kFld (K := K) rfl (pe_fld (pv 0) rfl)) pe_int) (pe_callB (kLen K rfl) (by rfl) T.z_len (by decide +kernel) (pa_cons (kFld (K := K) rfl (pe_fld (pv 0) rfl)) pa_nil))) rfl)))))
    (pss_cons (ps_set (i := 3) sc_Dial_ask.nd rfl (by first | exact Or.inl rfl | exact Or.inr rfl) (pe_ix (kIxL K rfl) (kFld (K := K) rfl (pe_fld (pv 0) rfl)) (kFld (K := K) rfl (pe_fld (pv 0) rfl)) (fun _ _ => rfl)))
    (pss_cons (ps_asg (pv 1) (pg_sub (kFld (K := K) rfl (pe_fld (pv 0) rfl)) (kFld (K := K) rfl (pe_fld (pv 0) rfl)) set_list))
    (pss_cons (ps_asg pe_bl (pg_sub (kFld (K := K) rfl (pe_fld (pv 0) rfl)) (kFld (K := K) rfl (pe_fld (pv 0) rfl)) set_list))
    (pss_cons (ps_fld (pv 0) (pe_op op_mod (pe_op op_add (kFld (K := K) rfl (pe_fld (pv 0) rfl)) pe_int) (pe_callB (kLen K rfl) (by rfl) T.z_len (by decide +kernel) (pa_cons (kFld (K := K) rfl (pe_fld (pv 0) rfl)) pa_nil))) rfl)
    (pss_cons (ps_fldaug (pv 0) pe_int in_add)
    (pss_one (ps_ret (pe_tup (pa_cons pe_bl (pa_cons (pv 3) (pa_cons (pv 2) pa_nil))))))))))))))), ?_⟩
  try dsimp only [L2.cxOf]
  walk_at "cwd"
  refine c_is_page_no hx ?_
  walk_at "cwd"
  dsimp only [tMkO]
  walk_at "cwd"
  refine ⟨by decide, fun a ha => ⟨a, 0, rfl, upd_same, fun d h1 h2 => ⟨rfl, d, [("place", .int 0)], upd_same, ?_, ?_, ?_⟩⟩⟩
  · rw [upd_ne h2, upd_same]
  · rwa [upd_ne h2] at h1
  · have hd : H d = none := by rwa [upd_ne h2] at h1
    refine k d _ ⟨fun b o hb _ => ?_, fun b hb => ?_⟩ hd upd_same
    · have n1 : b ≠ a := fun z => by rw [z, ha] at hb; cases hb
      have n2 : b ≠ d := fun z => by rw [z, hd] at hb; cases hb
      rw [upd_ne n2, del_ne n1, upd_ne n1, upd_ne n2, upd_ne n1]
      exact hb
    · by_cases n2 : b = d
      · rw [n2]
        exact hd
      · by_cases n1 : b = a
        · rw [n1]
          exact ha
        · rwa [upd_ne n2, del_ne n1, upd_ne n1, upd_ne n2, upd_ne n1] at hb
def sp_Dial_askX (C CB : Addr) : Sp := fun vs H Q E => sp_Dial_ask C vs H Q E ∨ sp_Dial_askN CB vs H Q E
theorem ok_Dial_askX (T : Txt K mg ad) : FnOk P w K mg base (L2.CX P w) 3 ad.a_Dial_ask ad.d_Dial_ask ["self", "page"] (sp_Dial_askX ad.C_Dial ad.C_BadRow) := fn_or (ok_Dial_ask T) (ok_Dial_askN T) (by decide)

/-! Dial.pages -/
def sp_Dial_pages (C : Addr) : Sp := fun vs H Q _ => ∃ (p a b : Addr) (d : Dl), vs = [.ref p] ∧ DialAt C H p a b d ∧ ∀ l H', Fr [] H H' → H l = none → H' l = some (.lst (d.here.map oV)) → Q (.ref l) H'
theorem ok_Dial_pages (T : Txt K mg ad) : FnOk P w K mg base CX0 1 ad.a_Dial_pages ad.d_Dial_pages ["self"] (sp_Dial_pages ad.C_Dial) := by
  refine T.F_Dial_pages.ok sc_Dial_pages (fun vs H Q E h => ?_) (fun cdv A outer s H vs Q E hr h => ?_)
  · obtain ⟨p, a, b, d, rfl, _⟩ := h
    rfl
  obtain ⟨p, a, b, d, rfl, ⟨⟨dx, h1⟩, h2, h3⟩, k⟩ := h
  refine ⟨_, (pss_one (ps_ret (pe_callTy (kList K rfl) (by rfl) T.z_list (by decide +kernel) (pa_cons (kFld (K := K) rfl (pe_fld (pv 0) rfl)) pa_nil)))), ?_⟩
  walk_at "cwd"
  rename_i l hl
  exact k l _ (Fr.new hl) hl upd_same

/-! Dial.looked -/
def sp_Dial_looked (C : Addr) : Sp := fun vs H Q _ => ∃ (p a b : Addr) (d : Dl), vs = [.ref p] ∧ DialAt C H p a b d ∧ ∀ l H', Fr [] H H' → H l = none → H' l = some (.lst (d.seen.map V.bl)) → Q (.ref l) H'
theorem ok_Dial_looked (T : Txt K mg ad) : FnOk P w K mg base CX0 1 ad.a_Dial_looked ad.d_Dial_looked ["self"] (sp_Dial_looked ad.C_Dial) := by
  refine T.F_Dial_looked.ok sc_Dial_looked (fun vs H Q E h => ?_) (fun cdv A outer s H vs Q E hr h => ?_)
  · obtain ⟨p, a, b, d, rfl, _⟩ := h
    rfl
  obtain ⟨p, a, b, d, rfl, ⟨⟨dx, h1⟩, h2, h3⟩, k⟩ := h
  refine ⟨_, (pss_one (ps_ret (pe_callTy (kList K rfl) (by rfl) T.z_list (by decide +kernel) (pa_cons (kFld (K := K) rfl (pe_fld (pv 0) rfl)) pa_nil)))), ?_⟩
  walk_at "cwd"
  rename_i l hl
  exact k l _ (Fr.new hl) hl upd_same

/-! Dial.points -/
def sp_Dial_points (C : Addr) : Sp := fun vs H Q _ => ∃ (p a b : Addr) (d : Dl), vs = [.ref p] ∧ DialAt C H p a b d ∧ Q (.int (d.hand : Nat)) H
theorem ok_Dial_points (T : Txt K mg ad) : FnOk P w K mg base CX0 1 ad.a_Dial_points ad.d_Dial_points ["self"] (sp_Dial_points ad.C_Dial) := by
  refine T.F_Dial_points.ok sc_Dial_points (fun vs H Q E h => ?_) (fun cdv A outer s H vs Q E hr h => ?_)
  · obtain ⟨p, a, b, d, rfl, _⟩ := h
    rfl
  obtain ⟨p, a, b, d, rfl, ⟨⟨dx, h1⟩, h2, h3⟩, k⟩ := h
  refine ⟨_, (pss_one (ps_ret (kFld (K := K) rfl (pe_fld (pv 0) rfl)))), ?_⟩
  walk_at "cwd"
  exact k

/-! Dial.lacked -/
def sp_Dial_lacked (C : Addr) : Sp := fun vs H Q _ => ∃ (p a b : Addr) (d : Dl), vs = [.ref p] ∧ DialAt C H p a b d ∧ Q (.int (d.lacks : Nat)) H
theorem ok_Dial_lacked (T : Txt K mg ad) : FnOk P w K mg base CX0 1 ad.a_Dial_lacked ad.d_Dial_lacked ["self"] (sp_Dial_lacked ad.C_Dial) := by
  refine T.F_Dial_lacked.ok sc_Dial_lacked (fun vs H Q E h => ?_) (fun cdv A outer s H vs Q E hr h => ?_)
  · obtain ⟨p, a, b, d, rfl, _⟩ := h
    rfl
  obtain ⟨p, a, b, d, rfl, ⟨⟨dx, h1⟩, h2, h3⟩, k⟩ := h
  refine ⟨_, (pss_one (ps_ret (kFld (K := K) rfl (pe_fld (pv 0) rfl)))), ?_⟩
  walk_at "cwd"
  exact k

/-! round_told -/
def sp_round_told (K : PySem.W.Frag) : Sp := fun vs H Q _ => ∃ (n : Int) (a : Addr) (ns : List Int), vs = [.int n, .ref a] ∧ 1 ≤ n ∧ n ≤ 8 ∧ SqL K H a (ns.map V.int) ∧ RowOk ns ∧
  ∀ p xs H', Fr [] H H' → H p = none → H' p = some (.lst xs) → TlAt H H' xs (askAll (Dl.new n.toNat) ns) → Q (.ref p) H'
theorem c_round_told {H : Hp} {Q : VK} {E : XK} {n : Int} {a : Addr} {ns : List Int} (n0 : 1 ≤ n) (n8 : n ≤ 8) (h : SqL K H a (ns.map V.int)) (hR : RowOk ns)
    (k : ∀ p xs H', Fr [] H H' → H p = none → H' p = some (.lst xs) → TlAt H H' xs (askAll (Dl.new n.toNat) ns) → Q (.ref p) H') : sp_round_told K ([.int n, .ref a] ++ []) H Q E := ⟨n, a, ns, rfl, n0, n8, h, hR, k⟩
theorem ok_round_told (T : Txt K mg ad) : FnOk P w K mg base CX0 4 ad.a_round_told ad.d_round_told ["rooms", "row"] (sp_round_told K) := by
  refine T.F_round_told.ok sc_round_told (fun vs H Q E h => ?_) (fun cdv A outer s H vs Q E hr h => ?_)
  · obtain ⟨n, a, ns, rfl, _⟩ := h
    rfl
  obtain ⟨n, a, ns, rfl, n0, n8, hS, ⟨hz, hp⟩, k⟩ := h
  refine ⟨_, (pss_cons (ps_set (i := 2) sc_round_told.nd rfl (by first | exact Or.inl rfl | exact Or.inr rfl) (pe_make T.mk_Dial (ok_Dial_init T) (hr.mono (by decide)) (by rfl) T.m_Dial T.b_Dial_init .nil pass0 (pa_cons (pv 0) pa_nil)))
    (pss_one (ps_ret (pe_lc (own := [("page", 3)]) (by rfl) sc_round_told.nd (kIL (K := K) rfl (pi_list (pv 1))) (blkOk_by (own := [("page", 3)]) (N := N_round_told) (sc := defScope s_round_told) (by decide +kernel)) (fun _ _ _ _ _ => (pg_name (i := 3) sc_round_told.nd rfl (by first | exact Or.inl rfl | exact Or.inr rfl))) (fun _ _ _ _ _ => pts_nil) (fun _ _ _ _ _ => (pe_meth (pv 2) T.cl_Dial T.mt_Dial_ask (ok_Dial_ask T) (hr.mono (by decide)) T.b_Dial_ask .nil pass0 (pa_cons (pv 3) pa_nil))))))), ?_⟩
  try dsimp only [L2.cxOf, L2.Cx.nox]
  walk_at "cwd"
  intro x dx hx hdx ndx
  refine ⟨x, dx, n, rfl, upd_same, n0, n8, fun u v H1 f1 hu hv nuv D1 => ⟨rfl, ?_⟩⟩
  have f0 : Fr [] H (upd (upd H dx (.own x)) x (.ins ad.C_Dial dx [])) := (Fr.new hdx).trans (Fr.new ((upd_ne (ne_s ndx)).trans hx))
  have F1 : Fr [] H H1 := f0.comp f1 (by simp [hx])
  have nxu : x ≠ u := ne_of_none upd_same hu
  have nxv : x ≠ v := ne_of_none upd_same hv
  obtain ⟨⟨dx1, g1⟩, g2, g3⟩ := id D1
  have hu0 : H u = none := f0.free hu
  have hv0 : H v = none := f0.free hv
  walk_at "cwd"
  refine l_list (ns.map V.int) (F1.seqL hS) (fun D i acc H' => Fr [] H H' ∧ Fr [x, u, v, D] (upd H1 D (.lst [])) H' ∧ DialAt ad.C_Dial H' x u v (endAll (Dl.new n.toNat) (ns.take i)) ∧ TlAt (upd H1 D (.lst [])) H' acc (askAll (Dl.new n.toNat) (ns.take i)))
    (fun D hD => ⟨F1.more (Fr.new hD), .refl, D1.keep0 (Fr.new hD), .nil⟩) (fun D i acc H' hD h _ => h.1.seqL hS) ?_ ?_
  · rintro D i y acc H' hD hi ⟨F, F2, hd, hn⟩ hacc hl
    obtain ⟨z, hz', rfl⟩ := int_at hi
    have hzl := (List.getElem?_eq_some_iff.mp hz').1
    obtain ⟨z0, z1⟩ := hp z (List.mem_of_getElem? hz')
    have W := endAll_wf (Dl.new n.toNat) (ns.take i) (Dl.Wf.new (n := n.toNat) (by omega) (by omega))
    obtain ⟨⟨dx2, k1⟩, k2, k3⟩ := id hd
    walk_at "cwd"
    refine w_methR k1 (lk_no _ _ _ _ (by decide +kernel) (by decide +kernel) (by decide +kernel) (by decide +kernel)) ?_
    walk_at "cwd"
    refine ⟨x, u, v, _, n.toNat, z, rfl, hd, W, nxu, nxv, nuv, z0, z1, fun t q H4 f4 D4 ht hq e1 e2 => ?_⟩
    have nD : D ∉ [x, u, v] := by
      simp only [List.mem_cons, List.not_mem_nil, or_false, not_or]
      exact ⟨fun e => ne_of_none g1 hD e.symm, fun e => ne_of_none g2 hD e.symm, fun e => ne_of_none g3 hD e.symm⟩
    have tk : ∀ w ∈ [x, u, v], upd H1 D (.lst []) w ≠ none := by
      intro w hw
      simp only [List.mem_cons, List.not_mem_nil, or_false] at hw
      rcases hw with rfl | rfl | rfl
      · exact ne_of_some ((upd_ne (ne_of_none g1 hD)).trans g1)
      · exact ne_of_some ((upd_ne (ne_of_none g2 hD)).trans g2)
      · exact ne_of_some ((upd_ne (ne_of_none g3 hD)).trans g3)
    have tD : upd H1 D (.lst []) D ≠ none := ne_of_some upd_same
    have ht1 := F2.free ht
    have hq1 := F2.free hq
    refine lc_end (f4.get hacc nD) hl (by omega) ⟨?_, ?_, ?_, ?_⟩
    · refine Fr.loc (F.comp f4 fun w m => ?_) (F1.free hD)
      simp only [List.mem_cons, List.not_mem_nil, or_false] at m
      rcases m with rfl | rfl | rfl
      · exact .inr hx
      · exact .inr hu0
      · exact .inr hv0
    · refine (F2.trans (f4.mono (W' := [x, u, v, D]) fun w m => ?_)).trans (Fr.at (by simp))
      simp only [List.mem_cons, List.not_mem_nil, or_false] at m ⊢
      rcases m with h | h | h <;> simp [h]
    · rw [take_snoc hz', endAll_app]
      exact D4.keep (W := [D]) (Fr.at (by simp)) (by simp; exact fun e => nD (by simp [e])) (by simp; exact fun e => nD (by simp [e])) (by simp; exact fun e => nD (by simp [e]))
    · rw [take_snoc hz', askAll_app]
      refine TlAt.step (W := [D]) (TlAt.snoc (hn.step tk f4) ht1 hq1 e1 e2) (by simpa using tD) (Fr.at (by simp))
  · rintro D acc H' hD ⟨F, F2, hd, hn⟩ hacc hl
    rw [List.length_map, List.take_length] at hn
    exact k D acc H' F (F1.free hD) hacc ((hn.base (Fr.new hD : Fr [] H1 _)).base F1)

/-! told -/
def sp_told (K : PySem.W.Frag) : Sp := fun vs H Q _ => ∃ (n : Int) (a : Addr) (ns : List Int), vs = [.int n, .ref a] ∧ 1 ≤ n ∧ n ≤ 8 ∧ SqL K H a (ns.map V.int) ∧ RowOk ns ∧
  ∀ p xs H', Fr [] H H' → H p = none → H' p = some (.lst xs) → TlAt H H' xs (askAll (Dl.new n.toNat) ns) → Q (.ref p) H'
theorem c_told {H : Hp} {Q : VK} {E : XK} {n : Int} {a : Addr} {ns : List Int} (n0 : 1 ≤ n) (n8 : n ≤ 8) (h : SqL K H a (ns.map V.int)) (hR : RowOk ns)
    (k : ∀ p xs H', Fr [] H H' → H p = none → H' p = some (.lst xs) → TlAt H H' xs (askAll (Dl.new n.toNat) ns) → Q (.ref p) H') : sp_told K ([.int n, .ref a] ++ []) H Q E := ⟨n, a, ns, rfl, n0, n8, h, hR, k⟩
theorem ok_told (T : Txt K mg ad) : FnOk P w K mg base CX0 5 ad.a_told ad.d_told ["rooms", "row"] (sp_told K) := by
  refine T.F_told.ok sc_told (fun vs H Q E h => ?_) (fun cdv A outer s H vs Q E hr h => ?_)
  · obtain ⟨n, a, ns, rfl, _⟩ := h
    rfl
  obtain ⟨n, a, ns, rfl, n0, n8, hS, hR, k⟩ := h
  refine ⟨_, (pss_cons (ps_expr (pe_call (ok_need_both T) (hr.mono (by decide)) (by rfl) T.m_need_both T.F_need_both.kp T.b_need_both .nil pass0 (pa_cons (pv 0) (pa_cons (pv 1) pa_nil))))
    (pss_one (ps_ret (pe_call (ok_round_told T) (hr.mono (by decide)) (by rfl) T.m_round_told T.F_round_told.kp T.b_round_told .nil pass0 (pa_cons (pv 0) (pa_cons (pv 1) pa_nil)))))), ?_⟩
  walk_at "cwd"
  refine c_need_both n0 n8 hS hR fun H1 f1 => ?_
  walk_at "cwd"
  refine c_round_told n0 n8 (f1.seqL hS) hR fun p xs H2 f2 hp hx hn => ?_
  exact k p xs H2 (f1.trans f2) (f1.free hp) hx (hn.base f1)

/-! _law_begun -/
def sp_l_begun (K : PySem.W.Frag) : Sp := fun vs H Q _ => ∃ (a : Addr) (ns : List Int), vs = [.ref a] ∧ SqL K H a (ns.map V.int) ∧ ns.length ≤ 63 ∧
  ∀ b q H', Fr [] H H' → H b = none → H q = none → Box H' b q → Q (.ref b) H'
theorem ok_l_begun (T : Txt K mg ad) : FnOk P w K mg base CX0 1 ad.a_l_begun ad.d_l_begun ["_law_script"] (sp_l_begun K) := by
  refine T.F_l_begun.ok sc_l_begun (fun vs H Q E h => ?_) (fun cdv A outer s H vs Q E hr h => ?_)
  · obtain ⟨a, ns, rfl, _⟩ := h
    rfl
  obtain ⟨a, ns, rfl, hS, hl, k⟩ := h
  refine ⟨_, (pss_cons (ps_set (i := 1) sc_l_begun.nd rfl (by first | exact Or.inl rfl | exact Or.inr rfl) pe_int)
    (pss_cons (ps_for PassesOwn.never rfl (kIL (K := K) rfl (pi_list (pv 0))) (pg_name (i := 2) sc_l_begun.nd rfl (by first | exact Or.inl rfl | exact Or.inr rfl)) (pss_one (ps_set (i := 1) sc_l_begun.nd rfl (by first | exact Or.inl rfl | exact Or.inr rfl) (pe_op op_mod (pe_op op_add (pe_op op_add (pe_op op_mul (pv 1) pe_int) (pe_op op_mul (pv 2) pe_int)) pe_int) pe_int))))
    (pss_one (ps_ret (pe_lst (pa_cons (pe_callTy (kList K rfl) (by rfl) T.z_list (by decide +kernel) (pa_cons (pv 0) pa_nil)) (pa_cons (pe_op op_mul (pv 1) (pe_callTy cr_int (by rfl) T.z_int (by decide +kernel) (pa_cons (pe_cmpR op_gt (pe_callB (kLen K rfl) (by rfl) T.z_len (by decide +kernel) (pa_cons (pv 0) pa_nil)) pe_int (nomark _)) pa_nil))) pa_nil))))))), ?_⟩
  try dsimp only [L2.cxOf, L2.Cx.nox]
  walk_at "cw"
  refine f_list (ns.map V.int) (fun i σ H' => ∃ (st : Int) (v : Option V), σ = [some (.ref a), some (.int st), v] ∧ H' = H ∧ 0 ≤ st ∧ st < 2147483647) ⟨0, none, rfl, rfl, by decide, by decide⟩ (fun i σ H' _ ⟨_, _, _, e, _⟩ => by rw [e]; exact hS) ?_ ?_
  · rintro i x σ H' hi ⟨st, v, rfl, rfl, h0, h1⟩
    obtain ⟨z, hz, rfl⟩ := int_at hi
    walk_at "cw"
    exact ⟨_, _, rfl, rfl, by omega, by omega⟩
  · rintro σ H' ⟨st, v, rfl, rfl, h0, h1⟩
    walk_at "cw"
    rename_i p hp c hc
    have hc0 : H' c = none := upd_none hc
    refine k c p _ ((Fr.new hp).more (Fr.new hc)) hc0 hp ⟨_, ns, upd_same, ?_, ?_, ?_, hl⟩
    · rw [upd_ne (ne_of_none upd_same hc), upd_same]
    all_goals split <;> omega

/-! _law_take -/
def sp_l_take : Sp := fun vs H Q _ => ∃ (b q : Addr) (n : Int), vs = [.ref b, .int n] ∧ Box H b q ∧ 0 < n ∧ n < 1073741824 ∧
  ∀ (r : Int) H', Fr [b, q] H H' → Box H' b q → 0 ≤ r → r < n → Q (.int r) H'
theorem ok_l_take (T : Txt K mg ad) : FnOk P w K mg base CX0 1 ad.a_l_take ad.d_l_take ["_law_box", "_law_many"] sp_l_take := by
  refine T.F_l_take.ok sc_l_take (fun vs H Q E h => ?_) (fun cdv A outer s H vs Q E hr h => ?_)
  · obtain ⟨b, q, n, rfl, _⟩ := h
    rfl
  obtain ⟨b, q, n, rfl, hB, n0, n1, k⟩ := h
  have nbq := hB.ne
  obtain ⟨z, ms, hb, hq, z0, z1, hl⟩ := hB
  refine ⟨_, (pss_cons (ps_if (pt_cmpR (kEqD K rfl hr.units) (pe_ix (kIxL K rfl) (pv 0) pe_int (fun _ _ => rfl)) (pe_lst pa_nil) (nomark _)) (pss_cons (ps_asg (pe_op op_mod (pe_op op_mul (pe_ix (kIxL K rfl) (pv 0) pe_int (fun _ _ => rfl)) pe_int) pe_int) (pg_sub (pv 0) pe_int set_list))
    (pss_one (ps_ret (pe_op op_mod (pe_op op_fdiv (pe_ix (kIxL K rfl) (pv 0) pe_int (fun _ _ => rfl)) pe_int) (pv 1))))) pss_nil)
    (pss_cons (ps_set (i := 2) sc_l_take.nd rfl (by first | exact Or.inl rfl | exact Or.inr rfl) (pe_ix (kIxL K rfl) (pe_ix (kIxL K rfl) (pv 0) pe_int (fun _ _ => rfl)) pe_int (fun _ _ => rfl)))
    (pss_cons (ps_asg (pe_op op_fdiv (pv 2) (pv 1)) (pg_sub (pe_ix (kIxL K rfl) (pv 0) pe_int (fun _ _ => rfl)) pe_int set_list))
    (pss_cons (ps_if (PW.pt (pw_or (pt_cmpR op_eq (pe_ix (kIxL K rfl) (pe_ix (kIxL K rfl) (pv 0) pe_int (fun _ _ => rfl)) pe_int (fun _ _ => rfl)) pe_int (nomark _)) (pw_or1 (pt_cmpR op_eq (pe_ix (kIxL K rfl) (pe_ix (kIxL K rfl) (pv 0) pe_int (fun _ _ => rfl)) pe_int (fun _ _ => rfl)) (pe_un un_neg pe_int) (nomark _))))) (pss_one (ps_expr (kBM (K := K) rfl (pe_bm PySem.F.plainAttrs_list PySem.F.slot_list_pop PySem.F.type_list_pop mt_popAt (pe_ix (kIxL K rfl) (pv 0) pe_int (fun _ _ => rfl)) (pa_cons pe_int pa_nil))))) pss_nil)
    (pss_one (ps_ret (pe_op op_mod (pv 2) (pv 1)))))))), ?_⟩
  try dsimp only [L2.cxOf, L2.Cx.nox]
  walk_at "cw"
  rename_i p hp
  walk_at "cw if" <;> intro e
  · subst e
    walk_at "cw"
    refine k _ _ ?_ ?_ (mod_in n0).1 (mod_in n0).2
    · exact (Fr.new hp).trans (Fr.at (by simp))
    · exact ⟨_, [], upd_same, by walk_at "cw at", by omega, by omega, by simp⟩
  · obtain ⟨m, r, rfl⟩ : ∃ m r, ms = m :: r := by
      cases ms with
      | nil => exact absurd rfl e
      | cons m r => exact ⟨m, r, rfl⟩
    simp only [List.map_cons] at hq
    simp only [List.length_cons] at hl
    walk_at "cw"
    have fin : ∀ xs : List Int, xs.length ≤ 63 → Q (V.int (m % n)) (upd (upd H p (HO.lst [])) q (HO.lst (xs.map V.int))) := fun xs hx => by
      refine k _ _ ?_ ?_ (mod_in n0).1 (mod_in n0).2
      · exact (Fr.new hp).trans (Fr.at (by simp))
      · exact ⟨z, xs, by walk_at "cw at", upd_same, z0, z1, hx⟩
    walk_at "cw if" <;> intro e1
    · walk_at "cw"
      rw [upd_upd]
      exact fin r (by omega)
    · walk_at "cw"
      walk_at "cw if" <;> intro e2
      · walk_at "cw"
        rw [upd_upd]
        exact fin r (by omega)
      · walk_at "cw"
        exact fin (m / n :: r) (by simp only [List.length_cons]; omega)
theorem c_take {H : Hp} {Q : VK} {E : XK} {b q : Addr} {n : Int} (hB : Box H b q) (n0 : 0 < n) (n1 : n < 1073741824) (k : ∀ (r : Int) H', Fr [b, q] H H' → Box H' b q → 0 ≤ r → r < n → Q (.int r) H') : sp_l_take ([.ref b, .int n] ++ []) H Q E := ⟨b, q, n, rfl, hB, n0, n1, k⟩

/-! _law_alike -/
def sp_l_alike (K : PySem.W.Frag) (k : Nat) : Sp := fun vs H Q _ => ∃ (x y : V) (d : PyData), vs = [x, y] ∧ Dp K H x d ∧ Dp K H y d ∧ fits k d ∧ Q (.bl true) H
theorem c_alike {H : Hp} {Q : VK} {E : XK} {k : Nat} {x y : V} (d : PyData) (h1 : Dp K H x d) (h2 : Dp K H y d) (h3 : fits k d) (q : Q (.bl true) H) : sp_l_alike K k ([x, y] ++ []) H Q E := ⟨x, y, d, rfl, h1, h2, h3, q⟩
theorem alike_body (T : Txt K mg ad) (k : Nat) (spJ : Sp) (GJ : FnOk P w K mg base CX0 k ad.a_l_alike ad.d_l_alike ["_law_found", "_law_due"] spJ)
    (hk : ∀ ds, fits k (.list ds) ∨ fits k (.tuple ds) → ∃ j, k = j + 1 ∧ spJ = sp_l_alike K j) : FnOk P w K mg base CX0 (k + 1) ad.a_l_alike ad.d_l_alike ["_law_found", "_law_due"] (sp_l_alike K k) := by
    refine T.F_l_alike.ok sc_l_alike (fun vs H Q E h => ?_) (fun cdv A outer s H vs Q E hr h => ?_)
    · obtain ⟨x, y, d, rfl, _⟩ := h
      rfl
    obtain ⟨x, y, d, rfl, h1, h2, h3, q⟩ := h
    refine ⟨_, (pss_cons (ps_if (pt_cmpR op_isN1 (pv 1) pe_non (nomark _)) (pss_one (ps_ret (pe_cmpR op_isN1 (pv 0) pe_non (nomark _)))) pss_nil)
    (pss_cons (ps_if (pt_val (pe_callB (kIsi K rfl) (by rfl) T.z_isinstance (by decide +kernel) (pa_cons (pv 1) (pa_cons (pe_bltn (v := .ty "bool") (by rfl) T.z_bool (by decide +kernel) rfl) pa_nil)))) (pss_one (ps_ret (pe_and (pe_callB (kIsi K rfl) (by rfl) T.z_isinstance (by decide +kernel) (pa_cons (pv 0) (pa_cons (pe_bltn (v := .ty "bool") (by rfl) T.z_bool (by decide +kernel) rfl) pa_nil))) (pe_one (pe_cmpR op_eq (pv 0) (pv 1) (nomark _)))))) pss_nil)
    (pss_cons (ps_if (pt_val (pe_callB (kIsi K rfl) (by rfl) T.z_isinstance (by decide +kernel) (pa_cons (pv 1) (pa_cons (pe_bltn (v := .ty "int") (by rfl) T.z_int (by decide +kernel) rfl) pa_nil)))) (pss_one (ps_ret (pe_and (pe_callB (kIsi K rfl) (by rfl) T.z_isinstance (by decide +kernel) (pa_cons (pv 0) (pa_cons (pe_bltn (v := .ty "int") (by rfl) T.z_int (by decide +kernel) rfl) pa_nil))) (pe_and (pe_not (pe_callB (kIsi K rfl) (by rfl) T.z_isinstance (by decide +kernel) (pa_cons (pv 0) (pa_cons (pe_bltn (v := .ty "bool") (by rfl) T.z_bool (by decide +kernel) rfl) pa_nil)))) (pe_one (pe_cmpR op_eq (pv 0) (pv 1) (nomark _))))))) pss_nil)
    (pss_cons (ps_if (pt_val (pe_callB (kIsi K rfl) (by rfl) T.z_isinstance (by decide +kernel) (pa_cons (pv 1) (pa_cons (pe_bltn (v := .ty "str") (by rfl) T.z_str (by decide +kernel) rfl) pa_nil)))) (pss_one (ps_ret (pe_and (pe_callB (kIsi K rfl) (by rfl) T.z_isinstance (by decide +kernel) (pa_cons (pv 0) (pa_cons (pe_bltn (v := .ty "str") (by rfl) T.z_str (by decide +kernel) rfl) pa_nil))) (pe_one (pe_cmpR op_eq (pv 0) (pv 1) (nomark _)))))) pss_nil)
    (pss_cons (ps_if (PW.pt (pw_or (pt_cmpR op_ne (pe_callB (kIsi K rfl) (by rfl) T.z_isinstance (by decide +kernel) (pa_cons (pv 1) (pa_cons (pe_bltn (v := .ty "tuple") (by rfl) T.z_tuple (by decide +kernel) rfl) pa_nil))) (pe_callB (kIsi K rfl) (by rfl) T.z_isinstance (by decide +kernel) (pa_cons (pv 0) (pa_cons (pe_bltn (v := .ty "tuple") (by rfl) T.z_tuple (by decide +kernel) rfl) pa_nil))) (nomark _)) (pw_or1 (pt_cmpR op_ne (pe_callB (kIsi K rfl) (by rfl) T.z_isinstance (by decide +kernel) (pa_cons (pv 1) (pa_cons (pe_bltn (v := .ty "list") (by rfl) T.z_list (by decide +kernel) rfl) pa_nil))) (pe_callB (kIsi K rfl) (by rfl) T.z_isinstance (by decide +kernel) (pa_cons (pv 0) (pa_cons (pe_bltn (v := .ty "list") (by rfl) T.z_list (by decide +kernel) rfl) pa_nil))) (nomark _))))) (pss_one (ps_ret pe_bl)) pss_nil)
    (pss_cons (ps_if (pt_cmpR op_ne (pe_callB (kLen K rfl) (by rfl) T.z_len (by decide +kernel) (pa_cons (pv 0) pa_nil)) (pe_callB (kLen K rfl) (by rfl) T.z_len (by decide +kernel) (pa_cons (pv 1) pa_nil)) (nomark _)) (pss_one (ps_ret pe_bl)) pss_nil)
    (pss_cons (ps_for PassesOwn.never rfl (pi_range1 (by rfl) T.z_range (pa_cons (pe_callB (kLen K rfl) (by rfl) T.z_len (by decide +kernel) (pa_cons (pv 1) pa_nil)) pa_nil)) (pg_name (i := 2) sc_l_alike.nd rfl (by first | exact Or.inl rfl | exact Or.inr rfl)) (pss_one (ps_if (pt_not (pt_val (pe_call GJ (hr.mono (Nat.le_refl _)) (by rfl) T.m_l_alike T.F_l_alike.kp T.b_l_alike .nil pass0 (pa_cons (pe_ix (kIxQ K rfl) (pv 0) (pv 2) (fun _ _ => rfl)) (pa_cons (pe_ix (kIxQ K rfl) (pv 1) (pv 2) (fun _ _ => rfl)) pa_nil))))) (pss_one (ps_ret pe_bl)) pss_nil)))
    (pss_one (ps_ret pe_bl))))))))), ?_⟩
    try dsimp only [L2.cxOf, L2.Cx.nox]
    cases h1 with
    | non =>
      cases h2
      walk_at "cw"
      exact q
    | bl b =>
      cases h2
      walk_at "cw"
      rw [decide_eq_true rfl]
      exact q
    | int i =>
      cases h2
      walk_at "cw"
      rw [decide_eq_true rfl]
      exact q
    | str z =>
      cases h2
      walk_at "cw"
      rw [decide_eq_true rfl]
      exact q
    | @lst a1 xs1 ds hs1 ha1 =>
      cases h2 with
      | @lst a2 xs2 _ hs2 ha2 =>
      obtain ⟨j, rfl, rfl⟩ := hk ds (.inl h3)
      obtain ⟨hz, hf⟩ := h3
      have l1 := dpall_len ha1
      have l2 := dpall_len ha2
      walk_at "cw"
      refine f_rng1 (by omega) (by omega) (fun i σ H' => ∃ v : Option V, σ = [some (.ref a1), some (.ref a2), v] ∧ H' = H) ⟨none, rfl, rfl⟩ ?_ ?_
      · rintro i σ H' hi ⟨v, rfl, rfl⟩
        have hi' : i < ds.length := by omega
        obtain ⟨x1, e1, d1⟩ := dpall_get ha1 (List.getElem?_eq_getElem hi')
        obtain ⟨x2, e2, d2⟩ := dpall_get ha2 (List.getElem?_eq_getElem hi')
        walk_at "cw"
        refine c_alike _ d1 d2 (hf _ (List.getElem_mem hi')) ?_
        walk_at "cw"
        exact ⟨_, rfl, rfl⟩
      · rintro σ H' ⟨v, rfl, rfl⟩
        walk_at "cw"
        exact q
    | @tup a1 xs1 ds hs1 ha1 =>
      cases h2 with
      | @tup a2 xs2 _ hs2 ha2 =>
      obtain ⟨j, rfl, rfl⟩ := hk ds (.inr h3)
      obtain ⟨hz, hf⟩ := h3
      have l1 := dpall_len ha1
      have l2 := dpall_len ha2
      walk_at "cw"
      refine f_rng1 (by omega) (by omega) (fun i σ H' => ∃ v : Option V, σ = [some (.ref a1), some (.ref a2), v] ∧ H' = H) ⟨none, rfl, rfl⟩ ?_ ?_
      · rintro i σ H' hi ⟨v, rfl, rfl⟩
        have hi' : i < ds.length := by omega
        obtain ⟨x1, e1, d1⟩ := dpall_get ha1 (List.getElem?_eq_getElem hi')
        obtain ⟨x2, e2, d2⟩ := dpall_get ha2 (List.getElem?_eq_getElem hi')
        walk_at "cw"
        refine c_alike _ d1 d2 (hf _ (List.getElem_mem hi')) ?_
        walk_at "cw"
        exact ⟨_, rfl, rfl⟩
      · rintro σ H' ⟨v, rfl, rfl⟩
        walk_at "cw"
        exact q
theorem alike_at (T : Txt K mg ad) : ∀ k : Nat, FnOk P w K mg base CX0 (k + 1) ad.a_l_alike ad.d_l_alike ["_law_found", "_law_due"] (sp_l_alike K k)
  | 0 => alike_body T 0 (fun _ _ _ _ => False) ⟨fun _ _ _ _ h => h.elim, fun _ _ _ _ _ _ _ _ _ _ _ _ _ h => h.elim⟩ (fun ds h => by rcases h with h | h <;> exact h.elim)
  | k + 1 => alike_body T (k + 1) (sp_l_alike K k) (alike_at T k) (fun _ _ => ⟨k, rfl, rfl⟩)
theorem ok_l_alike (T : Txt K mg ad) : FnOk P w K mg base CX0 6 ad.a_l_alike ad.d_l_alike ["_law_found", "_law_due"] (sp_l_alike K 5) := alike_at T 5

/-! _law_class -/
def sp_l_class (CB : Addr) : Addr → Value → Option Addr → Sp := fun a c d vs H Q _ => vs = [.ref a] ∧ c = .ref CB ∧ (∀ dd, d = some dd → ∃ fs, H dd = some (.xd fs)) ∧ ∀ H', Fr [] H H' → Q (.str (Str.ofString "BadRow")) H'
theorem ok_l_class (T : Txt K mg ad) : FnX P w K mg base CX0 1 ad.a_l_class ad.d_l_class ["_law_e"] (sp_l_class ad.C_BadRow) := by
  refine fun_okH T.F_l_class sc_l_class (fun a c d vs H Q E h => ?_) (fun cdv A outer s H vs Q E p c d hz hf hr h => ?_)
  · obtain ⟨rfl, _⟩ := h
    rfl
  obtain ⟨rfl, rfl, hd, k⟩ := h
  have hD := T.er_BadRow
  refine ⟨_, (pss_cons (ps_set (i := 1) sc_l_class.nd rfl (by first | exact Or.inl rfl | exact Or.inr rfl) (pe_lst (pa_cons (pe_callB (kIsX (K := K) rfl hD.isE List.mem_cons_self hz hf) (by rfl) T.z_isinstance (by decide +kernel) (pa_cons (pv 0) (pa_cons (pe_glob (v := .ref ad.C_BadRooms) rfl T.m_BadRooms rfl) pa_nil))) (pa_cons (pe_callB (kIsX (K := K) rfl hD.isE List.mem_cons_self hz hf) (by rfl) T.z_isinstance (by decide +kernel) (pa_cons (pv 0) (pa_cons (pe_glob (v := .ref ad.C_BadRow) rfl T.m_BadRow rfl) pa_nil))) (pa_cons (pe_callB (kIsX (K := K) rfl hD.isE List.mem_cons_self hz hf) (by rfl) T.z_isinstance (by decide +kernel) (pa_cons (pv 0) (pa_cons (pe_glob (v := .ref ad.C_BadRule) rfl T.m_BadRule rfl) pa_nil))) (pa_cons (pe_callB (kIsX (K := K) rfl hD.isE List.mem_cons_self hz hf) (by rfl) T.z_isinstance (by decide +kernel) (pa_cons (pv 0) (pa_cons (pe_glob (v := .ref ad.C_TooMany) rfl T.m_TooMany rfl) pa_nil))) pa_nil))))))
    (pss_cons (ps_set (i := 2) sc_l_class.nd rfl (by first | exact Or.inl rfl | exact Or.inr rfl) (pe_lst (pa_cons pe_str (pa_cons pe_str (pa_cons pe_str (pa_cons pe_str pa_nil))))))
    (pss_one (ps_ret (pe_ifExp (PW.pt (pw_and (pt_cmpR op_eq (kBM (K := K) rfl (pe_bm PySem.F.plainAttrs_list PySem.F.slot_list_count PySem.F.type_list_count (kCountB K rfl) (pv 1) (pa_cons pe_bl pa_nil))) pe_int (nomark _)) (pw_and1 (pt_val (pe_callB (kIsX (K := K) rfl hD.isE List.mem_cons_self hz hf) (by rfl) T.z_isinstance (by decide +kernel) (pa_cons (pv 0) (pa_cons (pe_bltn (v := .ty "ValueError") (by rfl) T.z_ValueError (by decide +kernel) rfl) pa_nil))))))) (pe_ix (kIxL K rfl) (pv 2) (kBM (K := K) rfl (pe_bm PySem.F.plainAttrs_list PySem.F.slot_list_index PySem.F.type_list_index (kIndex K rfl) (pv 1) (pa_cons pe_bl pa_nil))) (fun _ _ => rfl)) pe_str))))), ?_⟩
  try dsimp only [L2H.cxH, L2.cxOf, L2.Cx.nox]
  walk_at "cw"
  refine w_isX (T.er_BadRooms.kit T.s_BadRow_BadRooms (cls_ne T.s_BadRow_BadRow T.s_BadRow_BadRooms)) hd ?_
  walk_at "cw"
  refine w_isX (T.er_BadRow.kit T.s_BadRow_BadRow (cls_ne T.s_BadRow_BadRow T.s_BadRow_BadRow)) hd ?_
  walk_at "cw"
  refine w_isX (T.er_BadRule.kit T.s_BadRow_BadRule (cls_ne T.s_BadRow_BadRow T.s_BadRow_BadRule)) hd ?_
  walk_at "cw"
  refine w_isX (T.er_TooMany.kit T.s_BadRow_TooMany (cls_ne T.s_BadRow_BadRow T.s_BadRow_TooMany)) hd ?_
  walk_at "cw"
  rename_i k1 hk1 k2 hk2
  have n12 : k1 ≠ k2 := ne_of_none upd_same hk2
  have hk1' : (upd (upd H k1 (HO.lst [V.bl false, V.bl true, V.bl false, V.bl false])) k2 (HO.lst [V.str (Str.ofString "BadRooms"), V.str (Str.ofString "BadRow"), V.str (Str.ofString "BadRule"), V.str (Str.ofString "TooMany")])) k1 = some (.lst [V.bl false, V.bl true, V.bl false, V.bl false]) := by
    rw [upd_ne n12, upd_same]
  refine w_countB (bs := [false, true, false, false]) (SqL.of hk1') ?_
  walk_at "cw"
  have F : Fr [] H (upd (upd H k1 (HO.lst [V.bl false, V.bl true, V.bl false, V.bl false])) k2 (HO.lst [V.str (Str.ofString "BadRooms"), V.str (Str.ofString "BadRow"), V.str (Str.ofString "BadRule"), V.str (Str.ofString "TooMany")])) := (Fr.new hk1).trans (Fr.new hk2)
  refine iteT ?_
  walk_at "cw"
  refine w_isXT (kit_VE T.s_BadRow_VE) (fun dd e => ?_) ?_
  · obtain ⟨fs, h⟩ := hd dd e
    exact ⟨fs, F.get0 h⟩
  walk_at "cw"
  refine ⟨k1, _, .bl true, 1, .bl true, rfl, rfl, SqL.of hk1', rfl, rfl, rfl, rfl, fun m z' hm hz => ?_, ?_⟩
  · obtain rfl : m = 0 := by omega
    cases hz
    rfl
  walk_at "cw"
  exact k _ F

/-! _law_row -/
def sp_l_row : Sp := fun vs H Q _ => ∃ (b q : Addr) (n : Int), vs = [.ref b, .int n] ∧ Box H b q ∧ 0 ≤ n ∧ n ≤ 100 ∧
  ∀ (p : Addr) (ns : List Int) H', Fr [b, q] H H' → Box H' b q → H p = none → H' p = some (.lst (ns.map V.int)) → (ns.length : Int) ≤ n → (∀ x ∈ ns, 0 ≤ x ∧ x < 12) → Q (.ref p) H'
theorem c_row {H : Hp} {Q : VK} {E : XK} {b q : Addr} {n : Int} (hB : Box H b q) (n0 : 0 ≤ n) (n1 : n ≤ 100)
    (k : ∀ (p : Addr) (ns : List Int) H', Fr [b, q] H H' → Box H' b q → H p = none → H' p = some (.lst (ns.map V.int)) → (ns.length : Int) ≤ n → (∀ x ∈ ns, 0 ≤ x ∧ x < 12) → Q (.ref p) H') : sp_l_row ([.ref b, .int n] ++ []) H Q E := ⟨b, q, n, rfl, hB, n0, n1, k⟩
def row_mid (H0 : Hp) (b q p : Addr) (n pg way : Int) (t : V) (ns : List Int) : L2.St → Hp → Prop := fun σ H => ∃ z : Int, 0 ≤ z ∧ z < 12 ∧ σ = [some (.ref b), some (.int n), some (.int pg), some (.ref p), some (.int way), some t, some (.int z)] ∧
  Fr [b, q] H0 H ∧ Box H b q ∧ H p = some (.lst (ns.map V.int))
theorem ok_l_row (T : Txt K mg ad) : FnOk P w K mg base CX0 2 ad.a_l_row ad.d_l_row ["_law_box", "_law_most"] sp_l_row := by
  refine T.F_l_row.ok sc_l_row (fun vs H Q E h => ?_) (fun cdv A outer s H vs Q E hr h => ?_)
  · obtain ⟨b, q, n, rfl, _⟩ := h
    rfl
  obtain ⟨b, q, n, rfl, hB, n0, n1, k⟩ := h
  refine ⟨_, (pss_cons (ps_set (i := 2) sc_l_row.nd rfl (by first | exact Or.inl rfl | exact Or.inr rfl) (pe_op op_add pe_int (pe_call (ok_l_take T) (hr.mono (by decide)) (by rfl) T.m_l_take T.F_l_take.kp T.b_l_take .nil pass0 (pa_cons (pv 0) (pa_cons (pe_ix (kIxL K rfl) (pe_lst (pa_cons pe_int (pa_cons pe_int (pa_cons pe_int pa_nil)))) (pe_call (ok_l_take T) (hr.mono (by decide)) (by rfl) T.m_l_take T.F_l_take.kp T.b_l_take .nil pass0 (pa_cons (pv 0) (pa_cons pe_int pa_nil))) (fun _ _ => rfl)) pa_nil)))))
    (pss_cons (ps_set (i := 3) sc_l_row.nd rfl (by first | exact Or.inl rfl | exact Or.inr rfl) (pe_lst pa_nil))
    (pss_cons (ps_set (i := 4) sc_l_row.nd rfl (by first | exact Or.inl rfl | exact Or.inr rfl) (pe_call (ok_l_take T) (hr.mono (by decide)) (by rfl) T.m_l_take T.F_l_take.kp T.b_l_take .nil pass0 (pa_cons (pv 0) (pa_cons pe_int pa_nil))))
    (pss_cons (ps_for PassesOwn.never rfl (pi_range1 (by rfl) T.z_range (pa_cons (pe_call (ok_l_take T) (hr.mono (by decide)) (by rfl) T.m_l_take T.F_l_take.kp T.b_l_take .nil pass0 (pa_cons (pv 0) (pa_cons (pe_op op_add (pv 1) pe_int) pa_nil))) pa_nil)) (pg_name (i := 5) sc_l_row.nd rfl (by first | exact Or.inl rfl | exact Or.inr rfl)) (pss_cons (ps_set (i := 6) sc_l_row.nd rfl (by first | exact Or.inl rfl | exact Or.inr rfl) (pe_call (ok_l_take T) (hr.mono (by decide)) (by rfl) T.m_l_take T.F_l_take.kp T.b_l_take .nil pass0 (pa_cons (pv 0) (pa_cons (pv 2) pa_nil))))
    (C8.pss_cut (ps_if (PW.pt (pw_and (pt_cmpR op_eq (pv 4) pe_int (nomark _)) (pw_and (pt_cmpR (kNeD K rfl hr.units) (pv 3) (pe_lst pa_nil) (nomark _)) (pw_and1 (pt_cmpR op_gt (pe_call (ok_l_take T) (hr.mono (by decide)) (by rfl) T.m_l_take T.F_l_take.kp T.b_l_take .nil pass0 (pa_cons (pv 0) (pa_cons pe_int pa_nil))) pe_int (nomark _)))))) (pss_one (ps_set (i := 6) sc_l_row.nd rfl (by first | exact Or.inl rfl | exact Or.inr rfl) (pe_ix (kIxL K rfl) (pv 3) (pe_op op_sub (pe_op op_sub (pe_callB (kLen K rfl) (by rfl) T.z_len (by decide +kernel) (pa_cons (pv 3) pa_nil)) pe_int) (pe_call (ok_l_take T) (hr.mono (by decide)) (by rfl) T.m_l_take T.F_l_take.kp T.b_l_take .nil pass0 (pa_cons (pv 0) (pa_cons (pe_callB (cr_min2 rfl) (by rfl) T.z_min (by decide +kernel) (pa_cons pe_int (pa_cons (pe_callB (kLen K rfl) (by rfl) T.z_len (by decide +kernel) (pa_cons (pv 3) pa_nil)) pa_nil))) pa_nil)))) (fun _ _ => rfl)))) pss_nil)
    (C8.pss_cut (ps_if (PW.pt (pw_and (pt_cmpR op_eq (pv 4) pe_int (nomark _)) (pw_and1 (pt_cmpR op_gt (pe_call (ok_l_take T) (hr.mono (by decide)) (by rfl) T.m_l_take T.F_l_take.kp T.b_l_take .nil pass0 (pa_cons (pv 0) (pa_cons pe_int pa_nil))) pe_int (nomark _))))) (pss_one (ps_set (i := 6) sc_l_row.nd rfl (by first | exact Or.inl rfl | exact Or.inr rfl) (pe_op op_mod (pv 5) (pv 2)))) pss_nil)
    (C8.pss_cut (ps_if (PW.pt (pw_and (pt_cmpR op_eq (pv 4) pe_int (nomark _)) (pw_and (pt_cmpR (kNeD K rfl hr.units) (pv 3) (pe_lst pa_nil) (nomark _)) (pw_and1 (pt_cmpR op_gt (pe_call (ok_l_take T) (hr.mono (by decide)) (by rfl) T.m_l_take T.F_l_take.kp T.b_l_take .nil pass0 (pa_cons (pv 0) (pa_cons pe_int pa_nil))) pe_int (nomark _)))))) (pss_one (ps_set (i := 6) sc_l_row.nd rfl (by first | exact Or.inl rfl | exact Or.inr rfl) (pe_op op_mod (pe_op op_add (pe_op op_add (pe_ix (kIxL K rfl) (pv 3) (pe_un un_neg pe_int) (fun _ _ => rfl)) pe_int) (pe_call (ok_l_take T) (hr.mono (by decide)) (by rfl) T.m_l_take T.F_l_take.kp T.b_l_take .nil pass0 (pa_cons (pv 0) (pa_cons pe_int pa_nil)))) (pv 2)))) pss_nil)
    (pss_one (ps_expr (kBM (K := K) rfl (pe_bm PySem.F.plainAttrs_list PySem.F.slot_list_append PySem.F.type_list_append mt_append (pv 3) (pa_cons (pv 6) pa_nil))))))))))
    (pss_one (ps_ret (pv 3))))))), ?_⟩
  try dsimp only [L2.cxOf, L2.Cx.nox]
  walk_at "cw"
  rename_i p1 hp1
  refine c_take (hB.keep0 (Fr.new hp1)) (by omega) (by omega) fun r H1 f1 B1 r0 r1 => ?_
  have h1 : H1 p1 = some (.lst (([4, 6, 12] : List Int).map V.int)) := f1.get upd_same (hB.free hp1)
  obtain ⟨v, hv, hm⟩ := ints_at (ns := [4, 6, 12]) r0 (by simpa using r1)
  have v0 : 0 < v ∧ v ≤ 12 := by
    simp at hm
    omega
  walk_at "cw"
  refine c_take B1 (by omega) (by omega) fun pg0 H2 f2 B2 pg1 pg2 => ?_
  walk_at "cw"
  rename_i p hp
  have F2 : Fr [b, q] H H2 := ((Fr.new hp1).trans f1).trans f2
  have hp0 : H p = none := F2.free hp
  have np : p ∉ [b, q] := B2.free hp
  refine c_take (B2.keep0 (Fr.new hp)) (by omega) (by omega) fun way H4 f4 B4 w0 w1 => ?_
  have h4 : H4 p = some (.lst (([] : List Int).map V.int)) := f4.get upd_same np
  have F4 : Fr [b, q] H H4 := (F2.trans (Fr.new hp)).trans f4
  walk_at "cw"
  refine c_take B4 (by omega) (by omega) fun m H5 f5 B5 m0 m1 => ?_
  have h5 := f5.get h4 np
  have F5 := F4.trans f5
  walk_at "cw"
  refine f_rng1 (by omega) m0 (fun i σ H' => ∃ (ns : List Int) (v5 v6 : Option V), σ = [some (.ref b), some (.int n), some (.int (1 + pg0)), some (.ref p), some (.int way), v5, v6] ∧ Fr [b, q] H H' ∧ Box H' b q ∧ H' p = some (.lst (ns.map V.int)) ∧ ns.length = i ∧ ∀ x ∈ ns, 0 ≤ x ∧ x < 12)
    ⟨[], none, none, rfl, F5, B5, h5, rfl, by simp⟩ ?_ ?_
  · rintro i σ H' hi ⟨ns, v5, v6, rfl, F, B, hP, hl, hm⟩
    walk_at "cw"
    refine c_take B (by omega) (by omega) fun z H6 f6 B6 z0 z1 => ?_
    have F6 := F.trans f6
    have h6 := f6.get hP np
    walk_at "cw"
    refine w_cut (row_mid H b q p n (1 + pg0) way (.int (i : Int)) ns) ?_ ?_
    · walk_at "cw"
      walk_at "cw if" <;> intro e1
      · walk_at "cw"
        walk_at "cw if" <;> intro e2
        · walk_at "cw"
          rename_i p7 hp7
          have np7 : p ≠ p7 := ne_of_none h6 hp7
          refine c_take (B6.keep0 (Fr.new hp7)) (by omega) (by omega) fun z2 H7 f7 B7 z20 z21 => ?_
          have h7 : H7 p = some (.lst (ns.map V.int)) := f7.get ((upd_ne np7).trans h6) np
          have F7 := (F6.trans (Fr.new hp7)).trans f7
          walk_at "cw"
          walk_at "cw if" <;> intro e3
          · walk_at "cw"
            simp only [List.length_map]
            have hlen : 0 < ns.length := List.length_pos_iff.mpr e2
            refine c_take B7 (by split <;> omega) (by split <;> omega) fun z3 H8 f8 B8 z30 z31 => ?_
            have h8 := f8.get h7 np
            have zz : z3 < (ns.length : Int) := by
              split at z31 <;> omega
            obtain ⟨v, hv, hvm⟩ := ints_at (ns := ns) (r := (ns.length : Int) - 1 - z3) (by omega) (by omega)
            walk_at "cw"
            exact ⟨v, (hm v hvm).1, (hm v hvm).2, rfl, F7.trans f8, B8, h8⟩
          · walk_at "cw"
            exact ⟨z, z0, by omega, rfl, F7, B7, h7⟩
        · walk_at "cw"
          rename_i p7 hp7
          exact ⟨z, z0, by omega, rfl, F6.trans (Fr.new hp7), B6.keep0 (Fr.new hp7), (upd_ne (ne_of_none h6 hp7)).trans h6⟩
      · walk_at "cw"
        exact ⟨z, z0, by omega, rfl, F6, B6, h6⟩
    rintro σ H7 ⟨z', z0', z1', rfl, F7, B7, h7⟩
    refine w_cut (row_mid H b q p n (1 + pg0) way (.int (i : Int)) ns) ?_ ?_
    · walk_at "cw"
      walk_at "cw if" <;> intro e1
      · walk_at "cw"
        refine c_take B7 (by omega) (by omega) fun z2 H8 f8 B8 z20 z21 => ?_
        have h8 := f8.get h7 np
        have F8 := F7.trans f8
        walk_at "cw"
        walk_at "cw if" <;> intro e3
        · walk_at "cw"
          have m1 := mod_in (z := (i : Int)) (n := 1 + pg0) (by omega)
          exact ⟨_, m1.1, by omega, rfl, F8, B8, h8⟩
        · walk_at "cw"
          exact ⟨z', z0', z1', rfl, F8, B8, h8⟩
      · walk_at "cw"
        exact ⟨z', z0', z1', rfl, F7, B7, h7⟩
    rintro σ H8 ⟨z'', z0'', z1'', rfl, F8, B8, h8⟩
    refine w_cut (row_mid H b q p n (1 + pg0) way (.int (i : Int)) ns) ?_ ?_
    · walk_at "cw"
      walk_at "cw if" <;> intro e1
      · walk_at "cw"
        walk_at "cw if" <;> intro e2
        · walk_at "cw"
          rename_i p7 hp7
          have np7 : p ≠ p7 := ne_of_none h8 hp7
          refine c_take (B8.keep0 (Fr.new hp7)) (by omega) (by omega) fun z2 H9 f9 B9 z20 z21 => ?_
          have h9 : H9 p = some (.lst (ns.map V.int)) := f9.get ((upd_ne np7).trans h8) np
          have F9 := (F8.trans (Fr.new hp7)).trans f9
          walk_at "cw"
          walk_at "cw if" <;> intro e3
          · obtain ⟨v, hv, hvm⟩ := ints_last e2
            walk_at "cw"
            refine c_take B9 (by omega) (by omega) fun z3 H10 f10 B10 z30 z31 => ?_
            walk_at "cw"
            have m1 := mod_in (z := v + 1 + z3) (n := 1 + pg0) (by omega)
            exact ⟨_, m1.1, by omega, rfl, F9.trans f10, B10, f10.get h9 np⟩
          · walk_at "cw"
            exact ⟨z'', z0'', z1'', rfl, F9, B9, h9⟩
        · walk_at "cw"
          rename_i p7 hp7
          exact ⟨z'', z0'', z1'', rfl, F8.trans (Fr.new hp7), B8.keep0 (Fr.new hp7), (upd_ne (ne_of_none h8 hp7)).trans h8⟩
      · walk_at "cw"
        exact ⟨z'', z0'', z1'', rfl, F8, B8, h8⟩
    rintro σ H9 ⟨y, y0, y1, rfl, F9, B9, h9⟩
    walk_at "cw"
    refine ⟨ns ++ [y], _, _, rfl, F9.loc hp0, B9.keep (W := [p]) (Fr.at (by simp)) ?_ ?_, upd_same.trans (by rw [List.map_append]; rfl), by simp [hl], ?_⟩
    · exact fun m => np (by simp at m; simp [m])
    · exact fun m => np (by simp at m; simp [m])
    · intro x hx
      rcases List.mem_append.mp hx with h | h
      · exact hm x h
      · simp at h
        subst h
        exact ⟨y0, y1⟩
  · rintro σ H' ⟨ns, v5, v6, rfl, F, B, hP, hl, hm⟩
    walk_at "cw"
    exact k p ns H' F B hp0 hP (by omega) hm

/-! _law_dial -/
def sp_l_dial : Sp := fun vs H Q _ => ∃ n : Int, vs = [.int n] ∧ 1 ≤ n ∧ n ≤ 8 ∧ ∀ p a b H', Fr [] H H' → H p = none → H a = none → H b = none → p ≠ a → p ≠ b → a ≠ b → LDial H' p a b (Dl.new n.toNat) → Q (.ref p) H'
theorem c_dial {H : Hp} {Q : VK} {E : XK} {n : Int} (n0 : 1 ≤ n) (n8 : n ≤ 8) (k : ∀ p a b H', Fr [] H H' → H p = none → H a = none → H b = none → p ≠ a → p ≠ b → a ≠ b → LDial H' p a b (Dl.new n.toNat) → Q (.ref p) H') : sp_l_dial ([.int n] ++ []) H Q E := ⟨n, rfl, n0, n8, k⟩
theorem rep1 (k : Nat) (v : V) : (List.replicate k [v]).flatten = List.replicate k v := by
  induction k with
  | zero => rfl
  | succ k ih => rw [List.replicate_succ, List.flatten_cons, ih]; rfl
theorem ok_l_dial (T : Txt K mg ad) : FnOk P w K mg base CX0 1 ad.a_l_dial ad.d_l_dial ["_law_rooms"] sp_l_dial := by
  refine T.F_l_dial.ok sc_l_dial (fun vs H Q E h => ?_) (fun cdv A outer s H vs Q E hr h => ?_)
  · obtain ⟨n, rfl, _⟩ := h
    rfl
  obtain ⟨n, rfl, n0, n8, k⟩ := h
  refine ⟨_, (pss_one (ps_ret (pe_disp (pps_cons pe_str (pe_op op_rep (pe_lst (pa_cons pe_non pa_nil)) (pv 0)) (pps_cons pe_str (pe_op op_rep (pe_lst (pa_cons pe_bl pa_nil)) (pv 0)) (pps_cons pe_str pe_int (pps_cons pe_str pe_int pps_nil)))) (by rfl) (by rfl) (fun z => by cases z) (by decide)))), ?_⟩
  walk_at "cwd"
  rename_i p hp q1 hq1 a ha q2 hq2 b hb
  have nap : a ≠ p := ne_s (ne_of_none upd_same (upd_none ha))
  have nbp : b ≠ p := ne_s (ne_of_none upd_same (upd_none (upd_none (upd_none hb))))
  have nab : a ≠ b := ne_of_none upd_same (upd_none hb)
  refine ⟨?_, ddl a b 0 0, rfl, by show 4 ≤ 15; decide, ?_⟩
  · have e1 : p ≠ q1 := ne_of_none upd_same hq1
    have e2 : p ≠ q2 := ne_of_none ((upd_ne (ne_s nap)).trans ((upd_ne e1).trans upd_same)) hq2
    rw [upd_ne (ne_s nbp), upd_ne e2, upd_ne (ne_s nap), upd_ne e1, upd_same]
  · rw [ddl_made]
    have e3 : a ≠ q2 := ne_of_none upd_same hq2
    refine k p a b _ ?_ hp (upd_none (upd_none ha)) (upd_none (upd_none (upd_none (upd_none hb)))) (ne_s nap) (ne_s nbp) nab ⟨upd_same, ?_, ?_⟩
    · refine Fr.loc ?_ hp
      exact (((((Fr.new hp).trans (Fr.new hq1)).trans (Fr.new ha)).trans (Fr.new hq2)).trans (Fr.new hb))
    · rw [upd_ne nap, upd_ne nab, upd_ne e3, upd_same, rep1]; simp [Dl.new, oV]
    · rw [upd_ne nbp, upd_same, rep1]; simp [Dl.new]

/-! _law_ask -/
def sp_l_ask : Sp := fun vs H Q _ => ∃ (p a b : Addr) (d : Dl) (n : Nat) (x : Int), vs = [.ref p, .int x] ∧ LDial H p a b d ∧ d.Wf n ∧ p ≠ a ∧ p ≠ b ∧ a ≠ b ∧
  ∀ t q H', Fr [p, a, b] H H' → LDial H' p a b (d.ask x).1 → H t = none → H q = none → H' t = some (.tup (toldV (d.ask x).2 q)) → H' q = some (.lst (natsV (d.ask x).2.passed)) → Q (.ref t) H'
theorem c_ask {H : Hp} {Q : VK} {E : XK} {p a b : Addr} {d : Dl} {n : Nat} {x : Int} (h : LDial H p a b d) (w : d.Wf n) (pa : p ≠ a) (pb : p ≠ b) (ab : a ≠ b)
    (k : ∀ t q H', Fr [p, a, b] H H' → LDial H' p a b (d.ask x).1 → H t = none → H q = none → H' t = some (.tup (toldV (d.ask x).2 q)) → H' q = some (.lst (natsV (d.ask x).2.passed)) → Q (.ref t) H') : sp_l_ask ([.ref p, .int x] ++ []) H Q E :=
  ⟨p, a, b, d, n, x, rfl, h, w, pa, pb, ab, k⟩
theorem ok_l_ask (T : Txt K mg ad) : FnOk P w K mg base CX0 1 ad.a_l_ask ad.d_l_ask ["_law_dial_here", "_law_page"] sp_l_ask := by
  refine T.F_l_ask.ok sc_l_ask (fun vs H Q E h => ?_) (fun cdv A outer s H vs Q E hr h => ?_)
  · obtain ⟨p, a, b, d, n, x, rfl, _⟩ := h
    rfl
  obtain ⟨p, a, b, d, n, x, rfl, hD, hW, npa, npb, nab, k⟩ := h
  obtain ⟨h1, h2, h3⟩ := id hD
  obtain ⟨n0, n8, hl, sl, hd, mk⟩ := id hW
  have hml : (d.here.map oV).length = n := by rw [List.length_map]; exact hl
  have hu := hu_of hr
  refine ⟨_, (pss_cons (ps_set (i := 2) sc_l_ask.nd rfl (by first | exact Or.inl rfl | exact Or.inr rfl) (pe_callB (kLen K rfl) (by rfl) T.z_len (by decide +kernel) (pa_cons (pe_dget hu (pv 0) pe_str (fun _ _ => rfl)) pa_nil)))
    (pss_cons (ps_if (pt_cmpR (kIn K rfl) (pv 1) (pe_dget hu (pv 0) pe_str (fun _ _ => rfl)) (by with_unfolding_all rfl)) (pss_cons (ps_asg pe_bl (pg_sub (pe_dget hu (pv 0) pe_str (fun _ _ => rfl)) (kBM (K := K) rfl (pe_bm PySem.F.plainAttrs_list PySem.F.slot_list_index PySem.F.type_list_index (kIndex K rfl) (pe_dget hu (pv 0) pe_str (fun _ _ => rfl)) (pa_cons (pv 1) pa_nil))) set_list))
    (pss_one (ps_ret (pe_tup (pa_cons pe_bl (pa_cons pe_non (pa_cons (pe_lst pa_nil) pa_nil))))))) pss_nil)
    (pss_cons (ps_set (i := 3) sc_l_ask.nd rfl (by first | exact Or.inl rfl | exact Or.inr rfl) (pe_lst pa_nil))
    (pss_cons (ps_set (i := 4) sc_l_ask.nd rfl (by first | exact Or.inl rfl | exact Or.inr rfl) (pe_dget hu (pv 0) pe_str (fun _ _ => rfl)))
    (C8.pss_cut (ps_while PassesOwn.never (pt_val (pe_ix (kIxL K rfl) (pe_dget hu (pv 0) pe_str (fun _ _ => rfl)) (pv 4) (fun _ _ => rfl))) (pss_cons (ps_asg pe_bl (pg_sub (pe_dget hu (pv 0) pe_str (fun _ _ => rfl)) (pv 4) set_list))
    (pss_cons (ps_expr (kBM (K := K) rfl (pe_bm PySem.F.plainAttrs_list PySem.F.slot_list_append PySem.F.type_list_append mt_append (pv 3) (pa_cons (pv 4) pa_nil))))
    (pss_one (ps_set (i := 4) sc_l_ask.nd rfl (by first | exact Or.inl rfl | exact Or.inr rfl) (pe_op op_mod (pe_op op_add (pv 4) pe_int) (pv 2)))))))
    (pss_cons (ps_set (i := 5) sc_l_ask.nd rfl (by first | exact Or.inl rfl | exact Or.inr rfl) (pe_ix (kIxL K rfl) (pe_dget hu (pv 0) pe_str (fun _ _ => rfl)) (pv 4) (fun _ _ => rfl)))
    (pss_cons (ps_asg (pv 1) (pg_sub (pe_dget hu (pv 0) pe_str (fun _ _ => rfl)) (pv 4) set_list))
    (pss_cons (ps_asg pe_bl (pg_sub (pe_dget hu (pv 0) pe_str (fun _ _ => rfl)) (pv 4) set_list))
    (pss_cons (ps_dput hu (pv 0) pe_str (pe_op op_mod (pe_op op_add (pv 4) pe_int) (pv 2)) rfl)
    (pss_cons (ps_dput hu (pv 0) pe_str (pe_op op_add (pe_dget hu (pv 0) pe_str (fun _ _ => rfl)) pe_int) rfl)
    (pss_one (ps_ret (pe_tup (pa_cons pe_bl (pa_cons (pv 5) (pa_cons (pv 3) pa_nil)))))))))))))))), ?_⟩
  walk_at "cwd"
  refine w_inL (SqL.of h2) rfl (flat_oV _) (in_oV x d.here) ?_
  walk_at "cwd"
  walk_at "cw if" <;> intro e
  · walk_at "cwd"
    refine w_index (SqL.of h2) e ?_
    have hj := List.idxOf_lt_length_iff.mpr e
    refine w_setL h3 (ixN_nat (by rw [List.length_map]; omega)) rfl ?_
    walk_at "cwd"
    rename_i q hq t ht
    have ea : d.ask x = ({ d with seen := d.seen.set (d.here.idxOf (some x)) true }, ⟨false, none, []⟩) := by unfold Dl.ask; rw [if_pos e]
    rw [ea] at k
    have hq0 : H q = none := upd_none hq
    have ht0 : H t = none := upd_none (upd_none ht)
    have ntq : q ≠ t := ne_of_none upd_same ht
    have nq : ∀ c o, H c = some o → c ≠ q := fun c o h => ne_of_none h hq0
    have nt : ∀ c o, H c = some o → c ≠ t := fun c o h => ne_of_none h ht0
    refine k t q _ (((Fr.at (by simp)).trans (Fr.new hq)).trans (Fr.new ht)) ⟨?_, ?_, ?_⟩ ht0 hq0 upd_same ?_
    · rw [upd_ne (nt p _ h1), upd_ne (nq p _ h1), upd_ne npb]; exact h1
    · rw [upd_ne (nt a _ h2), upd_ne (nq a _ h2), upd_ne nab]; exact h2
    · rw [upd_ne (nt b _ h3), upd_ne (nq b _ h3), upd_same, List.map_set]
    · rw [upd_ne ntq]; exact upd_same
  · walk_at "cwd"
    rename_i q hq
    have npq : p ≠ q := ne_of_none h1 hq
    have naq : a ≠ q := ne_of_none h2 hq
    have nbq : b ≠ q := ne_of_none h3 hq
    have nqb : q ≠ b := ne_s nbq
    have nqp : q ≠ p := ne_s npq
    refine w_cut (fun σ H' => ∃ v, σ = [some (.ref p), some (.int x), some (.int n), some (.ref q), some (.int d.spin.2.1), v] ∧ Fr [p, a, b] H H' ∧ H' p = some (.dK (ddl a b d.hand d.lacks)) ∧ H' a = some (.lst (d.here.map oV)) ∧
      H' b = some (.lst (d.spin.1.map V.bl)) ∧ H' q = some (.lst (natsV d.spin.2.2))) ?_ ?_
    · refine f_while (fun m σ H' => ∃ (sc : List Bool) (hc : Nat) (pc : List Nat), m = sc.count true ∧ σ = [some (.ref p), some (.int x), some (.int n), some (.ref q), some (.int hc), none] ∧ Fr [p, a, b] H H' ∧
        H' p = some (.dK (ddl a b d.hand d.lacks)) ∧ H' a = some (.lst (d.here.map oV)) ∧ H' b = some (.lst (sc.map V.bl)) ∧ H' q = some (.lst (natsV pc)) ∧ sc.length = n ∧ hc < n ∧ pc.length + sc.count true ≤ 8 ∧
        ((Cw.spin n (sc.count true) sc hc).1, (Cw.spin n (sc.count true) sc hc).2.1, pc ++ (Cw.spin n (sc.count true) sc hc).2.2) = d.spin)
        (d.seen.count true) ⟨d.seen, d.hand, [], rfl, by rw [hml]; rfl, Fr.new hq, ?_, ?_, ?_, upd_same, sl, hd, ?_, ?_⟩ ?_
      · rw [upd_ne npq]; exact h1
      · rw [upd_ne naq]; exact h2
      · rw [upd_ne nbq]; exact h3
      · have := List.count_le_length (a := true) (l := d.seen)
        simp
        omega
      · unfold Dl.spin
        rw [hl]
        simp
      rintro m σ H1 ⟨sc, hc, pc, rfl, rfl, F, g1, g2, g3, g4, cl, ch, cz, ce⟩
      have sat : atI (sc.map V.bl) (hc : Int) = some (.bl sc[hc]) := atI_nat (by rw [List.getElem?_map, List.getElem?_eq_getElem (by omega)]; rfl)
      have gs : sc[hc]? = some sc[hc] := List.getElem?_eq_getElem (by omega)
      walk_at "cwd"
      walk_at "cw if" <;> intro e2
      · rw [e2] at gs
        walk_at "cwd"
        refine w_turn ?_
        have co := count_off gs
        have go := spin_go (n := n) gs
        walk_at "cwd"
        refine w_setL g3 (ixN_nat (by rw [List.length_map]; omega)) List.map_set.symm ?_
        walk_at "cwd"
        refine w_append (xs := natsV pc) (by walk_at "cw at") (sz_lt (by simp [natsV]; omega)) ?_
        walk_at "cwd"
        have em : ((hc : Int) + 1) % (n : Int) = (((hc + 1) % n : Nat) : Int) := by rw [Int.natCast_emod, Int.natCast_add]; rfl
        rw [go] at ce
        refine ⟨(sc.set hc false).count true, by omega, sc.set hc false, (hc + 1) % n, pc ++ [hc], rfl, by rw [em]; rfl, ?_, ?_, ?_, ?_, ?_, by simp [cl], Nat.mod_lt _ n0, by simp; omega, ?_⟩
        · exact (F.trans (Fr.at (by simp))).comp (W1 := [q]) (Fr.at (by simp)) (by simp [hq])
        · rw [upd_ne npq, upd_ne npb]; exact g1
        · rw [upd_ne naq, upd_ne nab]; exact g2
        · rw [upd_ne nbq, upd_same]
        · rw [upd_same]; simp [natsV]
        · rw [← ce]; simp
      · walk_at "cwd"
        have z : ¬ sc[hc]? = some true := by rw [gs, e2]; simp
        rw [spin_stop z] at ce
        rw [← ce]
        exact ⟨none, rfl, F, g1, g2, g3, by simpa using g4⟩
    · rintro σ H1 ⟨v, rfl, F, g1, g2, g3, g4⟩
      have hf := spin_facts n0 (d.seen.count true) d.seen d.hand (Nat.le_refl _) sl hd
      have es : d.spin = Cw.spin n (d.seen.count true) d.seen d.hand := by unfold Dl.spin; rw [hl]
      rw [← es] at hf
      obtain ⟨f1, f2, f3, f4⟩ := hf
      have hat : atI (d.here.map oV) (d.spin.2.1 : Int) = some (oV (d.here[d.spin.2.1]?).join) := atI_nat (by rw [List.getElem?_map, List.getElem?_eq_getElem (by omega)]; rfl)
      walk_at "cwd"
      refine w_setL g2 (ixN_nat (by rw [List.length_map]; omega)) (show (d.here.map oV).set d.spin.2.1 (oV (some x)) = _ from List.map_set.symm) ?_
      walk_at "cwd"
      refine w_setL (xs := d.spin.1.map V.bl) (by walk_at "cw at") (ixN_nat (by rw [List.length_map]; omega)) List.map_set.symm ?_
      walk_at "cwd"
      rename_i t ht
      have em : ((d.spin.2.1 : Int) + 1) % (n : Int) = (((d.spin.2.1 + 1) % d.here.length : Nat) : Int) := by rw [hl, Int.natCast_emod, Int.natCast_add]; rfl
      have ea : d.ask x = (⟨d.here.set d.spin.2.1 (some x), d.spin.1.set d.spin.2.1 true, (d.spin.2.1 + 1) % d.here.length, d.lacks + 1⟩, ⟨true, (d.here[d.spin.2.1]?).join, d.spin.2.2⟩) := by unfold Dl.ask; rw [if_neg e]
      rw [ea] at k
      have ht1 : H1 t = none := upd_none (upd_none (upd_none (upd_none ht)))
      have ntp : p ≠ t := ne_of_none g1 ht1
      have nta : a ≠ t := ne_of_none g2 ht1
      have ntb : b ≠ t := ne_of_none g3 ht1
      have ntq : q ≠ t := ne_of_none g4 ht1
      refine k t q _ (((((F.trans (Fr.at (by simp))).trans (Fr.at (by simp))).trans (Fr.at (by simp))).trans (Fr.at (by simp))).trans (Fr.new ht)) ⟨?_, ?_, ?_⟩ (F.free ht1) hq upd_same ?_
      · rw [upd_ne ntp, upd_same, em]; rfl
      · rw [upd_ne nta, upd_ne (ne_s npa), upd_ne (ne_s npa), upd_ne nab, upd_same]
      · rw [upd_ne ntb, upd_ne (ne_s npb), upd_ne (ne_s npb), upd_same]
      · rw [upd_ne ntq, upd_ne (ne_s npq), upd_ne (ne_s npq), upd_ne (ne_s nbq), upd_ne (ne_s naq)]; exact g4

/-! _law_told -/
def sp_l_told (C : Addr) : Sp := fun vs H Q _ => ∃ (p a b : Addr) (d : Dl) (n : Nat) (x : Int), vs = [.ref p, .int x] ∧ DialAt C H p a b d ∧ d.Wf n ∧ p ≠ a ∧ p ≠ b ∧ a ≠ b ∧
  (0 ≤ x ∧ x < 12 → ∀ t q H', Fr [p, a, b] H H' → DialAt C H' p a b (d.ask x).1 → H t = none → H q = none → H' t = some (.tup (toldV (d.ask x).2 q)) → H' q = some (.lst (natsV (d.ask x).2.passed)) → Q (.ref t) H') ∧
  (¬ (0 ≤ x ∧ x < 12) → ∀ t H', Fr [] H H' → H t = none → H' t = some (.tup [.str (Str.ofString "BadRow"), .int 0]) → Q (.ref t) H')
theorem ok_l_told (T : Txt K mg ad) : FnOk P w K mg base CX0 4 ad.a_l_told ad.d_l_told ["_law_dial_here", "_law_page"] (sp_l_told ad.C_Dial) := by
  refine T.F_l_told.ok sc_l_told (fun vs H Q E h => ?_) (fun cdv A outer s H vs Q E hr h => ?_)
  · obtain ⟨p, a, b, d, n, x, rfl, _⟩ := h
    rfl
  obtain ⟨p, a, b, d, n, x, rfl, hD, hW, npa, npb, nab, k1, k2⟩ := h
  refine ⟨_, pss_one (ps_try_as (i := 2) (tb := fun W => tRet (tMethX ad.C_Dial "ask" (sp_Dial_askX ad.C_Dial ad.C_BadRow) (WE W) (tVar 0) (tCons (tVar 1) tNil))) (Wout := fun _ _ _ _ => False) rfl rfl sc_l_told.nd rfl rfl ⟨rfl, by decide, Or.inl T.m_PageError⟩ takes0
    (fun W pn xe tk _ => pss_one (ps_ret (pe_methX (pv 0) T.cl_Dial T.mt_Dial_ask (ok_Dial_askX T) (hr.mono (by decide)) T.b_Dial_ask (fun σ => passAt tk σ) (pa_cons (pv 1) pa_nil))))
    (fun a oe cls d pn hz hf => pss_cons (ps_set (i := 3) sc_l_told.nd rfl (Or.inl rfl) (pe_callX (ok_l_class T) (L2H.roomH_of (hr.mono (by decide))) hz hf (by rfl) T.m_l_class T.F_l_class.kp T.b_l_class pass0 (pa_cons (pv 2) pa_nil)))
      (pss_one (ps_ret (pe_ifExp (pt_cmpR op_eq (pv 3) pe_str (nomark _)) (pe_tup (pa_cons (pv 3) (pa_cons (pe_xf T.er_BadRow.xf T.n_BadRow_place hz hf (pv 2)) pa_nil))) (pe_tup (pa_cons (pv 3) (pa_cons pe_int pa_nil)))))))), ?_⟩
  try dsimp only [L2.cxOf, L2.Cx.nox]
  walk_at "cwd"
  obtain ⟨⟨dx, h1⟩, h2, h3⟩ := id hD
  dsimp only [tMethX]
  walk_at "cwd"
  refine ⟨p, dx, _, rfl, h1, rfl, ?_⟩
  walk_at "cwd"
  by_cases hx : 0 ≤ x ∧ x < 12
  · exact .inl ⟨p, a, b, d, n, x, rfl, hD, hW, npa, npb, nab, hx.1, hx.2, k1 hx⟩
  refine .inr ⟨p, x, rfl, hx, fun dd H1 F hd0 hd1 => ?_⟩
  refine ⟨true, T.er_PageError.exm T.s_BadRow_PageError, fun _ e he => ?_, fun z => by cases z⟩
  walk_at "cwd"
  refine ⟨rfl, rfl, fun d2 e2 => ?_, fun H2 F2 => ?_⟩
  · cases e2
    exact ⟨_, hd1⟩
  walk_at "cwd"
  dsimp only [tXf]
  walk_at "cwd"
  refine ⟨rfl, rfl, dd, _, .int 0, rfl, F2.get0 hd1, rfl, ?_⟩
  walk_at "cwd"
  rename_i t ht
  exact k2 hx t _ ((F.trans F2).trans (Fr.new ht)) (F.free (F2.free ht)) upd_same

/-! _law_is -/
def sp_l_is (K : PySem.W.Frag) (C : Addr) : Sp := fun vs H Q _ => ∃ (p a b p' a' b' : Addr) (d : Dl) (n : Nat), vs = [.ref p, .ref p'] ∧ DialAt C H p a b d ∧ LDial H p' a' b' d ∧ d.Wf n ∧ ∀ H', Fr [] H H' → Q (.bl true) H'
theorem c_is {K : PySem.W.Frag} {C : Addr} {H : Hp} {Q : VK} {E : XK} {p a b p' a' b' : Addr} {d : Dl} {n : Nat} (h1 : DialAt C H p a b d) (h2 : LDial H p' a' b' d) (w : d.Wf n) (k : ∀ H', Fr [] H H' → Q (.bl true) H') : sp_l_is K C ([.ref p, .ref p'] ++ []) H Q E :=
  ⟨p, a, b, p', a', b', d, n, rfl, h1, h2, w, k⟩
theorem dpall_o {K : PySem.W.Frag} {H : Hp} (l : List (Option Int)) : DpAll K H (l.map oV) (l.map oD) := by
  induction l with
  | nil => exact .nil
  | cons o l ih =>
    refine .cons ?_ ih
    cases o
    · exact .non
    · exact .int _
theorem dpall_b {K : PySem.W.Frag} {H : Hp} (l : List Bool) : DpAll K H (l.map V.bl) (l.map PyData.bool) := by
  induction l with
  | nil => exact .nil
  | cons o l ih => exact .cons (.bl _) ih
theorem fits_dial {k : Nat} {d : Dl} {n : Nat} (w : d.Wf n) : fits (k + 2) (.list [.list (d.here.map oD), .list (d.seen.map PyData.bool)]) := by
  have h1 := w.hl
  have h2 := w.sl
  have h8 := w.n8
  refine ⟨by simp, fun x hx => ?_⟩
  have hx' : x = .list (d.here.map oD) ∨ x = .list (d.seen.map PyData.bool) := by simpa using hx
  rcases hx' with rfl | rfl
  · refine ⟨by rw [List.length_map]; omega, fun y hy => ?_⟩
    obtain ⟨o, _, rfl⟩ := List.mem_map.mp hy
    cases o <;> cases k <;> exact True.intro
  · refine ⟨by rw [List.length_map]; omega, fun y hy => ?_⟩
    obtain ⟨o, _, rfl⟩ := List.mem_map.mp hy
    cases k <;> exact True.intro
theorem ok_l_is (T : Txt K mg ad) : FnOk P w K mg base CX0 7 ad.a_l_is ad.d_l_is ["_law_dial_here", "_law_due"] (sp_l_is K ad.C_Dial) := by
  refine T.F_l_is.ok sc_l_is (fun vs H Q E h => ?_) (fun cdv A outer s H vs Q E hr h => ?_)
  · obtain ⟨p, a, b, p', a', b', d, n, rfl, _⟩ := h
    rfl
  obtain ⟨p, a, b, p', a', b', d, n, rfl, hD, hL, hW, k⟩ := h
  have hu := hu_of hr
  refine ⟨_, (pss_cons (ps_for PassesOwn.never rfl (pi_range1 (by rfl) T.z_range (pa_cons pe_int pa_nil)) (pg_name (i := 2) sc_l_is.nd rfl (by first | exact Or.inl rfl | exact Or.inr rfl)) (pss_cons (ps_set (i := 3) sc_l_is.nd rfl (by first | exact Or.inl rfl | exact Or.inr rfl) (pe_lst (pa_cons (pe_meth0 (pv 0) T.cl_Dial T.mt_Dial_pages (ok_Dial_pages T) (hr.mono (by decide)) T.b_Dial_pages .nil pass0) (pa_cons (pe_meth0 (pv 0) T.cl_Dial T.mt_Dial_looked (ok_Dial_looked T) (hr.mono (by decide)) T.b_Dial_looked .nil pass0) pa_nil))))
    (pss_cons (ps_if (pt_not (pt_val (pe_call (ok_l_alike T) (hr.mono (by decide)) (by rfl) T.m_l_alike T.F_l_alike.kp T.b_l_alike .nil pass0 (pa_cons (pv 3) (pa_cons (pe_lst (pa_cons (pe_dget hu (pv 1) pe_str (fun _ _ => rfl)) (pa_cons (pe_dget hu (pv 1) pe_str (fun _ _ => rfl)) pa_nil))) pa_nil))))) (pss_one (ps_ret pe_bl)) pss_nil)
    (pss_cons (ps_expr (kBM (K := K) rfl (pe_bm PySem.F.plainAttrs_list PySem.F.slot_list_append PySem.F.type_list_append mt_append (pe_ix (kIxL K rfl) (pv 3) pe_int (fun _ _ => rfl)) (pa_cons pe_int pa_nil))))
    (pss_one (ps_expr (kBM0 (K := K) rfl (pe_bm0 PySem.F.plainAttrs_list PySem.F.slot_list_clear PySem.F.type_list_clear mt_clear (pe_ix (kIxL K rfl) (pv 3) pe_int (fun _ _ => rfl))))))))))
    (pss_one (ps_ret (pe_call (ok_l_alike T) (hr.mono (by decide)) (by rfl) T.m_l_alike T.F_l_alike.kp T.b_l_alike .nil pass0 (pa_cons (pe_lst (pa_cons (pe_meth0 (pv 0) T.cl_Dial T.mt_Dial_points (ok_Dial_points T) (hr.mono (by decide)) T.b_Dial_points .nil pass0) (pa_cons (pe_meth0 (pv 0) T.cl_Dial T.mt_Dial_lacked (ok_Dial_lacked T) (hr.mono (by decide)) T.b_Dial_lacked .nil pass0) pa_nil))) (pa_cons (pe_lst (pa_cons (pe_dget hu (pv 1) pe_str (fun _ _ => rfl)) (pa_cons (pe_dget hu (pv 1) pe_str (fun _ _ => rfl)) pa_nil))) pa_nil)))))), ?_⟩
  try dsimp only [L2.cxOf, L2.Cx.nox]
  walk_at "cwd"
  refine f_rng1 (j := 2) (by decide) (by decide) (fun i σ H' => ∃ v1 v2 : Option V, σ = [some (.ref p), some (.ref p'), v1, v2] ∧ Fr [] H H') ⟨none, none, rfl, .refl⟩ ?_ ?_
  · rintro i σ H1 hi ⟨v1, v2, rfl, F1⟩
    have D1 := hD.keep0 F1
    have L1 : LDial H1 p' a' b' d := hL.keep F1 (by simp) (by simp) (by simp)
    obtain ⟨⟨dx, g1⟩, g2, g3⟩ := id D1
    walk_at "cwd"
    refine w_methR g1 (lk_no _ _ _ _ (by decide +kernel) (by decide +kernel) (by decide +kernel) (by decide +kernel)) ?_
    walk_at "cwd"
    refine ⟨p, a, b, d, rfl, D1, fun l1 H2 F2 hl1 e1 => ?_⟩
    walk_at "cwd"
    refine w_methR (F2.get0 g1) (lk_no _ _ _ _ (by decide +kernel) (by decide +kernel) (by decide +kernel) (by decide +kernel)) ?_
    walk_at "cwd"
    refine ⟨p, a, b, d, rfl, D1.keep0 F2, fun l2 H3 F3 hl2 e2 => ?_⟩
    walk_at "cwd"
    rename_i np hnp
    have e1' := F3.get0 e1
    have F4 : Fr [] H3 (upd H3 np (.lst [V.ref l1, V.ref l2])) := Fr.new hnp
    have g4 : (upd H3 np (.lst [V.ref l1, V.ref l2])) np = some (.lst [V.ref l1, V.ref l2]) := upd_same
    generalize upd H3 np (.lst [V.ref l1, V.ref l2]) = H4 at *
    have F14 := (F2.trans F3).trans F4
    obtain ⟨q1, q2, q3⟩ := id L1
    refine w_dgetS (F14.get0 q1) (ddl_pages _ _ _ _) ?_
    walk_at "cwd"
    rename_i nq hnq
    have F5 : Fr [] H4 (upd H4 nq (.lst [V.ref a', V.ref b'])) := Fr.new hnq
    have g5 : (upd H4 nq (.lst [V.ref a', V.ref b'])) nq = some (.lst [V.ref a', V.ref b']) := upd_same
    generalize upd H4 nq (.lst [V.ref a', V.ref b']) = H5 at *
    have F15 := F14.trans F5
    have a1 := F5.get0 (F4.get0 e1')
    have a2 := F5.get0 (F4.get0 e2)
    have a3 := F5.get0 g4
    refine c_alike (.list [.list (d.here.map oD), .list (d.seen.map PyData.bool)]) (.lst (SqL.of a3) (.cons (.lst (SqL.of a1) (dpall_o _)) (.cons (.lst (SqL.of a2) (dpall_b _)) .nil)))
      (.lst (SqL.of g5) (.cons (.lst (SqL.of (F15.get0 q2)) (dpall_o _)) (.cons (.lst (SqL.of (F15.get0 q3)) (dpall_b _)) .nil))) (fits_dial (k := 3) hW) ?_
    walk_at "cwd"
    have h8 := hW.n8
    have h9 := hW.hl
    refine w_append (xs := d.here.map oV) a1 (sz_lt (by rw [List.length_map]; omega)) ?_
    have n1 : l1 ≠ np := ne_of_none e1' hnp
    have n12 : l1 ≠ l2 := ne_of_none e1 hl2
    have n2 : l2 ≠ np := ne_of_none e2 hnp
    walk_at "cwd"
    refine ⟨l2, d.seen.map V.bl, rfl, rfl, (upd_ne (ne_s n12)).trans a2, ?_⟩
    walk_at "cwd"
    refine ⟨_, _, rfl, ?_⟩
    have hl1' : H l1 = none := F1.free hl1
    have hl2' : H l2 = none := F1.free (F2.free hl2)
    exact ((F1.trans F15).comp (W1 := [l1]) (Fr.at (by simp)) (by simp [hl1'])).comp (W1 := [l2]) (Fr.at (by simp)) (by simp [hl2'])
  · rintro σ H1 ⟨v1, v2, rfl, F1⟩
    have D1 := hD.keep0 F1
    have L1 : LDial H1 p' a' b' d := hL.keep F1 (by simp) (by simp) (by simp)
    obtain ⟨⟨dx, g1⟩, g2, g3⟩ := id D1
    walk_at "cwd"
    refine w_methR g1 (lk_no _ _ _ _ (by decide +kernel) (by decide +kernel) (by decide +kernel) (by decide +kernel)) ?_
    walk_at "cwd"
    refine ⟨p, a, b, d, rfl, D1, ?_⟩
    walk_at "cwd"
    refine w_methR g1 (lk_no _ _ _ _ (by decide +kernel) (by decide +kernel) (by decide +kernel) (by decide +kernel)) ?_
    walk_at "cwd"
    refine ⟨p, a, b, d, rfl, D1, ?_⟩
    walk_at "cwd"
    rename_i np hnp
    have F4 : Fr [] H1 (upd H1 np (.lst [V.int d.hand, V.int d.lacks])) := Fr.new hnp
    have g4 : (upd H1 np (.lst [V.int d.hand, V.int d.lacks])) np = some (.lst [V.int d.hand, V.int d.lacks]) := upd_same
    generalize upd H1 np (.lst [V.int d.hand, V.int d.lacks]) = H4 at *
    obtain ⟨q1, q2, q3⟩ := id L1
    refine w_dgetS (F4.get0 q1) (ddl_hand _ _ _ _) ?_
    walk_at "cwd"
    rename_i nq hnq
    have F5 : Fr [] H4 (upd H4 nq (.lst [V.int d.hand, V.int d.lacks])) := Fr.new hnq
    have g5 : (upd H4 nq (.lst [V.int d.hand, V.int d.lacks])) nq = some (.lst [V.int d.hand, V.int d.lacks]) := upd_same
    refine c_alike (.list ([(d.hand : Int), (d.lacks : Int)].map PyData.int)) (.lst (SqL.of (F5.get0 g4)) (.cons (.int _) (.cons (.int _) .nil))) (.lst (SqL.of g5) (.cons (.int _) (.cons (.int _) .nil))) (fits_ints (k := 4) (by simp)) ?_
    exact k _ ((F1.trans F4).trans F5)

/-! law -/
/-! two dials, the law's own of both, and what else must stay: where they lie -/
structure Lay (b q : Addr) (cs : List (Addr × HO)) (D A B U A' B' : Nat → Addr) : Prop where
  inF : ∀ s, s < 2 → D s ≠ A s ∧ D s ≠ B s ∧ A s ≠ B s
  inG : ∀ s, s < 2 → U s ≠ A' s ∧ U s ≠ B' s ∧ A' s ≠ B' s
  FF : ∀ s t, s < 2 → t < 2 → s ≠ t → ∀ x ∈ [D s, A s, B s], x ∉ [D t, A t, B t]
  GG : ∀ s t, s < 2 → t < 2 → s ≠ t → ∀ x ∈ [U s, A' s, B' s], x ∉ [U t, A' t, B' t]
  FG : ∀ s t, s < 2 → t < 2 → ∀ x ∈ [D s, A s, B s], x ∉ [U t, A' t, B' t]
  BF : ∀ s, s < 2 → ∀ x ∈ [b, q], x ∉ [D s, A s, B s]
  BG : ∀ s, s < 2 → ∀ x ∈ [b, q], x ∉ [U s, A' s, B' s]
  CF : ∀ s, s < 2 → ∀ x ∈ cs, x.1 ∉ [D s, A s, B s]
  CG : ∀ s, s < 2 → ∀ x ∈ cs, x.1 ∉ [U s, A' s, B' s]
  CB : ∀ x ∈ cs, x.1 ∉ [b, q]
structure Now (C : Addr) (H : Hp) (b q : Addr) (cs : List (Addr × HO)) (D A B U A' B' : Nat → Addr) (n : Nat → Nat) (e : Nat → Dl) : Prop where
  bx : Box H b q
  di : ∀ s, s < 2 → DialAt C H (D s) (A s) (B s) (e s)
  du : ∀ s, s < 2 → LDial H (U s) (A' s) (B' s) (e s)
  wf : ∀ s, s < 2 → (e s).Wf (n s)
  co : ∀ x ∈ cs, H x.1 = some x.2
section
variable {C b q : Addr} {H H' H2 : Hp} {cs : List (Addr × HO)} {D A B U A' B' : Nat → Addr} {n : Nat → Nat} {e : Nat → Dl}
theorem Now.take (h : Now C H b q cs D A B U A' B' n e) (L : Lay b q cs D A B U A' B') (f : Fr [b, q] H H') (hb : Box H' b q) : Now C H' b q cs D A B U A' B' n e where
  bx := hb
  di := fun s hs => (h.di s hs).keep f (fun m => L.BF s hs _ m (by simp)) (fun m => L.BF s hs _ m (by simp)) (fun m => L.BF s hs _ m (by simp))
  du := fun s hs => (h.du s hs).keep f (fun m => L.BG s hs _ m (by simp)) (fun m => L.BG s hs _ m (by simp)) (fun m => L.BG s hs _ m (by simp))
  wf := h.wf
  co := fun x hx => f.get (h.co x hx) (L.CB x hx)
theorem Now.fr0 (h : Now C H b q cs D A B U A' B' n e) (f : Fr [] H H') : Now C H' b q cs D A B U A' B' n e where
  bx := h.bx.keep0 f
  di := fun s hs => (h.di s hs).keep0 f
  du := fun s hs => (h.du s hs).keep f (by simp) (by simp) (by simp)
  wf := h.wf
  co := fun x hx => f.get0 (h.co x hx)
theorem Now.ask (h : Now C H b q cs D A B U A' B' n e) (L : Lay b q cs D A B U A' B') {s : Nat} (hs : s < 2) (x : Int) (f : Fr [D s, A s, B s] H H') (hd : DialAt C H' (D s) (A s) (B s) ((e s).ask x).1)
    (g : Fr [U s, A' s, B' s] H' H2) (hu : LDial H2 (U s) (A' s) (B' s) ((e s).ask x).1) : Now C H2 b q cs D A B U A' B' n (fun t => if t = s then ((e s).ask x).1 else e t) where
  bx := by
    have h1 : Box H' b q := h.bx.keep f (fun m => L.BF s hs b (by simp) m) (fun m => L.BF s hs q (by simp) m)
    exact h1.keep g (fun m => L.BG s hs b (by simp) m) (fun m => L.BG s hs q (by simp) m)
  di := fun t ht => by
    by_cases z : t = s
    · subst z
      rw [if_pos rfl]
      exact hd.keep g (L.FG t t hs hs _ (by simp)) (L.FG t t hs hs _ (by simp)) (L.FG t t hs hs _ (by simp))
    · rw [if_neg z]
      exact ((h.di t ht).keep f (L.FF t s ht hs z _ (by simp)) (L.FF t s ht hs z _ (by simp)) (L.FF t s ht hs z _ (by simp))).keep g (L.FG t s ht hs _ (by simp)) (L.FG t s ht hs _ (by simp)) (L.FG t s ht hs _ (by simp))
  du := fun t ht => by
    by_cases z : t = s
    · subst z
      rw [if_pos rfl]
      exact hu
    · rw [if_neg z]
      exact ((h.du t ht).keep f (fun m => L.FG s t hs ht _ m (by simp)) (fun m => L.FG s t hs ht _ m (by simp)) (fun m => L.FG s t hs ht _ m (by simp))).keep g (L.GG t s ht hs z _ (by simp)) (L.GG t s ht hs z _ (by simp)) (L.GG t s ht hs z _ (by simp))
  wf := fun t ht => by
    by_cases z : t = s
    · subst z
      rw [if_pos rfl]
      exact (h.wf t hs).ask x
    · rw [if_neg z]
      exact h.wf t ht
  co := fun y hy => g.get (f.get (h.co y hy) (L.CF s hs y hy)) (L.CG s hs y hy)
theorem Now.loc {e' : Nat → Dl} {W : List Addr} (h : Now C H b q cs D A B U A' B' n e) (h' : Now C H' b q cs D A B U A' B' n e') (f : Fr W H' H2) (hw : ∀ w ∈ W, H w = none) : Now C H2 b q cs D A B U A' B' n e' where
  bx := h'.bx.keep f (fun m => h.bx.nin (hw _ m) (by simp)) (fun m => h.bx.nin (hw _ m) (by simp))
  di := fun s hs => by
    obtain ⟨⟨dx, h1⟩, h2, h3⟩ := h.di s hs
    exact (h'.di s hs).keep f (fun m => ne_of_some h1 (hw _ m)) (fun m => ne_of_some h2 (hw _ m)) (fun m => ne_of_some h3 (hw _ m))
  du := fun s hs => by
    obtain ⟨h1, h2, h3⟩ := h.du s hs
    exact (h'.du s hs).keep f (fun m => ne_of_some h1 (hw _ m)) (fun m => ne_of_some h2 (hw _ m)) (fun m => ne_of_some h3 (hw _ m))
  wf := h'.wf
  co := fun x hx => f.get (h'.co x hx) (fun m => ne_of_some (h.co x hx) (hw _ m))
end
def sel (x y : Addr) : Nat → Addr := fun s => if s = 0 then x else y
theorem sel_at {x y : Addr} {s : Nat} (h : s < 2) : atI [V.ref x, V.ref y] (s : Int) = some (.ref (sel x y s)) := by
  rcases (show s = 0 ∨ s = 1 by omega) with rfl | rfl <;> rfl
theorem apart {H : Hp} {S T : List Addr} (h1 : ∀ x ∈ S, H x ≠ none) (h2 : ∀ x ∈ T, H x = none) : ∀ x ∈ S, x ∉ T := fun x hx hy => h1 x hx (h2 x hy)
theorem apart' {H : Hp} {S T : List Addr} (h1 : ∀ x ∈ S, H x ≠ none) (h2 : ∀ x ∈ T, H x = none) : ∀ x ∈ T, x ∉ S := fun x hx hy => h1 x hy (h2 x hx)
theorem DialAt.some {C : Addr} {H : Hp} {p a b : Addr} {d : Dl} (h : DialAt C H p a b d) : ∀ x ∈ [p, a, b], H x ≠ none := by
  obtain ⟨⟨dx, h1⟩, h2, h3⟩ := h
  intro x hx
  simp only [List.mem_cons, List.not_mem_nil, or_false] at hx
  rcases hx with rfl | rfl | rfl
  · exact ne_of_some h1
  · exact ne_of_some h2
  · exact ne_of_some h3
theorem LDial.some {H : Hp} {p a b : Addr} {d : Dl} (h : LDial H p a b d) : ∀ x ∈ [p, a, b], H x ≠ none := by
  obtain ⟨h1, h2, h3⟩ := h
  intro x hx
  simp only [List.mem_cons, List.not_mem_nil, or_false] at hx
  rcases hx with rfl | rfl | rfl
  · exact ne_of_some h1
  · exact ne_of_some h2
  · exact ne_of_some h3
theorem Box.some {H : Hp} {b q : Addr} (h : Box H b q) : ∀ x ∈ [b, q], H x ≠ none := fun x hx z => h.nin z hx
theorem none3 {H : Hp} {x y z : Addr} (h1 : H x = none) (h2 : H y = none) (h3 : H z = none) : ∀ w ∈ [x, y, z], H w = none := by
  intro w hw
  simp only [List.mem_cons, List.not_mem_nil, or_false] at hw
  rcases hw with rfl | rfl | rfl <;> assumption
theorem nin_none {H : Hp} {S : List Addr} {x : Addr} (h : ∀ y ∈ S, H y ≠ none) (hx : H x = none) : x ∉ S := fun m => h x m hx
theorem nin_some {H : Hp} {S : List Addr} {x : Addr} {o : HO} (h : ∀ y ∈ S, H y = none) (hx : H x = some o) : x ∉ S := fun m => by
  have := h x m
  rw [hx] at this
  cases this
theorem rep_mem {k : Nat} {row : List Int} {j : Nat} {x : V} (h : ((List.replicate k (row.map V.int)).flatten)[j]? = some x) : ∃ z ∈ row, x = .int z := by
  have m := List.mem_of_getElem? h
  obtain ⟨l, hl, hx⟩ := List.mem_flatten.mp m
  rw [List.eq_of_mem_replicate hl] at hx
  obtain ⟨z, hz, e⟩ := List.mem_map.mp hx
  exact ⟨z, hz, e.symm⟩
theorem if_heap {b : Bool} {A B : Prop} (P C : Hp → Prop) (h2 : b = false → (∀ H, P H → C H) → B) (h1 : b = true → (∀ H, P H → C H) → A) (h : ∀ H, P H → C H) : if b = true then A else B := by
  cases b
  · exact h2 rfl h
  · exact h1 rfl h
theorem fits_tl {t : Tl} (h : t.passed.length ≤ 100000) {k : Nat} : fits (k + 2) (tlD t) := (fits_tls (ts := [t]) (k := k) (by simp) (by simpa using h)).2 _ (by simp)
def sp_l_law (K : PySem.W.Frag) : Sp := fun vs H Q _ => ∃ (a : Addr) (ns : List Int), vs = [.ref a] ∧ SqL K H a (ns.map V.int) ∧ ns.length ≤ 63 ∧ ∀ H', Q (.bl true) H'
theorem ok_l_law (T : Txt K mg ad) : FnOk P w K mg base CX0 8 ad.a_l_law ad.d_l_law ["_law_script"] (sp_l_law K) := by
  refine T.F_l_law.ok sc_l_law (fun vs H Q E h => ?_) (fun cdv A outer s H vs Q E hr h => ?_)
  · obtain ⟨a, ns, rfl, _⟩ := h
    rfl
  obtain ⟨a, ns, rfl, hS, hl, k⟩ := h
  refine ⟨_, (pss_cons (ps_set (i := 1) sc_l_law.nd rfl (by first | exact Or.inl rfl | exact Or.inr rfl) (pe_call (ok_l_begun T) (hr.mono (by decide)) (by rfl) T.m_l_begun T.F_l_begun.kp T.b_l_begun .nil pass0 (pa_cons (pv 0) pa_nil)))
    (pss_cons (ps_set (i := 2) sc_l_law.nd rfl (by first | exact Or.inl rfl | exact Or.inr rfl) (pe_lst (pa_cons (pe_op op_add pe_int (pe_call (ok_l_take T) (hr.mono (by decide)) (by rfl) T.m_l_take T.F_l_take.kp T.b_l_take .nil pass0 (pa_cons (pv 1) (pa_cons pe_int pa_nil)))) (pa_cons (pe_op op_add pe_int (pe_call (ok_l_take T) (hr.mono (by decide)) (by rfl) T.m_l_take T.F_l_take.kp T.b_l_take .nil pass0 (pa_cons (pv 1) (pa_cons pe_int pa_nil)))) pa_nil))))
    (pss_cons (ps_set (i := 3) sc_l_law.nd rfl (by first | exact Or.inl rfl | exact Or.inr rfl) (pe_lst (pa_cons (pe_make T.mk_Dial (ok_Dial_init T) (hr.mono (by decide)) (by rfl) T.m_Dial T.b_Dial_init .nil pass0 (pa_cons (pe_ix (kIxL K rfl) (pv 2) pe_int (fun _ _ => rfl)) pa_nil)) (pa_cons (pe_make T.mk_Dial (ok_Dial_init T) (hr.mono (by decide)) (by rfl) T.m_Dial T.b_Dial_init .nil pass0 (pa_cons (pe_ix (kIxL K rfl) (pv 2) pe_int (fun _ _ => rfl)) pa_nil)) pa_nil))))
    (pss_cons (ps_set (i := 4) sc_l_law.nd rfl (by first | exact Or.inl rfl | exact Or.inr rfl) (pe_lst (pa_cons (pe_call (ok_l_dial T) (hr.mono (by decide)) (by rfl) T.m_l_dial T.F_l_dial.kp T.b_l_dial .nil pass0 (pa_cons (pe_ix (kIxL K rfl) (pv 2) pe_int (fun _ _ => rfl)) pa_nil)) (pa_cons (pe_call (ok_l_dial T) (hr.mono (by decide)) (by rfl) T.m_l_dial T.F_l_dial.kp T.b_l_dial .nil pass0 (pa_cons (pe_ix (kIxL K rfl) (pv 2) pe_int (fun _ _ => rfl)) pa_nil)) pa_nil))))
    (pss_cons (ps_set (i := 5) sc_l_law.nd rfl (by first | exact Or.inl rfl | exact Or.inr rfl) (pe_call (ok_l_row T) (hr.mono (by decide)) (by rfl) T.m_l_row T.F_l_row.kp T.b_l_row .nil pass0 (pa_cons (pv 1) (pa_cons pe_int pa_nil))))
    (pss_cons (ps_for PassesOwn.never rfl (kIL (K := K) rfl (pi_list (pe_op op_rep (pv 5) (pe_ix (kIxL K rfl) (pe_lst (pa_cons pe_int (pa_cons pe_int (pa_cons pe_int pa_nil)))) (pe_call (ok_l_take T) (hr.mono (by decide)) (by rfl) T.m_l_take T.F_l_take.kp T.b_l_take .nil pass0 (pa_cons (pv 1) (pa_cons pe_int pa_nil))) (fun _ _ => rfl))))) (pg_name (i := 6) sc_l_law.nd rfl (by first | exact Or.inl rfl | exact Or.inr rfl)) (pss_cons (ps_set (i := 11) sc_l_law.nd rfl (by first | exact Or.inl rfl | exact Or.inr rfl) (pe_op op_fdiv (pe_call (ok_l_take T) (hr.mono (by decide)) (by rfl) T.m_l_take T.F_l_take.kp T.b_l_take .nil pass0 (pa_cons (pv 1) (pa_cons pe_int pa_nil))) pe_int))
    (pss_cons (ps_set (i := 12) sc_l_law.nd rfl (by first | exact Or.inl rfl | exact Or.inr rfl) (pe_ix (kIxL K rfl) (pe_lst (pa_cons (pe_un un_neg pe_int) (pa_cons pe_int (pa_cons (pe_op op_pow pe_int pe_int) pa_nil)))) (pe_call (ok_l_take T) (hr.mono (by decide)) (by rfl) T.m_l_take T.F_l_take.kp T.b_l_take .nil pass0 (pa_cons (pv 1) (pa_cons pe_int pa_nil))) (fun _ _ => rfl)))
    (pss_cons (ps_if (PW.pt (pw_and (pt_cmpR op_eq (pe_call (ok_l_take T) (hr.mono (by decide)) (by rfl) T.m_l_take T.F_l_take.kp T.b_l_take .nil pass0 (pa_cons (pv 1) (pa_cons pe_int pa_nil))) pe_int (nomark _)) (pw_and1 (pt_not (pt_val (pe_call (ok_l_alike T) (hr.mono (by decide)) (by rfl) T.m_l_alike T.F_l_alike.kp T.b_l_alike .nil pass0 (pa_cons (pe_call (ok_l_told T) (hr.mono (by decide)) (by rfl) T.m_l_told T.F_l_told.kp T.b_l_told .nil pass0 (pa_cons (pe_ix (kIxL K rfl) (pv 3) (pv 11) (fun _ _ => rfl)) (pa_cons (pv 12) pa_nil))) (pa_cons (pe_tup (pa_cons pe_str (pa_cons pe_int pa_nil))) pa_nil)))))))) (pss_one (ps_ret pe_bl)) pss_nil)
    (pss_cons (ps_set (i := 13) sc_l_law.nd rfl (by first | exact Or.inl rfl | exact Or.inr rfl) (pe_call (ok_l_told T) (hr.mono (by decide)) (by rfl) T.m_l_told T.F_l_told.kp T.b_l_told .nil pass0 (pa_cons (pe_ix (kIxL K rfl) (pv 3) (pv 11) (fun _ _ => rfl)) (pa_cons (pv 6) pa_nil))))
    (pss_cons (ps_if (pt_not (pt_val (pe_call (ok_l_alike T) (hr.mono (by decide)) (by rfl) T.m_l_alike T.F_l_alike.kp T.b_l_alike .nil pass0 (pa_cons (pv 13) (pa_cons (pe_call (ok_l_ask T) (hr.mono (by decide)) (by rfl) T.m_l_ask T.F_l_ask.kp T.b_l_ask .nil pass0 (pa_cons (pe_ix (kIxL K rfl) (pv 4) (pv 11) (fun _ _ => rfl)) (pa_cons (pv 6) pa_nil))) pa_nil))))) (pss_one (ps_ret pe_bl)) pss_nil)
    (pss_cons (ps_expr (kBM (K := K) rfl (pe_bm PySem.F.plainAttrs_list PySem.F.slot_list_append PySem.F.type_list_append mt_append (pe_ix (kIxT K rfl) (pv 13) pe_int (fun _ _ => rfl)) (pa_cons pe_int pa_nil))))
    (pss_one (ps_if (PW.pt (pw_or (pt_not (pt_val (pe_call (ok_l_is T) (hr.mono (by decide)) (by rfl) T.m_l_is T.F_l_is.kp T.b_l_is .nil pass0 (pa_cons (pe_ix (kIxL K rfl) (pv 3) pe_int (fun _ _ => rfl)) (pa_cons (pe_ix (kIxL K rfl) (pv 4) pe_int (fun _ _ => rfl)) pa_nil))))) (pw_or1 (pt_not (pt_val (pe_call (ok_l_is T) (hr.mono (by decide)) (by rfl) T.m_l_is T.F_l_is.kp T.b_l_is .nil pass0 (pa_cons (pe_ix (kIxL K rfl) (pv 3) pe_int (fun _ _ => rfl)) (pa_cons (pe_ix (kIxL K rfl) (pv 4) pe_int (fun _ _ => rfl)) pa_nil)))))))) (pss_one (ps_ret pe_bl)) pss_nil)))))))))
    (pss_cons (ps_set (i := 7) sc_l_law.nd rfl (by first | exact Or.inl rfl | exact Or.inr rfl) (pe_call (ok_l_dial T) (hr.mono (by decide)) (by rfl) T.m_l_dial T.F_l_dial.kp T.b_l_dial .nil pass0 (pa_cons (pe_ix (kIxL K rfl) (pv 2) pe_int (fun _ _ => rfl)) pa_nil)))
    (pss_cons (ps_setLc (i := 8) (own := [("_law_page", 6)]) (by rfl) sc_l_law.nd rfl rfl (sw_true rfl rfl rfl (by decide +kernel)) (kIL (K := K) rfl (pi_list (pv 5))) (blkOk_by (own := [("_law_page", 6)]) (N := N_l_law) (sc := defScope s_l_law) (by decide +kernel)) (fun _ _ _ _ _ => (pg_name (i := 6) sc_l_law.nd rfl (by first | exact Or.inl rfl | exact Or.inr rfl))) (fun _ _ _ _ _ => pts_nil) (fun _ _ _ _ _ => (pe_call (ok_l_ask T) (hr.mono (by decide)) (by rfl) T.m_l_ask T.F_l_ask.kp T.b_l_ask .nil pass0 (pa_cons (pv 7) (pa_cons (pv 6) pa_nil)))))
    (pss_cons (ps_set (i := 9) sc_l_law.nd rfl (by first | exact Or.inl rfl | exact Or.inr rfl) (pe_callTy (kList K rfl) (by rfl) T.z_list (by decide +kernel) (pa_cons (pv 5) pa_nil)))
    (pss_cons (ps_for PassesOwn.never rfl (pi_range1 (by rfl) T.z_range (pa_cons pe_int pa_nil)) (pg_name (i := 10) sc_l_law.nd rfl (by first | exact Or.inl rfl | exact Or.inr rfl)) (pss_cons (ps_set (i := 13) sc_l_law.nd rfl (by first | exact Or.inl rfl | exact Or.inr rfl) (pe_call (ok_told T) (hr.mono (by decide)) (by rfl) T.m_told T.F_told.kp T.b_told .nil pass0 (pa_cons (pe_ix (kIxL K rfl) (pv 2) pe_int (fun _ _ => rfl)) (pa_cons (pv 9) pa_nil))))
    (pss_cons (ps_if (PW.pt (pw_or (pt_not (pt_val (pe_call (ok_l_alike T) (hr.mono (by decide)) (by rfl) T.m_l_alike T.F_l_alike.kp T.b_l_alike .nil pass0 (pa_cons (pv 13) (pa_cons (pv 8) pa_nil))))) (pw_or1 (pt_cmpR (kNeD K rfl hr.units) (pv 9) (pv 5) (nomark _))))) (pss_one (ps_ret pe_bl)) pss_nil)
    (pss_one (ps_expr (kBM (K := K) rfl (pe_bm PySem.F.plainAttrs_list PySem.F.slot_list_append PySem.F.type_list_append mt_append (pv 13) (pa_cons (pe_tup pa_nil) pa_nil))))))))
    (pss_one (ps_ret pe_bl)))))))))))), ?_⟩
  walk_at "cwp"
  refine ⟨a, ns, rfl, hS, hl, fun b q H1 f1 hb hq B1 => ?_⟩
  walk_at "cwp"
  refine c_take B1 (by omega) (by omega) fun r1 H2 f2 B2 r10 r11 => ?_
  walk_at "cwp"
  refine c_take B2 (by omega) (by omega) fun r2 H3 f3 B3 r20 r21 => ?_
  walk_at "cwp"
  rename_i rp hrp
  have B4 := B3.keep0 (Fr.new (o := .lst [V.int (1 + r1), V.int (1 + r2)]) hrp)
  have grp : (upd H3 rp (.lst [V.int (1 + r1), V.int (1 + r2)])) rp = some (.lst [V.int (1 + r1), V.int (1 + r2)]) := upd_same
  generalize upd H3 rp (.lst [V.int (1 + r1), V.int (1 + r2)]) = H4 at *
  walk_at "cwp"
  intro d0 x0 hd0 hx0 nd0
  refine ⟨d0, x0, 1 + r1, rfl, upd_same, by omega, by omega, fun a0 b0 H5 f5 ha0 hb0 nab0 D0 => ⟨rfl, ?_⟩⟩
  have g0 : Fr [] H4 (upd (upd H4 x0 (.own d0)) d0 (.ins ad.C_Dial x0 [])) := (Fr.new hx0).trans (Fr.new ((upd_ne (ne_s nd0)).trans hd0))
  have F5 : Fr [] H4 H5 := g0.comp f5 (by simp [hd0])
  have ha0' : H4 a0 = none := g0.free ha0
  have hb0' : H4 b0 = none := g0.free hb0
  have nda0 : d0 ≠ a0 := ne_of_none upd_same ha0
  have ndb0 : d0 ≠ b0 := ne_of_none upd_same hb0
  have B5 := B4.keep0 F5
  have rp5 := F5.get0 grp
  walk_at "cwp"
  intro d1 x1 hd1 hx1 nd1
  refine ⟨d1, x1, 1 + r2, rfl, upd_same, by omega, by omega, fun a1 b1 H6 f6 ha1 hb1 nab1 D1 => ⟨rfl, ?_⟩⟩
  have g1 : Fr [] H5 (upd (upd H5 x1 (.own d1)) d1 (.ins ad.C_Dial x1 [])) := (Fr.new hx1).trans (Fr.new ((upd_ne (ne_s nd1)).trans hd1))
  have F6 : Fr [] H5 H6 := g1.comp f6 (by simp [hd1])
  have ha1' : H5 a1 = none := g1.free ha1
  have hb1' : H5 b1 = none := g1.free hb1
  have nda1 : d1 ≠ a1 := ne_of_none upd_same ha1
  have ndb1 : d1 ≠ b1 := ne_of_none upd_same hb1
  have B6 := B5.keep0 F6
  have rp6 := F6.get0 rp5
  have D06 := D0.keep0 F6
  walk_at "cwp"
  rename_i dp hdp
  have F7 : Fr [] H6 (upd H6 dp (.lst [V.ref d0, V.ref d1])) := Fr.new hdp
  have gdp : (upd H6 dp (.lst [V.ref d0, V.ref d1])) dp = some (.lst [V.ref d0, V.ref d1]) := upd_same
  generalize upd H6 dp (.lst [V.ref d0, V.ref d1]) = H7 at *
  have rp7 := F7.get0 rp6
  walk_at "cwp"
  refine c_dial (by omega) (by omega) fun u0 a2 b2 H8 F8 hu0 ha2 hb2 nua0 nub0 nab2 U0 => ?_
  have rp8 := F8.get0 rp7
  walk_at "cwp"
  refine c_dial (by omega) (by omega) fun u1 a3 b3 H9 F9 hu1 ha3 hb3 nua1 nub1 nab3 U1 => ?_
  have rp9 := F9.get0 rp8
  walk_at "cwp"
  rename_i ul hul
  have F10 : Fr [] H9 (upd H9 ul (.lst [V.ref u0, V.ref u1])) := Fr.new hul
  have gul : (upd H9 ul (.lst [V.ref u0, V.ref u1])) ul = some (.lst [V.ref u0, V.ref u1]) := upd_same
  generalize upd H9 ul (.lst [V.ref u0, V.ref u1]) = H10 at *
  have B10 := (((B6.keep0 F7).keep0 F8).keep0 F9).keep0 F10
  walk_at "cwp"
  refine c_row B10 (by omega) (by omega) fun p row H11 f11 B11 hp gp hlen hrow => ?_
  walk_at "cwp"
  rename_i np hnp
  have gnp : (upd H11 np (.lst [V.int 1, V.int 1, V.int 4])) np = some (.lst [V.int 1, V.int 1, V.int 4]) := upd_same
  have F12 : Fr [] H11 (upd H11 np (.lst [V.int 1, V.int 1, V.int 4])) := Fr.new hnp
  have B12 := B11.keep0 F12
  have gp12 := F12.get0 gp
  have nnp := B11.nin hnp
  generalize upd H11 np (.lst [V.int 1, V.int 1, V.int 4]) = H12 at *
  refine c_take B12 (by omega) (by omega) fun r3 H13 f13 B13 r30 r31 => ?_
  obtain ⟨kk, hkk, kk0, kk4⟩ : ∃ kk : Int, atI [V.int 1, V.int 1, V.int 4] r3 = some (.int kk) ∧ 0 ≤ kk ∧ kk ≤ 4 := by
    rcases (show r3 = 0 ∨ r3 = 1 ∨ r3 = 2 by omega) with rfl | rfl | rfl
    · exact ⟨1, rfl, by decide, by decide⟩
    · exact ⟨1, rfl, by decide, by decide⟩
    · exact ⟨4, rfl, by decide, by decide⟩
  have gnp13 := f13.get gnp nnp
  have npB := B10.nin hp
  have gp13 := f13.get gp12 npB
  walk_at "cwp"
  refine w_rep gp13 kk0 (by omega) (by rw [List.length_map]; omega) fun rep hrep => ?_
  have F14 : Fr [] H13 (upd H13 rep (.lst (List.replicate kk.toNat (row.map V.int)).flatten)) := Fr.new hrep
  have grep : (upd H13 rep (.lst (List.replicate kk.toNat (row.map V.int)).flatten)) rep = some (.lst (List.replicate kk.toNat (row.map V.int)).flatten) := upd_same
  generalize upd H13 rep (.lst (List.replicate kk.toNat (row.map V.int)).flatten) = H14 at *
  have A5 := D0.some
  have A6 := D1.some
  have A8 := U0.some
  have A9 := U1.some
  have z0 : ∀ w ∈ [d0, a0, b0], H4 w = none := none3 hd0 ha0' hb0'
  have z1 : ∀ w ∈ [d1, a1, b1], H5 w = none := none3 hd1 ha1' hb1'
  have y0 : ∀ w ∈ [u0, a2, b2], H7 w = none := none3 hu0 ha2 hb2
  have y1 : ∀ w ∈ [u1, a3, b3], H8 w = none := none3 hu1 ha3 hb3
  have A57 : ∀ x ∈ [d0, a0, b0], H7 x ≠ none := ((D0.keep0 F6).keep0 F7).some
  have A67 : ∀ x ∈ [d1, a1, b1], H7 x ≠ none := (D1.keep0 F7).some
  have y17 : ∀ w ∈ [u1, a3, b3], H7 w = none := fun w hw => F8.free (y1 w hw)
  have z14 : ∀ w ∈ [d1, a1, b1], H4 w = none := fun w hw => F5.free (z1 w hw)
  have B7 := B6.keep0 F7
  have up6 : ∀ w, H11 w = none → H6 w = none := fun w h => F7.free (F8.free (F9.free (F10.free (f11.free h))))
  have hrep11 : H11 rep = none := F12.free (f13.free hrep)
  have hrep10 : H10 rep = none := f11.free hrep11
  have hrep7 : H7 rep = none := F8.free (F9.free (F10.free hrep10))
  have hp7 : H7 p = none := F8.free (F9.free (F10.free hp))
  have hul7 : H7 ul = none := F8.free (F9.free hul)
  have A89 : ∀ x ∈ [u0, a2, b2], H9 x ≠ none := (show LDial H9 u0 a2 b2 (Dl.new (1 + r1).toNat) from U0.keep F9 (by simp) (by simp) (by simp)).some
  have up9 : ∀ w, H10 w = none → H9 w = none := fun w h => F10.free h
  have L : Lay b q [(rp, .lst [V.int (1 + r1), V.int (1 + r2)]), (dp, .lst [V.ref d0, V.ref d1]), (ul, .lst [V.ref u0, V.ref u1]), (p, .lst (row.map V.int)), (rep, .lst (List.replicate kk.toNat (row.map V.int)).flatten)]
      (sel d0 d1) (sel a0 a1) (sel b0 b1) (sel u0 u1) (sel a2 a3) (sel b2 b3) := by
    have c2 : ∀ s, s < 2 → s = 0 ∨ s = 1 := fun s h => by omega
    constructor
    · intro s hs
      rcases c2 s hs with rfl | rfl
      · exact ⟨nda0, ndb0, nab0⟩
      · exact ⟨nda1, ndb1, nab1⟩
    · intro s hs
      rcases c2 s hs with rfl | rfl
      · exact ⟨nua0, nub0, nab2⟩
      · exact ⟨nua1, nub1, nab3⟩
    · intro s t hs ht hst
      rcases c2 s hs with rfl | rfl <;> rcases c2 t ht with rfl | rfl
      · exact absurd rfl hst
      · exact apart A5 z1
      · exact apart' A5 z1
      · exact absurd rfl hst
    · intro s t hs ht hst
      rcases c2 s hs with rfl | rfl <;> rcases c2 t ht with rfl | rfl
      · exact absurd rfl hst
      · exact apart A8 y1
      · exact apart' A8 y1
      · exact absurd rfl hst
    · intro s t hs ht
      rcases c2 s hs with rfl | rfl <;> rcases c2 t ht with rfl | rfl
      · exact apart A57 y0
      · exact apart A57 y17
      · exact apart A67 y0
      · exact apart A67 y17
    · intro s hs
      rcases c2 s hs with rfl | rfl
      · exact apart B4.some z0
      · exact apart B4.some z14
    · intro s hs
      rcases c2 s hs with rfl | rfl
      · exact apart B7.some y0
      · exact apart B7.some y17
    · intro s hs x hx
      simp only [List.mem_cons, List.not_mem_nil, or_false] at hx
      rcases c2 s hs with rfl | rfl <;> rcases hx with rfl | rfl | rfl | rfl | rfl
      · exact nin_some z0 grp
      · exact nin_none D06.some hdp
      · exact nin_none A57 hul7
      · exact nin_none A57 hp7
      · exact nin_none A57 hrep7
      · exact nin_some z14 grp
      · exact nin_none A6 hdp
      · exact nin_none A67 hul7
      · exact nin_none A67 hp7
      · exact nin_none A67 hrep7
    · intro s hs x hx
      simp only [List.mem_cons, List.not_mem_nil, or_false] at hx
      rcases c2 s hs with rfl | rfl <;> rcases hx with rfl | rfl | rfl | rfl | rfl
      · exact nin_some y0 rp7
      · exact nin_some y0 gdp
      · exact nin_none A89 hul
      · exact nin_none A89 (up9 _ hp)
      · exact nin_none A89 (up9 _ hrep10)
      · exact nin_some y17 rp7
      · exact nin_some y17 gdp
      · exact nin_none A9 hul
      · exact nin_none A9 (up9 _ hp)
      · exact nin_none A9 (up9 _ hrep10)
    · intro x hx
      simp only [List.mem_cons, List.not_mem_nil, or_false] at hx
      rcases hx with rfl | rfl | rfl | rfl | rfl
      · exact B3.nin hrp
      · exact B6.nin hdp
      · exact B7.nin hul7
      · exact B10.nin hp
      · exact B13.nin hrep
  have f714 : Fr [b, q] H7 H14 := ((((((F8.trans F9).trans F10).of0).trans f11).more F12).trans f13).more F14
  have N0 : Now ad.C_Dial H14 b q [(rp, .lst [V.int (1 + r1), V.int (1 + r2)]), (dp, .lst [V.ref d0, V.ref d1]), (ul, .lst [V.ref u0, V.ref u1]), (p, .lst (row.map V.int)), (rep, .lst (List.replicate kk.toNat (row.map V.int)).flatten)]
      (sel d0 d1) (sel a0 a1) (sel b0 b1) (sel u0 u1) (sel a2 a3) (sel b2 b3) (fun s => if s = 0 then (1 + r1).toNat else (1 + r2).toNat) (fun s => if s = 0 then Dl.new (1 + r1).toNat else Dl.new (1 + r2).toNat) := by
    have c2 : ∀ s, s < 2 → s = 0 ∨ s = 1 := fun s h => by omega
    constructor
    · exact B13.keep0 F14
    · intro s hs
      have h1 : ∀ x ∈ [b, q], x ∉ [sel d0 d1 s, sel a0 a1 s, sel b0 b1 s] := L.BF s hs
      rcases c2 s hs with rfl | rfl
      · exact ((D0.keep0 F6).keep0 F7).keep f714 (fun m => h1 _ m (by simp [sel])) (fun m => h1 _ m (by simp [sel])) (fun m => h1 _ m (by simp [sel]))
      · exact (D1.keep0 F7).keep f714 (fun m => h1 _ m (by simp [sel])) (fun m => h1 _ m (by simp [sel])) (fun m => h1 _ m (by simp [sel]))
    · intro s hs
      have h1 : ∀ x ∈ [b, q], x ∉ [sel u0 u1 s, sel a2 a3 s, sel b2 b3 s] := L.BG s hs
      have f914 : Fr [b, q] H9 H14 := ((((F10.of0).trans f11).more F12).trans f13).more F14
      have f814 : Fr [b, q] H8 H14 := (((((F9.trans F10).of0).trans f11).more F12).trans f13).more F14
      rcases c2 s hs with rfl | rfl
      · exact U0.keep f814 (fun m => h1 _ m (by simp [sel])) (fun m => h1 _ m (by simp [sel])) (fun m => h1 _ m (by simp [sel]))
      · exact U1.keep f914 (fun m => h1 _ m (by simp [sel])) (fun m => h1 _ m (by simp [sel])) (fun m => h1 _ m (by simp [sel]))
    · intro s hs
      rcases c2 s hs with rfl | rfl
      · exact Dl.Wf.new (by omega) (by omega)
      · exact Dl.Wf.new (by omega) (by omega)
    · intro x hx
      have h1 := L.CB x hx
      simp only [List.mem_cons, List.not_mem_nil, or_false] at hx
      rcases hx with rfl | rfl | rfl | rfl | rfl
      · exact f714.get rp7 h1
      · exact f714.get gdp h1
      · exact (((f11.more F12).trans f13).more F14).get gul h1
      · exact F14.get0 gp13
      · exact grep
  generalize hcs : [(rp, HO.lst [V.int (1 + r1), V.int (1 + r2)]), (dp, .lst [V.ref d0, V.ref d1]), (ul, .lst [V.ref u0, V.ref u1]), (p, .lst (row.map V.int)), (rep, .lst (List.replicate kk.toNat (row.map V.int)).flatten)] = cs at L N0
  have m1 : (rp, HO.lst [V.int (1 + r1), V.int (1 + r2)]) ∈ cs := by rw [← hcs]; simp
  have m2 : (dp, HO.lst [V.ref d0, V.ref d1]) ∈ cs := by rw [← hcs]; simp
  have m3 : (ul, HO.lst [V.ref u0, V.ref u1]) ∈ cs := by rw [← hcs]; simp
  have m4 : (p, HO.lst (row.map V.int)) ∈ cs := by rw [← hcs]; simp
  have m5 : (rep, HO.lst (List.replicate kk.toNat (row.map V.int)).flatten) ∈ cs := by rw [← hcs]; simp
  generalize (fun s => if s = 0 then (1 + r1).toNat else (1 + r2).toNat : Nat → Nat) = nn at N0
  refine f_list (List.replicate kk.toNat (row.map V.int)).flatten (fun i σ H' => ∃ v6 v11 v12 v13 e, σ = [some (.ref a), some (.ref b), some (.ref rp), some (.ref dp), some (.ref ul), some (.ref p), v6, none, none, none, none, v11, v12, v13] ∧
    Now ad.C_Dial H' b q cs (sel d0 d1) (sel a0 a1) (sel b0 b1) (sel u0 u1) (sel a2 a3) (sel b2 b3) nn e) ⟨none, none, none, none, _, rfl, N0⟩ (fun i σ H' _ ⟨_, _, _, _, _, _, N⟩ => SqL.of (N.co _ m5)) ?_ ?_
  · rintro i x σ H15 hi ⟨v6, v11, v12, v13, e, rfl, N15⟩
    obtain ⟨z, hz, rfl⟩ := rep_mem hi
    have hzb := hrow z hz
    walk_at "cwp"
    refine c_take N15.bx (by omega) (by omega) fun r4 H16 f16 B16 r40 r41 => ?_
    have N16 := N15.take L f16 B16
    walk_at "cwp"
    refine w_I (show CPow 10 40 by unfold CPow; decide) ?_
    have hy : (12 : Int) ≤ (10 : Int) ^ (40 : Int).toNat := by decide
    generalize (10 : Int) ^ (40 : Int).toNat = y at *
    walk_at "cwp"
    rename_i lo hlo
    have N17 := N16.fr0 (Fr.new (o := .lst [V.int (-1), V.int 12, V.int y]) hlo)
    have glo : (upd H16 lo (.lst [V.int (-1), V.int 12, V.int y])) lo = some (.lst [V.int (-1), V.int 12, V.int y]) := upd_same
    have nlo := N16.bx.nin hlo
    generalize upd H16 lo (.lst [V.int (-1), V.int 12, V.int y]) = H17 at *
    refine c_take N17.bx (by omega) (by omega) fun r5 H18 f18 B18 r50 r51 => ?_
    have N18 := N17.take L f18 B18
    have glo18 := f18.get glo nlo
    obtain ⟨ov, hov, hno⟩ : ∃ ov : Int, atI [V.int (-1), V.int 12, V.int y] r5 = some (.int ov) ∧ ¬ (0 ≤ ov ∧ ov < 12) := by
      rcases (show r5 = 0 ∨ r5 = 1 ∨ r5 = 2 by omega) with rfl | rfl | rfl
      · exact ⟨-1, rfl, by omega⟩
      · exact ⟨12, rfl, by omega⟩
      · exact ⟨y, rfl, by omega⟩
    walk_at "cwp"
    refine c_take N18.bx (by omega) (by omega) fun r6 H19 f19 B19 r60 r61 => ?_
    have N19 := N18.take L f19 B19
    walk_at "cwp"
    obtain ⟨s, hs, es⟩ : ∃ s : Nat, s < 2 ∧ r4 / 3 = (s : Int) := ⟨(r4 / 3).toNat, by omega, by omega⟩
    rw [es]
    have ixd : atI [V.ref d0, V.ref d1] (s : Int) = some (.ref (sel d0 d1 s)) := sel_at hs
    have ixu : atI [V.ref u0, V.ref u1] (s : Int) = some (.ref (sel u0 u1 s)) := sel_at hs
    obtain ⟨nF1, nF2, nF3⟩ := L.inF s hs
    obtain ⟨nG1, nG2, nG3⟩ := L.inG s hs
    refine if_heap (fun H' => Now ad.C_Dial H' b q cs (sel d0 d1) (sel a0 a1) (sel b0 b1) (sel u0 u1) (sel a2 a3) (sel b2 b3) nn e) ?cwGoal ?cwh2 ?cwh1 ?cwh
    case cwh2 =>
      intro _ c
      refine iteF ?_
      exact c _ N19
    case cwh1 =>
      intro _ c
      have g19 := N19.co _ m2
      walk_at "cwp"
      refine ⟨_, _, _, _, _, ov, rfl, N19.di s hs, N19.wf s hs, nF1, nF2, nF3, fun z => absurd z hno, fun _ t H20 f20 ht gt => ?_⟩
      have N20 := N19.fr0 f20
      walk_at "cwp"
      rename_i tt htt
      have N21 := N20.fr0 (Fr.new (o := .tup [V.str (Str.ofString "BadRow"), V.int 0]) htt)
      have gt2 : (upd H20 tt (.tup [V.str (Str.ofString "BadRow"), V.int 0])) t = some (.tup [.str (Str.ofString "BadRow"), .int 0]) := (Fr.new htt).get0 gt
      have gtt : (upd H20 tt (.tup [V.str (Str.ofString "BadRow"), V.int 0])) tt = some (.tup [V.str (Str.ofString "BadRow"), V.int 0]) := upd_same
      refine c_alike (.tuple [.str (Str.ofString "BadRow"), .int 0]) (.tup (SqT.of gt2) (.cons (.str _) (.cons (.int _) .nil))) (.tup (SqT.of gtt) (.cons (.str _) (.cons (.int _) .nil))) (fits_twoT True.intro True.intro) ?_
      refine ⟨true, rfl, ?_⟩
      refine iteF ?_
      exact c _ N21
    intro H20 N20
    have g20 := N20.co _ m2
    walk_at "cwp"
    refine ⟨_, _, _, _, _, z, rfl, N20.di s hs, N20.wf s hs, nF1, nF2, nF3, fun _ t q1 H21 f21 D21 ht hq1 gt gq => ?_, fun no => absurd hzb no⟩
    have gu21 := f21.get (N20.co _ m3) (L.CF s hs _ m3)
    walk_at "cwp"
    have LU21 : LDial H21 (sel u0 u1 s) (sel a2 a3 s) (sel b2 b3 s) (e s) := (N20.du s hs).keep f21 (fun m => L.FG s s hs hs _ m (by simp)) (fun m => L.FG s s hs hs _ m (by simp)) (fun m => L.FG s s hs hs _ m (by simp))
    refine c_ask LU21 (N20.wf s hs) nG1 nG2 nG3 fun t2 q2 H22 f22 U22 ht2 hq2 gt2 gq2 => ?_
    have us : ∀ w ∈ [sel u0 u1 s, sel a2 a3 s, sel b2 b3 s], H20 w ≠ none := (N20.du s hs).some
    have nt : Nw K H20 H22 (.ref t) (tlD ((e s).ask z).2) := (nw_tl _ ht hq1 gt gq).step us f22
    have nt2 : Nw K H21 H22 (.ref t2) (tlD ((e s).ask z).2) := nw_tl _ ht2 hq2 gt2 gq2
    have hpass := ask_passed (N20.wf s hs) z
    walk_at "cwp"
    refine c_alike (tlD ((e s).ask z).2) nt.now nt2.now (fits_tl (Nat.le_trans hpass (by decide))) ?_
    have gt22 := f22.get gt (fun m => us t m ht)
    have gq22 := f22.get gq (fun m => us q1 m hq1)
    have ix2 : atI (toldV ((e s).ask z).2 q1) 2 = some (.ref q1) := rfl
    walk_at "cwp"
    refine w_append gq22 (sz_lt (by simp [natsV]; omega)) ?_
    have N22 := N20.ask L hs z f21 D21 f22 U22
    have N23 := N20.loc N22 (Fr.at (W := [q1]) (p := q1) (o := .lst (natsV ((e s).ask z).2.passed ++ [.int 0])) (by simp)) (by simpa using hq1)
    generalize upd H22 q1 (.lst (natsV ((e s).ask z).2.passed ++ [.int 0])) = H23 at *
    have gd23 := N23.co _ m2
    have gu23 := N23.co _ m3
    walk_at "cwp"
    refine c_is (N23.di 0 (by decide)) (N23.du 0 (by decide)) (N23.wf 0 (by decide)) fun H24 f24 => ?_
    have N24 := N23.fr0 f24
    have gd24 := N24.co _ m2
    have gu24 := N24.co _ m3
    walk_at "cwp"
    refine c_is (N24.di 1 (by decide)) (N24.du 1 (by decide)) (N24.wf 1 (by decide)) fun H25 f25 => ?_
    have N25 := N24.fr0 f25
    walk_at "cwp"
    exact ⟨_, _, _, _, _, rfl, N25⟩
  · rintro σ H15 ⟨v6, v11, v12, v13, e, rfl, N15⟩
    have grp15 := N15.co _ m1
    have gp15 := N15.co _ m4
    have gx : atI [V.int (1 + r1), V.int (1 + r2)] 0 = some (.int (1 + r1)) := rfl
    clear N0 L N15 F14 f714 A5 A6 A8 A9 z0 z1 y0 y1 A57 A67 y17 z14 up6 A89 up9
    have hR : RowOk row := ⟨by omega, hrow⟩
    walk_at "cwp"
    refine c_dial (by omega) (by omega) fun u a4 b4 H16 F16 hu ha4 hb4 nua nub nab U => ?_
    have gp16 := F16.get0 gp15
    obtain ⟨gU1, gU2, gU3⟩ := id U
    walk_at "cwp"
    refine l_list (row.map V.int) (SqL.of gp16) (fun D i acc H' => Fr [] H15 H' ∧ Fr [u, a4, b4, D] (upd H16 D (.lst [])) H' ∧ LDial H' u a4 b4 (endAll (Dl.new (1 + r1).toNat) (row.take i)) ∧ TlAt (upd H16 D (.lst [])) H' acc (askAll (Dl.new (1 + r1).toNat) (row.take i)))
      (fun D hD => ⟨F16.more (Fr.new hD), .refl, U.keep (W := []) (Fr.new hD) (by simp) (by simp) (by simp), .nil⟩) (fun D i acc H' hD h _ => SqL.of (h.1.get0 gp15)) ?_ ?_
    · rintro D i y acc H' hD hi ⟨F, F2, hd, hn⟩ hacc hl'
      obtain ⟨z, hz', rfl⟩ := int_at hi
      have hzl := (List.getElem?_eq_some_iff.mp hz').1
      have W := endAll_wf (Dl.new (1 + r1).toNat) (row.take i) (Dl.Wf.new (n := (1 + r1).toNat) (by omega) (by omega))
      walk_at "cwp"
      refine c_ask hd W nua nub nab fun t q1 H4 f4 D4 ht hq e1 e2 => ?_
      have nD : D ∉ [u, a4, b4] := by
        simp only [List.mem_cons, List.not_mem_nil, or_false, not_or]
        exact ⟨fun e => ne_of_none gU1 hD e.symm, fun e => ne_of_none gU2 hD e.symm, fun e => ne_of_none gU3 hD e.symm⟩
      have tk : ∀ w ∈ [u, a4, b4], upd H16 D (.lst []) w ≠ none := by
        intro w hw
        simp only [List.mem_cons, List.not_mem_nil, or_false] at hw
        rcases hw with rfl | rfl | rfl
        · exact ne_of_some ((upd_ne (ne_of_none gU1 hD)).trans gU1)
        · exact ne_of_some ((upd_ne (ne_of_none gU2 hD)).trans gU2)
        · exact ne_of_some ((upd_ne (ne_of_none gU3 hD)).trans gU3)
      have tD : upd H16 D (.lst []) D ≠ none := ne_of_some upd_same
      have ht1 := F2.free ht
      have hq1 := F2.free hq
      refine lc_end (f4.get hacc nD) hl' (by omega) ⟨?_, ?_, ?_, ?_⟩
      · refine Fr.loc (F.comp f4 fun w m => ?_) (F16.free hD)
        simp only [List.mem_cons, List.not_mem_nil, or_false] at m
        rcases m with rfl | rfl | rfl
        · exact .inr hu
        · exact .inr ha4
        · exact .inr hb4
      · refine (F2.trans (f4.mono (W' := [u, a4, b4, D]) fun w m => ?_)).trans (Fr.at (by simp))
        simp only [List.mem_cons, List.not_mem_nil, or_false] at m ⊢
        rcases m with h | h | h <;> simp [h]
      · rw [take_snoc hz', endAll_app]
        exact D4.keep (W := [D]) (Fr.at (by simp)) (by simp; exact fun e => nD (by simp [e])) (by simp; exact fun e => nD (by simp [e])) (by simp; exact fun e => nD (by simp [e]))
      · rw [take_snoc hz', askAll_app]
        refine TlAt.step (W := [D]) (TlAt.snoc (hn.step tk f4) ht1 hq1 e1 e2) (by simpa using tD) (Fr.at (by simp))
    · rintro D acc H' hD ⟨F, F2, hd, hn⟩ hacc hl'
      rw [List.length_map, List.take_length] at hn
      have hn' : TlAt H15 H' acc (askAll (Dl.new (1 + r1).toNat) row) := (hn.base (Fr.new hD : Fr [] H16 _)).base F16
      have gp17 := F.get0 gp15
      have grp17 := F.get0 grp15
      walk_at "cwp"
      rename_i hp2 hhp2
      have F18 : Fr [] H' (upd H' hp2 (.lst (row.map V.int))) := Fr.new hhp2
      have gh18 : (upd H' hp2 (.lst (row.map V.int))) hp2 = some (.lst (row.map V.int)) := upd_same
      generalize upd H' hp2 (.lst (row.map V.int)) = H18 at *
      have gD18 := F18.get0 hacc
      have gp18 := F18.get0 gp17
      have grp18 := F18.get0 grp17
      have na18 : NwA K H15 H18 acc ((askAll (Dl.new (1 + r1).toNat) row).map tlD) := (hn'.nwa (K := K)).step (W := []) (by simp) F18
      refine f_rng1 (j := 2) (by decide) (by decide) (fun i σ H' => ∃ v10 v13, σ = [some (.ref a), some (.ref b), some (.ref rp), some (.ref dp), some (.ref ul), some (.ref p), v6, some (.ref u), some (.ref D), some (.ref hp2), v10, v11, v12, v13] ∧ Fr [] H18 H') ⟨_, _, rfl, .refl⟩ ?_ ?_
      · rintro i σ H19 hi ⟨v10, v13, rfl, F19⟩
        have grp19 := F19.get0 grp18
        have gh19 := F19.get0 gh18
        have gp19 := F19.get0 gp18
        have gD19 := F19.get0 gD18
        walk_at "cwp"
        refine c_told (by omega) (by omega) (SqL.of gh19) hR fun pf xs H20 F20 hpf gpf tl => ?_
        walk_at "cwp"
        have dd : Dp K H20 (.ref D) (.list ((askAll (Dl.new (1 + r1).toNat) row).map tlD)) := .lst (SqL.of (F20.get0 gD19)) ((na18.step (W := []) (by simp) F19).step (W := []) (by simp) F20).now
        have df : Dp K H20 (.ref pf) (.list ((askAll (Dl.new (1 + r1).toNat) row).map tlD)) := .lst (SqL.of gpf) (tl.nwa (K := K)).now
        have hlen2 := askAll_len (Dl.new (1 + r1).toNat) row
        refine c_alike _ df dd (fits_tls (k := 2) (by omega) fun t ht => Nat.le_trans (askAll_passed row (Dl.new (1 + r1).toNat) (Dl.Wf.new (by omega) (by omega)) t ht) (by decide)) ?_
        have gh20 := F20.get0 gh19
        have gp20 := F20.get0 gp19
        walk_at "cwp"
        rename_i tp htp
        have gpf' : (upd H20 tp (.tup [])) pf = some (.lst xs) := (upd_ne (ne_of_none gpf htp)).trans gpf
        refine w_append gpf' (sz_lt (by rw [tl.1]; omega)) ?_
        exact ⟨_, _, rfl, (F19.trans (F20.more (Fr.new htp))).loc (F19.free hpf)⟩
      · rintro σ H19 ⟨v10, v13, rfl, F19⟩
        walk_at "cwp"
        exact k H19

end
/-! what the top has left -/
theorem all_mk {l : PySem.W.OpenLaw} {w : World} {K : PySem.W.Frag} {h : Heap} {mg : Str → Option Value} {fa f_BadRow_init f_need_rooms f_is_page f_need_row f_need_both f_Dial_init f_Dial_ask f_Dial_pages f_Dial_looked f_Dial_points f_Dial_lacked f_round_told f_told f_l_begun f_l_take f_l_alike f_l_class f_l_row f_l_dial f_l_ask f_l_told f_l_is f_l_law C_Dial C_PageError C_BadRooms C_BadRow C_BadRule C_TooMany : Addr} (X : K.In h) (G : h.Ns mainGlobals mg) (hfa : mg "law" = some (.ref fa))
    {od_BadRow_init an_BadRow_init : Option Addr} {sl_BadRow_init : Array (Option Value)} {oc_BadRow_init kV_BadRow_init dc_BadRow_init pm_BadRow_init cd_BadRow_init ct_BadRow_init : Value}
    {od_need_rooms an_need_rooms : Option Addr} {sl_need_rooms : Array (Option Value)} {oc_need_rooms kV_need_rooms dc_need_rooms pm_need_rooms cd_need_rooms ct_need_rooms : Value}
    {od_is_page an_is_page : Option Addr} {sl_is_page : Array (Option Value)} {oc_is_page kV_is_page dc_is_page pm_is_page cd_is_page ct_is_page : Value}
    {od_need_row an_need_row : Option Addr} {sl_need_row : Array (Option Value)} {oc_need_row kV_need_row dc_need_row pm_need_row cd_need_row ct_need_row : Value}
    {od_need_both an_need_both : Option Addr} {sl_need_both : Array (Option Value)} {oc_need_both kV_need_both dc_need_both pm_need_both cd_need_both ct_need_both : Value}
    {od_Dial_init an_Dial_init : Option Addr} {sl_Dial_init : Array (Option Value)} {oc_Dial_init kV_Dial_init dc_Dial_init pm_Dial_init cd_Dial_init ct_Dial_init : Value}
    {od_Dial_ask an_Dial_ask : Option Addr} {sl_Dial_ask : Array (Option Value)} {oc_Dial_ask kV_Dial_ask dc_Dial_ask pm_Dial_ask cd_Dial_ask ct_Dial_ask : Value}
    {od_Dial_pages an_Dial_pages : Option Addr} {sl_Dial_pages : Array (Option Value)} {oc_Dial_pages kV_Dial_pages dc_Dial_pages pm_Dial_pages cd_Dial_pages ct_Dial_pages : Value}
    {od_Dial_looked an_Dial_looked : Option Addr} {sl_Dial_looked : Array (Option Value)} {oc_Dial_looked kV_Dial_looked dc_Dial_looked pm_Dial_looked cd_Dial_looked ct_Dial_looked : Value}
    {od_Dial_points an_Dial_points : Option Addr} {sl_Dial_points : Array (Option Value)} {oc_Dial_points kV_Dial_points dc_Dial_points pm_Dial_points cd_Dial_points ct_Dial_points : Value}
    {od_Dial_lacked an_Dial_lacked : Option Addr} {sl_Dial_lacked : Array (Option Value)} {oc_Dial_lacked kV_Dial_lacked dc_Dial_lacked pm_Dial_lacked cd_Dial_lacked ct_Dial_lacked : Value}
    {od_round_told an_round_told : Option Addr} {sl_round_told : Array (Option Value)} {oc_round_told kV_round_told dc_round_told pm_round_told cd_round_told ct_round_told : Value}
    {od_told an_told : Option Addr} {sl_told : Array (Option Value)} {oc_told kV_told dc_told pm_told cd_told ct_told : Value}
    {od_l_begun an_l_begun : Option Addr} {sl_l_begun : Array (Option Value)} {oc_l_begun kV_l_begun dc_l_begun pm_l_begun cd_l_begun ct_l_begun : Value}
    {od_l_take an_l_take : Option Addr} {sl_l_take : Array (Option Value)} {oc_l_take kV_l_take dc_l_take pm_l_take cd_l_take ct_l_take : Value}
    {od_l_alike an_l_alike : Option Addr} {sl_l_alike : Array (Option Value)} {oc_l_alike kV_l_alike dc_l_alike pm_l_alike cd_l_alike ct_l_alike : Value}
    {od_l_class an_l_class : Option Addr} {sl_l_class : Array (Option Value)} {oc_l_class kV_l_class dc_l_class pm_l_class cd_l_class ct_l_class : Value}
    {od_l_row an_l_row : Option Addr} {sl_l_row : Array (Option Value)} {oc_l_row kV_l_row dc_l_row pm_l_row cd_l_row ct_l_row : Value}
    {od_l_dial an_l_dial : Option Addr} {sl_l_dial : Array (Option Value)} {oc_l_dial kV_l_dial dc_l_dial pm_l_dial cd_l_dial ct_l_dial : Value}
    {od_l_ask an_l_ask : Option Addr} {sl_l_ask : Array (Option Value)} {oc_l_ask kV_l_ask dc_l_ask pm_l_ask cd_l_ask ct_l_ask : Value}
    {od_l_told an_l_told : Option Addr} {sl_l_told : Array (Option Value)} {oc_l_told kV_l_told dc_l_told pm_l_told cd_l_told ct_l_told : Value}
    {od_l_is an_l_is : Option Addr} {sl_l_is : Array (Option Value)} {oc_l_is kV_l_is dc_l_is pm_l_is cd_l_is ct_l_is : Value}
    {od_l_law an_l_law : Option Addr} {sl_l_law : Array (Option Value)} {oc_l_law kV_l_law dc_l_law pm_l_law cd_l_law ct_l_law : Value}
    {t_MOST_ROOMS : Tok}
    {t_MOST_PAGES : Tok}
    {t_MOST_ASKS : Tok}
    {nm_BR q_BR : Str} {N_BR : Addr} {bs_BR : List Value} {sn_BR : List Str} {sub_BR : List Value} {ab_BR : Bool} {col_BR : Option Bool} {dd_BR : Option Addr} {m0_BR m1_BR m2_BR m3_BR m5_BR : Option Value}
    (aC_PageError : PySem.W.nsIn K mainGlobals "PageError" = some (some (.ref C_PageError)))
    (aC_BadRooms : PySem.W.nsIn K mainGlobals "BadRooms" = some (some (.ref C_BadRooms)))
    (aC_BadRow : PySem.W.nsIn K mainGlobals "BadRow" = some (some (.ref C_BadRow)))
    (aC_BadRule : PySem.W.nsIn K mainGlobals "BadRule" = some (some (.ref C_BadRule)))
    (aC_TooMany : PySem.W.nsIn K mainGlobals "TooMany" = some (some (.ref C_TooMany)))
    (aC_Dial : PySem.W.nsIn K mainGlobals "Dial" = some (some (.ref C_Dial)))
    (a_BadRow_init : PySem.W.findIn K (.ref C_BadRow) "__init__" = some (some (.ref f_BadRow_init)))
    (ti_BadRow_init : PySem.W.typeIn K (.ref f_BadRow_init) = some (.type "function"))
    (l_BadRow_init : K.lookup f_BadRow_init = some ⟨oc_BadRow_init, od_BadRow_init, .func (PySem.W.fnOf "__init__" "BadRow.__init__" (defArgs s_BadRow_init) (defBody s_BadRow_init) (defScope s_BadRow_init) .none kV_BadRow_init dc_BadRow_init pm_BadRow_init an_BadRow_init cd_BadRow_init ct_BadRow_init), sl_BadRow_init⟩)
    (c_BadRow_init : PySem.W.codeIn K cd_BadRow_init "BadRow.__init__" = true)
    (k_BadRow_init : PySem.W.keepIn K (.ref f_BadRow_init) = true)
    (a_need_rooms : PySem.W.nsIn K mainGlobals "need_rooms" = some (some (.ref f_need_rooms)))
    (l_need_rooms : K.lookup f_need_rooms = some ⟨oc_need_rooms, od_need_rooms, .func (PySem.W.fnOf "need_rooms" "need_rooms" (defArgs s_need_rooms) (defBody s_need_rooms) (defScope s_need_rooms) .none kV_need_rooms dc_need_rooms pm_need_rooms an_need_rooms cd_need_rooms ct_need_rooms), sl_need_rooms⟩)
    (c_need_rooms : PySem.W.codeIn K cd_need_rooms "need_rooms" = true)
    (k_need_rooms : PySem.W.keepIn K (.ref f_need_rooms) = true)
    (a_is_page : PySem.W.nsIn K mainGlobals "is_page" = some (some (.ref f_is_page)))
    (l_is_page : K.lookup f_is_page = some ⟨oc_is_page, od_is_page, .func (PySem.W.fnOf "is_page" "is_page" (defArgs s_is_page) (defBody s_is_page) (defScope s_is_page) .none kV_is_page dc_is_page pm_is_page an_is_page cd_is_page ct_is_page), sl_is_page⟩)
    (c_is_page : PySem.W.codeIn K cd_is_page "is_page" = true)
    (k_is_page : PySem.W.keepIn K (.ref f_is_page) = true)
    (a_need_row : PySem.W.nsIn K mainGlobals "need_row" = some (some (.ref f_need_row)))
    (l_need_row : K.lookup f_need_row = some ⟨oc_need_row, od_need_row, .func (PySem.W.fnOf "need_row" "need_row" (defArgs s_need_row) (defBody s_need_row) (defScope s_need_row) .none kV_need_row dc_need_row pm_need_row an_need_row cd_need_row ct_need_row), sl_need_row⟩)
    (c_need_row : PySem.W.codeIn K cd_need_row "need_row" = true)
    (k_need_row : PySem.W.keepIn K (.ref f_need_row) = true)
    (a_need_both : PySem.W.nsIn K mainGlobals "need_both" = some (some (.ref f_need_both)))
    (l_need_both : K.lookup f_need_both = some ⟨oc_need_both, od_need_both, .func (PySem.W.fnOf "need_both" "need_both" (defArgs s_need_both) (defBody s_need_both) (defScope s_need_both) .none kV_need_both dc_need_both pm_need_both an_need_both cd_need_both ct_need_both), sl_need_both⟩)
    (c_need_both : PySem.W.codeIn K cd_need_both "need_both" = true)
    (k_need_both : PySem.W.keepIn K (.ref f_need_both) = true)
    (a_Dial_init : PySem.W.findIn K (.ref C_Dial) "__init__" = some (some (.ref f_Dial_init)))
    (i_Dial_init : PySem.W.isFn K (.ref f_Dial_init) = true)
    (l_Dial_init : K.lookup f_Dial_init = some ⟨oc_Dial_init, od_Dial_init, .func (PySem.W.fnOf "__init__" "Dial.__init__" (defArgs s_Dial_init) (defBody s_Dial_init) (defScope s_Dial_init) .none kV_Dial_init dc_Dial_init pm_Dial_init an_Dial_init cd_Dial_init ct_Dial_init), sl_Dial_init⟩)
    (c_Dial_init : PySem.W.codeIn K cd_Dial_init "Dial.__init__" = true)
    (k_Dial_init : PySem.W.keepIn K (.ref f_Dial_init) = true)
    (a_Dial_ask : PySem.W.findIn K (.ref C_Dial) "ask" = some (some (.ref f_Dial_ask)))
    (i_Dial_ask : PySem.W.isFn K (.ref f_Dial_ask) = true)
    (l_Dial_ask : K.lookup f_Dial_ask = some ⟨oc_Dial_ask, od_Dial_ask, .func (PySem.W.fnOf "ask" "Dial.ask" (defArgs s_Dial_ask) (defBody s_Dial_ask) (defScope s_Dial_ask) .none kV_Dial_ask dc_Dial_ask pm_Dial_ask an_Dial_ask cd_Dial_ask ct_Dial_ask), sl_Dial_ask⟩)
    (c_Dial_ask : PySem.W.codeIn K cd_Dial_ask "Dial.ask" = true)
    (k_Dial_ask : PySem.W.keepIn K (.ref f_Dial_ask) = true)
    (a_Dial_pages : PySem.W.findIn K (.ref C_Dial) "pages" = some (some (.ref f_Dial_pages)))
    (i_Dial_pages : PySem.W.isFn K (.ref f_Dial_pages) = true)
    (l_Dial_pages : K.lookup f_Dial_pages = some ⟨oc_Dial_pages, od_Dial_pages, .func (PySem.W.fnOf "pages" "Dial.pages" (defArgs s_Dial_pages) (defBody s_Dial_pages) (defScope s_Dial_pages) .none kV_Dial_pages dc_Dial_pages pm_Dial_pages an_Dial_pages cd_Dial_pages ct_Dial_pages), sl_Dial_pages⟩)
    (c_Dial_pages : PySem.W.codeIn K cd_Dial_pages "Dial.pages" = true)
    (k_Dial_pages : PySem.W.keepIn K (.ref f_Dial_pages) = true)
    (a_Dial_looked : PySem.W.findIn K (.ref C_Dial) "looked" = some (some (.ref f_Dial_looked)))
    (i_Dial_looked : PySem.W.isFn K (.ref f_Dial_looked) = true)
    (l_Dial_looked : K.lookup f_Dial_looked = some ⟨oc_Dial_looked, od_Dial_looked, .func (PySem.W.fnOf "looked" "Dial.looked" (defArgs s_Dial_looked) (defBody s_Dial_looked) (defScope s_Dial_looked) .none kV_Dial_looked dc_Dial_looked pm_Dial_looked an_Dial_looked cd_Dial_looked ct_Dial_looked), sl_Dial_looked⟩)
    (c_Dial_looked : PySem.W.codeIn K cd_Dial_looked "Dial.looked" = true)
    (k_Dial_looked : PySem.W.keepIn K (.ref f_Dial_looked) = true)
    (a_Dial_points : PySem.W.findIn K (.ref C_Dial) "points" = some (some (.ref f_Dial_points)))
    (i_Dial_points : PySem.W.isFn K (.ref f_Dial_points) = true)
    (l_Dial_points : K.lookup f_Dial_points = some ⟨oc_Dial_points, od_Dial_points, .func (PySem.W.fnOf "points" "Dial.points" (defArgs s_Dial_points) (defBody s_Dial_points) (defScope s_Dial_points) .none kV_Dial_points dc_Dial_points pm_Dial_points an_Dial_points cd_Dial_points ct_Dial_points), sl_Dial_points⟩)
    (c_Dial_points : PySem.W.codeIn K cd_Dial_points "Dial.points" = true)
    (k_Dial_points : PySem.W.keepIn K (.ref f_Dial_points) = true)
    (a_Dial_lacked : PySem.W.findIn K (.ref C_Dial) "lacked" = some (some (.ref f_Dial_lacked)))
    (i_Dial_lacked : PySem.W.isFn K (.ref f_Dial_lacked) = true)
    (l_Dial_lacked : K.lookup f_Dial_lacked = some ⟨oc_Dial_lacked, od_Dial_lacked, .func (PySem.W.fnOf "lacked" "Dial.lacked" (defArgs s_Dial_lacked) (defBody s_Dial_lacked) (defScope s_Dial_lacked) .none kV_Dial_lacked dc_Dial_lacked pm_Dial_lacked an_Dial_lacked cd_Dial_lacked ct_Dial_lacked), sl_Dial_lacked⟩)
    (c_Dial_lacked : PySem.W.codeIn K cd_Dial_lacked "Dial.lacked" = true)
    (k_Dial_lacked : PySem.W.keepIn K (.ref f_Dial_lacked) = true)
    (a_round_told : PySem.W.nsIn K mainGlobals "round_told" = some (some (.ref f_round_told)))
    (l_round_told : K.lookup f_round_told = some ⟨oc_round_told, od_round_told, .func (PySem.W.fnOf "round_told" "round_told" (defArgs s_round_told) (defBody s_round_told) (defScope s_round_told) .none kV_round_told dc_round_told pm_round_told an_round_told cd_round_told ct_round_told), sl_round_told⟩)
    (c_round_told : PySem.W.codeIn K cd_round_told "round_told" = true)
    (k_round_told : PySem.W.keepIn K (.ref f_round_told) = true)
    (a_told : PySem.W.nsIn K mainGlobals "told" = some (some (.ref f_told)))
    (l_told : K.lookup f_told = some ⟨oc_told, od_told, .func (PySem.W.fnOf "told" "told" (defArgs s_told) (defBody s_told) (defScope s_told) .none kV_told dc_told pm_told an_told cd_told ct_told), sl_told⟩)
    (c_told : PySem.W.codeIn K cd_told "told" = true)
    (k_told : PySem.W.keepIn K (.ref f_told) = true)
    (a_l_begun : PySem.W.nsIn K mainGlobals "_law_begun" = some (some (.ref f_l_begun)))
    (l_l_begun : K.lookup f_l_begun = some ⟨oc_l_begun, od_l_begun, .func (PySem.W.fnOf "_law_begun" "_law_begun" (defArgs s_l_begun) (defBody s_l_begun) (defScope s_l_begun) .none kV_l_begun dc_l_begun pm_l_begun an_l_begun cd_l_begun ct_l_begun), sl_l_begun⟩)
    (c_l_begun : PySem.W.codeIn K cd_l_begun "_law_begun" = true)
    (k_l_begun : PySem.W.keepIn K (.ref f_l_begun) = true)
    (a_l_take : PySem.W.nsIn K mainGlobals "_law_take" = some (some (.ref f_l_take)))
    (l_l_take : K.lookup f_l_take = some ⟨oc_l_take, od_l_take, .func (PySem.W.fnOf "_law_take" "_law_take" (defArgs s_l_take) (defBody s_l_take) (defScope s_l_take) .none kV_l_take dc_l_take pm_l_take an_l_take cd_l_take ct_l_take), sl_l_take⟩)
    (c_l_take : PySem.W.codeIn K cd_l_take "_law_take" = true)
    (k_l_take : PySem.W.keepIn K (.ref f_l_take) = true)
    (a_l_alike : PySem.W.nsIn K mainGlobals "_law_alike" = some (some (.ref f_l_alike)))
    (l_l_alike : K.lookup f_l_alike = some ⟨oc_l_alike, od_l_alike, .func (PySem.W.fnOf "_law_alike" "_law_alike" (defArgs s_l_alike) (defBody s_l_alike) (defScope s_l_alike) .none kV_l_alike dc_l_alike pm_l_alike an_l_alike cd_l_alike ct_l_alike), sl_l_alike⟩)
    (c_l_alike : PySem.W.codeIn K cd_l_alike "_law_alike" = true)
    (k_l_alike : PySem.W.keepIn K (.ref f_l_alike) = true)
    (a_l_class : PySem.W.nsIn K mainGlobals "_law_class" = some (some (.ref f_l_class)))
    (l_l_class : K.lookup f_l_class = some ⟨oc_l_class, od_l_class, .func (PySem.W.fnOf "_law_class" "_law_class" (defArgs s_l_class) (defBody s_l_class) (defScope s_l_class) .none kV_l_class dc_l_class pm_l_class an_l_class cd_l_class ct_l_class), sl_l_class⟩)
    (c_l_class : PySem.W.codeIn K cd_l_class "_law_class" = true)
    (k_l_class : PySem.W.keepIn K (.ref f_l_class) = true)
    (a_l_row : PySem.W.nsIn K mainGlobals "_law_row" = some (some (.ref f_l_row)))
    (l_l_row : K.lookup f_l_row = some ⟨oc_l_row, od_l_row, .func (PySem.W.fnOf "_law_row" "_law_row" (defArgs s_l_row) (defBody s_l_row) (defScope s_l_row) .none kV_l_row dc_l_row pm_l_row an_l_row cd_l_row ct_l_row), sl_l_row⟩)
    (c_l_row : PySem.W.codeIn K cd_l_row "_law_row" = true)
    (k_l_row : PySem.W.keepIn K (.ref f_l_row) = true)
    (a_l_dial : PySem.W.nsIn K mainGlobals "_law_dial" = some (some (.ref f_l_dial)))
    (l_l_dial : K.lookup f_l_dial = some ⟨oc_l_dial, od_l_dial, .func (PySem.W.fnOf "_law_dial" "_law_dial" (defArgs s_l_dial) (defBody s_l_dial) (defScope s_l_dial) .none kV_l_dial dc_l_dial pm_l_dial an_l_dial cd_l_dial ct_l_dial), sl_l_dial⟩)
    (c_l_dial : PySem.W.codeIn K cd_l_dial "_law_dial" = true)
    (k_l_dial : PySem.W.keepIn K (.ref f_l_dial) = true)
    (a_l_ask : PySem.W.nsIn K mainGlobals "_law_ask" = some (some (.ref f_l_ask)))
    (l_l_ask : K.lookup f_l_ask = some ⟨oc_l_ask, od_l_ask, .func (PySem.W.fnOf "_law_ask" "_law_ask" (defArgs s_l_ask) (defBody s_l_ask) (defScope s_l_ask) .none kV_l_ask dc_l_ask pm_l_ask an_l_ask cd_l_ask ct_l_ask), sl_l_ask⟩)
    (c_l_ask : PySem.W.codeIn K cd_l_ask "_law_ask" = true)
    (k_l_ask : PySem.W.keepIn K (.ref f_l_ask) = true)
    (a_l_told : PySem.W.nsIn K mainGlobals "_law_told" = some (some (.ref f_l_told)))
    (l_l_told : K.lookup f_l_told = some ⟨oc_l_told, od_l_told, .func (PySem.W.fnOf "_law_told" "_law_told" (defArgs s_l_told) (defBody s_l_told) (defScope s_l_told) .none kV_l_told dc_l_told pm_l_told an_l_told cd_l_told ct_l_told), sl_l_told⟩)
    (c_l_told : PySem.W.codeIn K cd_l_told "_law_told" = true)
    (k_l_told : PySem.W.keepIn K (.ref f_l_told) = true)
    (a_l_is : PySem.W.nsIn K mainGlobals "_law_is" = some (some (.ref f_l_is)))
    (l_l_is : K.lookup f_l_is = some ⟨oc_l_is, od_l_is, .func (PySem.W.fnOf "_law_is" "_law_is" (defArgs s_l_is) (defBody s_l_is) (defScope s_l_is) .none kV_l_is dc_l_is pm_l_is an_l_is cd_l_is ct_l_is), sl_l_is⟩)
    (c_l_is : PySem.W.codeIn K cd_l_is "_law_is" = true)
    (k_l_is : PySem.W.keepIn K (.ref f_l_is) = true)
    (a_l_law : PySem.W.nsIn K mainGlobals "law" = some (some (.ref f_l_law)))
    (l_l_law : K.lookup f_l_law = some ⟨oc_l_law, od_l_law, .func (PySem.W.fnOf "law" "law" (defArgs s_l_law) (defBody s_l_law) (defScope s_l_law) .none kV_l_law dc_l_law pm_l_law an_l_law cd_l_law ct_l_law), sl_l_law⟩)
    (c_l_law : PySem.W.codeIn K cd_l_law "law" = true)
    (k_l_law : PySem.W.keepIn K (.ref f_l_law) = true)
    (pg_Dial : PySem.W.plainGet K C_Dial Str.empty = true)
    (hd_Dial : PySem.W.hasDictIn K C_Dial = true)
    (po_Dial : PySem.W.plainOver K C_Dial = true)
    (sa_Dial : PySem.W.findIn K (.ref C_Dial) "__setattr__" = some (some (.builtin "object.__setattr__")))
    (mk_Dial : PySem.W.makesIn K C_Dial = true)
    (kc_Dial : PySem.W.keepIn K (.ref C_Dial) = true)
    (n_Dial_here : PySem.W.findIn K (.ref C_Dial) "here" = some none)
    (n_Dial_seen : PySem.W.findIn K (.ref C_Dial) "seen" = some none)
    (n_Dial_hand : PySem.W.findIn K (.ref C_Dial) "hand" = some none)
    (n_Dial_lacks : PySem.W.findIn K (.ref C_Dial) "lacks" = some none)
    (v_MOST_ROOMS : PySem.W.nsIn K mainGlobals "MOST_ROOMS" = some (some (.int 8 t_MOST_ROOMS)))
    (v_MOST_PAGES : PySem.W.nsIn K mainGlobals "MOST_PAGES" = some (some (.int 12 t_MOST_PAGES)))
    (v_MOST_ASKS : PySem.W.nsIn K mainGlobals "MOST_ASKS" = some (some (.int 100 t_MOST_ASKS)))
    (ex_PageError : PySem.W.subIn K (.ref C_PageError) (.type "BaseException") = some true)
    (hd_PageError : PySem.W.hasDictIn K C_PageError = true)
    (ty_PageError : PySem.W.typeIn K (.ref C_PageError) = some (.type "type"))
    (ic_PageError : PySem.W.isClsIn K C_PageError = true)
    (ex_BadRooms : PySem.W.subIn K (.ref C_BadRooms) (.type "BaseException") = some true)
    (hd_BadRooms : PySem.W.hasDictIn K C_BadRooms = true)
    (ty_BadRooms : PySem.W.typeIn K (.ref C_BadRooms) = some (.type "type"))
    (ic_BadRooms : PySem.W.isClsIn K C_BadRooms = true)
    (ex_BadRow : PySem.W.subIn K (.ref C_BadRow) (.type "BaseException") = some true)
    (hd_BadRow : PySem.W.hasDictIn K C_BadRow = true)
    (ty_BadRow : PySem.W.typeIn K (.ref C_BadRow) = some (.type "type"))
    (ic_BadRow : PySem.W.isClsIn K C_BadRow = true)
    (ga_BadRow : PySem.W.findIn K (.ref C_BadRow) "__getattribute__" = some (some (.builtin "BaseException.__getattribute__")))
    (gg_BadRow : PySem.W.findIn K (.ref C_BadRow) "__getattr__" = some none)
    (ca_BadRow : PySem.W.findIn K (.ref C_BadRow) "__class__" = some (some (.builtin "object.__class__")))
    (cn_BadRow : PySem.W.specialIn K (.builtin "object.__class__") "__get__" = some (some (.builtin "getset_descriptor.__get__")))
    (ct_BadRow : PySem.W.takesIn K (.builtin "object.__class__") = some true)
    (mo_BadRow : PySem.W.mroIn K C_BadRow (.type "object") = some true)
    (s_BadRow_PageError : PySem.W.subIn K (.ref C_BadRow) (.ref C_PageError) = some true)
    (s_BadRow_BadRooms : PySem.W.subIn K (.ref C_BadRow) (.ref C_BadRooms) = some false)
    (s_BadRow_BadRow : PySem.W.subIn K (.ref C_BadRow) (.ref C_BadRow) = some true)
    (s_BadRow_BadRule : PySem.W.subIn K (.ref C_BadRow) (.ref C_BadRule) = some false)
    (s_BadRow_TooMany : PySem.W.subIn K (.ref C_BadRow) (.ref C_TooMany) = some false)
    (s_BadRow_VE : PySem.W.subIn K (.ref C_BadRow) (.type "ValueError") = some true)
    (sa_BadRow : PySem.W.findIn K (.ref C_BadRow) "__setattr__" = some (some (.builtin "object.__setattr__")))
    (kp_BadRow : PySem.W.keepIn K (.ref C_BadRow) = true)
    (xL_BadRow : K.lookup C_BadRow = some (excClassObj nm_BR q_BR C_BadRow N_BR bs_BR [.ref C_PageError, .type "ValueError", .type "Exception", .type "BaseException", .type "object"] true sn_BR sub_BR ab_BR col_BR dd_BR m0_BR m1_BR m2_BR m3_BR m5_BR "ValueError.__new__"))
    (n_BadRow_place : PySem.W.findIn K (.ref C_BadRow) "place" = some none)
    (ex_BadRule : PySem.W.subIn K (.ref C_BadRule) (.type "BaseException") = some true)
    (hd_BadRule : PySem.W.hasDictIn K C_BadRule = true)
    (ty_BadRule : PySem.W.typeIn K (.ref C_BadRule) = some (.type "type"))
    (ic_BadRule : PySem.W.isClsIn K C_BadRule = true)
    (ex_TooMany : PySem.W.subIn K (.ref C_TooMany) (.type "BaseException") = some true)
    (hd_TooMany : PySem.W.hasDictIn K C_TooMany = true)
    (ty_TooMany : PySem.W.typeIn K (.ref C_TooMany) = some (.type "type"))
    (ic_TooMany : PySem.W.isClsIn K C_TooMany = true)
    (rd_PageError : PySem.W.readsIn K C_PageError (.type "type") = true)
    (sg_PageError : PySem.W.specialIn K (.ref C_PageError) "__getattribute__" = some (some (.builtin "type.__getattribute__")))
    (fc_PageError : PySem.W.findCls K (.ref C_PageError) (.type "type") "__init__" = some (.val (.builtin "ValueError.__init__")))
    (z_ValueError : PySem.W.nsIn K mainGlobals "ValueError" = some none)
    (z_len : PySem.W.nsIn K mainGlobals "len" = some none)
    (z_int : PySem.W.nsIn K mainGlobals "int" = some none)
    (z_min : PySem.W.nsIn K mainGlobals "min" = some none)
    (z_list : PySem.W.nsIn K mainGlobals "list" = some none)
    (z_tuple : PySem.W.nsIn K mainGlobals "tuple" = some none)
    (z_isinstance : PySem.W.nsIn K mainGlobals "isinstance" = some none)
    (z_range : PySem.W.nsIn K mainGlobals "range" = some none)
    (z_enumerate : PySem.W.nsIn K mainGlobals "enumerate" = some none)
    (z_bool : PySem.W.nsIn K mainGlobals "bool" = some none)
    (z_str : PySem.W.nsIn K mainGlobals "str" = some none) :
    ∃ fd : FuncData, (∀ (s : Shared) (v : Value), BindsTo s fd ⟨[v], []⟩ [("_law_script", v)]) ∧ ∀ base : Heap, K.In base → base.Ns mainGlobals mg → FnOk l.prog w K mg base CX0 8 fa fd ["_law_script"] (sp_l_law K) := by
  have e := hfa.symm.trans (PySem.W.mg_of X G a_l_law)
  cases e
  have F_BadRow_init := fun_mk (st := s_BadRow_init) l_BadRow_init c_BadRow_init k_BadRow_init
  have b_BadRow_init := F_BadRow_init.binds (ps := ["self", "place"]) fun _ _ _ _ _ _ us hl => match us, hl with | [_, _], _ => rfl
  have F_need_rooms := fun_mk (st := s_need_rooms) l_need_rooms c_need_rooms k_need_rooms
  have b_need_rooms := F_need_rooms.binds (ps := ["rooms"]) fun _ _ _ _ _ _ us hl => match us, hl with | [_], _ => rfl
  have F_is_page := fun_mk (st := s_is_page) l_is_page c_is_page k_is_page
  have b_is_page := F_is_page.binds (ps := ["page"]) fun _ _ _ _ _ _ us hl => match us, hl with | [_], _ => rfl
  have F_need_row := fun_mk (st := s_need_row) l_need_row c_need_row k_need_row
  have b_need_row := F_need_row.binds (ps := ["row"]) fun _ _ _ _ _ _ us hl => match us, hl with | [_], _ => rfl
  have F_need_both := fun_mk (st := s_need_both) l_need_both c_need_both k_need_both
  have b_need_both := F_need_both.binds (ps := ["rooms", "row"]) fun _ _ _ _ _ _ us hl => match us, hl with | [_, _], _ => rfl
  have F_Dial_init := fun_mk (st := s_Dial_init) l_Dial_init c_Dial_init k_Dial_init
  have b_Dial_init := F_Dial_init.binds (ps := ["self", "rooms"]) fun _ _ _ _ _ _ us hl => match us, hl with | [_, _], _ => rfl
  have F_Dial_ask := fun_mk (st := s_Dial_ask) l_Dial_ask c_Dial_ask k_Dial_ask
  have b_Dial_ask := F_Dial_ask.binds (ps := ["self", "page"]) fun _ _ _ _ _ _ us hl => match us, hl with | [_, _], _ => rfl
  have F_Dial_pages := fun_mk (st := s_Dial_pages) l_Dial_pages c_Dial_pages k_Dial_pages
  have b_Dial_pages := F_Dial_pages.binds (ps := ["self"]) fun _ _ _ _ _ _ us hl => match us, hl with | [_], _ => rfl
  have F_Dial_looked := fun_mk (st := s_Dial_looked) l_Dial_looked c_Dial_looked k_Dial_looked
  have b_Dial_looked := F_Dial_looked.binds (ps := ["self"]) fun _ _ _ _ _ _ us hl => match us, hl with | [_], _ => rfl
  have F_Dial_points := fun_mk (st := s_Dial_points) l_Dial_points c_Dial_points k_Dial_points
  have b_Dial_points := F_Dial_points.binds (ps := ["self"]) fun _ _ _ _ _ _ us hl => match us, hl with | [_], _ => rfl
  have F_Dial_lacked := fun_mk (st := s_Dial_lacked) l_Dial_lacked c_Dial_lacked k_Dial_lacked
  have b_Dial_lacked := F_Dial_lacked.binds (ps := ["self"]) fun _ _ _ _ _ _ us hl => match us, hl with | [_], _ => rfl
  have F_round_told := fun_mk (st := s_round_told) l_round_told c_round_told k_round_told
  have b_round_told := F_round_told.binds (ps := ["rooms", "row"]) fun _ _ _ _ _ _ us hl => match us, hl with | [_, _], _ => rfl
  have F_told := fun_mk (st := s_told) l_told c_told k_told
  have b_told := F_told.binds (ps := ["rooms", "row"]) fun _ _ _ _ _ _ us hl => match us, hl with | [_, _], _ => rfl
  have F_l_begun := fun_mk (st := s_l_begun) l_l_begun c_l_begun k_l_begun
  have b_l_begun := F_l_begun.binds (ps := ["_law_script"]) fun _ _ _ _ _ _ us hl => match us, hl with | [_], _ => rfl
  have F_l_take := fun_mk (st := s_l_take) l_l_take c_l_take k_l_take
  have b_l_take := F_l_take.binds (ps := ["_law_box", "_law_many"]) fun _ _ _ _ _ _ us hl => match us, hl with | [_, _], _ => rfl
  have F_l_alike := fun_mk (st := s_l_alike) l_l_alike c_l_alike k_l_alike
  have b_l_alike := F_l_alike.binds (ps := ["_law_found", "_law_due"]) fun _ _ _ _ _ _ us hl => match us, hl with | [_, _], _ => rfl
  have F_l_class := fun_mk (st := s_l_class) l_l_class c_l_class k_l_class
  have b_l_class := F_l_class.binds (ps := ["_law_e"]) fun _ _ _ _ _ _ us hl => match us, hl with | [_], _ => rfl
  have F_l_row := fun_mk (st := s_l_row) l_l_row c_l_row k_l_row
  have b_l_row := F_l_row.binds (ps := ["_law_box", "_law_most"]) fun _ _ _ _ _ _ us hl => match us, hl with | [_, _], _ => rfl
  have F_l_dial := fun_mk (st := s_l_dial) l_l_dial c_l_dial k_l_dial
  have b_l_dial := F_l_dial.binds (ps := ["_law_rooms"]) fun _ _ _ _ _ _ us hl => match us, hl with | [_], _ => rfl
  have F_l_ask := fun_mk (st := s_l_ask) l_l_ask c_l_ask k_l_ask
  have b_l_ask := F_l_ask.binds (ps := ["_law_dial_here", "_law_page"]) fun _ _ _ _ _ _ us hl => match us, hl with | [_, _], _ => rfl
  have F_l_told := fun_mk (st := s_l_told) l_l_told c_l_told k_l_told
  have b_l_told := F_l_told.binds (ps := ["_law_dial_here", "_law_page"]) fun _ _ _ _ _ _ us hl => match us, hl with | [_, _], _ => rfl
  have F_l_is := fun_mk (st := s_l_is) l_l_is c_l_is k_l_is
  have b_l_is := F_l_is.binds (ps := ["_law_dial_here", "_law_due"]) fun _ _ _ _ _ _ us hl => match us, hl with | [_, _], _ => rfl
  have F_l_law := fun_mk (st := s_l_law) l_l_law c_l_law k_l_law
  have b_l_law := F_l_law.binds (ps := ["_law_script"]) fun _ _ _ _ _ _ us hl => match us, hl with | [_], _ => rfl
  have T : Txt K mg (⟨f_BadRow_init, (PySem.W.fnOf "__init__" "BadRow.__init__" (defArgs s_BadRow_init) (defBody s_BadRow_init) (defScope s_BadRow_init) .none kV_BadRow_init dc_BadRow_init pm_BadRow_init an_BadRow_init cd_BadRow_init ct_BadRow_init), f_need_rooms, (PySem.W.fnOf "need_rooms" "need_rooms" (defArgs s_need_rooms) (defBody s_need_rooms) (defScope s_need_rooms) .none kV_need_rooms dc_need_rooms pm_need_rooms an_need_rooms cd_need_rooms ct_need_rooms), f_is_page, (PySem.W.fnOf "is_page" "is_page" (defArgs s_is_page) (defBody s_is_page) (defScope s_is_page) .none kV_is_page dc_is_page pm_is_page an_is_page cd_is_page ct_is_page), f_need_row, (PySem.W.fnOf "need_row" "need_row" (defArgs s_need_row) (defBody s_need_row) (defScope s_need_row) .none kV_need_row dc_need_row pm_need_row an_need_row cd_need_row ct_need_row), f_need_both, (PySem.W.fnOf "need_both" "need_both" (defArgs s_need_both) (defBody s_need_both) (defScope s_need_both) .none kV_need_both dc_need_both pm_need_both an_need_both cd_need_both ct_need_both), f_Dial_init, (PySem.W.fnOf "__init__" "Dial.__init__" (defArgs s_Dial_init) (defBody s_Dial_init) (defScope s_Dial_init) .none kV_Dial_init dc_Dial_init pm_Dial_init an_Dial_init cd_Dial_init ct_Dial_init), f_Dial_ask, (PySem.W.fnOf "ask" "Dial.ask" (defArgs s_Dial_ask) (defBody s_Dial_ask) (defScope s_Dial_ask) .none kV_Dial_ask dc_Dial_ask pm_Dial_ask an_Dial_ask cd_Dial_ask ct_Dial_ask), f_Dial_pages, (PySem.W.fnOf "pages" "Dial.pages" (defArgs s_Dial_pages) (defBody s_Dial_pages) (defScope s_Dial_pages) .none kV_Dial_pages dc_Dial_pages pm_Dial_pages an_Dial_pages cd_Dial_pages ct_Dial_pages), f_Dial_looked, (PySem.W.fnOf "looked" "Dial.looked" (defArgs s_Dial_looked) (defBody s_Dial_looked) (defScope s_Dial_looked) .none kV_Dial_looked dc_Dial_looked pm_Dial_looked an_Dial_looked cd_Dial_looked ct_Dial_looked), f_Dial_points, (PySem.W.fnOf "points" "Dial.points" (defArgs s_Dial_points) (defBody s_Dial_points) (defScope s_Dial_points) .none kV_Dial_points dc_Dial_points pm_Dial_points an_Dial_points cd_Dial_points ct_Dial_points), f_Dial_lacked, (PySem.W.fnOf "lacked" "Dial.lacked" (defArgs s_Dial_lacked) (defBody s_Dial_lacked) (defScope s_Dial_lacked) .none kV_Dial_lacked dc_Dial_lacked pm_Dial_lacked an_Dial_lacked cd_Dial_lacked ct_Dial_lacked), f_round_told, (PySem.W.fnOf "round_told" "round_told" (defArgs s_round_told) (defBody s_round_told) (defScope s_round_told) .none kV_round_told dc_round_told pm_round_told an_round_told cd_round_told ct_round_told), f_told, (PySem.W.fnOf "told" "told" (defArgs s_told) (defBody s_told) (defScope s_told) .none kV_told dc_told pm_told an_told cd_told ct_told), f_l_begun, (PySem.W.fnOf "_law_begun" "_law_begun" (defArgs s_l_begun) (defBody s_l_begun) (defScope s_l_begun) .none kV_l_begun dc_l_begun pm_l_begun an_l_begun cd_l_begun ct_l_begun), f_l_take, (PySem.W.fnOf "_law_take" "_law_take" (defArgs s_l_take) (defBody s_l_take) (defScope s_l_take) .none kV_l_take dc_l_take pm_l_take an_l_take cd_l_take ct_l_take), f_l_alike, (PySem.W.fnOf "_law_alike" "_law_alike" (defArgs s_l_alike) (defBody s_l_alike) (defScope s_l_alike) .none kV_l_alike dc_l_alike pm_l_alike an_l_alike cd_l_alike ct_l_alike), f_l_class, (PySem.W.fnOf "_law_class" "_law_class" (defArgs s_l_class) (defBody s_l_class) (defScope s_l_class) .none kV_l_class dc_l_class pm_l_class an_l_class cd_l_class ct_l_class), f_l_row, (PySem.W.fnOf "_law_row" "_law_row" (defArgs s_l_row) (defBody s_l_row) (defScope s_l_row) .none kV_l_row dc_l_row pm_l_row an_l_row cd_l_row ct_l_row), f_l_dial, (PySem.W.fnOf "_law_dial" "_law_dial" (defArgs s_l_dial) (defBody s_l_dial) (defScope s_l_dial) .none kV_l_dial dc_l_dial pm_l_dial an_l_dial cd_l_dial ct_l_dial), f_l_ask, (PySem.W.fnOf "_law_ask" "_law_ask" (defArgs s_l_ask) (defBody s_l_ask) (defScope s_l_ask) .none kV_l_ask dc_l_ask pm_l_ask an_l_ask cd_l_ask ct_l_ask), f_l_told, (PySem.W.fnOf "_law_told" "_law_told" (defArgs s_l_told) (defBody s_l_told) (defScope s_l_told) .none kV_l_told dc_l_told pm_l_told an_l_told cd_l_told ct_l_told), f_l_is, (PySem.W.fnOf "_law_is" "_law_is" (defArgs s_l_is) (defBody s_l_is) (defScope s_l_is) .none kV_l_is dc_l_is pm_l_is an_l_is cd_l_is ct_l_is), fa, (PySem.W.fnOf "law" "law" (defArgs s_l_law) (defBody s_l_law) (defScope s_l_law) .none kV_l_law dc_l_law pm_l_law an_l_law cd_l_law ct_l_law), t_MOST_ROOMS, t_MOST_PAGES, t_MOST_ASKS, C_Dial, C_PageError, C_BadRooms, C_BadRow, C_BadRule, C_TooMany⟩ : Ad) := by
    constructor
    · exact F_BadRow_init
    · exact b_BadRow_init
    · exact a_BadRow_init
    · exact ti_BadRow_init
    · exact F_need_rooms
    · exact b_need_rooms
    · exact PySem.W.mg_of X G a_need_rooms
    · exact F_is_page
    · exact b_is_page
    · exact PySem.W.mg_of X G a_is_page
    · exact F_need_row
    · exact b_need_row
    · exact PySem.W.mg_of X G a_need_row
    · exact F_need_both
    · exact b_need_both
    · exact PySem.W.mg_of X G a_need_both
    · exact F_Dial_init
    · exact b_Dial_init
    · exact ⟨mk_Dial, a_Dial_init, i_Dial_init, kc_Dial⟩
    · exact F_Dial_ask
    · exact b_Dial_ask
    · exact ⟨a_Dial_ask, i_Dial_ask, k_Dial_ask⟩
    · exact F_Dial_pages
    · exact b_Dial_pages
    · exact ⟨a_Dial_pages, i_Dial_pages, k_Dial_pages⟩
    · exact F_Dial_looked
    · exact b_Dial_looked
    · exact ⟨a_Dial_looked, i_Dial_looked, k_Dial_looked⟩
    · exact F_Dial_points
    · exact b_Dial_points
    · exact ⟨a_Dial_points, i_Dial_points, k_Dial_points⟩
    · exact F_Dial_lacked
    · exact b_Dial_lacked
    · exact ⟨a_Dial_lacked, i_Dial_lacked, k_Dial_lacked⟩
    · exact F_round_told
    · exact b_round_told
    · exact PySem.W.mg_of X G a_round_told
    · exact F_told
    · exact b_told
    · exact PySem.W.mg_of X G a_told
    · exact F_l_begun
    · exact b_l_begun
    · exact PySem.W.mg_of X G a_l_begun
    · exact F_l_take
    · exact b_l_take
    · exact PySem.W.mg_of X G a_l_take
    · exact F_l_alike
    · exact b_l_alike
    · exact PySem.W.mg_of X G a_l_alike
    · exact F_l_class
    · exact b_l_class
    · exact PySem.W.mg_of X G a_l_class
    · exact F_l_row
    · exact b_l_row
    · exact PySem.W.mg_of X G a_l_row
    · exact F_l_dial
    · exact b_l_dial
    · exact PySem.W.mg_of X G a_l_dial
    · exact F_l_ask
    · exact b_l_ask
    · exact PySem.W.mg_of X G a_l_ask
    · exact F_l_told
    · exact b_l_told
    · exact PySem.W.mg_of X G a_l_told
    · exact F_l_is
    · exact b_l_is
    · exact PySem.W.mg_of X G a_l_is
    · exact F_l_law
    · exact b_l_law
    · exact hfa
    · exact PySem.W.mg_of X G v_MOST_ROOMS
    · exact PySem.W.mg_of X G v_MOST_PAGES
    · exact PySem.W.mg_of X G v_MOST_ASKS
    · exact ⟨pg_Dial, hd_Dial, po_Dial, sa_Dial⟩
    · exact PySem.W.mg_of X G aC_Dial
    · exact n_Dial_here
    · exact n_Dial_seen
    · exact n_Dial_hand
    · exact n_Dial_lacks
    · exact PySem.W.mg_of X G aC_PageError
    · exact ⟨ex_PageError, hd_PageError, ty_PageError, ic_PageError⟩
    · exact PySem.W.mg_of X G aC_BadRooms
    · exact ⟨ex_BadRooms, hd_BadRooms, ty_BadRooms, ic_BadRooms⟩
    · exact PySem.W.mg_of X G aC_BadRow
    · exact ⟨⟨ex_BadRow, hd_BadRow, ty_BadRow, ic_BadRow⟩, ga_BadRow, gg_BadRow, ca_BadRow, cn_BadRow, ct_BadRow, mo_BadRow⟩
    · exact s_BadRow_PageError
    · exact s_BadRow_BadRooms
    · exact s_BadRow_BadRow
    · exact s_BadRow_BadRule
    · exact s_BadRow_TooMany
    · exact s_BadRow_VE
    · exact ⟨⟨_, _, _, _, _, _, _, _, _, _, _, _, _, _, _, xL_BadRow, by first | rfl | decide +kernel⟩, sa_BadRow, ex_BadRow, ty_BadRow, kp_BadRow⟩
    · exact n_BadRow_place
    · exact PySem.W.mg_of X G aC_BadRule
    · exact ⟨ex_BadRule, hd_BadRule, ty_BadRule, ic_BadRule⟩
    · exact PySem.W.mg_of X G aC_TooMany
    · exact ⟨ex_TooMany, hd_TooMany, ty_TooMany, ic_TooMany⟩
    · exact rd_PageError
    · exact sg_PageError
    · exact fc_PageError
    · exact PySem.W.mg_none_of X G z_ValueError
    · exact PySem.W.mg_none_of X G z_len
    · exact PySem.W.mg_none_of X G z_int
    · exact PySem.W.mg_none_of X G z_min
    · exact PySem.W.mg_none_of X G z_list
    · exact PySem.W.mg_none_of X G z_tuple
    · exact PySem.W.mg_none_of X G z_isinstance
    · exact PySem.W.mg_none_of X G z_range
    · exact PySem.W.mg_none_of X G z_enumerate
    · exact PySem.W.mg_none_of X G z_bool
    · exact PySem.W.mg_none_of X G z_str
  exact ⟨PySem.W.fnOf "law" "law" (defArgs s_l_law) (defBody s_l_law) (defScope s_l_law) .none kV_l_law dc_l_law pm_l_law an_l_law cd_l_law ct_l_law, fun s v => .of_eq rfl, fun base _ _ => ok_l_law T⟩
theorem walk {l : PySem.W.OpenLaw} {q : Program} {loose : List Str} {XP : (Str → Option Value) → Heap → Prop} {YP : World → Heap → Prop} {d : DefRec} {K : Params → PySem.W.Frag} (hn : l.most = some 63) (hdf : d.params.defaults = [])
    (hY : ∀ (w : World) (h : Heap), YP w h → (K w.params).In h)
    (F : ∀ (w : World) (mg : Str → Option Value) (fa : Addr) (h : Heap), (K w.params).In h → h.Ns mainGlobals mg → mg d.name = some (.ref fa) →
      ∃ fd : FuncData, (∀ (s : Shared) (u : Value), BindsTo s fd ⟨[u], []⟩ [("_law_script", u)]) ∧ ∀ base : Heap, (K w.params).In base → base.Ns mainGlobals mg → FnOk l.prog w (K w.params) mg base CX0 8 fa fd ["_law_script"] (sp_l_law (K w.params))) :
    PySem.W.WalkO q loose XP YP l.row.toRowW d [] (fun f vs => PySem.call f vs) :=
  L2.walk_of (n := 63) (k := 8) (x := "_law_script") (CX := fun _ => CX0) (sp := fun w => sp_l_law (K w.params)) hn (by decide) hdf ⟨rfl, by decide, by decide⟩ hY F (fun _ _ a ns hl _ hS => ⟨a, ns, rfl, hS, hl, fun _ => rfl⟩) fun _ _ _ _ _ z => z
end Cw
open PySem PySem.W PyProof.Rows
set_option maxRecDepth 100000 in
set_option maxHeartbeats 0 in
theorem PySem.Challenge.cw_clockhand_k02_the_hand_holds : PySem.Challenge.rw_clockhand_k02_the_hand.Holds := by
  w_on; o_law; k_head; (case hw => w_witness2)
  k_fill
  refine Cw.walk (l := PySem.Challenge.rw_clockhand_k02_the_hand) rfl rfl (fun w h Y => PySem.W.kIn_of Y) ?F
  case F =>
    intro w mg fa h KX G hmg
    refine' Cw.all_mk KX G hmg ?aC_PageError ?aC_BadRooms ?aC_BadRow ?aC_BadRule ?aC_TooMany ?aC_Dial ?a_BadRow_init ?ti_BadRow_init ?l_BadRow_init ?c_BadRow_init ?k_BadRow_init ?a_need_rooms ?l_need_rooms ?c_need_rooms ?k_need_rooms ?a_is_page ?l_is_page ?c_is_page ?k_is_page ?a_need_row ?l_need_row ?c_need_row ?k_need_row ?a_need_both ?l_need_both ?c_need_both ?k_need_both ?a_Dial_init ?i_Dial_init ?l_Dial_init ?c_Dial_init ?k_Dial_init ?a_Dial_ask ?i_Dial_ask ?l_Dial_ask ?c_Dial_ask ?k_Dial_ask ?a_Dial_pages ?i_Dial_pages ?l_Dial_pages ?c_Dial_pages ?k_Dial_pages ?a_Dial_looked ?i_Dial_looked ?l_Dial_looked ?c_Dial_looked ?k_Dial_looked ?a_Dial_points ?i_Dial_points ?l_Dial_points ?c_Dial_points ?k_Dial_points ?a_Dial_lacked ?i_Dial_lacked ?l_Dial_lacked ?c_Dial_lacked ?k_Dial_lacked ?a_round_told ?l_round_told ?c_round_told ?k_round_told ?a_told ?l_told ?c_told ?k_told ?a_l_begun ?l_l_begun ?c_l_begun ?k_l_begun ?a_l_take ?l_l_take ?c_l_take ?k_l_take ?a_l_alike ?l_l_alike ?c_l_alike ?k_l_alike ?a_l_class ?l_l_class ?c_l_class ?k_l_class ?a_l_row ?l_l_row ?c_l_row ?k_l_row ?a_l_dial ?l_l_dial ?c_l_dial ?k_l_dial ?a_l_ask ?l_l_ask ?c_l_ask ?k_l_ask ?a_l_told ?l_l_told ?c_l_told ?k_l_told ?a_l_is ?l_l_is ?c_l_is ?k_l_is ?a_l_law ?l_l_law ?c_l_law ?k_l_law ?pg_Dial ?hd_Dial ?po_Dial ?sa_Dial ?mk_Dial ?kc_Dial ?n_Dial_here ?n_Dial_seen ?n_Dial_hand ?n_Dial_lacks ?v_MOST_ROOMS ?v_MOST_PAGES ?v_MOST_ASKS ?ex_PageError ?hd_PageError ?ty_PageError ?ic_PageError ?ex_BadRooms ?hd_BadRooms ?ty_BadRooms ?ic_BadRooms ?ex_BadRow ?hd_BadRow ?ty_BadRow ?ic_BadRow ?ga_BadRow ?gg_BadRow ?ca_BadRow ?cn_BadRow ?ct_BadRow ?mo_BadRow ?s_BadRow_PageError ?s_BadRow_BadRooms ?s_BadRow_BadRow ?s_BadRow_BadRule ?s_BadRow_TooMany ?s_BadRow_VE ?sa_BadRow ?kp_BadRow ?xL_BadRow ?n_BadRow_place ?ex_BadRule ?hd_BadRule ?ty_BadRule ?ic_BadRule ?ex_TooMany ?hd_TooMany ?ty_TooMany ?ic_TooMany ?rd_PageError ?sg_PageError ?fc_PageError ?z_ValueError ?z_len ?z_int ?z_min ?z_list ?z_tuple ?z_isinstance ?z_range ?z_enumerate ?z_bool ?z_str
    (case aC_PageError => k_is)
    (case aC_BadRooms => k_is)
    (case aC_BadRow => k_is)
    (case aC_BadRule => k_is)
    (case aC_TooMany => k_is)
    (case aC_Dial => k_is)
    (case a_BadRow_init => k_is)
    (case ti_BadRow_init => k_is)
    (case l_BadRow_init => k_is)
    (case c_BadRow_init => k_is)
    (case k_BadRow_init => k_is)
    (case a_need_rooms => k_is)
    (case l_need_rooms => k_is)
    (case c_need_rooms => k_is)
    (case k_need_rooms => k_is)
    (case a_is_page => k_is)
    (case l_is_page => k_is)
    (case c_is_page => k_is)
    (case k_is_page => k_is)
    (case a_need_row => k_is)
    (case l_need_row => k_is)
    (case c_need_row => k_is)
    (case k_need_row => k_is)
    (case a_need_both => k_is)
    (case l_need_both => k_is)
    (case c_need_both => k_is)
    (case k_need_both => k_is)
    (case a_Dial_init => k_is)
    (case i_Dial_init => k_is)
    (case l_Dial_init => k_is)
    (case c_Dial_init => k_is)
    (case k_Dial_init => k_is)
    (case a_Dial_ask => k_is)
    (case i_Dial_ask => k_is)
    (case l_Dial_ask => k_is)
    (case c_Dial_ask => k_is)
    (case k_Dial_ask => k_is)
    (case a_Dial_pages => k_is)
    (case i_Dial_pages => k_is)
    (case l_Dial_pages => k_is)
    (case c_Dial_pages => k_is)
    (case k_Dial_pages => k_is)
    (case a_Dial_looked => k_is)
    (case i_Dial_looked => k_is)
    (case l_Dial_looked => k_is)
    (case c_Dial_looked => k_is)
    (case k_Dial_looked => k_is)
    (case a_Dial_points => k_is)
    (case i_Dial_points => k_is)
    (case l_Dial_points => k_is)
    (case c_Dial_points => k_is)
    (case k_Dial_points => k_is)
    (case a_Dial_lacked => k_is)
    (case i_Dial_lacked => k_is)
    (case l_Dial_lacked => k_is)
    (case c_Dial_lacked => k_is)
    (case k_Dial_lacked => k_is)
    (case a_round_told => k_is)
    (case l_round_told => k_is)
    (case c_round_told => k_is)
    (case k_round_told => k_is)
    (case a_told => k_is)
    (case l_told => k_is)
    (case c_told => k_is)
    (case k_told => k_is)
    (case a_l_begun => k_is)
    (case l_l_begun => k_is)
    (case c_l_begun => k_is)
    (case k_l_begun => k_is)
    (case a_l_take => k_is)
    (case l_l_take => k_is)
    (case c_l_take => k_is)
    (case k_l_take => k_is)
    (case a_l_alike => k_is)
    (case l_l_alike => k_is)
    (case c_l_alike => k_is)
    (case k_l_alike => k_is)
    (case a_l_class => k_is)
    (case l_l_class => k_is)
    (case c_l_class => k_is)
    (case k_l_class => k_is)
    (case a_l_row => k_is)
    (case l_l_row => k_is)
    (case c_l_row => k_is)
    (case k_l_row => k_is)
    (case a_l_dial => k_is)
    (case l_l_dial => k_is)
    (case c_l_dial => k_is)
    (case k_l_dial => k_is)
    (case a_l_ask => k_is)
    (case l_l_ask => k_is)
    (case c_l_ask => k_is)
    (case k_l_ask => k_is)
    (case a_l_told => k_is)
    (case l_l_told => k_is)
    (case c_l_told => k_is)
    (case k_l_told => k_is)
    (case a_l_is => k_is)
    (case l_l_is => k_is)
    (case c_l_is => k_is)
    (case k_l_is => k_is)
    (case a_l_law => k_is)
    (case l_l_law => k_is)
    (case c_l_law => k_is)
    (case k_l_law => k_is)
    (case pg_Dial => k_is)
    (case hd_Dial => k_is)
    (case po_Dial => k_is)
    (case sa_Dial => k_is)
    (case mk_Dial => k_is)
    (case kc_Dial => k_is)
    (case n_Dial_here => k_is)
    (case n_Dial_seen => k_is)
    (case n_Dial_hand => k_is)
    (case n_Dial_lacks => k_is)
    (case v_MOST_ROOMS => k_is)
    (case v_MOST_PAGES => k_is)
    (case v_MOST_ASKS => k_is)
    (case ex_PageError => k_is)
    (case hd_PageError => k_is)
    (case ty_PageError => k_is)
    (case ic_PageError => k_is)
    (case ex_BadRooms => k_is)
    (case hd_BadRooms => k_is)
    (case ty_BadRooms => k_is)
    (case ic_BadRooms => k_is)
    (case ex_BadRow => k_is)
    (case hd_BadRow => k_is)
    (case ty_BadRow => k_is)
    (case ic_BadRow => k_is)
    (case ga_BadRow => k_is)
    (case gg_BadRow => k_is)
    (case ca_BadRow => k_is)
    (case cn_BadRow => k_is)
    (case ct_BadRow => k_is)
    (case mo_BadRow => k_is)
    (case s_BadRow_PageError => k_is)
    (case s_BadRow_BadRooms => k_is)
    (case s_BadRow_BadRow => k_is)
    (case s_BadRow_BadRule => k_is)
    (case s_BadRow_TooMany => k_is)
    (case s_BadRow_VE => k_is)
    (case sa_BadRow => k_is)
    (case kp_BadRow => k_is)
    (case xL_BadRow => k_is)
    (case n_BadRow_place => k_is)
    (case ex_BadRule => k_is)
    (case hd_BadRule => k_is)
    (case ty_BadRule => k_is)
    (case ic_BadRule => k_is)
    (case ex_TooMany => k_is)
    (case hd_TooMany => k_is)
    (case ty_TooMany => k_is)
    (case ic_TooMany => k_is)
    (case rd_PageError => k_is)
    (case sg_PageError => k_is)
    (case fc_PageError => k_is)
    (case z_ValueError => k_is)
    (case z_len => k_is)
    (case z_int => k_is)
    (case z_min => k_is)
    (case z_list => k_is)
    (case z_tuple => k_is)
    (case z_isinstance => k_is)
    (case z_range => k_is)
    (case z_enumerate => k_is)
    (case z_bool => k_is)
    (case z_str => k_is)
#print axioms PySem.Challenge.cw_clockhand_k02_the_hand_holds

