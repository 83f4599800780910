import PyProof.Rows.All
import Wide.All
import OpenK.AllK
import Wide.FinOn
import HandS.ForMost
import HandS.IsInst
import HandS.Steps
import HandS.Codes
import HandS.SetFor
import HandS.Zip
import KE.DatumOrd
import PyProof.SeqIndex
import HandS.Deep
import HandS.Set
import HandS.Strs
import PyProof.Rows.SortShellAny
import HandS.Conv
import HandS.TupAny
import KE.KDictDisplayH
import PySem.Challenge.RW_clockhand_k12_asked_again
set_option Elab.async false
set_option linter.all false
set_option maxRecDepth 100000
set_option maxHeartbeats 4000000

namespace Cw
open PySem L2
/-! heaps -/
def Fr (W : List Addr) (H H' : Hp) : Prop := (∀ b o, H b = some o → b ∉ W → H' b = some o) ∧ ∀ b, H' b = none → H b = none
theorem Fr.refl {W : List Addr} {H : Hp} : Fr W H H := ⟨fun _ _ h _ => h, fun _ h => h⟩
theorem Fr.get {W : List Addr} {H H' : Hp} {b : Addr} {o : HO} (a : Fr W H H') (h : H b = some o) (hw : b ∉ W) : H' b = some o := a.1 b o h hw
theorem Fr.get0 {H H' : Hp} {b : Addr} {o : HO} (a : Fr [] H H') (h : H b = some o) : H' b = some o := a.1 b o h (by simp)
theorem Fr.free {W : List Addr} {H H' : Hp} {b : Addr} (a : Fr W H H') (h : H' b = none) : H b = none := a.2 b h
theorem Fr.comp {W W1 : List Addr} {H H1 H2 : Hp} (a : Fr W H H1) (b : Fr W1 H1 H2) (h : ∀ p ∈ W1, p ∈ W ∨ H p = none) : Fr W H H2 :=
  ⟨fun c o e hc => b.1 c o (a.1 c o e hc) (fun m => (h c m).elim hc fun n => by rw [n] at e; cases e), fun c e => a.2 c (b.2 c e)⟩
theorem Fr.trans {W : List Addr} {H H1 H2 : Hp} (a : Fr W H H1) (b : Fr W H1 H2) : Fr W H H2 := a.comp b fun p m => .inl m
theorem Fr.more {W : List Addr} {H H1 H2 : Hp} (a : Fr W H H1) (b : Fr [] H1 H2) : Fr W H H2 := a.comp b fun p m => absurd m (by simp)
theorem Fr.mono {W W' : List Addr} {H H' : Hp} (a : Fr W H H') (h : ∀ p ∈ W, p ∈ W') : Fr W' H H' := ⟨fun b o e hb => a.1 b o e fun m => hb (h b m), a.2⟩
theorem Fr.of0 {W : List Addr} {H H' : Hp} (a : Fr [] H H') : Fr W H H' := a.mono fun p m => absurd m (by simp)
theorem upd_none {H : Hp} {p b : Addr} {o : HO} (h : upd H p o b = none) : H b = none := by
  unfold upd at h
  split at h
  · cases h
  · exact h
theorem Fr.new {W : List Addr} {H : Hp} {p : Addr} {o : HO} (hp : H p = none) : Fr W H (upd H p o) :=
  ⟨fun b u e _ => by rw [upd_ne (ne_of_none e hp)]; exact e, fun b e => upd_none e⟩
theorem Fr.at {W : List Addr} {H : Hp} {p : Addr} {o : HO} (hp : p ∈ W) : Fr W H (upd H p o) :=
  ⟨fun b u e hb => by
    rw [upd_ne (fun z => hb (by rw [z]; exact hp))]
    exact e, fun b e => upd_none e⟩
/-- an object that is new beside H is changed -/
theorem Fr.loc {W : List Addr} {H0 H : Hp} {p : Addr} {o : HO} (a : Fr W H0 H) (n : H0 p = none) : Fr W H0 (upd H p o) :=
  a.comp (Fr.at (W := [p]) (List.mem_singleton.mpr rfl)) fun q m => .inr (by rw [List.mem_singleton.mp m]; exact n)
theorem Fr.seqL {K : PySem.W.Frag} {H H' : Hp} {a : Addr} {xs : List V} (e : Fr [] H H') (h : SqL K H a xs) : SqL K H' a xs := by
  rcases h with (h | ⟨o, h⟩) | h
  · exact .inl (.inl (e.get0 h))
  · exact .inl (.inr ⟨o, e.get0 h⟩)
  · exact .inr h
theorem Fr.seqT {K : PySem.W.Frag} {H H' : Hp} {a : Addr} {xs : List V} (e : Fr [] H H') (h : SqT K H a xs) : SqT K H' a xs := by
  rcases h with (h | ⟨o, h⟩) | h
  · exact .inl (.inl (e.get0 h))
  · exact .inl (.inr ⟨o, e.get0 h⟩)
  · exact .inr h
/-! a statement's heap, made a letter -/
theorem genS {F : Hp → Prop} {H : Hp} {p : Addr} {o : HO} (hp : H p = none) (h : ∀ H2, Fr [] H H2 → H2 p = some o → F H2) : F (upd H p o) := h _ (Fr.new hp) upd_same
theorem genM {F : Hp → Prop} {H : Hp} {p : Addr} {o : HO} (h : ∀ H2, Fr [p] H H2 → H2 p = some o → F H2) : F (upd H p o) := h _ (Fr.at (List.mem_singleton.mpr rfl)) upd_same
theorem at_ne {H : Hp} {p b : Addr} {o u : HO} (hb : b ≠ p) (h : H b = some u) : upd H p o b = some u := (upd_ne hb).trans h
theorem ne_n {H : Hp} {a b : Addr} {o : HO} (h' : H b = none) (h : H a = some o) : a ≠ b := ne_of_none h h'
theorem ne_n' {H : Hp} {a b : Addr} {o : HO} (h' : H b = none) (h : H a = some o) : b ≠ a := fun e => ne_of_none h h' e.symm
theorem ne_s {a b : Addr} (h : a ≠ b) : b ≠ a := fun e => h e.symm

/-! steps -/
section
variable {σ : L2.St} {H : Hp} {Q : VK} {i : Nat} {v x y : V} {ta tb tc te tx : TE} {K : PySem.W.Frag} {nx : L2.St → Hp → Prop} {rt : VK} {bk ct : L2.St → Hp → Prop} {t u : TS} {c d : TT} {QB : Bool → Hp → Prop}
theorem w_var (h : σ[i]? = some (some v)) (q : Q v H) : tVar i σ H Q := ⟨v, h, q⟩
theorem w_c (q : Q v H) : tC v σ H Q := q
theorem w_op {r : R2} (h : ta σ H fun x H1 => tb σ H1 fun y H2 => r x y H2 Q) : tOp r ta tb σ H Q := h
theorem w_un {r : V → Hp → VK → Prop} (h : ta σ H fun x H1 => r x H1 Q) : tUn r ta σ H Q := h
theorem w_cb {r : List V → Hp → VK → Prop} {tt : TA} (h : tt σ H fun vs H1 => r vs H1 Q) : tCB r tt σ H Q := h
theorem w_nil {QA : List V → Hp → Prop} (h : QA [] H) : tNil σ H QA := h
theorem w_cons {QA : List V → Hp → Prop} {tr : TA} (h : ta σ H fun x H1 => tr σ H1 fun xs H2 => QA (x :: xs) H2) : tCons ta tr σ H QA := h
theorem w_I0 {g : Int → Int → V} {i j : Int} (h : Q (g i j) H) : rI0 g (.int i) (.int j) H Q := ⟨i, j, rfl, rfl, h⟩
theorem w_I {C : Int → Int → Prop} {g : Int → Int → V} {i j : Int} (hc : C i j) (h : Q (g i j) H) : rI C g (.int i) (.int j) H Q := ⟨i, j, rfl, rfl, hc, h⟩
theorem w_U {g : Int → V} {i : Int} (h : Q (g i) H) : rU g (.int i) H Q := ⟨i, rfl, h⟩
theorem w_eqI {i j : Int} (h : Q (.bl (decide (i = j))) H) : rEq (.int i) (.int j) H Q := ⟨rfl, by
  have e : decide (V.int i = V.int j) = decide (i = j) := by simp
  rw [e]; exact h⟩
theorem w_neI {i j : Int} (h : Q (.bl (!decide (i = j))) H) : rNe (.int i) (.int j) H Q := ⟨rfl, by
  have e : decide (V.int i = V.int j) = decide (i = j) := by simp
  rw [e]; exact h⟩
theorem w_eqS {i j : Str} (h : Q (.bl (decide (i = j))) H) : rEq (.str i) (.str j) H Q := ⟨rfl, by
  have e : decide (V.str i = V.str j) = decide (i = j) := by simp
  rw [e]; exact h⟩
theorem w_eqB {i j : Bool} (h : Q (.bl (decide (i = j))) H) : rEq (.bl i) (.bl j) H Q := ⟨rfl, by
  have e : decide (V.bl i = V.bl j) = decide (i = j) := by simp
  rw [e]; exact h⟩
theorem w_neB {i j : Bool} (h : Q (.bl (!decide (i = j))) H) : rNe (.bl i) (.bl j) H Q := ⟨rfl, by
  have e : decide (V.bl i = V.bl j) = decide (i = j) := by simp
  rw [e]; exact h⟩
theorem w_ixL {p : Addr} {xs : List V} {i : Int} (h : SqL K H p xs) (ha : atI xs i = some v) (q : Q v H) : rIxL K (.ref p) (.int i) H Q := ⟨p, xs, i, v, rfl, rfl, h, ha, q⟩
theorem w_ixT {p : Addr} {xs : List V} {i : Int} (h : SqT K H p xs) (ha : atI xs i = some v) (q : Q v H) : rIxT K (.ref p) (.int i) H Q := ⟨p, xs, i, v, rfl, rfl, h, ha, q⟩
theorem w_test (h : te σ H fun x H' => ∃ k, x = .bl k ∧ QB k H') : tTest te σ H QB := h
theorem w_B (h : te σ H fun x H' => ∃ k, x = .bl k ∧ QB k H') : tB te σ H QB := h
theorem w_isbl {b : Bool} {PB : Bool → Prop} (h : PB b) : ∃ k, V.bl b = .bl k ∧ PB k := ⟨b, rfl, h⟩
theorem w_and (h : c σ H fun b H1 => if b = true then d σ H1 QB else QB false H1) : tAnd c d σ H QB := h
theorem w_or (h : c σ H fun b H1 => if b = true then QB true H1 else d σ H1 QB) : tOr c d σ H QB := h
theorem w_not (h : c σ H fun b H1 => QB (!b) H1) : tNot c σ H QB := h
theorem w_notV (h : ta σ H fun x H1 => ∃ c, x = .bl c ∧ Q (.bl (!c)) H1) : tNotV ta σ H Q := h
theorem w_andV (h : ta σ H fun x H1 => ∃ c, x = .bl c ∧ if c = true then tb σ H1 Q else Q (.bl false) H1) : tAndV ta tb σ H Q := h
theorem w_orV (h : ta σ H fun x H1 => ∃ c, x = .bl c ∧ if c = true then Q (.bl true) H1 else tb σ H1 Q) : tOrV ta tb σ H Q := h
theorem w_if (h : c σ H fun b H1 => if b = true then ta σ H1 Q else tb σ H1 Q) : tIf c ta tb σ H Q := h
theorem w_isN (h : Q (.bl (decide (x = .non))) H) : rIsN x .non H Q := ⟨rfl, h⟩
theorem w_notN (h : Q (.bl (!decide (x = .non))) H) : rNotN x .non H Q := ⟨rfl, h⟩
theorem w_lst {tt : TA} (h : tt σ H fun xs H1 => xs.length ≤ sizeLine ∧ ∀ p, H1 p = none → Q (.ref p) (upd H1 p (.lst xs))) : tLst tt σ H Q := h
theorem w_tup {tt : TA} (h : tt σ H fun xs H1 => xs.length ≤ sizeLine ∧ ∀ p, H1 p = none → Q (.ref p) (upd H1 p (.tup xs))) : tTup tt σ H Q := h
theorem w_chain {r r' : R2} (h : ta σ H fun x H1 => tb σ H1 fun y H2 => r x y H2 fun z H3 => ∃ k, z = .bl k ∧ if k = true then tc σ H3 fun w H4 => r' y w H4 Q else Q (.bl false) H3) : tChain r r' ta tb tc σ H Q := h
theorem w_len {p : Addr} {xs : List V} (h : SqL K H p xs ∨ SqT K H p xs) (q : Q (.int xs.length) H) : (fun (vs : List V) (H : Hp) (Q : VK) => ∃ p ys, vs = [.ref p] ∧ (SqL K H p ys ∨ SqT K H p ys) ∧ Q (.int ys.length) H) [.ref p] H Q := ⟨p, xs, rfl, h, q⟩
theorem w_call {sp : Sp} {dvs : List V} {E : XK} {tt : TA} (h : tt σ H fun vs H1 => sp (vs ++ dvs) H1 Q E) : tCall sp dvs E tt σ H Q := h
theorem w_call0 {sp : Sp} {E : XK} {tt : TA} (h : tt σ H fun vs H1 => sp (vs ++ []) H1 Q E) : tCall sp [] E tt σ H Q := h
/-! statements -/
theorem w_seq (h : t ⟨u ⟨nx, rt, bk, ct⟩, rt, bk, ct⟩ σ H) : tSeq t u ⟨nx, rt, bk, ct⟩ σ H := h
theorem w_cut (Mid : L2.St → Hp → Prop) (h1 : t ⟨Mid, rt, bk, ct⟩ σ H) (h2 : ∀ σ H, Mid σ H → u ⟨nx, rt, bk, ct⟩ σ H) : C8.tCut t u ⟨nx, rt, bk, ct⟩ σ H := ⟨Mid, h1, h2⟩
theorem w_next (h : nx σ H) : tNext ⟨nx, rt, bk, ct⟩ σ H := h
theorem w_brk (h : bk σ H) : tBreak ⟨nx, rt, bk, ct⟩ σ H := h
theorem w_cont (h : ct σ H) : tCont ⟨nx, rt, bk, ct⟩ σ H := h
theorem w_asg {g : TG} (h : te σ H fun x H1 => g x σ H1 nx) : tAsg te g ⟨nx, rt, bk, ct⟩ σ H := h
theorem w_gn {N : L2.St → Hp → Prop} (h : N (σ.set i (some v)) H) : gName i v σ H N := h
theorem w_drop (h : te σ H fun _ H1 => nx σ H1) : tDrop te ⟨nx, rt, bk, ct⟩ σ H := h
theorem w_ret (h : te σ H rt) : tRet te ⟨nx, rt, bk, ct⟩ σ H := h
theorem w_ifS (h : c σ H fun b H1 => if b = true then t ⟨nx, rt, bk, ct⟩ σ H1 else u ⟨nx, rt, bk, ct⟩ σ H1) : tIfS c t u ⟨nx, rt, bk, ct⟩ σ H := h
theorem w_sub {to ti : TE} {ts : TSet} {N : L2.St → Hp → Prop} (h : to σ H fun o H1 => ti σ H1 fun i H2 => ts o i v H2 fun H3 => N σ H3) : gSub to ti ts v σ H N := h
theorem ite_d {p : Prop} {inst : Decidable p} {A B : Prop} (h1 : p → A) (h2 : ¬ p → B) : if decide p = true then A else B := by
  by_cases h : p
  · rw [if_pos (decide_eq_true h)]; exact h1 h
  · rw [if_neg (by simp [h])]; exact h2 h
theorem ite_nd {p : Prop} {inst : Decidable p} {A B : Prop} (h1 : ¬ p → A) (h2 : p → B) : if (!decide p) = true then A else B := by
  by_cases h : p
  · rw [if_neg (by simp [h])]; exact h2 h
  · rw [if_pos (by simp [h])]; exact h1 h
theorem ite_b {b : Bool} {A B : Prop} (h1 : b = true → A) (h2 : b = false → B) : if b = true then A else B := by
  cases b
  · exact h2 rfl
  · exact h1 rfl
theorem w_iList {tl : TE} {R : It → Hp → Prop} (h : tl σ H fun x H1 => ∃ a, x = V.ref a ∧ (∃ xs, SqL K H1 a xs) ∧ R (Itl K a) H1) : iList K tl σ H R := h
theorem f_list {g : TG} {tb : TS} {a : Addr} (xs : List V) (Pv : Nat → L2.St → Hp → Prop) (h0 : Pv 0 σ H) (hl : ∀ i σ H, i ≤ xs.length → Pv i σ H → SqL K H a xs)
    (hs : ∀ i x σ H, xs[i]? = some x → Pv i σ H → g x σ H fun σ2 H2 => tb ⟨Pv (i + 1), rt, nx, Pv (i + 1)⟩ σ2 H2) (hd : ∀ σ H, Pv xs.length σ H → nx σ H) :
    ∃ b, V.ref a = V.ref b ∧ (∃ xs, SqL K H b xs) ∧ ∃ W : Nat → Nat → L2.St → Hp → Prop, (∃ m, W 0 m σ H) ∧ ∀ i m σ H, W i m σ H →
      ((Itl K b).stop i H ∧ nx σ H) ∨ ((Itl K b).go i H ∧ ∃ N : L2.St → Hp → Prop, (∀ σ' H', N σ' H' → ∃ m', m' < m ∧ W (i + 1) m' σ' H') ∧ ∀ x H', (Itl K b).yld i H x H' → g x σ H' fun σ2 H2 => tb ⟨N, rt, nx, N⟩ σ2 H2) :=
  ⟨a, rfl, ⟨xs, hl 0 σ H (Nat.zero_le _) h0⟩, for_list (D := ⟨nx, rt, fun _ _ => False, fun _ _ => False⟩) (K := K) (a := a) (xs := xs) Pv h0 hl hs hd⟩
theorem w_iRng1 {tt : TA} {R : It → Hp → Prop} (h : tt σ H fun vs H1 => ∃ j : Int, vs = [.int j] ∧ -(2 ^ 62) ≤ j ∧ j < 2 ^ 62 ∧ R (Itr 0 j.toNat) H1) : iRng1 tt σ H R := h
theorem w_iRng2 {tt : TA} {R : It → Hp → Prop} (h : tt σ H fun vs H1 => ∃ i j : Int, vs = [.int i, .int j] ∧ (-(2 ^ 62) ≤ i ∧ i < 2 ^ 62 ∧ -(2 ^ 62) ≤ j ∧ j < 2 ^ 62) ∧ R (Itr i (j - i).toNat) H1) : iRng2 tt σ H R := h
/-- for over range(n) -/
theorem f_rng1 {g : TG} {tb : TS} {j : Int} (hj : j < 2 ^ 62) (h0' : 0 ≤ j) (Pv : Nat → L2.St → Hp → Prop) (h0 : Pv 0 σ H)
    (hs : ∀ (i : Nat) σ H, (i : Int) < j → Pv i σ H → g (.int (i : Int)) σ H fun σ2 H2 => tb ⟨Pv (i + 1), rt, nx, Pv (i + 1)⟩ σ2 H2) (hd : ∀ σ H, Pv j.toNat σ H → nx σ H) :
    ∃ k : Int, [V.int j] = [V.int k] ∧ -(2 ^ 62) ≤ k ∧ k < 2 ^ 62 ∧ ∃ W : Nat → Nat → L2.St → Hp → Prop, (∃ m, W 0 m σ H) ∧ ∀ i m σ H, W i m σ H →
      ((Itr 0 k.toNat).stop i H ∧ nx σ H) ∨ ((Itr 0 k.toNat).go i H ∧ ∃ N : L2.St → Hp → Prop, (∀ σ' H', N σ' H' → ∃ m', m' < m ∧ W (i + 1) m' σ' H') ∧ ∀ x H', (Itr 0 k.toNat).yld i H x H' → g x σ H' fun σ2 H2 => tb ⟨N, rt, nx, N⟩ σ2 H2) := by
  refine ⟨j, rfl, by omega, hj, for_range (D := ⟨nx, rt, fun _ _ => False, fun _ _ => False⟩) (lo := 0) (n := j.toNat) Pv h0 (fun i σ H hi p => ?_) hd⟩
  have e : (0 : Int) + (i : Int) = (i : Int) := Int.zero_add _
  rw [e]
  exact hs i σ H (by omega) p
theorem f_rng2 {g : TG} {tb : TS} {lo hi : Int} (h1 : -(2 ^ 62) ≤ lo) (h2 : lo < 2 ^ 62) (h3 : -(2 ^ 62) ≤ hi) (h4 : hi < 2 ^ 62) (Pv : Nat → L2.St → Hp → Prop) (h0 : Pv 0 σ H)
    (hs : ∀ (i : Nat) σ H, lo + (i : Int) < hi → Pv i σ H → g (.int (lo + (i : Int))) σ H fun σ2 H2 => tb ⟨Pv (i + 1), rt, nx, Pv (i + 1)⟩ σ2 H2) (hd : ∀ σ H, Pv (hi - lo).toNat σ H → nx σ H) :
    ∃ i j : Int, [V.int lo, V.int hi] = [.int i, .int j] ∧ (-(2 ^ 62) ≤ i ∧ i < 2 ^ 62 ∧ -(2 ^ 62) ≤ j ∧ j < 2 ^ 62) ∧ ∃ W : Nat → Nat → L2.St → Hp → Prop, (∃ m, W 0 m σ H) ∧ ∀ k m σ H, W k m σ H →
      ((Itr i (j - i).toNat).stop k H ∧ nx σ H) ∨ ((Itr i (j - i).toNat).go k H ∧ ∃ N : L2.St → Hp → Prop, (∀ σ' H', N σ' H' → ∃ m', m' < m ∧ W (k + 1) m' σ' H') ∧ ∀ x H', (Itr i (j - i).toNat).yld k H x H' → g x σ H' fun σ2 H2 => tb ⟨N, rt, nx, N⟩ σ2 H2) := by
  refine ⟨lo, hi, rfl, ⟨h1, h2, h3, h4⟩, for_range (D := ⟨nx, rt, fun _ _ => False, fun _ _ => False⟩) (lo := lo) (n := (hi - lo).toNat) Pv h0 (fun i σ H hi' p => ?_) hd⟩
  exact hs i σ H (by omega) p
theorem w_for {wi : TI} {g : TG} {tb : TS} (h : wi σ H fun J H1 => ∃ W : Nat → Nat → L2.St → Hp → Prop, (∃ m, W 0 m σ H1) ∧ ∀ i m σ H, W i m σ H →
  (J.stop i H ∧ nx σ H) ∨ (J.go i H ∧ ∃ N : L2.St → Hp → Prop, (∀ σ' H', N σ' H' → ∃ m', m' < m ∧ W (i + 1) m' σ' H') ∧ ∀ x H', J.yld i H x H' → g x σ H' fun σ2 H2 => tb ⟨N, rt, nx, N⟩ σ2 H2)) : tFor wi g tb ⟨nx, rt, bk, ct⟩ σ H := h

/-! more steps -/
theorem w_bm {T : String} {r : V → List V → Hp → VK → Prop} {to : TE} {tt : TA} (h : to σ H fun x H1 => tyV K T x H1 ∧ tt σ H1 fun xs H2 => r x xs H2 Q) : tBM K T r to tt σ H Q := h
theorem w_bm0 {T : String} {r : V → List V → Hp → VK → Prop} {to : TE} (h : to σ H fun x H1 => tyV K T x H1 ∧ r x [] H1 Q) : tBM0 K T r to σ H Q := h
theorem w_tyL {p : Addr} {xs : List V} {B : Prop} (h : SqL K H p xs) (q : B) : tyV K "list" (.ref p) H ∧ B := ⟨.inl ⟨rfl, _, h⟩, q⟩
theorem w_append {l : Addr} {xs : List V} {y : V} (h : H l = some (.lst xs)) (hz : xs.length < sizeLine) (q : Q .non (upd H l (.lst (xs ++ [y])))) : rAppend (.ref l) [y] H Q := ⟨l, xs, y, rfl, rfl, h, hz, q⟩
theorem w_setL {p : Addr} {xs ys : List V} {k : Int} {j : Nat} {N : Hp → Prop} (h : H p = some (.lst xs)) (hj : ixN xs.length k = some j) (e : xs.set j v = ys) (q : N (upd H p (.lst ys))) : rSetL (.ref p) (.int k) v H N := ⟨p, xs, k, j, rfl, rfl, h, hj, by rw [e]; exact q⟩
theorem w_cat {a b : Addr} {xs ys : List V} (h1 : H a = some (.lst xs)) (h2 : H b = some (.lst ys)) (hz : xs.length + ys.length ≤ sizeLine) (q : ∀ p, H p = none → Q (.ref p) (upd H p (.lst (xs ++ ys)))) : rCat (.ref a) (.ref b) H Q :=
  ⟨a, b, xs, ys, rfl, rfl, h1, h2, hz, q⟩
theorem w_inL {p : Addr} {xs : List V} {b : Bool} (h : SqL K H p xs) (hx : flatV x = true) (ha : xs.all flatV = true) (e : inV x xs = b) (q : Q (.bl b) H) : rIn K false x (.ref p) H Q := ⟨p, xs, rfl, .inl h, hx, ha, by rw [e]; exact q⟩
theorem w_niL {p : Addr} {xs : List V} {b : Bool} (h : SqL K H p xs) (hx : flatV x = true) (ha : xs.all flatV = true) (e : (!inV x xs) = b) (q : Q (.bl b) H) : rIn K true x (.ref p) H Q := ⟨p, xs, rfl, .inl h, hx, ha, by rw [if_pos rfl, e]; exact q⟩
def rLen (K : PySem.W.Frag) : List V → Hp → VK → Prop := fun xs H Q => ∃ p ys, xs = [.ref p] ∧ (SqL K H p ys ∨ SqT K H p ys) ∧ Q (.int ys.length) H
theorem cr_len {X : Cx} : CallR X (.builtin "len") (rLen X.K) := call_len_seq
theorem w_lenL {p : Addr} {xs : List V} (h : SqL K H p xs) (q : Q (.int xs.length) H) : rLen K [.ref p] H Q := ⟨p, xs, rfl, .inl h, q⟩
theorem w_lenT {p : Addr} {xs : List V} (h : SqT K H p xs) (q : Q (.int xs.length) H) : rLen K [.ref p] H Q := ⟨p, xs, rfl, .inr h, q⟩
def rInt1 : List V → Hp → VK → Prop := fun xs H Q => (∃ i, xs = [.int i] ∧ Q (.int i) H) ∨ ∃ k, xs = [.bl k] ∧ Q (.int (if k then 1 else 0)) H
theorem cr_int {X : Cx} : CallR X (.type "int") rInt1 := call_int1
theorem w_intB {b : Bool} (q : Q (.int (if b then 1 else 0)) H) : rInt1 [.bl b] H Q := .inr ⟨b, rfl, q⟩
theorem w_intI {i : Int} (q : Q (.int i) H) : rInt1 [.int i] H Q := .inl ⟨i, rfl, q⟩
def rMin2 : List V → Hp → VK → Prop := fun xs H Q => ∃ i j, xs = [.int i, .int j] ∧ Q (.int (if j < i then j else i)) H
theorem cr_min2 {X : Cx} (hc : X.calm = true) : CallR X (.builtin "min") rMin2 := call_min2 hc
theorem w_min2 {i j : Int} (q : Q (.int (if j < i then j else i)) H) : rMin2 [.int i, .int j] H Q := ⟨i, j, rfl, q⟩
def rList (K : PySem.W.Frag) : List V → Hp → VK → Prop := fun xs H Q => ∃ p ys, xs = [.ref p] ∧ (SqL K H p ys ∨ SqT K H p ys) ∧ ∀ l, H l = none → Q (.ref l) (upd H l (.lst ys))
theorem cr_list {X : Cx} : CallR X (.type "list") (rList X.K) := call_list_of
theorem w_listL {p : Addr} {xs : List V} (h : SqL K H p xs) (q : ∀ l, H l = none → Q (.ref l) (upd H l (.lst xs))) : rList K [.ref p] H Q := ⟨p, xs, rfl, .inl h, q⟩
/-- a new object's place: its size, then any free address -/
theorem w_new {n : Nat} {P : Addr → Prop} (hz : n ≤ sizeLine) (h : ∀ p, P p) : n ≤ sizeLine ∧ ∀ p, P p := ⟨hz, h⟩
theorem sz_le {n : Nat} (h : n ≤ 100000) : n ≤ sizeLine := Nat.le_trans h (by decide)
theorem sz_lt {n : Nat} (h : n < 100000) : n < sizeLine := Nat.lt_of_lt_of_le h (by decide)
theorem ite_dT {p : Prop} {inst : Decidable p} {A B : Prop} (hp : p) (h1 : A) : if decide p = true then A else B := by rw [if_pos (decide_eq_true hp)]; exact h1
theorem ite_dF {p : Prop} {inst : Decidable p} {A B : Prop} (hp : ¬ p) (h1 : B) : if decide p = true then A else B := by rw [if_neg (by simp [hp])]; exact h1
theorem ite_nT {p : Prop} {inst : Decidable p} {A B : Prop} (hp : ¬ p) (h1 : A) : if (!decide p) = true then A else B := by rw [if_pos (by simp [hp])]; exact h1
theorem ite_nF {p : Prop} {inst : Decidable p} {A B : Prop} (hp : p) (h1 : B) : if (!decide p) = true then A else B := by rw [if_neg (by simp [hp])]; exact h1
end
/-! deep data -/
theorem dp_ints {K : PySem.W.Frag} {H : Hp} : ∀ ns : List Int, DpAll K H (ns.map V.int) (ns.map PyData.int)
  | [] => .nil
  | n :: r => .cons (.int n) (dp_ints r)
theorem lay_ints : ∀ ns : List Int, PyData.canLayAll0 (ns.map PyData.int) = true
  | [] => rfl
  | n :: r => by simp [PyData.canLayAll0, PyData.canLay0, lay_ints r]
theorem depth_ints : ∀ ns : List Int, PyData.depthAll (ns.map PyData.int) ≤ 1
  | [] => by simp [PyData.depthAll]
  | n :: r => by
    have h := depth_ints r
    simp [PyData.depthAll, PyData.depth]
    omega
theorem shaped_ints (ns : List Int) : SeqAt.shaped (.list (ns.map PyData.int)) = true := by
  have h := depth_ints ns
  simp [SeqAt.shaped, PyData.canLay0, lay_ints, PyData.depth]
  omega
theorem eqv_ints : ∀ ns ms : List Int, PyData.eqvAll (ns.map PyData.int) (ms.map PyData.int) = decide (ns = ms)
  | [], [] => by simp [PyData.eqvAll]
  | [], _ :: _ => by simp [PyData.eqvAll]
  | _ :: _, [] => by simp [PyData.eqvAll]
  | n :: r, m :: t => by
    have h := eqv_ints r t
    simp only [List.map_cons, PyData.eqvAll, PyData.eqv, h, List.cons.injEq]
    by_cases e : n = m <;> simp [e]
section
variable {σ : L2.St} {H : Hp} {Q : VK} {K : PySem.W.Frag}
theorem w_eqDI {p q : Addr} {ns ms : List Int} (h1 : SqL K H p (ns.map V.int)) (h2 : SqL K H q (ms.map V.int)) (hq : Q (.bl (decide (ns = ms))) H) : rEqD K (.ref p) (.ref q) H Q :=
  ⟨.list (ns.map PyData.int), .list (ms.map PyData.int), .lst h1 (dp_ints ns), .lst h2 (dp_ints ms), shaped_ints ns, shaped_ints ms, by
    show Q (.bl (PyData.eqv (.list _) (.list _))) H
    simp only [PyData.eqv, eqv_ints]; exact hq⟩
theorem w_neDI {p q : Addr} {ns ms : List Int} (h1 : SqL K H p (ns.map V.int)) (h2 : SqL K H q (ms.map V.int)) (hq : Q (.bl (!decide (ns = ms))) H) : rNeD K (.ref p) (.ref q) H Q :=
  ⟨.list (ns.map PyData.int), .list (ms.map PyData.int), .lst h1 (dp_ints ns), .lst h2 (dp_ints ms), shaped_ints ns, shaped_ints ms, by
    show Q (.bl (!PyData.eqv (.list _) (.list _))) H
    simp only [PyData.eqv, eqv_ints]; exact hq⟩
end
theorem map_nil_of {H : Hp} {p : Addr} (h : H p = some (.lst [])) : H p = some (.lst (([] : List Int).map V.int)) := h
end Cw
namespace Cw
open PySem L2
theorem int_at {ns : List Int} {i : Nat} {x : V} (h : (ns.map V.int)[i]? = some x) : ∃ z, ns[i]? = some z ∧ x = V.int z := by
  rw [List.getElem?_map] at h
  cases e : ns[i]? with
  | none => rw [e] at h; cases h
  | some z => rw [e] at h; exact ⟨z, rfl, (Option.some.inj h).symm⟩
/-- the law's box: a list of the script's rest and the number that goes on -/
def Box (H : Hp) (b q : Addr) : Prop := ∃ (z : Int) (ms : List Int), H b = some (.lst [.ref q, .int z]) ∧ H q = some (.lst (ms.map V.int)) ∧ 0 ≤ z ∧ z < 2147483647 ∧ ms.length ≤ 63
theorem Box.ne {H : Hp} {b q : Addr} (h : Box H b q) : b ≠ q := by
  obtain ⟨z, ms, h1, h2, _⟩ := h
  intro e
  subst e
  rw [h1] at h2
  cases ms with
  | nil => simp at h2
  | cons m r => simp at h2
theorem Box.keep {W : List Addr} {H H' : Hp} {b q : Addr} (h : Box H b q) (f : Fr W H H') (nb : b ∉ W) (nq : q ∉ W) : Box H' b q := by
  obtain ⟨z, ms, h1, h2, r⟩ := h
  exact ⟨z, ms, f.get h1 nb, f.get h2 nq, r⟩
theorem Box.keep0 {H H' : Hp} {b q : Addr} (h : Box H b q) (f : Fr [] H H') : Box H' b q := h.keep f (by simp) (by simp)
theorem sq_new {K : PySem.W.Frag} {H : Hp} {p a : Addr} {o : HO} {xs : List V} (h : SqL K H a xs) (hp : H p = none) : SqL K (upd H p o) a xs := Fr.seqL (Fr.new hp) h
theorem st_new {K : PySem.W.Frag} {H : Hp} {p a : Addr} {o : HO} {xs : List V} (h : SqT K H a xs) (hp : H p = none) : SqT K (upd H p o) a xs := Fr.seqT (Fr.new hp) h
theorem cmul_l {i j : Int} (h1 : -18446744073709551616 < i) (h2 : i < 18446744073709551616) : CMul i j := .inl ⟨by omega, by omega⟩
theorem cmul_r {i j : Int} (h1 : -18446744073709551616 < j) (h2 : j < 18446744073709551616) : CMul i j := .inr ⟨by omega, by omega⟩
theorem cdiv_ {i j : Int} (h1 : 0 < j) (h2 : j < 1073741824) : CDiv i j := ⟨h1, h2⟩
theorem cpos_ {j : Int} (h1 : 0 < j) : 0 < j := h1
theorem w_pop0 {H : Hp} {Q : VK} {l : Addr} {y : V} {xs : List V} (h : H l = some (.lst (y :: xs))) (hz : xs.length < 1000000) (q : Q y (upd H l (.lst xs))) : rPopAt (.ref l) [.int 0] H Q := by
  refine ⟨l, y :: xs, 0, 0, y, rfl, rfl, h, by decide, by decide, ?_, rfl, q⟩
  unfold seqIndex?
  simp
theorem atI_0 {x : V} {xs : List V} : atI (x :: xs) 0 = some x := atI_nat (j := 0) rfl
theorem ixN_nat {n j : Nat} (h : j < n) : ixN n (j : Int) = some j := by
  unfold ixN
  rw [if_pos (by omega), if_pos (by omega)]
  simp
theorem ixN_0 {x : V} {xs : List V} : ixN (x :: xs).length 0 = some 0 := ixN_nat (j := 0) (Nat.succ_pos _)
theorem mod_in {z n : Int} (h : 0 < n) : 0 ≤ z % n ∧ z % n < n := ⟨Int.emod_nonneg _ (by omega), Int.emod_lt_of_pos _ h⟩
theorem ixN_1 {x y : V} {xs : List V} : ixN (x :: y :: xs).length 1 = some 1 := ixN_nat (j := 1) (Nat.succ_lt_succ (Nat.succ_pos _))
theorem ints_at {ns : List Int} {r : Int} (h0 : 0 ≤ r) (h1 : r < ns.length) : ∃ v, atI (ns.map V.int) r = some (.int v) ∧ v ∈ ns := by
  obtain ⟨j, rfl⟩ : ∃ j : Nat, r = (j : Int) := ⟨r.toNat, by omega⟩
  have hj : j < ns.length := by omega
  exact ⟨ns[j], atI_nat (by rw [List.getElem?_map, List.getElem?_eq_getElem hj]; rfl), List.getElem_mem hj⟩
theorem atI_neg1 {xs : List V} {v : V} (h : xs.getLast? = some v) : atI xs (-1) = some v := by
  obtain ⟨ys, rfl⟩ := List.getLast?_eq_some_iff.mp h
  exact atI_last ys v
theorem ints_last {ns : List Int} (h : ns ≠ []) : ∃ v, atI (ns.map V.int) (-1) = some (.int v) ∧ v ∈ ns := by
  refine ⟨ns.getLast h, atI_neg1 ?_, List.getLast_mem h⟩
  rw [List.getLast?_map, List.getLast?_eq_some_getLast h]
  rfl
theorem Fr.ne_mem {W : List Addr} {H H' : Hp} {p b : Addr} {o : HO} (_ : Fr W H H') (h : H b = some o) (hp : H p = none) : p ≠ b := fun e => by
  subst e
  rw [h] at hp
  cases hp
theorem Box.free {H : Hp} {b q p : Addr} (h : Box H b q) (hp : H p = none) : p ∉ [b, q] := by
  obtain ⟨z, ms, h1, h2, _⟩ := h
  simp only [List.mem_cons, List.not_mem_nil, or_false, not_or]
  exact ⟨fun e => ne_of_none h1 hp e.symm, fun e => ne_of_none h2 hp e.symm⟩
theorem w_eqD0 {K : PySem.W.Frag} {H : Hp} {Q : VK} {p q : Addr} {ns : List Int} (h1 : SqL K H p (ns.map V.int)) (h2 : SqL K H q []) (hq : Q (.bl (decide (ns = []))) H) : rEqD K (.ref p) (.ref q) H Q := w_eqDI (ms := []) h1 h2 hq
theorem w_neD0 {K : PySem.W.Frag} {H : Hp} {Q : VK} {p q : Addr} {ns : List Int} (h1 : SqL K H p (ns.map V.int)) (h2 : SqL K H q []) (hq : Q (.bl (!decide (ns = []))) H) : rNeD K (.ref p) (.ref q) H Q := w_neDI (ms := []) h1 h2 hq
theorem dpall_len {K : PySem.W.Frag} {H : Hp} : ∀ {xs : List V} {ds : List PyData}, DpAll K H xs ds → xs.length = ds.length
  | _, _, .nil => rfl
  | _, _, .cons _ t => congrArg (· + 1) (dpall_len t)
theorem dpall_get {K : PySem.W.Frag} {H : Hp} : ∀ {xs : List V} {ds : List PyData} {i : Nat} {d : PyData}, DpAll K H xs ds → ds[i]? = some d → ∃ x, xs[i]? = some x ∧ Dp K H x d
  | _, _, 0, _, .cons a _, h => by
    simp at h
    subst h
    exact ⟨_, rfl, a⟩
  | _, _, i + 1, _, .cons _ t, h => by
    obtain ⟨x, h1, h2⟩ := dpall_get (i := i) t (by simpa using h)
    exact ⟨x, by simpa using h1, h2⟩
  | _, _, _, _, .nil, h => by simp at h
theorem ty_L {K : PySem.W.Frag} {H : Hp} {a : Addr} {xs : List V} (h : SqL K H a xs) : TyX K H (.ref a) (.type "list") := by
  rcases h with (h | ⟨o, h⟩) | ⟨o, its, n, h, c, _⟩
  · exact .base (.lst h)
  · exact .base (.frz h)
  · exact .kList h c
theorem ty_T {K : PySem.W.Frag} {H : Hp} {a : Addr} {xs : List V} (h : SqT K H a xs) : TyX K H (.ref a) (.type "tuple") := by
  rcases h with (h | ⟨o, h⟩) | ⟨o, its, n, h, c, _⟩
  · exact .base (.tup h)
  · exact .fTuple h
  · exact .kTuple h c
theorem w_isi {K : PySem.W.Frag} {H : Hp} {Q : VK} {x : V} {t c : String} {b : Bool} (ht : TyX K H x (.type t)) (h : kitB t c = some b) (q : Q (.bl b) H) : rIsi K [x, .ty c] H Q := ⟨x, .ty c, .type t, .type c, b, rfl, .ty c, ht, kit_ty h, q⟩
theorem w_ixQL {K : PySem.W.Frag} {H : Hp} {Q : VK} {v : V} {p : Addr} {xs : List V} {i : Int} (h : SqL K H p xs) (ha : atI xs i = some v) (q : Q v H) : rIx K (.ref p) (.int i) H Q := .inl (w_ixL h ha q)
theorem w_ixQT {K : PySem.W.Frag} {H : Hp} {Q : VK} {v : V} {p : Addr} {xs : List V} {i : Int} (h : SqT K H p xs) (ha : atI xs i = some v) (q : Q v H) : rIx K (.ref p) (.int i) H Q := .inr (.inl (w_ixT h ha q))
/-- data of at most so deep lists and tuples -/
def fits : Nat → PyData → Prop
  | 0, d => match d with
    | .list _ | .tuple _ | .dict _ => False
    | _ => True
  | k + 1, d => match d with
    | .list ds | .tuple ds => ds.length ≤ 100000 ∧ ∀ x ∈ ds, fits k x
    | .dict _ => False
    | _ => True
theorem Fr.dp {K : PySem.W.Frag} {H H' : Hp} (f : Fr [] H H') : ∀ (d : PyData) (v : V), Dp K H v d → Dp K H' v d := fun d v h =>
  Dp.rec (motive_1 := fun v d _ => Dp K H' v d) (motive_2 := fun vs ds _ => DpAll K H' vs ds) .non .bl .int .str (fun h _ ih => .lst (f.seqL h) ih) (fun h _ ih => .tup (f.seqT h) ih) .nil (fun _ _ a b => .cons a b) h
theorem kb_NoneType_bool : kitB "NoneType" "bool" = some false := by decide +kernel
theorem kb_NoneType_int : kitB "NoneType" "int" = some false := by decide +kernel
theorem kb_NoneType_str : kitB "NoneType" "str" = some false := by decide +kernel
theorem kb_NoneType_tuple : kitB "NoneType" "tuple" = some false := by decide +kernel
theorem kb_NoneType_list : kitB "NoneType" "list" = some false := by decide +kernel
theorem kb_bool_bool : kitB "bool" "bool" = some true := by decide +kernel
theorem kb_bool_int : kitB "bool" "int" = some true := by decide +kernel
theorem kb_bool_str : kitB "bool" "str" = some false := by decide +kernel
theorem kb_bool_tuple : kitB "bool" "tuple" = some false := by decide +kernel
theorem kb_bool_list : kitB "bool" "list" = some false := by decide +kernel
theorem kb_int_bool : kitB "int" "bool" = some false := by decide +kernel
theorem kb_int_int : kitB "int" "int" = some true := by decide +kernel
theorem kb_int_str : kitB "int" "str" = some false := by decide +kernel
theorem kb_int_tuple : kitB "int" "tuple" = some false := by decide +kernel
theorem kb_int_list : kitB "int" "list" = some false := by decide +kernel
theorem kb_str_bool : kitB "str" "bool" = some false := by decide +kernel
theorem kb_str_int : kitB "str" "int" = some false := by decide +kernel
theorem kb_str_str : kitB "str" "str" = some true := by decide +kernel
theorem kb_str_tuple : kitB "str" "tuple" = some false := by decide +kernel
theorem kb_str_list : kitB "str" "list" = some false := by decide +kernel
theorem kb_list_bool : kitB "list" "bool" = some false := by decide +kernel
theorem kb_list_int : kitB "list" "int" = some false := by decide +kernel
theorem kb_list_str : kitB "list" "str" = some false := by decide +kernel
theorem kb_list_tuple : kitB "list" "tuple" = some false := by decide +kernel
theorem kb_list_list : kitB "list" "list" = some true := by decide +kernel
theorem kb_tuple_bool : kitB "tuple" "bool" = some false := by decide +kernel
theorem kb_tuple_int : kitB "tuple" "int" = some false := by decide +kernel
theorem kb_tuple_str : kitB "tuple" "str" = some false := by decide +kernel
theorem kb_tuple_tuple : kitB "tuple" "tuple" = some true := by decide +kernel
theorem kb_tuple_list : kitB "tuple" "list" = some false := by decide +kernel
theorem ite_nf {A B : Prop} (h : A) : if (!false) = true then A else B := h
theorem ite_nt {A B : Prop} (h : B) : if (!true) = true then A else B := h
/-! more loops; comprehensions -/
section
variable {σ : L2.St} {H : Hp} {Q : VK} {K : PySem.W.Frag} {nx : L2.St → Hp → Prop} {rt : VK}
theorem w_gTup {a : Addr} {xs : List V} {n : Nat} {t : TGs} {N : L2.St → Hp → Prop} (h : SqT K H a xs) (hl : xs.length = n) (q : t xs σ H N) : gTup K n t (.ref a) σ H N := ⟨a, xs, rfl, h, hl, q⟩
theorem w_gCons {t : TG} {u : TGs} {v : V} {r : List V} {N : L2.St → Hp → Prop} (q : t v σ H fun σ' H' => u r σ' H' N) : gCons t u (v :: r) σ H N := ⟨v, r, rfl, q⟩
theorem w_gNil {N : L2.St → Hp → Prop} (q : N σ H) : gNil [] σ H N := ⟨rfl, q⟩
theorem w_yes {QB : Bool → Hp → Prop} (q : QB true H) : tYes σ H QB := q
theorem w_wipe {s s' : L2.St} {vs : List Nat} {B : Prop} (e : wipe s vs = wipe s' vs) (q : B) : wipe s vs = wipe s' vs ∧ B := ⟨e, q⟩
theorem w_iEnum {tt : TA} {R : It → Hp → Prop} (h : tt σ H fun vs H1 => ∃ a xs, vs = [.ref a] ∧ SqL K H1 a xs ∧ R (Ite K a) H1) : iEnum K tt σ H R := h
theorem f_enum {g : TG} {tb : TS} {a : Addr} (xs : List V) (hq : SqL K H a xs) (Pv : Nat → L2.St → Hp → Prop) (h0 : Pv 0 σ H) (hl : ∀ i σ H, i ≤ xs.length → Pv i σ H → SqL K H a xs)
    (hs : ∀ (i : Nat) x T σ H, xs[i]? = some x → Pv i σ H → H T = none → g (.ref T) σ (upd H T (.tup [.int (i : Int), x])) fun σ2 H2 => tb ⟨Pv (i + 1), rt, nx, Pv (i + 1)⟩ σ2 H2) (hd : ∀ σ H, Pv xs.length σ H → nx σ H) :
    ∃ b ys, [V.ref a] = [.ref b] ∧ SqL K H b ys ∧ ∃ W : Nat → Nat → L2.St → Hp → Prop, (∃ m, W 0 m σ H) ∧ ∀ i m σ H, W i m σ H →
      ((Ite K b).stop i H ∧ nx σ H) ∨ ((Ite K b).go i H ∧ ∃ N : L2.St → Hp → Prop, (∀ σ' H', N σ' H' → ∃ m', m' < m ∧ W (i + 1) m' σ' H') ∧ ∀ x H', (Ite K b).yld i H x H' → g x σ H' fun σ2 H2 => tb ⟨N, rt, nx, N⟩ σ2 H2) := by
  refine ⟨a, xs, rfl, hq, fun i m σ H => m = xs.length - i ∧ i ≤ xs.length ∧ Pv i σ H, ⟨xs.length, by simp, Nat.zero_le _, h0⟩, ?_⟩
  rintro i m σ H ⟨rfl, hi, p⟩
  have q := hl i σ H hi p
  by_cases hlt : i < xs.length
  · refine .inr ⟨⟨xs, xs[i], q, by simp [hlt]⟩, Pv (i + 1), fun σ' H' p' => ⟨xs.length - (i + 1), by omega, rfl, hlt, p'⟩, fun x H' y => ?_⟩
    obtain ⟨T, z, rfl, hT, rfl, hx⟩ := y
    exact hs i z T σ H (hx xs q) p hT
  · have e : i = xs.length := by omega
    subst e
    exact .inl ⟨⟨xs, q, Nat.le_refl _⟩, hd σ H p⟩
/-- a comprehension's list so far, at D -/
def LcI (Pv : Addr → Nat → List V → Hp → Prop) (D : Addr) (i : Nat) (H : Hp) : Prop := ∃ acc, Pv D i acc H ∧ H D = some (.lst acc) ∧ acc.length ≤ i
theorem lc_end {Pv : Addr → Nat → List V → Hp → Prop} {D : Addr} {i : Nat} {acc : List V} {y : V} (h : H D = some (.lst acc)) (hl : acc.length ≤ i) (hi : i < 99999) (p : Pv D (i + 1) (acc ++ [y]) (upd H D (.lst (acc ++ [y])))) :
    ∃ acc, H D = some (.lst acc) ∧ acc.length < sizeLine ∧ LcI Pv D (i + 1) (upd H D (.lst (acc ++ [y]))) := ⟨acc, h, sz_lt (by omega), acc ++ [y], p, upd_same, by simp; omega⟩
theorem l_list {g : TG} {tt : TT} {te : TE} {vs : List Nat} {Qd : Addr → Hp → Prop} {a : Addr} (xs : List V) (hq : SqL K H a xs) (Pv : Addr → Nat → List V → Hp → Prop) (h0 : ∀ D, H D = none → Pv D 0 [] (upd H D (.lst [])))
    (hl : ∀ D i acc H', H D = none → Pv D i acc H' → H' D = some (.lst acc) → SqL K H' a xs)
    (hs : ∀ D (i : Nat) x acc H', H D = none → xs[i]? = some x → Pv D i acc H' → H' D = some (.lst acc) → acc.length ≤ i → g x (wipe σ vs) H' fun σ2 H2 => wipe σ2 vs = wipe σ vs ∧ tt σ2 H2 fun b H3 =>
      if b = true then te σ2 H3 fun y H4 => ∃ acc, H4 D = some (.lst acc) ∧ acc.length < sizeLine ∧ LcI Pv D (i + 1) (upd H4 D (.lst (acc ++ [y]))) else LcI Pv D (i + 1) H3)
    (hd : ∀ D acc H', H D = none → Pv D xs.length acc H' → H' D = some (.lst acc) → acc.length ≤ xs.length → Qd D H') :
    ∃ b, V.ref a = V.ref b ∧ (∃ xs, SqL K H b xs) ∧ ∀ D, H D = none → ∃ W : Nat → Nat → Hp → Prop, (∃ m, W 0 m (upd H D (.lst []))) ∧ ∀ i m H, W i m H →
      ((Itl K b).stop i H ∧ Qd D H) ∨ ((Itl K b).go i H ∧ ∃ Nx : Hp → Prop, (∀ H', Nx H' → ∃ m', m' < m ∧ W (i + 1) m' H') ∧ ∀ x H', (Itl K b).yld i H x H' → g x (wipe σ vs) H' fun σ2 H2 => wipe σ2 vs = wipe σ vs ∧ tt σ2 H2 fun b H3 =>
        if b = true then te σ2 H3 fun y H4 => ∃ acc, H4 D = some (.lst acc) ∧ acc.length < sizeLine ∧ Nx (upd H4 D (.lst (acc ++ [y]))) else Nx H3) := by
  refine ⟨a, rfl, ⟨xs, hq⟩, fun D hD => lc_list (K := K) (a := a) (xs := xs) (LcI Pv D) ⟨[], h0 D hD, upd_same, Nat.le_refl _⟩ (fun i H' _ ⟨acc, p, e, _⟩ => hl D i acc H' hD p e) (fun i x H' hx ⟨acc, p, e, l⟩ => hs D i x acc H' hD hx p e l) (fun H' ⟨acc, p, e, l⟩ => hd D acc H' hD p e l)⟩
theorem l_rng1 {g : TG} {tt : TT} {te : TE} {vs : List Nat} {Qd : Addr → Hp → Prop} {j : Int} (hj : j < 2 ^ 62) (h0' : 0 ≤ j) (Pv : Addr → Nat → List V → Hp → Prop) (h0 : ∀ D, H D = none → Pv D 0 [] (upd H D (.lst [])))
    (hs : ∀ D (i : Nat) acc H', H D = none → (i : Int) < j → Pv D i acc H' → H' D = some (.lst acc) → acc.length ≤ i → g (.int (i : Int)) (wipe σ vs) H' fun σ2 H2 => wipe σ2 vs = wipe σ vs ∧ tt σ2 H2 fun b H3 =>
      if b = true then te σ2 H3 fun y H4 => ∃ acc, H4 D = some (.lst acc) ∧ acc.length < sizeLine ∧ LcI Pv D (i + 1) (upd H4 D (.lst (acc ++ [y]))) else LcI Pv D (i + 1) H3)
    (hd : ∀ D acc H', H D = none → Pv D j.toNat acc H' → H' D = some (.lst acc) → acc.length ≤ j.toNat → Qd D H') :
    ∃ k : Int, [V.int j] = [V.int k] ∧ -(2 ^ 62) ≤ k ∧ k < 2 ^ 62 ∧ ∀ D, H D = none → ∃ W : Nat → Nat → Hp → Prop, (∃ m, W 0 m (upd H D (.lst []))) ∧ ∀ i m H, W i m H →
      ((Itr 0 k.toNat).stop i H ∧ Qd D H) ∨ ((Itr 0 k.toNat).go i H ∧ ∃ Nx : Hp → Prop, (∀ H', Nx H' → ∃ m', m' < m ∧ W (i + 1) m' H') ∧ ∀ x H', (Itr 0 k.toNat).yld i H x H' → g x (wipe σ vs) H' fun σ2 H2 => wipe σ2 vs = wipe σ vs ∧ tt σ2 H2 fun b H3 =>
        if b = true then te σ2 H3 fun y H4 => ∃ acc, H4 D = some (.lst acc) ∧ acc.length < sizeLine ∧ Nx (upd H4 D (.lst (acc ++ [y]))) else Nx H3) := by
  refine ⟨j, rfl, by omega, hj, fun D hD => lc_range (lo := 0) (n := j.toNat) (LcI Pv D) ⟨[], h0 D hD, upd_same, Nat.le_refl _⟩ (fun i H' hi ⟨acc, p, e, l⟩ => ?_) (fun H' ⟨acc, p, e, l⟩ => hd D acc H' hD p e l)⟩
  have e0 : (0 : Int) + (i : Int) = (i : Int) := Int.zero_add _
  rw [e0]
  exact hs D i acc H' hD (by omega) p e l
theorem l_rng2 {g : TG} {tt : TT} {te : TE} {vs : List Nat} {Qd : Addr → Hp → Prop} {lo hi : Int} (h1 : -(2 ^ 62) ≤ lo) (h2 : lo < 2 ^ 62) (h3 : -(2 ^ 62) ≤ hi) (h4 : hi < 2 ^ 62) (Pv : Addr → Nat → List V → Hp → Prop) (h0 : ∀ D, H D = none → Pv D 0 [] (upd H D (.lst [])))
    (hs : ∀ D (i : Nat) acc H', H D = none → lo + (i : Int) < hi → Pv D i acc H' → H' D = some (.lst acc) → acc.length ≤ i → g (.int (lo + (i : Int))) (wipe σ vs) H' fun σ2 H2 => wipe σ2 vs = wipe σ vs ∧ tt σ2 H2 fun b H3 =>
      if b = true then te σ2 H3 fun y H4 => ∃ acc, H4 D = some (.lst acc) ∧ acc.length < sizeLine ∧ LcI Pv D (i + 1) (upd H4 D (.lst (acc ++ [y]))) else LcI Pv D (i + 1) H3)
    (hd : ∀ D acc H', H D = none → Pv D (hi - lo).toNat acc H' → H' D = some (.lst acc) → acc.length ≤ (hi - lo).toNat → Qd D H') :
    ∃ i j : Int, [V.int lo, V.int hi] = [.int i, .int j] ∧ (-(2 ^ 62) ≤ i ∧ i < 2 ^ 62 ∧ -(2 ^ 62) ≤ j ∧ j < 2 ^ 62) ∧ ∀ D, H D = none → ∃ W : Nat → Nat → Hp → Prop, (∃ m, W 0 m (upd H D (.lst []))) ∧ ∀ k m H, W k m H →
      ((Itr i (j - i).toNat).stop k H ∧ Qd D H) ∨ ((Itr i (j - i).toNat).go k H ∧ ∃ Nx : Hp → Prop, (∀ H', Nx H' → ∃ m', m' < m ∧ W (k + 1) m' H') ∧ ∀ x H', (Itr i (j - i).toNat).yld k H x H' → g x (wipe σ vs) H' fun σ2 H2 => wipe σ2 vs = wipe σ vs ∧ tt σ2 H2 fun b H3 =>
        if b = true then te σ2 H3 fun y H4 => ∃ acc, H4 D = some (.lst acc) ∧ acc.length < sizeLine ∧ Nx (upd H4 D (.lst (acc ++ [y]))) else Nx H3) := by
  refine ⟨lo, hi, rfl, ⟨h1, h2, h3, h4⟩, fun D hD => lc_range (lo := lo) (n := (hi - lo).toNat) (LcI Pv D) ⟨[], h0 D hD, upd_same, Nat.le_refl _⟩ (fun i H' hi' ⟨acc, p, e, l⟩ => ?_) (fun H' ⟨acc, p, e, l⟩ => hd D acc H' hD p e l)⟩
  exact hs D i acc H' hD (by omega) p e l
theorem l_enum {g : TG} {tt : TT} {te : TE} {vs : List Nat} {Qd : Addr → Hp → Prop} {a : Addr} (xs : List V) (hq : SqL K H a xs) (Pv : Addr → Nat → List V → Hp → Prop) (h0 : ∀ D, H D = none → Pv D 0 [] (upd H D (.lst [])))
    (hl : ∀ D i acc H', H D = none → Pv D i acc H' → H' D = some (.lst acc) → SqL K H' a xs)
    (hs : ∀ D (i : Nat) x T acc H', H D = none → xs[i]? = some x → Pv D i acc H' → H' D = some (.lst acc) → acc.length ≤ i → H' T = none → g (.ref T) (wipe σ vs) (upd H' T (.tup [.int (i : Int), x])) fun σ2 H2 => wipe σ2 vs = wipe σ vs ∧ tt σ2 H2 fun b H3 =>
      if b = true then te σ2 H3 fun y H4 => ∃ acc, H4 D = some (.lst acc) ∧ acc.length < sizeLine ∧ LcI Pv D (i + 1) (upd H4 D (.lst (acc ++ [y]))) else LcI Pv D (i + 1) H3)
    (hd : ∀ D acc H', H D = none → Pv D xs.length acc H' → H' D = some (.lst acc) → acc.length ≤ xs.length → Qd D H') :
    ∃ b ys, [V.ref a] = [V.ref b] ∧ SqL K H b ys ∧ ∀ D, H D = none → ∃ W : Nat → Nat → Hp → Prop, (∃ m, W 0 m (upd H D (.lst []))) ∧ ∀ i m H, W i m H →
      ((Ite K b).stop i H ∧ Qd D H) ∨ ((Ite K b).go i H ∧ ∃ Nx : Hp → Prop, (∀ H', Nx H' → ∃ m', m' < m ∧ W (i + 1) m' H') ∧ ∀ x H', (Ite K b).yld i H x H' → g x (wipe σ vs) H' fun σ2 H2 => wipe σ2 vs = wipe σ vs ∧ tt σ2 H2 fun b H3 =>
        if b = true then te σ2 H3 fun y H4 => ∃ acc, H4 D = some (.lst acc) ∧ acc.length < sizeLine ∧ Nx (upd H4 D (.lst (acc ++ [y]))) else Nx H3) := by
  refine ⟨a, xs, rfl, hq, fun D hD => ⟨fun i m H' => m = xs.length - i ∧ i ≤ xs.length ∧ LcI Pv D i H', ⟨xs.length, by simp, Nat.zero_le _, [], h0 D hD, upd_same, Nat.le_refl _⟩, ?_⟩⟩
  rintro i m H' ⟨rfl, hi, acc, p, e, l⟩
  have q := hl D i acc H' hD p e
  by_cases hlt : i < xs.length
  · refine .inr ⟨⟨xs, xs[i], q, by simp [hlt]⟩, LcI Pv D (i + 1), fun H2 p' => ⟨xs.length - (i + 1), by omega, rfl, hlt, p'⟩, fun x H2 y => ?_⟩
    obtain ⟨T, z, rfl, hT, rfl, hx⟩ := y
    exact hs D i z T acc H' hD (hx xs q) p e l hT
  · have e' : i = xs.length := by omega
    subst e'
    exact .inl ⟨⟨xs, q, Nat.le_refl _⟩, hd D acc H' hD p e l⟩
theorem w_lc {wi : TI} {g : TG} {tt : TT} {te : TE} {vs : List Nat} (h : wi σ H fun J H1 => ∀ D, H1 D = none → ∃ W : Nat → Nat → Hp → Prop, (∃ m, W 0 m (upd H1 D (.lst []))) ∧ ∀ i m H, W i m H →
  (J.stop i H ∧ Q (.ref D) H) ∨ (J.go i H ∧ ∃ Nx : Hp → Prop, (∀ H', Nx H' → ∃ m', m' < m ∧ W (i + 1) m' H') ∧ ∀ x H', J.yld i H x H' → g x (wipe σ vs) H' fun σ2 H2 => wipe σ2 vs = wipe σ vs ∧ tt σ2 H2 fun b H3 =>
    if b = true then te σ2 H3 fun y H4 => ∃ acc, H4 D = some (.lst acc) ∧ acc.length < sizeLine ∧ Nx (upd H4 D (.lst (acc ++ [y]))) else Nx H3)) : tLc wi g tt te vs σ H Q := h
end
theorem take_snoc {α : Type} {xs : List α} {i : Nat} {x : α} (h : xs[i]? = some x) : xs.take (i + 1) = xs.take i ++ [x] := by
  obtain ⟨hi, rfl⟩ := List.getElem?_eq_some_iff.mp h
  rw [List.take_succ, List.getElem?_eq_getElem hi]
  rfl
theorem dpall_snoc {K : PySem.W.Frag} {H : Hp} {v : V} {d : PyData} (h : Dp K H v d) : ∀ {xs : List V} {ds : List PyData}, DpAll K H xs ds → DpAll K H (xs ++ [v]) (ds ++ [d])
  | _, _, .nil => .cons h .nil
  | _, _, .cons a t => .cons a (dpall_snoc h t)
theorem Fr.dpa {K : PySem.W.Frag} {H H' : Hp} (f : Fr [] H H') : ∀ {vs : List V} {ds : List PyData}, DpAll K H vs ds → DpAll K H' vs ds
  | _, _, .nil => .nil
  | _, _, .cons a t => .cons (f.dp _ _ a) (Fr.dpa f t)
theorem f_while {c : TT} {tb : TS} {σ : L2.St} {H : Hp} {nx : L2.St → Hp → Prop} {rt : VK} {bk ct : L2.St → Hp → Prop} (W : Nat → L2.St → Hp → Prop) (m : Nat) (h0 : W m σ H)
    (hs : ∀ m σ H, W m σ H → c σ H fun b H1 => if b = true then ∃ N : L2.St → Hp → Prop, (∀ σ' H', N σ' H' → ∃ m', m' < m ∧ W m' σ' H') ∧ tb ⟨N, rt, nx, N⟩ σ H1 else nx σ H1) : tWhile c tb ⟨nx, rt, bk, ct⟩ σ H := ⟨W, ⟨m, h0⟩, hs⟩
theorem w_turn {tb : TS} {σ : L2.St} {H : Hp} {nx : L2.St → Hp → Prop} {rt : VK} {m : Nat} {W : Nat → L2.St → Hp → Prop} (h : tb ⟨fun σ' H' => ∃ m', m' < m ∧ W m' σ' H', rt, nx, fun σ' H' => ∃ m', m' < m ∧ W m' σ' H'⟩ σ H) :
    ∃ N : L2.St → Hp → Prop, (∀ σ' H', N σ' H' → ∃ m', m' < m ∧ W m' σ' H') ∧ tb ⟨N, rt, nx, N⟩ σ H := ⟨_, fun _ _ h => h, h⟩
/-! data made new beside H: it stays whatever of H's objects is changed -/
def Nw (K : PySem.W.Frag) (H H' : Hp) (v : V) (d : PyData) : Prop := ∀ W H'', (∀ w ∈ W, H w ≠ none) → Fr W H' H'' → Dp K H'' v d
def NwA (K : PySem.W.Frag) (H H' : Hp) (xs : List V) (ds : List PyData) : Prop := ∀ W H'', (∀ w ∈ W, H w ≠ none) → Fr W H' H'' → DpAll K H'' xs ds
section
variable {K : PySem.W.Frag} {H H' H2 H0 : Hp} {v : V} {d : PyData} {xs : List V} {ds : List PyData} {W : List Addr} {t : Addr}
theorem Nw.now (h : Nw K H H' v d) : Dp K H' v d := h [] H' (by simp) .refl
theorem NwA.now (h : NwA K H H' xs ds) : DpAll K H' xs ds := h [] H' (by simp) .refl
theorem Nw.tup (ht : H t = none) (h : H' t = some (.tup xs)) (ha : NwA K H H' xs ds) : Nw K H H' (.ref t) (.tuple ds) := fun W H'' hw f => .tup (SqT.of (f.get h fun m => hw t m ht)) (ha W H'' hw f)
theorem Nw.lst (ht : H t = none) (h : H' t = some (.lst xs)) (ha : NwA K H H' xs ds) : Nw K H H' (.ref t) (.list ds) := fun W H'' hw f => .lst (SqL.of (f.get h fun m => hw t m ht)) (ha W H'' hw f)
theorem NwA.nil : NwA K H H' [] [] := fun _ _ _ _ => .nil
theorem NwA.cons (h : Nw K H H' v d) (ha : NwA K H H' xs ds) : NwA K H H' (v :: xs) (d :: ds) := fun W H'' hw f => .cons (h W H'' hw f) (ha W H'' hw f)
theorem NwA.snoc (ha : NwA K H H' xs ds) (h : Nw K H H' v d) : NwA K H H' (xs ++ [v]) (ds ++ [d]) := fun W H'' hw f => dpall_snoc (h W H'' hw f) (ha W H'' hw f)
theorem Nw.step (h : Nw K H H' v d) (hw : ∀ w ∈ W, H w ≠ none) (f : Fr W H' H2) : Nw K H H2 v d := fun W2 H'' hw2 f2 =>
  h (W ++ W2) H'' (fun w m => (List.mem_append.mp m).elim (hw w) (hw2 w)) ((f.mono fun w m => List.mem_append_left _ m).trans (f2.mono fun w m => List.mem_append_right _ m))
theorem NwA.step (h : NwA K H H' xs ds) (hw : ∀ w ∈ W, H w ≠ none) (f : Fr W H' H2) : NwA K H H2 xs ds := fun W2 H'' hw2 f2 =>
  h (W ++ W2) H'' (fun w m => (List.mem_append.mp m).elim (hw w) (hw2 w)) ((f.mono fun w m => List.mem_append_left _ m).trans (f2.mono fun w m => List.mem_append_right _ m))
theorem Nw.base (h : Nw K H H' v d) (f : Fr W H0 H) : Nw K H0 H' v d := fun W2 H'' hw f2 => h W2 H'' (fun w m e => hw w m (f.2 w e)) f2
theorem NwA.base (h : NwA K H H' xs ds) (f : Fr W H0 H) : NwA K H0 H' xs ds := fun W2 H'' hw f2 => h W2 H'' (fun w m e => hw w m (f.2 w e)) f2
theorem Nw.int (i : Int) : Nw K H H' (.int i) (.int i) := fun _ _ _ _ => .int i
theorem Nw.bl (b : Bool) : Nw K H H' (.bl b) (.bool b) := fun _ _ _ _ => .bl b
theorem Nw.non : Nw K H H' .non .none := fun _ _ _ _ => .non
theorem NwA.ints (ns : List Int) : NwA K H H' (ns.map V.int) (ns.map PyData.int) := fun _ _ _ _ => dp_ints ns
end
theorem ne_of_some {H : Hp} {p : Addr} {o : HO} (h : H p = some o) : H p ≠ none := fun e => by rw [e] at h; cases h
/-! rules with the written part told by name (in a comprehension's block the context is a bound one) -/
section
variable {X : Cx} (K : PySem.W.Frag) (h : X.K = K)
include h
theorem kIxL : IxR X (rIxL K) := h ▸ ix_list
theorem kIxT : IxR X (rIxT K) := h ▸ ix_tup
theorem kIxQ : IxR X (rIx K) := h ▸ ix_seq
theorem kIn : OpR X (compareOp .In) (rIn K false) := h ▸ op_in_seq
theorem kNi : OpR X (compareOp .NotIn) (rIn K true) := h ▸ op_notIn_seq
theorem kEqD (hu : X.A.units + 64 < cLine) : OpR X (compareOp .Eq) (rEqD K) := h ▸ op_eqD hu
theorem kNeD (hu : X.A.units + 64 < cLine) : OpR X (compareOp .NotEq) (rNeD K) := h ▸ op_neD hu
theorem kLen : CallR X (.builtin "len") (rLen K) := h ▸ cr_len
theorem kList : CallR X (.type "list") (rList K) := h ▸ cr_list
theorem kSlL : SlR X (rSlL K) := h ▸ sl_list
theorem kSlT : SlR X (rSlT K) := h ▸ sl_tup
theorem kIsi : CallR X (.builtin "isinstance") (rIsi K) := h ▸ call_isi
theorem kIndex : MtR X "list.index" (rIndex K) := h ▸ mt_index
end
theorem kBM {X : Cx} {K : PySem.W.Frag} {e : Expr} {T : String} {r : V → List V → Hp → VK → Prop} {to : TE} {t : TA} (h : X.K = K) (p : PE X e (tBM X.K T r to t)) : PE X e (tBM K T r to t) := h ▸ p
theorem kBM0 {X : Cx} {K : PySem.W.Frag} {e : Expr} {T : String} {r : V → List V → Hp → VK → Prop} {to : TE} (h : X.K = K) (p : PE X e (tBM0 X.K T r to)) : PE X e (tBM0 K T r to) := h ▸ p
theorem kFld {X : Cx} {K : PySem.W.Frag} {e : Expr} {f : Str} {ta : TE} (h : X.K = K) (p : PE X e (tFld X.K ta f)) : PE X e (tFld K ta f) := h ▸ p
theorem kTup {X : Cx} {K : PySem.W.Frag} {e : Expr} {n : Nat} {t : TGs} (h : X.K = K) (p : PG X e (gTup X.K n t)) : PG X e (gTup K n t) := h ▸ p
theorem kIL {X : Cx} {K : PySem.W.Frag} {e l : Expr} {t : TE} (h : X.K = K) (p : PI X e l (iList X.K t)) : PI X e l (iList K t) := h ▸ p
theorem kIT {X : Cx} {K : PySem.W.Frag} {e l : Expr} {t : TE} (h : X.K = K) (p : PI X e l (iTup X.K t)) : PI X e l (iTup K t) := h ▸ p
theorem kIE {X : Cx} {K : PySem.W.Frag} {e l : Expr} {t : TA} (h : X.K = K) (p : PI X e l (iEnum X.K t)) : PI X e l (iEnum K t) := h ▸ p
end Cw

namespace Cw
open PySem L2
/-! the hand's dial, in plain words -/
def oV : Option Int → V
  | none => .non
  | some i => .int i
structure Dl where
  here : List (Option Int)
  seen : List Bool
  hand : Nat
  lacks : Nat
def Dl.new (n : Nat) : Dl := ⟨List.replicate n none, List.replicate n false, 0, 0⟩
def spin (n : Nat) : Nat → List Bool → Nat → List Bool × Nat × List Nat
  | 0, s, h => (s, h, [])
  | k + 1, s, h => if s[h]? = some true then ((spin n k (s.set h false) ((h + 1) % n)).1, (spin n k (s.set h false) ((h + 1) % n)).2.1, h :: (spin n k (s.set h false) ((h + 1) % n)).2.2) else (s, h, [])
def Dl.spin (d : Dl) : List Bool × Nat × List Nat := Cw.spin d.here.length (d.seen.count true) d.seen d.hand
structure Tl where
  lack : Bool
  gone : Option Int
  passed : List Nat
def Dl.ask (d : Dl) (x : Int) : Dl × Tl :=
  if some x ∈ d.here then ({ d with seen := d.seen.set (d.here.idxOf (some x)) true }, ⟨false, none, []⟩)
  else (⟨d.here.set d.spin.2.1 (some x), d.spin.1.set d.spin.2.1 true, (d.spin.2.1 + 1) % d.here.length, d.lacks + 1⟩, ⟨true, (d.here[d.spin.2.1]?).join, d.spin.2.2⟩)
structure Dl.Wf (d : Dl) (n : Nat) : Prop where
  n0 : 0 < n
  n8 : n ≤ 8
  hl : d.here.length = n
  sl : d.seen.length = n
  hd : d.hand < n
  mark : ∀ i : Nat, d.seen[i]? = some true → ∃ x : Int, d.here[i]? = some (some x)
theorem spin_stop {n : Nat} {s : List Bool} {h : Nat} (e : ¬ s[h]? = some true) : ∀ k, spin n k s h = (s, h, [])
  | 0 => rfl
  | k + 1 => by unfold spin; rw [if_neg e]
theorem count_off {s : List Bool} {h : Nat} (e : s[h]? = some true) : s.count true = (s.set h false).count true + 1 := by
  obtain ⟨hl, e'⟩ := List.getElem?_eq_some_iff.mp e
  have hp : 0 < s.count true := List.count_pos_iff.mpr (e' ▸ List.getElem_mem hl)
  rw [List.count_set hl, e']
  simp
  omega
theorem spin_go {n : Nat} {s : List Bool} {h : Nat} (e : s[h]? = some true) : spin n (s.count true) s h =
    ((spin n ((s.set h false).count true) (s.set h false) ((h + 1) % n)).1, (spin n ((s.set h false).count true) (s.set h false) ((h + 1) % n)).2.1, h :: (spin n ((s.set h false).count true) (s.set h false) ((h + 1) % n)).2.2) := by
  rw [count_off e]
  show (if s[h]? = some true then _ else _) = _
  rw [if_pos e]
theorem spin_facts {n : Nat} (n0 : 0 < n) : ∀ (k : Nat) (s : List Bool) (h : Nat), s.count true ≤ k → s.length = n → h < n →
    (spin n k s h).1.length = n ∧ (spin n k s h).2.1 < n ∧ (¬ (spin n k s h).1[(spin n k s h).2.1]? = some true) ∧ (∀ i : Nat, (spin n k s h).1[i]? = some true → s[i]? = some true)
  | 0, s, h, hk, hl, hh => by
    refine ⟨hl, hh, ?_, fun i e => e⟩
    intro e
    have e' : s[h]? = some true := e
    have := count_off e'
    omega
  | k + 1, s, h, hk, hl, hh => by
    by_cases e : s[h]? = some true
    · have hc := count_off e
      have ih := spin_facts n0 k (s.set h false) ((h + 1) % n) (by omega) (by rw [List.length_set]; exact hl) (Nat.mod_lt _ n0)
      have q : spin n (k + 1) s h = ((spin n k (s.set h false) ((h + 1) % n)).1, (spin n k (s.set h false) ((h + 1) % n)).2.1, h :: (spin n k (s.set h false) ((h + 1) % n)).2.2) := by
        show (if s[h]? = some true then _ else _) = _
        rw [if_pos e]
      rw [q]
      refine ⟨ih.1, ih.2.1, ih.2.2.1, fun i hi => ?_⟩
      have z := ih.2.2.2 i hi
      by_cases hi' : i = h
      · rw [hi']; exact e
      · rw [List.getElem?_set_ne (fun z => hi' z.symm)] at z
        exact z
    · rw [spin_stop e]; exact ⟨hl, hh, e, fun i e => e⟩
theorem Dl.Wf.new {n : Nat} (n0 : 0 < n) (n8 : n ≤ 8) : (Dl.new n).Wf n := ⟨n0, n8, by simp [Dl.new], by simp [Dl.new], n0, fun i e => by
  have e' : (List.replicate n false)[i]? = some true := e
  rw [List.getElem?_replicate] at e'
  split at e' <;> simp at e'⟩
theorem Dl.Wf.ask {d : Dl} {n : Nat} (w : d.Wf n) (x : Int) : (d.ask x).1.Wf n := by
  obtain ⟨n0, n8, hl, sl, hd, mk⟩ := w
  unfold Dl.ask
  split
  · rename_i hm
    refine ⟨n0, n8, hl, by simp [sl], hd, fun i e => ?_⟩
    have e' : (d.seen.set (d.here.idxOf (some x)) true)[i]? = some true := e
    by_cases hi : i = d.here.idxOf (some x)
    · subst hi
      exact ⟨x, by rw [List.getElem?_eq_getElem (List.idxOf_lt_length_iff.mpr hm)]; simp⟩
    · rw [List.getElem?_set_ne (fun z => hi z.symm)] at e'
      exact mk i e'
  · have f := spin_facts n0 (d.seen.count true) d.seen d.hand (Nat.le_refl _) sl hd
    have es : d.spin = Cw.spin n (d.seen.count true) d.seen d.hand := by unfold Dl.spin; rw [hl]
    refine ⟨n0, n8, by simp [hl], by simp [es, f.1], ?_, fun i e => ?_⟩
    · show (d.spin.2.1 + 1) % d.here.length < n
      rw [hl]; exact Nat.mod_lt _ n0
    · have e' : (d.spin.1.set d.spin.2.1 true)[i]? = some true := e
      by_cases h : i = d.spin.2.1
      · subst h
        refine ⟨x, ?_⟩
        show (d.here.set d.spin.2.1 (some x))[d.spin.2.1]? = _
        rw [List.getElem?_set_self (by rw [hl, es]; exact f.2.1)]
      · rw [List.getElem?_set_ne (fun z => h z.symm), es] at e'
        obtain ⟨y, hy⟩ := mk i (f.2.2.2 i e')
        refine ⟨y, ?_⟩
        show (d.here.set d.spin.2.1 (some x))[i]? = _
        rw [List.getElem?_set_ne (fun z => h z.symm)]; exact hy
/-- all asks of a row -/
def askAll : Dl → List Int → List Tl
  | _, [] => []
  | d, x :: r => (d.ask x).2 :: askAll (d.ask x).1 r
def endAll : Dl → List Int → Dl
  | d, [] => d
  | d, x :: r => endAll (d.ask x).1 r
theorem askAll_app : ∀ (d : Dl) (a b : List Int), askAll d (a ++ b) = askAll d a ++ askAll (endAll d a) b
  | _, [], _ => rfl
  | d, x :: r, b => by simp [askAll, endAll, askAll_app]
theorem endAll_app : ∀ (d : Dl) (a b : List Int), endAll d (a ++ b) = endAll (endAll d a) b
  | _, [], _ => rfl
  | d, x :: r, b => by simp [endAll, endAll_app]
theorem askAll_len : ∀ (d : Dl) (a : List Int), (askAll d a).length = a.length
  | _, [] => rfl
  | d, x :: r => by simp [askAll, askAll_len]
theorem endAll_wf {n : Nat} : ∀ (d : Dl) (a : List Int), d.Wf n → (endAll d a).Wf n
  | _, [], w => w
  | d, x :: r, w => endAll_wf _ r (w.ask x)
/-! pages as values -/
theorem flat_oV (hs : List (Option Int)) : (hs.map oV).all flatV = true := by
  rw [List.all_map, List.all_eq_true]
  intro x _
  cases x <;> rfl
theorem flat_int (ns : List Int) : (ns.map V.int).all flatV = true := by
  rw [List.all_map, List.all_eq_true]
  intro x _
  rfl
theorem in_oV (x : Int) (hs : List (Option Int)) : inV (.int x) (hs.map oV) = decide (some x ∈ hs) := by
  unfold inV
  rw [List.any_map]
  induction hs with
  | nil => rfl
  | cons a r ih =>
    rw [List.any_cons, ih]
    cases a with
    | none => simp [oV, eqV]
    | some y =>
      by_cases e : y = x
      · subst e; simp [oV, eqV]
      · simp [oV, eqV, e, Ne.symm e]
theorem in_int (x : Int) (ns : List Int) : inV (.int x) (ns.map V.int) = decide (x ∈ ns) := by
  unfold inV
  rw [List.any_map]
  induction ns with
  | nil => rfl
  | cons y r ih =>
    rw [List.any_cons, ih]
    by_cases e : y = x
    · subst e; simp [eqV]
    · simp [eqV, e, Ne.symm e]
theorem w_index {K : PySem.W.Frag} {H : Hp} {Q : VK} {a : Addr} {hs : List (Option Int)} {x : Int} (h : SqL K H a (hs.map oV)) (hm : some x ∈ hs) (q : Q (.int ((hs.idxOf (some x) : Nat) : Int)) H) : rIndex K (.ref a) [.int x] H Q := by
  have hl := List.idxOf_lt_length_iff.mpr hm
  refine ⟨a, hs.map oV, .int x, hs.idxOf (some x), .int x, rfl, rfl, h, rfl, flat_oV hs, ?_, by simp [eqV], fun m z' hm' hz => ?_, q⟩
  · rw [List.getElem?_map, List.getElem?_eq_getElem hl]; simp [oV]
  · rw [List.getElem?_map, List.getElem?_eq_getElem (by omega)] at hz
    have hz' : oV hs[m] = z' := Option.some.inj hz
    subst hz'
    have ne : hs[m] ≠ some x := fun e => by
      have z := List.not_of_lt_findIdx (p := (· == some x)) (xs := hs) (i := m) hm'
      simp [e] at z
    cases e : hs[m] with
    | none => rfl
    | some y =>
      rw [e] at ne
      have : y ≠ x := fun z => ne (by rw [z])
      simp [oV, eqV, this]
end Cw
namespace Cw
open PySem L2
/-! a Dial as an object -/
theorem str_hs : ¬ (("here" : Str) = "seen") := by decide +kernel
theorem str_hh : ¬ (("here" : Str) = "hand") := by decide +kernel
theorem str_hl : ¬ (("here" : Str) = "lacks") := by decide +kernel
theorem str_sh : ¬ (("seen" : Str) = "hand") := by decide +kernel
theorem str_sl : ¬ (("seen" : Str) = "lacks") := by decide +kernel
theorem str_al : ¬ (("hand" : Str) = "lacks") := by decide +kernel
def dfl (a b : Addr) (h l : Int) : List (Str × V) := [("here", .ref a), ("seen", .ref b), ("hand", .int h), ("lacks", .int l)]
theorem dfl_made (a b : Addr) (h l : Int) : putF "lacks" (.int l) (putF "hand" (.int h) (putF "seen" (.ref b) (putF "here" (.ref a) []))) = dfl a b h l := by
  simp only [putF, if_neg str_hs, if_neg str_hh, if_neg str_hl, if_neg str_sh, if_neg str_sl, if_neg str_al, dfl]
theorem dfl_hand (a b : Addr) (h l y : Int) : putF "hand" (.int y) (dfl a b h l) = dfl a b y l := by
  simp only [dfl, putF, if_neg str_hh, if_neg str_sh, if_pos]
theorem dfl_lacks (a b : Addr) (h l y : Int) : putF "lacks" (.int y) (dfl a b h l) = dfl a b h y := by
  simp only [dfl, putF, if_neg str_hl, if_neg str_sl, if_neg str_al, if_pos]
theorem dfl_len (a b : Addr) (h l : Int) : (dfl a b h l).length < 1000 := by show 4 < 1000; decide
theorem lk_here (a b : Addr) (h l : Int) : (dfl a b h l).lookup ("here" : Str) = some (.ref a) := by
  rw [← dfl_made, lookup_putF, if_neg str_hl, lookup_putF, if_neg str_hh, lookup_putF, if_neg str_hs, lookup_putF, if_pos rfl]
theorem lk_seen (a b : Addr) (h l : Int) : (dfl a b h l).lookup ("seen" : Str) = some (.ref b) := by
  rw [← dfl_made, lookup_putF, if_neg str_sl, lookup_putF, if_neg str_sh, lookup_putF, if_pos rfl]
theorem lk_hand (a b : Addr) (h l : Int) : (dfl a b h l).lookup ("hand" : Str) = some (.int h) := by
  rw [← dfl_made, lookup_putF, if_neg str_al, lookup_putF, if_pos rfl]
theorem lk_lacks (a b : Addr) (h l : Int) : (dfl a b h l).lookup ("lacks" : Str) = some (.int l) := by
  rw [← dfl_made, lookup_putF, if_pos rfl]
theorem lk_no (a b : Addr) (h l : Int) {m : Str} (h1 : ¬ m = "lacks") (h2 : ¬ m = "hand") (h3 : ¬ m = "seen") (h4 : ¬ m = "here") : (dfl a b h l).lookup m = none := by
  rw [← dfl_made, lookup_putF, if_neg h1, lookup_putF, if_neg h2, lookup_putF, if_neg h3, lookup_putF, if_neg h4]
  rfl
/-- a Dial at p, its lists at a and b -/
def DialAt (C : Addr) (H : Hp) (p a b : Addr) (d : Dl) : Prop := (∃ dx, H p = some (.ins C dx (dfl a b d.hand d.lacks))) ∧ H a = some (.lst (d.here.map oV)) ∧ H b = some (.lst (d.seen.map V.bl))
theorem DialAt.keep {C p a b : Addr} {H H' : Hp} {d : Dl} {W : List Addr} (h : DialAt C H p a b d) (f : Fr W H H') (hp : p ∉ W) (ha : a ∉ W) (hb : b ∉ W) : DialAt C H' p a b d := by
  obtain ⟨⟨dx, h1⟩, h2, h3⟩ := h
  exact ⟨⟨dx, f.get h1 hp⟩, f.get h2 ha, f.get h3 hb⟩
theorem DialAt.keep0 {C p a b : Addr} {H H' : Hp} {d : Dl} (h : DialAt C H p a b d) (f : Fr [] H H') : DialAt C H' p a b d := h.keep f (by simp) (by simp) (by simp)
section
variable {K : PySem.W.Frag} {H : Hp}
theorem w_fld {ta : TE} {f : Str} {σ : L2.St} {Q : VK} (h : ta σ H fun x H1 => ∃ a C dx fs v, x = .ref a ∧ H1 a = some (.ins C dx fs) ∧ Cls K C ∧ NoAttr K C f ∧ fs.lookup f = some v ∧ Q v H1) : tFld K ta f σ H Q := h
theorem w_fldR {p C dx : Addr} {fs : List (Str × V)} {f : Str} {v : V} {P : V → Prop} (h : H p = some (.ins C dx fs)) (c : Cls K C) (n : NoAttr K C f) (l : fs.lookup f = some v) (q : P v) :
    ∃ a C dx fs v, V.ref p = .ref a ∧ H a = some (.ins C dx fs) ∧ Cls K C ∧ NoAttr K C f ∧ fs.lookup f = some v ∧ P v := ⟨p, C, dx, fs, v, rfl, h, c, n, l, q⟩
theorem w_sFld {ta tv : TE} {f : Str} {σ : L2.St} {nx : L2.St → Hp → Prop} {rt : VK} {bk ct : L2.St → Hp → Prop} (h : tv σ H fun y H1 => ta σ H1 fun x H2 => ∃ a C dx fs, x = .ref a ∧ H2 a = some (.ins C dx fs) ∧ Cls K C ∧ NoAttr K C f ∧ fs.length < 1000 ∧ nx σ (upd H2 a (.ins C dx (putF f y fs)))) :
    sFld K ta tv f ⟨nx, rt, bk, ct⟩ σ H := h
theorem w_sFldR {p C dx : Addr} {fs gs : List (Str × V)} {f : Str} {y : V} {N : Hp → Prop} (h : H p = some (.ins C dx fs)) (c : Cls K C) (n : NoAttr K C f) (l : fs.length < 1000) (e : putF f y fs = gs) (q : N (upd H p (.ins C dx gs))) :
    ∃ a C dx fs, V.ref p = .ref a ∧ H a = some (.ins C dx fs) ∧ Cls K C ∧ NoAttr K C f ∧ fs.length < 1000 ∧ N (upd H a (.ins C dx (putF f y fs))) := ⟨p, C, dx, fs, rfl, h, c, n, l, by rw [e]; exact q⟩
theorem w_aug {ta tv : TE} {rd : V → V → Hp → VK → Prop} {f : Str} {σ : L2.St} {nx : L2.St → Hp → Prop} {rt : VK} {bk ct : L2.St → Hp → Prop} (h : ta σ H fun x H1 => ∃ a C dx fs v, x = .ref a ∧ H1 a = some (.ins C dx fs) ∧ Cls K C ∧ NoAttr K C f ∧ fs.lookup f = some v ∧
  tv σ H1 fun y H2 => rd v y H2 fun z H3 => ∃ dx' fs', H3 a = some (.ins C dx' fs') ∧ fs'.length < 1000 ∧ nx σ (upd H3 a (.ins C dx' (putF f z fs')))) : sFldAug K ta tv rd f ⟨nx, rt, bk, ct⟩ σ H := h
theorem w_augR {p C dx : Addr} {fs : List (Str × V)} {f : Str} {v : V} {P : Addr → Addr → V → Prop} (h : H p = some (.ins C dx fs)) (c : Cls K C) (n : NoAttr K C f) (l : fs.lookup f = some v) (q : P p C v) :
    ∃ a C dx fs v, V.ref p = .ref a ∧ H a = some (.ins C dx fs) ∧ Cls K C ∧ NoAttr K C f ∧ fs.lookup f = some v ∧ P a C v := ⟨p, C, dx, fs, v, rfl, h, c, n, l, q⟩
theorem w_rAdd {i j : Int} {Q : VK} (q : Q (.int (i + j)) H) : rAdd (.int i) (.int j) H Q := ⟨i, j, rfl, rfl, q⟩
theorem w_augS {p C dx : Addr} {fs gs : List (Str × V)} {f : Str} {z : V} {N : Hp → Prop} (h : H p = some (.ins C dx fs)) (l : fs.length < 1000) (e : putF f z fs = gs) (q : N (upd H p (.ins C dx gs))) :
    ∃ dx' fs', H p = some (.ins C dx' fs') ∧ fs'.length < 1000 ∧ N (upd H p (.ins C dx' (putF f z fs'))) := ⟨dx, fs, h, l, by rw [e]; exact q⟩
theorem w_make {C : Addr} {sp : Sp} {dvs : List V} {E : XK} {t : TA} {σ : L2.St} {Q : VK} (h : t σ H fun vs H1 => ∀ x dx, H1 x = none → H1 dx = none → dx ≠ x → sp (.ref x :: (vs ++ dvs)) (upd (upd H1 dx (.own x)) x (.ins C dx [])) (fun v H2 => v = .non ∧ Q (.ref x) H2) E) : tMake C sp dvs E t σ H Q := h
theorem w_meth {C : Addr} {m : Str} {sp : Sp} {dvs : List V} {E : XK} {ta : TE} {t : TA} {σ : L2.St} {Q : VK} (h : ta σ H fun x H1 => ∃ a dx fs, x = .ref a ∧ H1 a = some (.ins C dx fs) ∧ fs.lookup m = none ∧ t σ H1 fun vs H2 => sp (x :: (vs ++ dvs)) H2 Q E) : tMeth C m sp dvs E ta t σ H Q := h
theorem w_methR {p C dx : Addr} {fs : List (Str × V)} {m : Str} {B : Prop} (h : H p = some (.ins C dx fs)) (l : fs.lookup m = none) (q : B) : ∃ a dx fs, V.ref p = .ref a ∧ H a = some (.ins C dx fs) ∧ fs.lookup m = none ∧ B := ⟨p, dx, fs, rfl, h, l, q⟩
end
/-! what a dial tells, as data -/
def oD : Option Int → PyData
  | none => .none
  | some i => .int i
def natsD (l : List Nat) : List PyData := l.map fun (i : Nat) => PyData.int (i : Int)
def tlD (t : Tl) : PyData := .tuple [.bool t.lack, oD t.gone, .list (natsD t.passed)]
def toldV (t : Tl) (q : Addr) : List V := [.bl t.lack, oV t.gone, .ref q]
def natsV (l : List Nat) : List V := l.map fun (i : Nat) => V.int (i : Int)
theorem nw_o {K : PySem.W.Frag} {H H' : Hp} (o : Option Int) : Nw K H H' (oV o) (oD o) := by
  cases o
  · exact Nw.non
  · exact Nw.int _
theorem nw_nats {K : PySem.W.Frag} {H H' : Hp} (l : List Nat) : NwA K H H' (natsV l) (natsD l) := by
  have e1 : natsV l = (l.map fun (i : Nat) => (i : Int)).map V.int := by simp [natsV]
  have e2 : natsD l = (l.map fun (i : Nat) => (i : Int)).map PyData.int := by simp [natsD]
  rw [e1, e2]
  exact NwA.ints _
theorem nw_tl {K : PySem.W.Frag} {H H' : Hp} {t q : Addr} (tl : Tl) (ht : H t = none) (hq : H q = none) (h1 : H' t = some (.tup (toldV tl q))) (h2 : H' q = some (.lst (natsV tl.passed))) : Nw K H H' (.ref t) (tlD tl) :=
  Nw.tup ht h1 (.cons (Nw.bl _) (.cons (nw_o _) (.cons (Nw.lst hq h2 (nw_nats _)) .nil)))
end Cw
namespace Cw
open PySem L2
/-! the rules that keep a row of pages -/
def keepS (rooms : Nat) (unseen : Bool) (kept : List Int) (x : Int) : List Int :=
  if x ∈ kept then (if unseen then kept.erase x ++ [x] else kept) else kept.drop (if kept.length = rooms then 1 else 0) ++ [x]
/-- of each ask whether the page lacked -/
def keepAll (rooms : Nat) (unseen : Bool) : List Int → List Int → List Bool
  | _, [] => []
  | kept, x :: r => decide (x ∉ kept) :: keepAll rooms unseen (keepS rooms unseen kept x) r
def keepEnd (rooms : Nat) (unseen : Bool) : List Int → List Int → List Int
  | kept, [] => kept
  | kept, x :: r => keepEnd rooms unseen (keepS rooms unseen kept x) r
structure KOk (rooms : Nat) (kept : List Int) : Prop where
  nd : kept.Nodup
  le : kept.length ≤ rooms
theorem KOk.step {rooms : Nat} {kept : List Int} (n0 : 0 < rooms) (h : KOk rooms kept) (u : Bool) (x : Int) : KOk rooms (keepS rooms u kept x) := by
  obtain ⟨nd, le⟩ := h
  unfold keepS
  split
  · rename_i hm
    split
    · refine ⟨?_, ?_⟩
      · rw [List.nodup_append]
        refine ⟨nd.erase x, by simp, fun a ha b hb => ?_⟩
        simp at hb
        subst hb
        intro e
        subst e
        exact (List.Nodup.mem_erase_iff nd).mp ha |>.1 rfl
      · rw [List.length_append, List.length_erase_of_mem hm]
        have := List.length_pos_of_mem hm
        simp
        omega
    · exact ⟨nd, le⟩
  · rename_i hm
    refine ⟨?_, ?_⟩
    · rw [List.nodup_append]
      refine ⟨nd.sublist (List.drop_sublist _ _), by simp, fun a ha b hb => ?_⟩
      simp at hb
      subst hb
      intro e
      subst e
      exact hm (List.mem_of_mem_drop ha)
    · rw [List.length_append, List.length_drop]
      simp
      split <;> omega
theorem keepAll_app (rooms : Nat) (u : Bool) : ∀ (k a b : List Int), keepAll rooms u k (a ++ b) = keepAll rooms u k a ++ keepAll rooms u (keepEnd rooms u k a) b
  | _, [], _ => rfl
  | k, x :: r, b => by simp [keepAll, keepEnd, keepAll_app]
theorem keepEnd_app (rooms : Nat) (u : Bool) : ∀ (k a b : List Int), keepEnd rooms u k (a ++ b) = keepEnd rooms u (keepEnd rooms u k a) b
  | _, [], _ => rfl
  | k, x :: r, b => by simp [keepEnd, keepEnd_app]
theorem keepAll_len (rooms : Nat) (u : Bool) : ∀ (k a : List Int), (keepAll rooms u k a).length = a.length
  | _, [] => rfl
  | k, x :: r => by simp [keepAll, keepAll_len]
theorem keepEnd_ok {rooms : Nat} (n0 : 0 < rooms) (u : Bool) : ∀ (k a : List Int), KOk rooms k → KOk rooms (keepEnd rooms u k a)
  | _, [], h => h
  | k, x :: r, h => keepEnd_ok n0 u _ r (h.step n0 u x)
/-- whether each ask of a row lacks, by a rule -/
def lackB (rooms : Nat) (z : Str) (row : List Int) : List Bool :=
  if z = Str.ofString "hand" then (askAll (Dl.new rooms) row).map Tl.lack else keepAll rooms (decide (z = Str.ofString "unseen")) [] row
theorem lackB_len (rooms : Nat) (z : Str) (row : List Int) : (lackB rooms z row).length = row.length := by
  unfold lackB
  split
  · rw [List.length_map, askAll_len]
  · exact keepAll_len _ _ _ _
/-- the places of the trues -/
def placesFrom : Nat → List Bool → List Int
  | _, [] => []
  | i, b :: r => if b then (i : Int) :: placesFrom (i + 1) r else placesFrom (i + 1) r
def places (bs : List Bool) : List Int := placesFrom 0 bs
theorem placesFrom_snoc : ∀ (i : Nat) (bs : List Bool) (b : Bool), placesFrom i (bs ++ [b]) = placesFrom i bs ++ (if b then [((i + bs.length : Nat) : Int)] else [])
  | i, [], b => by cases b <;> simp [placesFrom]
  | i, c :: r, b => by
    have h := placesFrom_snoc (i + 1) r b
    have e : i + 1 + r.length = i + (c :: r).length := by simp; omega
    rw [e] at h
    cases c <;> simp [placesFrom, h]
theorem places_snoc (bs : List Bool) (b : Bool) : places (bs ++ [b]) = places bs ++ (if b then [((bs.length : Nat) : Int)] else []) := by
  have h := placesFrom_snoc 0 bs b
  simpa [places] using h
theorem erase_filter {x : Int} : ∀ {k : List Int}, k.Nodup → k.erase x = k.filter fun y => decide (y ≠ x)
  | [], _ => rfl
  | y :: r, nd => by
    obtain ⟨h1, h2⟩ := List.nodup_cons.mp nd
    by_cases e : y = x
    · subst e
      rw [List.erase_cons_head, List.filter_cons_of_neg (by simp)]
      refine (List.filter_eq_self.mpr fun z hz => ?_).symm
      simp
      intro e
      subst e
      exact h1 hz
    · rw [List.erase_cons_tail (by simpa using e), List.filter_cons_of_pos (by simpa using e), erase_filter h2]
section
variable {σ : L2.St} {K : PySem.W.Frag} {H : Hp} {Q : VK}
theorem w_inI {p : Addr} {ns : List Int} {x : Int} (h : SqL K H p (ns.map V.int)) (q : Q (.bl (decide (x ∈ ns))) H) : rIn K false (.int x) (.ref p) H Q := w_inL h rfl (flat_int ns) (in_int x ns) q
theorem w_niI {p : Addr} {ns : List Int} {x : Int} (h : SqL K H p (ns.map V.int)) (q : Q (.bl (decide (x ∉ ns))) H) : rIn K true (.int x) (.ref p) H Q := w_niL h rfl (flat_int ns) (by rw [in_int]; simp) q
theorem w_remI {l : Addr} {ns : List Int} {x : Int} (h : H l = some (.lst (ns.map V.int))) (hm : x ∈ ns) (q : Q .non (upd H l (.lst ((ns.erase x).map V.int)))) : rRemI (.ref l) [.int x] H Q := by
  have hj := List.idxOf_lt_length_iff.mpr hm
  refine ⟨l, ns, x, ns.idxOf x, rfl, rfl, h, by rw [List.getElem?_eq_getElem hj]; simp, fun m hm' e => ?_, ?_⟩
  · have z := List.not_of_lt_findIdx (p := (· == x)) (xs := ns) (i := m) hm'
    rw [List.getElem?_eq_getElem (by omega)] at e
    rw [Option.some.inj e] at z
    simp at z
  · rw [← List.erase_eq_eraseIdx_of_idxOf rfl]; exact q
theorem w_sl {r : V → Option Int → Option Int → Hp → VK → Prop} {te : TE} {tl th : TO} (h : te σ H fun x H1 => tl σ H1 fun l H2 => th σ H2 fun u H3 => r x l u H3 Q) : tSl r te tl th σ H Q := h
theorem w_part {t : TE} {QO : Option Int → Hp → Prop} (h : t σ H fun x H1 => ∃ i, x = .int i ∧ QO (some i) H1) : tPart t σ H QO := h
theorem w_nopart {QO : Option Int → Hp → Prop} (h : QO none H) : tNoPart σ H QO := h
theorem w_isInt {i : Int} {P : Int → Prop} (h : P i) : ∃ k, V.int i = .int k ∧ P k := ⟨i, rfl, h⟩
theorem w_slL {a : Addr} {xs : List V} {lo hi : Option Int} (h : SqL K H a xs) (q : ∀ p, H p = none → Q (.ref p) (upd H p (.lst (cutV xs lo hi)))) : rSlL K (.ref a) lo hi H Q := ⟨a, xs, rfl, h, q⟩
end
theorem cut_from (xs : List V) (k : Nat) : cutV xs (some (k : Int)) none = xs.drop k := by
  unfold cutV
  rw [HT.sIx_nat, HT.sIx_none]
  rcases Nat.le_total k xs.length with h | h
  · rw [Nat.min_eq_left h]
    exact List.take_of_length_le (by rw [List.length_drop]; omega)
  · rw [Nat.min_eq_right h, List.drop_of_length_le h]
    simp
theorem cut_last (xs : List V) {n : Int} (h : 0 < n) : cutV xs (some (-n)) none = xs.drop (xs.length - n.toNat) := by
  unfold cutV
  have e : HT.sIx xs.length 0 (some (-n)) = xs.length - n.toNat := by
    show (if -n < 0 then (-n + (xs.length : Int)).toNat else _) = _
    rw [if_pos (by omega)]
    omega
  rw [e, HT.sIx_none]
  exact List.take_of_length_le (by rw [List.length_drop]; omega)
theorem cut_mid (xs : List V) (i j : Nat) : cutV xs (some (i : Int)) (some (j : Int)) = (xs.take j).drop i := by
  unfold cutV
  rw [HT.sIx_nat, HT.sIx_nat, List.drop_take]
  rcases Nat.le_total i xs.length with h | h
  · rw [Nat.min_eq_left h]
    rcases Nat.le_total j xs.length with h2 | h2
    · rw [Nat.min_eq_left h2]
    · rw [Nat.min_eq_right h2, List.take_of_length_le (by rw [List.length_drop]; omega), List.take_of_length_le (by rw [List.length_drop]; omega)]
  · rw [Nat.min_eq_right h, List.drop_of_length_le (Nat.le_refl _), List.drop_of_length_le h]
    simp
end Cw
namespace Cw
open PySem L2
/-! the law's own dial: a dict by texts -/
theorem str_pm : ¬ (("pages" : Str) = "marks") := by decide +kernel
theorem str_ph : ¬ (("pages" : Str) = "hand") := by decide +kernel
theorem str_pl : ¬ (("pages" : Str) = "lacks") := by decide +kernel
theorem str_mh : ¬ (("marks" : Str) = "hand") := by decide +kernel
theorem str_ml : ¬ (("marks" : Str) = "lacks") := by decide +kernel
theorem key_ne {a b : Str} (h : ¬ a = b) : ¬ ((Sum.inr a : Key) = Sum.inr b) := fun e => h (Sum.inr.inj e)
theorem key_ne' {a b : Str} (h : ¬ a = b) : ¬ ((Sum.inr b : Key) = Sum.inr a) := fun e => h (Sum.inr.inj e).symm
def ddl (a b : Addr) (h l : Int) : List (Key × V) := [(.inr "pages", .ref a), (.inr "marks", .ref b), (.inr "hand", .int h), (.inr "lacks", .int l)]
theorem ddl_made (a b : Addr) (h l : Int) : mergeK [] (ddl a b h l) = ddl a b h l := by
  show putK (putK (putK (putK [] (Sum.inr "pages" : Key) (V.ref a)) (Sum.inr "marks") (V.ref b)) (Sum.inr "hand") (V.int h)) (Sum.inr "lacks") (V.int l) = _
  rw [putK_new (kvs := []) (V.ref a) rfl]
  rw [putK_new (V.ref b) (by rw [List.nil_append, valV_neg (key_ne str_pm)]; rfl)]
  rw [putK_new (V.int h) (by simp only [List.nil_append, List.cons_append]; rw [valV_neg (key_ne str_ph), valV_neg (key_ne str_mh)]; rfl)]
  rw [putK_new (V.int l) (by simp only [List.nil_append, List.cons_append]; rw [valV_neg (key_ne str_pl), valV_neg (key_ne str_ml), valV_neg (key_ne str_al)]; rfl)]
  rfl
theorem ddl_pages (a b : Addr) (h l : Int) : valV (ddl a b h l) (.inr "pages") = some (.ref a) := valV_pos rfl
theorem ddl_marks (a b : Addr) (h l : Int) : valV (ddl a b h l) (.inr "marks") = some (.ref b) := by unfold ddl; rw [valV_neg (key_ne str_pm)]; exact valV_pos rfl
theorem ddl_hand (a b : Addr) (h l : Int) : valV (ddl a b h l) (.inr "hand") = some (.int h) := by unfold ddl; rw [valV_neg (key_ne str_ph), valV_neg (key_ne str_mh)]; exact valV_pos rfl
theorem ddl_lacks (a b : Addr) (h l : Int) : valV (ddl a b h l) (.inr "lacks") = some (.int l) := by unfold ddl; rw [valV_neg (key_ne str_pl), valV_neg (key_ne str_ml), valV_neg (key_ne str_al)]; exact valV_pos rfl
theorem ddl_putH (a b : Addr) (h l y : Int) : putK (ddl a b h l) (.inr "hand") (.int y) = ddl a b y l := by
  unfold putK
  rw [valV_any, ddl_hand, if_pos (show (some (V.int h)).isSome = true from rfl)]
  simp only [ddl, List.map_cons, List.map_nil, if_neg (key_ne str_ph), if_neg (key_ne str_mh), if_neg (key_ne' str_al), if_true]
theorem ddl_putL (a b : Addr) (h l y : Int) : putK (ddl a b h l) (.inr "lacks") (.int y) = ddl a b h y := by
  unfold putK
  rw [valV_any, ddl_lacks, if_pos (show (some (V.int l)).isSome = true from rfl)]
  simp only [ddl, List.map_cons, List.map_nil, if_neg (key_ne str_pl), if_neg (key_ne str_ml), if_neg (key_ne str_al), if_true]
theorem ddl_len (a b : Addr) (h l : Int) : (ddl a b h l).length < sizeLine := sz_lt (by show 4 < 100000; decide)
def LDial (H : Hp) (p a b : Addr) (d : Dl) : Prop := H p = some (.dK (ddl a b d.hand d.lacks)) ∧ H a = some (.lst (d.here.map oV)) ∧ H b = some (.lst (d.seen.map V.bl))
theorem LDial.keep {p a b : Addr} {H H' : Hp} {d : Dl} {W : List Addr} (h : LDial H p a b d) (f : Fr W H H') (hp : p ∉ W) (ha : a ∉ W) (hb : b ∉ W) : LDial H' p a b d := ⟨f.get h.1 hp, f.get h.2.1 ha, f.get h.2.2 hb⟩
section
variable {H : Hp} {σ : L2.St} {Q : VK}
theorem w_dget {td ty : TE} (h : td σ H fun x H1 => ty σ H1 fun y H2 => ∃ a v, x = .ref a ∧ DGet H2 a y (some v) ∧ Q v H2) : tDGet td ty σ H Q := h
theorem w_dgetS {d : Addr} {kvs : List (Key × V)} {z : Str} {v : V} {P : V → Prop} (h : H d = some (.dK kvs)) (hv : valV kvs (.inr z) = some v) (q : P v) : ∃ a v, V.ref d = .ref a ∧ DGet H a (.str z) (some v) ∧ P v :=
  ⟨d, v, rfl, by rw [← hv]; exact DGet.k (k := Sum.inr z) h, q⟩
theorem w_dput {td ty tv : TE} {nx : L2.St → Hp → Prop} {rt : VK} {bk ct : L2.St → Hp → Prop} (h : tv σ H fun v H1 => td σ H1 fun x H2 => ty σ H2 fun y H3 => ∃ a H4, x = .ref a ∧ DPut H3 a y v H4 ∧ nx σ H4) : sDPut td ty tv ⟨nx, rt, bk, ct⟩ σ H := h
theorem w_dputS {d : Addr} {kvs ks : List (Key × V)} {z : Str} {v : V} {N : Hp → Prop} (h : H d = some (.dK kvs)) (hl : kvs.length < sizeLine) (e : putK kvs (.inr z) v = ks) (q : N (upd H d (.dK ks))) : ∃ a H4, V.ref d = .ref a ∧ DPut H a (.str z) v H4 ∧ N H4 :=
  ⟨d, _, rfl, DPut.k (k := Sum.inr z) h hl, by rw [e]; exact q⟩
theorem w_rep {l : Addr} {k : Int} {xs : List V} (h : H l = some (.lst xs)) (h1 : 0 ≤ k) (h2 : k < 1000) (hz : xs.length ≤ 100) (q : ∀ p, H p = none → Q (.ref p) (upd H p (.lst (List.replicate k.toNat xs).flatten))) : rRep (.ref l) (.int k) H Q :=
  ⟨l, k, xs, rfl, rfl, h, by omega, by omega, sz_le (Nat.le_trans (Nat.mul_le_mul hz (show k.toNat ≤ 1000 by omega)) (by decide)), q⟩
theorem w_disp {trs : List (TE × TE)} (h : ∀ p, H p = none → tPairs trs σ (upd H p (.dK [])) fun ps H2 => H2 p = some (.dK []) ∧ ∃ kvs : List (Key × V), ps = kvs.map (fun kv => (kV kv.1, kv.2)) ∧ kvs.length ≤ 15 ∧ Q (.ref p) (upd H2 p (.dK (mergeK [] kvs)))) : tDisp trs σ H Q := h
theorem w_pairs {tk tv : TE} {r : List (TE × TE)} {QP : List (V × V) → Hp → Prop} (h : tk σ H fun x H1 => tv σ H1 fun y H2 => tPairs r σ H2 fun ps H3 => QP ((x, y) :: ps) H3) : tPairs ((tk, tv) :: r) σ H QP := h
theorem w_pairs0 {QP : List (V × V) → Hp → Prop} (h : QP [] H) : tPairs [] σ H QP := h
end
end Cw
namespace Cw
open PySem L2
def lkD (rooms : Nat) (z : Str) (ns : List Int) : Dl := if z = Str.ofString "hand" then endAll (Dl.new rooms) ns else Dl.new rooms
def lkK (rooms : Nat) (z : Str) (ns : List Int) : List Int := if z = Str.ofString "hand" then [] else keepEnd rooms (decide (z = Str.ofString "unseen")) [] ns
def lkB (rooms : Nat) (z : Str) (ns : List Int) (x : Int) : Bool := if z = Str.ofString "hand" then ((lkD rooms z ns).ask x).2.lack else decide (x ∉ lkK rooms z ns)
theorem lackB_snoc (rooms : Nat) (z : Str) (ns : List Int) (x : Int) : lackB rooms z (ns ++ [x]) = lackB rooms z ns ++ [lkB rooms z ns x] := by
  unfold lackB lkB lkD lkK
  by_cases h : z = Str.ofString "hand"
  · simp only [if_pos h, askAll_app, List.map_append]; rfl
  · simp only [if_neg h, keepAll_app]; rfl
theorem lkD_snoc (rooms : Nat) (z : Str) (ns : List Int) (x : Int) : lkD rooms z (ns ++ [x]) = if z = Str.ofString "hand" then ((lkD rooms z ns).ask x).1 else lkD rooms z ns := by
  unfold lkD
  by_cases h : z = Str.ofString "hand"
  · simp only [if_pos h, endAll_app]; rfl
  · simp only [if_neg h]
theorem lkK_snoc (rooms : Nat) (z : Str) (ns : List Int) (x : Int) : lkK rooms z (ns ++ [x]) = if z = Str.ofString "hand" then lkK rooms z ns else keepS rooms (decide (z = Str.ofString "unseen")) (lkK rooms z ns) x := by
  unfold lkK
  by_cases h : z = Str.ofString "hand"
  · simp only [if_pos h]
  · simp only [if_neg h, keepEnd_app]; rfl
theorem lkD_wf {rooms : Nat} (n0 : 0 < rooms) (n8 : rooms ≤ 8) (z : Str) (ns : List Int) : (lkD rooms z ns).Wf rooms := by
  unfold lkD
  split
  · exact endAll_wf _ _ (.new n0 n8)
  · exact .new n0 n8
theorem lkK_ok {rooms : Nat} (n0 : 0 < rooms) (z : Str) (ns : List Int) : KOk rooms (lkK rooms z ns) := by
  unfold lkK
  split
  · exact ⟨List.nodup_nil, Nat.zero_le _⟩
  · exact keepEnd_ok n0 _ _ _ ⟨List.nodup_nil, Nat.zero_le _⟩
end Cw
namespace Cw
open PySem L2
theorem placesFrom_len : ∀ (i : Nat) (bs : List Bool), (placesFrom i bs).length ≤ bs.length
  | _, [] => Nat.le_refl _
  | i, b :: r => by
    have h := placesFrom_len (i + 1) r
    cases b <;> simp [placesFrom] <;> omega
theorem places_len (bs : List Bool) : (places bs).length ≤ bs.length := placesFrom_len 0 bs
theorem w_rep1 {H : Hp} {Q : VK} {l : Addr} {k : Int} {v : V} (h : H l = some (.lst [v])) (h1 : 0 ≤ k) (h2 : k < 1000) (q : ∀ p, H p = none → Q (.ref p) (upd H p (.lst (List.replicate k.toNat v)))) : rRep (.ref l) (.int k) H Q := by
  refine w_rep h h1 h2 (by show 1 ≤ 100; decide) fun p hp => ?_
  have e : ∀ k : Nat, (List.replicate k [v]).flatten = List.replicate k v := fun k => by
    induction k with
    | zero => rfl
    | succ k ih => rw [List.replicate_succ, List.flatten_cons, ih]; rfl
  rw [e]
  exact q p hp
end Cw

namespace Cw
open PySem L2
/-! the unlike ones of a list, in their first order -/
def add1 (acc : List Int) (x : Int) : List Int := if x ∈ acc then acc else acc ++ [x]
def firsts (ns : List Int) : List Int := ns.foldl add1 []
theorem firsts_snoc (ns : List Int) (x : Int) : firsts (ns ++ [x]) = add1 (firsts ns) x := by unfold firsts; rw [List.foldl_append]; rfl
theorem firsts_facts : ∀ (ns : List Int), (firsts ns).Nodup ∧ ∀ x, x ∈ firsts ns ↔ x ∈ ns := by
  intro ns
  have h : ∀ (ns acc : List Int), acc.Nodup → (ns.foldl add1 acc).Nodup ∧ ∀ x, x ∈ ns.foldl add1 acc ↔ x ∈ acc ∨ x ∈ ns := by
    intro ns
    induction ns with
    | nil => intro acc nd; exact ⟨nd, fun x => by simp⟩
    | cons y r ih =>
      intro acc nd
      have e : (y :: r).foldl add1 acc = r.foldl add1 (add1 acc y) := rfl
      rw [e]
      by_cases hy : y ∈ acc
      · have ea : add1 acc y = acc := if_pos hy
        rw [ea]
        refine ⟨(ih acc nd).1, fun x => ?_⟩
        rw [(ih acc nd).2 x, List.mem_cons]
        constructor
        · rintro (h | h)
          · exact .inl h
          · exact .inr (.inr h)
        · rintro (h | h | h)
          · exact .inl h
          · subst h; exact .inl hy
          · exact .inr h
      · have ea : add1 acc y = acc ++ [y] := if_neg hy
        rw [ea]
        have nd2 : (acc ++ [y]).Nodup := by
          rw [List.nodup_append]
          refine ⟨nd, by simp, fun a ha b hb => ?_⟩
          simp at hb
          subst hb
          intro e
          subst e
          exact hy ha
        refine ⟨(ih _ nd2).1, fun x => ?_⟩
        rw [(ih _ nd2).2 x]
        simp only [List.mem_append, List.mem_cons, List.not_mem_nil, or_false, or_assoc]
  have := h ns [] List.nodup_nil
  exact ⟨this.1, fun x => by rw [show firsts ns = ns.foldl add1 [] from rfl, this.2 x]; simp⟩
theorem firsts_len_le (ns : List Int) : (firsts ns).length ≤ ns.length := by
  have h : ∀ (ns acc : List Int), (ns.foldl add1 acc).length ≤ acc.length + ns.length := by
    intro ns
    induction ns with
    | nil => intro acc; simp
    | cons y r ih =>
      intro acc
      have e : (y :: r).foldl add1 acc = r.foldl add1 (add1 acc y) := rfl
      rw [e]
      have := ih (add1 acc y)
      have h2 : (add1 acc y).length ≤ acc.length + 1 := by unfold add1; split <;> simp
      simp
      omega
  have z := h ns []
  simp at z
  exact z
theorem firstMet_firsts (ns : List Int) : PyProof.Rows.firstMet (fun i => ns.getD i 0) ns.length = firsts ns := by
  have hs : PyProof.Rows.step_dedup = add1 := by
    funext acc x
    unfold PyProof.Rows.step_dedup add1
    have e : (acc.any (· == x)) = decide (x ∈ acc) := by
      induction acc with
      | nil => rfl
      | cons y r ih =>
        rw [List.any_cons, ih]
        by_cases h : y = x
        · subst h; simp
        · simp [h, Ne.symm h]
    rw [e]
    by_cases h : x ∈ acc <;> simp [h]
  have e : (List.range ns.length).map (fun i => ns.getD i 0) = ns := by
    apply List.ext_getElem
    · simp
    · intro i h1 h2
      simp only [List.getElem_map, List.getElem_range]
      rw [List.getD_eq_getElem?_getD, List.getElem?_eq_getElem h2]
      rfl
  unfold PyProof.Rows.firstMet firsts
  rw [e, hs]
section
open PySem.Spec PyProof.Rows
def tLenSetD (K : PySem.W.Frag) (ta : TE) : TE := fun σ H Q => ta σ H fun x H1 => ∃ (l : Addr) (ns : List Int), x = .ref l ∧ SqL K H1 l (ns.map V.int) ∧ ns.length ≤ 4000 ∧ Q (.int (firsts ns).length) H1
theorem pe_lenSetD {X : Cx} {K : PySem.W.Frag} (hK : X.K = K) {a : Expr} {ta : TE} {p p2 q pos : Pos} (hg : Gl X "len") (hm : X.mg "len" = none) (hg2 : Gl X "set") (hm2 : X.mg "set" = none) (ha : PE X a ta) (hc : X.calm = true := by rfl)
    (na : starEach [a] X.env = (false, eval a X.env) :: starEach [] X.env := by rfl) : PE X (.Call (.Name "len" p) [.Call (.Name "set" p2) [a] [] q] [] pos) (tLenSetD K ta) := by
  subst hK
  refine ⟨fun pins s σ H Q I h => ?_⟩
  refine Call_ (ld_blt I hg hm boot_len ?_)
  refine PyProof.Rows.callWith_builtin1 (PyProof.Rows.args_cons ?_ rfl) rfl rfl
  refine Call_ (ld_blt I hg2 hm2 (show bootBuiltins ("set" : Str) = some (.type "set") by decide +kernel) ?_)
  refine PyProof.Rows.callWith_type1 (PyProof.Rows.args_cons (thn (ha.run pins s σ H _ I h) fun v s1 ⟨x, H1, I1, r1, q1⟩ => PyProof.Rows.args_nil ?_) na) na rfl
  obtain ⟨l, ns, rfl, hq, hl, q1⟩ := q1
  cases r1
  obtain ⟨its, r, pl, hz⟩ := I1.list hq
  have hlen : its.toArray.size = ns.length := by rw [List.size_toArray, ← r.length, List.length_map]
  refine PySem.call_set_list (I1.ok.hd hc) pl.isList (by simpa using RZ.intsAre_vals r) (by rw [hlen]; unfold PySem.scanBound; omega) fun h' tk hS hk => ?_
  refine PyProof.Rows.args_nil ?_
  rw [hlen, firstMet_firsts] at hS
  have hfl := firsts_len_le ns
  obtain ⟨o, es, ep, t, ho, hex, hd, _, _, _, hf, hn⟩ := hS
  have I2 : Inv X pins σ H1 { s1 with heap := h', toks := tk } := I1.kept fun b o e => hk b o (Heap.lt_size e) e
  exact PySem.call_len_set ho hex hd hf (by rw [hn] <;> omega) ⟨.int (firsts ns).length, H1, I2.tok _, ⟨_, by rw [hn]⟩, q1⟩
end
end Cw
namespace Cw
open PySem L2
/-! stretches -/
structure Cs where
  out : List (Int × Int)
  b : Nat
  seg : List Int
  n : Nat
def cstep (rooms : Nat) (s : Cs) (x : Int) : Cs :=
  if x ∉ firsts s.seg ∧ (firsts s.seg).length = rooms then ⟨s.out ++ [((s.b : Int), (s.n : Int))], s.n, [x], s.n + 1⟩ else ⟨s.out, s.b, s.seg ++ [x], s.n + 1⟩
def cst (rooms : Nat) (ns : List Int) : Cs := ns.foldl (cstep rooms) ⟨[], 0, [], 0⟩
theorem cst_snoc (rooms : Nat) (ns : List Int) (x : Int) : cst rooms (ns ++ [x]) = cstep rooms (cst rooms ns) x := by unfold cst; rw [List.foldl_append]; rfl
def parts (rooms : Nat) (ns : List Int) : List (Int × Int) := if ns = [] then [] else (cst rooms ns).out ++ [(((cst rooms ns).b : Int), (ns.length : Int))]
structure Cs.Ok (s : Cs) (rooms : Nat) (ns : List Int) : Prop where
  n : s.n = ns.length
  bn : s.b ≤ s.n
  seg : s.seg = ns.drop s.b
  le : (firsts s.seg).length ≤ rooms
  ol : s.out.length ≤ s.b
  ob : ∀ e ∈ s.out, 0 ≤ e.1 ∧ e.1 < e.2 ∧ e.2 ≤ s.b
  lt : ns ≠ [] → s.b < s.n
theorem list_snoc_ind {α : Type} {P : List α → Prop} (h0 : P []) (hs : ∀ l x, P l → P (l ++ [x])) : ∀ l, P l := by
  intro l
  have h : ∀ n, ∀ l : List α, l.length = n → P l := by
    intro n
    induction n with
    | zero => intro l hl; rw [List.eq_nil_of_length_eq_zero hl]; exact h0
    | succ n ih =>
      intro l hl
      have hne : l ≠ [] := by intro e; rw [e] at hl; cases hl
      rw [← List.dropLast_concat_getLast hne]
      exact hs _ _ (ih _ (by rw [List.length_dropLast]; omega))
  exact h _ l rfl
theorem cst_ok {rooms : Nat} (n0 : 0 < rooms) : ∀ ns : List Int, (cst rooms ns).Ok rooms ns := by
  refine list_snoc_ind ?_ ?_
  · exact ⟨rfl, Nat.le_refl _, rfl, Nat.zero_le _, Nat.le_refl _, fun e h => by simp [cst] at h, fun h => absurd rfl h⟩
  · intro ns x ⟨hn, hb, hs, hl, ho, hob, hlt⟩
    rw [cst_snoc]
    generalize cst rooms ns = s at *
    unfold cstep
    split
    · rename_i h
      have hne : ns ≠ [] := by
        intro e
        subst e
        rw [hs] at h
        have h2 := h.2
        simp [firsts] at h2
        omega
      have := hlt hne
      refine ⟨by simp [hn], by simp, by simp [hn], ?_, ?_, ?_, fun _ => Nat.lt_succ_self _⟩
      · show (firsts [x]).length ≤ rooms
        simp [firsts, add1]
        omega
      · simp
        omega
      · intro e he
        rcases List.mem_append.mp he with he | he
        · have := hob e he
          exact ⟨this.1, this.2.1, by show e.2 ≤ (s.n : Int); omega⟩
        · simp at he
          subst he
          exact ⟨by simp, by simp; omega, by simp⟩
    · rename_i h
      refine ⟨by simp [hn], by show s.b ≤ s.n + 1; omega, ?_, ?_, ho, hob, fun _ => by show s.b < s.n + 1; omega⟩
      · show s.seg ++ [x] = (ns ++ [x]).drop s.b
        rw [List.drop_append_of_le_length (by omega), hs]
      · show (firsts (s.seg ++ [x])).length ≤ rooms
        rw [firsts_snoc]
        unfold add1
        split
        · exact hl
        · rename_i h2
          have : (firsts s.seg).length ≠ rooms := fun e => h ⟨h2, e⟩
          rw [List.length_append]
          simp
          omega
def pairD (e : Int × Int) : PyData := .tuple [.int e.1, .int e.2]
/-- new tuples of two whole numbers -/
theorem nw_pair {K : PySem.W.Frag} {H H' : Hp} {t : Addr} {i j : Int} (ht : H t = none) (h : H' t = some (.tup [.int i, .int j])) : Nw K H H' (.ref t) (pairD (i, j)) := Nw.tup ht h (.cons (Nw.int _) (.cons (Nw.int _) .nil))
end Cw
namespace Cw
open PySem L2
theorem w_lenSetD {K : PySem.W.Frag} {H : Hp} {σ : L2.St} {Q : VK} {ta : TE} (h : ta σ H fun x H1 => ∃ (l : Addr) (ns : List Int), x = .ref l ∧ SqL K H1 l (ns.map V.int) ∧ ns.length ≤ 4000 ∧ Q (.int (firsts ns).length) H1) : tLenSetD K ta σ H Q := h
theorem cut_ints (ns : List Int) (i j : Nat) : cutV (ns.map V.int) (some (i : Int)) (some (j : Int)) = ((ns.take j).drop i).map V.int := by rw [cut_mid, ← List.map_take, ← List.map_drop]
theorem over_rooms {rooms : Nat} {seg : List Int} {x : Int} (h : (firsts seg).length ≤ rooms) : (rooms : Int) < ((firsts (seg ++ [x])).length : Int) ↔ (x ∉ firsts seg ∧ (firsts seg).length = rooms) := by
  rw [firsts_snoc]
  unfold add1
  by_cases hx : x ∈ firsts seg
  · rw [if_pos hx]
    constructor
    · intro z; omega
    · intro z; exact absurd hx z.1
  · rw [if_neg hx, List.length_append]
    simp [hx]
    omega
end Cw
namespace Cw
open PySem L2
theorem places_mem : ∀ bs : List Bool, ∀ p ∈ places bs, 0 ≤ p ∧ p < (bs.length : Int) := by
  refine list_snoc_ind (by intro p h; simp [places, placesFrom] at h) ?_
  intro l b ih p hp
  rw [places_snoc] at hp
  rcases List.mem_append.mp hp with h | h
  · have := ih p h
    rw [List.length_append]
    simp
    omega
  · cases b with
    | false => simp at h
    | true => simp at h; subst h; simp; omega
/-- places ahead of e -/
theorem places_take (e : Nat) : ∀ bs : List Bool, (places bs).filter (fun p => decide (p < (e : Int))) = places (bs.take e) := by
  refine list_snoc_ind (by simp [places, placesFrom]) ?_
  intro l b ih
  rw [places_snoc, List.filter_append, ih]
  by_cases h : e ≤ l.length
  · rw [List.take_append_of_le_length h]
    have : (if b = true then [((l.length : Nat) : Int)] else []).filter (fun p => decide (p < (e : Int))) = [] := by
      cases b <;> simp; omega
    rw [this, List.append_nil]
  · have h1 : (l ++ [b]).take e = l ++ [b] := List.take_of_length_le (by simp; omega)
    have h2 : l.take e = l := List.take_of_length_le (by omega)
    rw [h1, h2, places_snoc]
    congr 1
    cases b <;> simp; omega
/-- the places from b on, ahead of e -/
def cntL (bs : List Bool) (b e : Nat) : List Int := (places (bs.take e)).filter fun p => decide ((b : Int) ≤ p)
theorem cntL_start (bs : List Bool) (b : Nat) : cntL bs b b = [] := by
  unfold cntL
  rw [List.filter_eq_nil_iff]
  intro p hp
  have := places_mem _ p hp
  rw [List.length_take] at this
  simp
  omega
theorem cntL_succ {bs : List Bool} {b e : Nat} {v : Bool} (hb : b ≤ e) (h : bs[e]? = some v) : cntL bs b (e + 1) = cntL bs b e ++ (if v then [(e : Int)] else []) := by
  have hl := (List.getElem?_eq_some_iff.mp h).1
  unfold cntL
  rw [take_snoc h, places_snoc, List.filter_append, List.length_take, Nat.min_eq_left (by omega)]
  congr 1
  cases v <;> simp; omega
theorem cntL_law (bs : List Bool) (b e : Nat) : (places bs).filter (fun p => decide ((b : Int) ≤ p ∧ p < (e : Int))) = cntL bs b e := by
  unfold cntL
  rw [← places_take, List.filter_filter]
  congr 1
  funext p
  simp
theorem cntL_len (bs : List Bool) (b e : Nat) : (cntL bs b e).length ≤ bs.length := by
  unfold cntL
  refine Nat.le_trans (List.length_filter_le _ _) (Nat.le_trans (places_len _) ?_)
  rw [List.length_take]
  omega
theorem parts_mem {rooms : Nat} (n0 : 0 < rooms) (ns : List Int) : ∀ e ∈ parts rooms ns, 0 ≤ e.1 ∧ e.1 < e.2 ∧ e.2 ≤ (ns.length : Int) := by
  intro e he
  have o := cst_ok n0 ns
  unfold parts at he
  split at he
  · simp at he
  · rename_i hne
    rcases List.mem_append.mp he with h | h
    · have := o.ob e h
      have := o.bn
      have := o.n
      omega
    · simp at h
      subst h
      have := o.lt hne
      have := o.n
      simp
      omega
theorem parts_len {rooms : Nat} (n0 : 0 < rooms) (ns : List Int) : (parts rooms ns).length ≤ ns.length := by
  have o := cst_ok n0 ns
  unfold parts
  split
  · simp
  · rename_i hne
    have h1 := o.lt hne
    have h2 := o.ol
    have h3 := o.n
    rw [List.length_append]
    simp
    omega
def counts (bs : List Bool) (ps : List (Int × Int)) : List Int := ps.map fun e => ((cntL bs e.1.toNat e.2.toNat).length : Int)
theorem dp_pair {K : PySem.W.Frag} {H : Hp} {v : V} {e : Int × Int} (h : Dp K H v (pairD e)) : ∃ t, v = .ref t ∧ SqT K H t [.int e.1, .int e.2] := by
  unfold pairD at h
  cases h with
  | @tup t xs _ hs ha =>
    cases ha with
    | @cons v1 vr _ _ h1 h2 =>
    cases h1
    cases h2 with
    | @cons v2 vr2 _ _ h3 h4 =>
    cases h3
    cases h4
    exact ⟨t, rfl, hs⟩
end Cw
namespace Cw
open PySem L2
/-- xs are refs to tuples of two whole numbers, all new beside H; a list that changes is none of them -/
def PairsAt (H H' : Hp) (xs : List V) (ps : List (Int × Int)) : Prop := xs.length = ps.length ∧ ∀ (i : Nat) (e : Int × Int), ps[i]? = some e → ∃ t, xs[i]? = some (.ref t) ∧ H t = none ∧ H' t = some (.tup [.int e.1, .int e.2])
theorem PairsAt.nil {H H' : Hp} : PairsAt H H' [] [] := ⟨rfl, fun i e h => by simp at h⟩
theorem PairsAt.fr {H H' H2 : Hp} {xs : List V} {ps : List (Int × Int)} {W : List Addr} (h : PairsAt H H' xs ps) (f : Fr W H' H2) (hw : ∀ w ∈ W, ∃ l, H' w = some (.lst l)) : PairsAt H H2 xs ps := ⟨h.1, fun i e he => by
  obtain ⟨t, h1, h2, h3⟩ := h.2 i e he
  refine ⟨t, h1, h2, f.get h3 fun m => ?_⟩
  obtain ⟨l, hl⟩ := hw t m
  rw [h3] at hl
  cases hl⟩
theorem PairsAt.snoc {H H' : Hp} {xs : List V} {ps : List (Int × Int)} {t : Addr} {a b : Int} (h : PairsAt H H' xs ps) (ht : H t = none) (h2 : H' t = some (.tup [.int a, .int b])) : PairsAt H H' (xs ++ [.ref t]) (ps ++ [(a, b)]) := ⟨by simp [h.1], fun i e he => by
  rcases Nat.lt_or_ge i ps.length with l | l
  · rw [List.getElem?_append_left l] at he
    obtain ⟨u, h1, h3⟩ := h.2 i e he
    exact ⟨u, by rw [List.getElem?_append_left (by rw [h.1]; exact l)]; exact h1, h3⟩
  · rw [List.getElem?_append_right l] at he
    have hi : i - ps.length = 0 := by
      have := (List.getElem?_eq_some_iff.mp he).1
      simp at this
      omega
    rw [hi] at he
    have he' : (a, b) = e := Option.some.inj he
    subst he'
    exact ⟨t, by rw [List.getElem?_append_right (by rw [h.1]; exact l), h.1, hi]; rfl, ht, h2⟩⟩
theorem PairsAt.nwa {K : PySem.W.Frag} {H H' : Hp} : ∀ {xs : List V} {ps : List (Int × Int)}, PairsAt H H' xs ps → NwA K H H' xs (ps.map pairD)
  | [], [], _ => .nil
  | [], _ :: _, h => by have := h.1; simp at this
  | _ :: _, [], h => by have := h.1; simp at this
  | x :: xs, e :: ps, h => by
    obtain ⟨t, h1, h2, h3⟩ := h.2 0 e rfl
    have hx : x = .ref t := Option.some.inj h1
    subst hx
    exact .cons (nw_pair h2 h3) (PairsAt.nwa ⟨by have := h.1; simpa using this, fun i e' he => h.2 (i + 1) e' he⟩)
end Cw
namespace Cw
open PySem L2
theorem Box.nin {H : Hp} {b q p : Addr} (h : Box H b q) (hp : H p = none) : p ∉ [b, q] := by
  obtain ⟨z, ms, h1, h2, _⟩ := h
  intro m
  rcases List.mem_cons.mp m with m | m
  · subst m; rw [hp] at h1; cases h1
  · rw [List.mem_singleton.mp m] at hp; rw [hp] at h2; cases h2
end Cw
namespace Cw
open PySem L2
theorem fits_ints {k : Nat} {ns : List Int} (h : ns.length ≤ 100000) : fits (k + 1) (.list (ns.map PyData.int)) := by
  refine ⟨by rw [List.length_map]; exact h, fun x hx => ?_⟩
  obtain ⟨n, _, rfl⟩ := List.mem_map.mp hx
  cases k <;> trivial
theorem fits_pairs {k : Nat} {ps : List (Int × Int)} (h : ps.length ≤ 100000) : fits (k + 2) (.list (ps.map pairD)) := by
  refine ⟨by rw [List.length_map]; exact h, fun x hx => ?_⟩
  obtain ⟨e, _, rfl⟩ := List.mem_map.mp hx
  refine ⟨by show 2 ≤ 100000; omega, fun y hy => ?_⟩
  rcases List.mem_cons.mp hy with h | h
  · subst h; cases k <;> trivial
  · rw [List.mem_singleton.mp h]; cases k <;> trivial
theorem fits_two {k : Nat} {a b : PyData} (ha : fits k a) (hb : fits k b) : fits (k + 1) (.list [a, b]) := by
  refine ⟨by show 2 ≤ 100000; omega, fun y hy => ?_⟩
  rcases List.mem_cons.mp hy with h | h
  · subst h; exact ha
  · rw [List.mem_singleton.mp h]; exact hb
end Cw
namespace Cw
open PySem L2
theorem PairsAt.base {H0 H H' : Hp} {xs : List V} {ps : List (Int × Int)} {W : List Addr} (h : PairsAt H H' xs ps) (f : Fr W H0 H) : PairsAt H0 H' xs ps := ⟨h.1, fun i e he => by
  obtain ⟨t, h1, h2, h3⟩ := h.2 i e he
  exact ⟨t, h1, f.2 t h2, h3⟩⟩
end Cw

namespace Cw
open PySem L2
/-! l.index(x, i); min of a list of data -/
section
open PySem.Spec PyProof.Rows PySem.W
variable {X : Cx}
def rIndex3 (K : PySem.W.Frag) : V → List V → Hp → VK → Prop := fun x xs H Q => ∃ (a : Addr) (ys : List Int) (y : Int) (i j : Nat), x = V.ref a ∧ xs = [.int y, .int i] ∧ SqL K H a (ys.map V.int) ∧ i ≤ j ∧ ys[j]? = some y ∧
  (∀ m : Nat, i ≤ m → m < j → ys[m]? ≠ some y) ∧ Q (.int (j : Nat)) H
theorem mt_index3 : MtR X "list.index" (rIndex3 X.K) := by
  intro pins s σ H x xs v us Q I rx rxs h
  obtain ⟨a, ys, y, i, j, rfl, rfl, hs, hij, hz, hno, q⟩ := h
  cases rx
  cases rxs with
  | cons ry rt =>
    rename_i uy ut
    cases rt with
    | cons ri rt =>
    cases rt
    rename_i ui
    obtain ⟨its, rv, ⟨⟨cls, dd, data, sl⟩, n, ho, hc, hdn, hd⟩, hlen⟩ := I.list hs
    simp only at hc hd
    subst hc hd
    obtain ⟨ti, rfl⟩ := ri
    have fl : (ys.map V.int).all flatV = true := by simp [flatV]
    have hz' : (ys.map V.int)[j]? = some (.int y) := by rw [List.getElem?_map, hz]; rfl
    obtain ⟨u, hu, ru⟩ := rv.get hz'
    obtain ⟨hjl, hje⟩ := List.getElem?_eq_some_iff.mp hu
    have hvl := rv.length
    have hj : j < its.toArray.size := by simpa using hjl
    have hsl := sizeLine_eq
    have hsf : SeqAt.searchFrom (i : Int) its.toArray.size = i := SeqAt.searchFrom_nat i _
    refine call_meets PySem.F.slot_list_index ⟨_, ho, rfl⟩ PySem.F.entry_list_index (PySem.F.args_list_index_3 _ _ _)
      (SeqAt.list_index3_found a its.toArray n dd sl uy (fun m => match its[m]? with | some u => eqU (.int y) u | none => false) (i : Int) ti j hj (by rw [hsf]; exact hij) (by omega) ?_ ?_) ⟨ho, fun m hm => ?_, ?_⟩
    · show (match its[j]? with | some u => eqU (.int y) u | none => false) = true
      rw [hu]
      show eqU (.int y) u = true
      rw [eqU_of ru rfl]
      simp [eqV]
    · intro m hm h1 h2
      rw [hsf] at h1
      have hml : m < its.length := by simpa using hm
      have hmy : m < (ys.map V.int).length := by omega
      have hmy2 : m < ys.length := by simpa using hmy
      have hy' : (ys.map V.int)[m]? = some (.int ys[m]) := by rw [List.getElem?_map, List.getElem?_eq_getElem hmy2]; rfl
      obtain ⟨u2, hu2, ru2⟩ := rv.get hy'
      show (match its[m]? with | some u => eqU (.int y) u | none => false) = false
      rw [hu2]
      show eqU (.int y) u2 = false
      rw [eqU_of ru2 rfl]
      have hne := hno m h1 h2
      rw [List.getElem?_eq_getElem hmy2] at hne
      have : ys[m] ≠ y := fun e => hne (by rw [e])
      simp [eqV, this]
    · have hml : m < its.length := by simpa using hm
      have e1 : its[m]? = some its[m] := List.getElem?_eq_getElem hml
      show SeqAt.EqAt _ _ its.toArray[m] uy (match its[m]? with | some u => eqU (.int y) u | none => false)
      rw [e1]
      have := mem_eqAt (A := X.A.in1) (s := s) ry rfl rv fl its[m] (List.getElem_mem hml)
      simpa using this
    · exact ⟨.int (j : Nat), H, I.tok _, ⟨_, rfl⟩, q⟩
def rMinD (K : PySem.W.Frag) : List V → Hp → VK → Prop := fun vs H Q => ∃ (a : Addr) (xs : List V) (d : PyData) (ds : List PyData), vs = [.ref a] ∧ SqL K H a xs ∧ DpAll K H xs (d :: ds) ∧ AlikeAll (d :: ds) ∧ PyData.depthAll (d :: ds) ≤ 40 ∧ PyData.canLayAll0 (d :: ds) = true ∧
  ∀ (i : Nat) v, xs[i]? = some v → (d :: ds)[i]? = some (minD d ds) → Q v H
theorem dpall_at {K : PySem.W.Frag} {H : Hp} : ∀ {xs : List V} {ds : List PyData}, DpAll K H xs ds → ∀ {i : Nat} {x : V}, xs[i]? = some x → ∃ d, ds[i]? = some d ∧ Dp K H x d
  | [], _, _, i, x, h => by simp at h
  | y :: xs, _, .cons h1 h2, i, x, h => by
    cases i with
    | zero =>
      obtain rfl := Option.some.inj h
      exact ⟨_, rfl, h1⟩
    | succ i => exact dpall_at h2 (i := i) h
theorem cr_minD (hc : X.calm = true) (hu : X.A.units + 64 < cLine) : CallR X (.builtin "min") (rMinD X.K) := by
  intro pins s σ H vs us Q I r h
  obtain ⟨a, xs, d, ds, rfl, hs, hd, hal, hdp, hcl, q⟩ := h
  obtain ⟨its, rv, hl, _⟩ := I.list hs
  rw [Vals.ref1 r]
  obtain ⟨as, hr⟩ := Dp.readsAll I _ _ _ hd rv
  refine min_list_data (I.ok.hd hc) hl.isList (by simpa using hr) hal (by omega) fun i v h' tk bs hi r' hk => ?_
  have hi' : its[i]? = some v := by simpa using hi
  obtain ⟨hil, hie⟩ := List.getElem?_eq_some_iff.mp hi'
  have hvl := rv.length
  have hxi : i < xs.length := by omega
  obtain ⟨x, hx⟩ : ∃ x, xs[i]? = some x := ⟨xs[i], List.getElem?_eq_getElem hxi⟩
  obtain ⟨u, hu2, ru⟩ := rv.get hx
  rw [hi'] at hu2
  obtain rfl := Option.some.inj hu2
  have I2 : Inv X pins σ H { s with heap := h', toks := tk } := I.kept hk
  obtain ⟨dx, hdx, hDp⟩ := dpall_at hd hx
  obtain ⟨cs, rx⟩ := Dp.reads I2 dx x v hDp ru
  have e1 : dx = minD d ds := SeqAt.Reads.unique dx (minD d ds) v cs bs (by
    have : ∀ (l : List PyData), PyData.canLayAll0 l = true → ∀ z ∈ l, z.canLay0 = true := by
      intro l
      induction l with
      | nil => intro _ z hz; cases hz
      | cons w l ih =>
        intro hl z hz
        rw [PyData.canLayAll0, Bool.and_eq_true] at hl
        rcases List.mem_cons.mp hz with h | h
        · subst h; exact hl.1
        · exact ih hl.2 z h
    exact this _ hcl dx (List.mem_of_getElem? hdx)) rx r'
  exact ⟨x, H, I2, ru, q i x hx (by rw [← e1]; exact hdx)⟩
end
end Cw
namespace Cw
open PySem L2
section
open PySem.W
variable {X : Cx}
theorem kMinD {X : Cx} (K : PySem.W.Frag) (h : X.K = K) (hc : X.calm = true) (hu : X.A.units + 64 < cLine) : CallR X (.builtin "min") (rMinD K) := h ▸ cr_minD hc hu
theorem kIndex3 {X : Cx} (K : PySem.W.Frag) (h : X.K = K) : MtR X "list.index" (rIndex3 K) := h ▸ mt_index3
theorem kSorted {X : Cx} (K : PySem.W.Frag) (h : X.K = K) : CallR X (.builtin "sorted") (rSorted K) := h ▸ cr_sorted
theorem w_index3 {K : PySem.W.Frag} {H : Hp} {Q : VK} {a : Addr} {ns : List Int} {y : Int} {i : Nat} (h : SqL K H a (ns.map V.int)) (hm : y ∈ ns.drop i) (q : Q (.int ((i + (ns.drop i).idxOf y : Nat) : Int)) H) : rIndex3 K (.ref a) [.int y, .int i] H Q := by
  have hj := List.idxOf_lt_length_iff.mpr hm
  refine ⟨a, ns, y, i, i + (ns.drop i).idxOf y, rfl, rfl, h, Nat.le_add_right _ _, ?_, fun m h1 h2 e => ?_, q⟩
  · rw [← List.getElem?_drop, List.getElem?_eq_getElem hj]
    simp
  · obtain ⟨k, rfl⟩ : ∃ k, m = i + k := ⟨m - i, by omega⟩
    rw [← List.getElem?_drop] at e
    have hk : k < (ns.drop i).idxOf y := by omega
    have z := List.not_of_lt_findIdx (p := (· == y)) (xs := ns.drop i) (i := k) hk
    rw [List.getElem?_eq_getElem (by omega)] at e
    rw [Option.some.inj e] at z
    simp at z
theorem w_slFrom {K : PySem.W.Frag} {H : Hp} {Q : VK} {a : Addr} {ns : List Int} {k : Nat} (h : SqL K H a (ns.map V.int)) (q : ∀ p, H p = none → Q (.ref p) (upd H p (.lst ((ns.drop k).map V.int)))) : rSlL K (.ref a) (some (k : Int)) none H Q :=
  w_slL h fun p hp => by
    rw [cut_from, ← List.map_drop]
    exact q p hp
theorem w_slMid {K : PySem.W.Frag} {H : Hp} {Q : VK} {a : Addr} {ns : List Int} {i j : Nat} (h : SqL K H a (ns.map V.int)) (q : ∀ p, H p = none → Q (.ref p) (upd H p (.lst (((ns.take j).drop i).map V.int)))) : rSlL K (.ref a) (some (i : Int)) (some (j : Int)) H Q :=
  w_slL h fun p hp => by
    rw [cut_ints]
    exact q p hp
def sorts (ns : List Int) : List Int := ns.mergeSort (fun a b => decide (a ≤ b))
theorem sorts_perm (ns : List Int) : (sorts ns).Perm ns := List.mergeSort_perm _ _
theorem sorts_sorted (ns : List Int) : (sorts ns).Pairwise (· ≤ ·) := by
  have := List.pairwise_mergeSort (le := fun (a b : Int) => decide (a ≤ b)) (fun a b c h1 h2 => by simp at *; omega) (fun a b => by simp; omega) ns
  exact this.imp fun h => by simpa using h
theorem sorted_uniq : ∀ {xs ys : List Int}, xs.Perm ys → xs.Pairwise (· ≤ ·) → ys.Pairwise (· ≤ ·) → xs = ys := by
  intro xs ys h h1 h2
  exact h.eq_of_pairwise (fun a b _ _ h1 h2 => by omega) h1 h2
theorem w_sorted {K : PySem.W.Frag} {H : Hp} {Q : VK} {a : Addr} {ns : List Int} (h : SqL K H a (ns.map V.int)) (hl : ns.length < 64) (q : ∀ p, H p = none → Q (.ref p) (upd H p (.lst ((sorts ns).map V.int)))) : rSorted K [.ref a] H Q :=
  ⟨a, ns, rfl, h, hl, fun ns' p h1 h2 hp => by
    rw [sorted_uniq (h1.trans (sorts_perm ns).symm) h2 (sorts_sorted ns)]
    exact q p hp⟩
/-- the least of pairs of whole numbers -/
theorem minOf_spec (x : Int × Int) : ∀ xs : List (Int × Int), minOf x xs ∈ x :: xs ∧ ∀ y ∈ x :: xs, (minOf x xs).1 < y.1 ∨ ((minOf x xs).1 = y.1 ∧ (minOf x xs).2 ≤ y.2) := by
  have lt_iff : ∀ a b : Int × Int, DatumOrd.lt a b = true ↔ (a.1 < b.1 ∨ (a.1 = b.1 ∧ a.2 < b.2)) := by
    intro a b
    show (if a.1 = b.1 then decide (a.2 < b.2) else decide (a.1 < b.1)) = true ↔ _
    by_cases h : a.1 = b.1
    · rw [if_pos h]; simp [h]
    · rw [if_neg h]; simp [h]
  intro xs
  unfold minOf
  induction xs generalizing x with
  | nil => exact ⟨List.mem_singleton.mpr rfl, fun y hy => by rw [List.mem_singleton.mp hy]; exact .inr ⟨rfl, Int.le_refl _⟩⟩
  | cons z xs ih =>
    rw [List.foldl_cons]
    by_cases h : DatumOrd.lt z x = true
    · rw [if_pos h]
      obtain ⟨h1, h2⟩ := ih z
      rw [lt_iff] at h
      refine ⟨by simp only [List.mem_cons] at h1 ⊢; exact .inr h1, fun y hy => ?_⟩
      rcases List.mem_cons.mp hy with e | hy
      · subst e
        have := h2 z (by simp)
        omega
      · exact h2 y hy
    · rw [if_neg h]
      obtain ⟨h1, h2⟩ := ih x
      have h' : ¬ (z.1 < x.1 ∨ (z.1 = x.1 ∧ z.2 < x.2)) := fun e => h ((lt_iff z x).mpr e)
      refine ⟨by simp only [List.mem_cons] at h1 ⊢; rcases h1 with h1 | h1 <;> simp [h1], fun y hy => ?_⟩
      rcases List.mem_cons.mp hy with e | hy
      · subst e; exact h2 y (by simp)
      · rcases List.mem_cons.mp hy with e | hy
        · subst e
          have := h2 x (by simp)
          omega
        · exact h2 y (List.mem_cons_of_mem _ hy)
theorem lay_pairs : ∀ ps : List (Int × Int), PyData.canLayAll0 (ps.map pairD) = true
  | [] => rfl
  | e :: r => by simp [PyData.canLayAll0, pairD, PyData.canLay0, lay_pairs r]
theorem depth_pairs : ∀ ps : List (Int × Int), PyData.depthAll (ps.map pairD) ≤ 40
  | [] => by simp [PyData.depthAll]
  | e :: r => by
    have := depth_pairs r
    simp [PyData.depthAll, pairD, PyData.depth] at *
    omega
theorem w_minP {K : PySem.W.Frag} {H : Hp} {Q : VK} {a : Addr} {xs : List V} {ps : List (Int × Int)} {e : Int × Int} (h : SqL K H a xs) (hd : DpAll K H xs (ps.map pairD)) (he : e ∈ ps) (hm : ∀ y ∈ ps, e.1 < y.1 ∨ (e.1 = y.1 ∧ e.2 ≤ y.2))
    (q : ∀ t, SqT K H t [.int e.1, .int e.2] → Q (.ref t) H) : rMinD K [.ref a] H Q := by
  cases ps with
  | nil => cases he
  | cons p ps =>
    refine ⟨a, xs, pairD p, ps.map pairD, rfl, h, hd, (alikeAll_datum (p :: ps)), depth_pairs (p :: ps), lay_pairs (p :: ps), fun i v hv hdi => ?_⟩
    have e1 : minD (pairD p) (ps.map pairD) = pairD (minOf p ps) := minD_map p ps
    rw [e1] at hdi
    obtain ⟨v', hv', hdp⟩ := dpall_get hd (i := i) (d := pairD (minOf p ps)) hdi
    rw [hv] at hv'
    obtain rfl := Option.some.inj hv'
    obtain ⟨h1, h2⟩ := minOf_spec p ps
    have e2 : minOf p ps = e := by
      have a1 := h2 e he
      have a2 := hm _ h1
      refine Prod.ext ?_ ?_ <;> omega
    rw [e2] at hdp
    obtain ⟨t, rfl, ht⟩ := dp_pair hdp
    exact q t ht
end
end Cw
namespace Cw
open PySem L2
/-! the best one: mirror -/
def IsFar (rest kept : List Int) (y : Int) : Prop := y ∈ kept ∧ ∀ x ∈ kept, rest.idxOf x < rest.idxOf y ∨ (rest.idxOf x = rest.idxOf y ∧ y ≤ x)
def farStep (rest : List Int) (b x : Int) : Int := if rest.idxOf b < rest.idxOf x ∨ (rest.idxOf b = rest.idxOf x ∧ x < b) then x else b
def far (rest : List Int) : List Int → Int
  | [] => 0
  | k :: ks => ks.foldl (farStep rest) k
theorem IsFar.unique {rest kept : List Int} {a b : Int} (h1 : IsFar rest kept a) (h2 : IsFar rest kept b) : a = b := by
  have x := h1.2 b h2.1
  have y := h2.2 a h1.1
  omega
theorem far_spec (rest : List Int) : ∀ {kept : List Int}, kept ≠ [] → IsFar rest kept (far rest kept) := by
  have h : ∀ (ks : List Int) (k : Int), IsFar rest (k :: ks) (ks.foldl (farStep rest) k) := by
    intro ks
    induction ks with
    | nil => intro k; exact ⟨List.mem_singleton.mpr rfl, fun x hx => by rw [List.mem_singleton.mp hx]; exact .inr ⟨rfl, Int.le_refl _⟩⟩
    | cons z ks ih =>
      intro k
      rw [List.foldl_cons]
      by_cases hz : rest.idxOf k < rest.idxOf z ∨ (rest.idxOf k = rest.idxOf z ∧ z < k)
      · rw [show farStep rest k z = z from if_pos hz]
        obtain ⟨h1, h2⟩ := ih z
        refine ⟨List.mem_cons_of_mem _ h1, fun x hx => ?_⟩
        rcases List.mem_cons.mp hx with e | hx
        · subst e
          have := h2 z (by simp)
          omega
        · exact h2 x hx
      · rw [show farStep rest k z = k from if_neg hz]
        obtain ⟨h1, h2⟩ := ih k
        refine ⟨?_, fun x hx => ?_⟩
        · rcases List.mem_cons.mp h1 with h1 | h1
          · exact List.mem_cons.mpr (.inl h1)
          · exact List.mem_cons_of_mem _ (List.mem_cons_of_mem _ h1)
        · rcases List.mem_cons.mp hx with e | hx
          · subst e; exact h2 x (by simp)
          · rcases List.mem_cons.mp hx with e | hx
            · subst e
              have := h2 k (by simp)
              omega
            · exact h2 x (List.mem_cons_of_mem _ hx)
  intro kept hk
  cases kept with
  | nil => exact absurd rfl hk
  | cons k ks => exact h ks k
theorem far_eq {rest kept : List Int} {y : Int} (h : IsFar rest kept y) : far rest kept = y := (far_spec rest (fun e => by rw [e] at h; exact absurd h.1 (by simp))).unique h
structure Bs where
  kept : List Int
  lacks : List Int
  gone : List (Int × Int)
  n : Nat
def bstep (rooms : Nat) (row : List Int) (s : Bs) (x : Int) : Bs :=
  if x ∈ s.kept then ⟨s.kept, s.lacks, s.gone, s.n + 1⟩
  else if s.kept.length = rooms then ⟨s.kept.erase (far (row.drop s.n) s.kept) ++ [x], s.lacks ++ [(s.n : Int)], s.gone ++ [((s.n : Int), far (row.drop s.n) s.kept)], s.n + 1⟩
  else ⟨s.kept ++ [x], s.lacks ++ [(s.n : Int)], s.gone, s.n + 1⟩
def bst (rooms : Nat) (row xs : List Int) : Bs := xs.foldl (bstep rooms row) ⟨[], [], [], 0⟩
theorem bst_snoc (rooms : Nat) (row ns : List Int) (x : Int) : bst rooms row (ns ++ [x]) = bstep rooms row (bst rooms row ns) x := by unfold bst; rw [List.foldl_append]; rfl
structure Bs.Ok (s : Bs) (rooms : Nat) (ns : List Int) : Prop where
  n : s.n = ns.length
  nd : s.kept.Nodup
  sub : ∀ x ∈ s.kept, x ∈ ns
  le : s.kept.length ≤ rooms
  ll : s.lacks.length ≤ ns.length
  gl : s.gone.length ≤ ns.length
theorem bst_ok {rooms : Nat} (n0 : 0 < rooms) (row : List Int) : ∀ ns : List Int, (bst rooms row ns).Ok rooms ns := by
  refine list_snoc_ind ?_ ?_
  · exact ⟨rfl, List.nodup_nil, (fun x h => absurd h (by simp [bst])), Nat.zero_le _, Nat.le_refl _, Nat.le_refl _⟩
  · intro ns x ⟨h1, h2, h3, h4, h5, h6⟩
    rw [bst_snoc]
    generalize bst rooms row ns = s at *
    unfold bstep
    split
    · exact ⟨by simp [h1], h2, fun y hy => List.mem_append_left _ (h3 y hy), h4, by simp; omega, by simp; omega⟩
    · rename_i hx
      split
      · rename_i hl
        have hne : s.kept ≠ [] := fun e => by rw [e] at hl; simp at hl; omega
        have hf := (far_spec (row.drop s.n) hne).1
        refine ⟨by simp [h1], ?_, ?_, ?_, by simp; omega, by simp; omega⟩
        · rw [List.nodup_append]
          refine ⟨h2.erase _, by simp, fun a ha b hb e => ?_⟩
          simp at hb
          subst hb
          subst e
          exact hx (List.mem_of_mem_erase ha)
        · intro y hy
          rcases List.mem_append.mp hy with h | h
          · exact List.mem_append_left _ (h3 y (List.mem_of_mem_erase h))
          · simp at h; subst h; simp
        · rw [List.length_append, List.length_erase_of_mem hf]
          simp
          omega
      · rename_i hl
        refine ⟨by simp [h1], ?_, ?_, ?_, by simp; omega, by simp; omega⟩
        · rw [List.nodup_append]
          refine ⟨h2, by simp, fun a ha b hb e => ?_⟩
          simp at hb
          subst hb
          subst e
          exact hx ha
        · intro y hy
          rcases List.mem_append.mp hy with h | h
          · exact List.mem_append_left _ (h3 y h)
          · simp at h; subst h; simp
        · rw [List.length_append]
          simp
          omega
end Cw
namespace Cw
open PySem L2
theorem PairsAt.upL {H H' : Hp} {xs ys : List V} {ps : List (Int × Int)} {p : Addr} {o : HO} (h : PairsAt H H' xs ps) (hp : H' p = some (.lst ys)) : PairsAt H (upd H' p o) xs ps :=
  h.fr (W := [p]) (Fr.at (List.mem_singleton.mpr rfl)) fun w hw => ⟨ys, by rw [List.mem_singleton.mp hw]; exact hp⟩
theorem PairsAt.upN {H H' : Hp} {xs : List V} {ps : List (Int × Int)} {p : Addr} {o : HO} (h : PairsAt H H' xs ps) (hp : H' p = none) : PairsAt H (upd H' p o) xs ps :=
  h.fr (W := []) (Fr.new hp) (by simp)
theorem PairsAt.fr0 {H H' H2 : Hp} {xs : List V} {ps : List (Int × Int)} (h : PairsAt H H' xs ps) (f : Fr [] H' H2) : PairsAt H H2 xs ps := h.fr f (by simp)
end Cw
namespace Cw
open PySem L2
/-! [x for x in l if test] of whole numbers -/
def PvF (H : Hp) (ns : List Int) (p : Int → Bool) (D : Addr) (i : Nat) (acc : List V) (H' : Hp) : Prop := Fr [] H H' ∧ acc = ((ns.take i).filter p).map V.int
theorem l_filter {σ : L2.St} {K : PySem.W.Frag} {H : Hp} {g : TG} {tt : TT} {te : TE} {vs : List Nat} {Qd : Addr → Hp → Prop} {a : Addr} (ns : List Int) (p : Int → Bool) (hq : SqL K H a (ns.map V.int))
    (hs : ∀ D (i : Nat) y H', H D = none → ns[i]? = some y → Fr [] H H' → LcI (PvF H ns p) D i H' → g (.int y) (wipe σ vs) H' fun σ2 H2 => wipe σ2 vs = wipe σ vs ∧ tt σ2 H2 fun b H3 =>
      if b = true then te σ2 H3 fun y H4 => ∃ acc, H4 D = some (.lst acc) ∧ acc.length < sizeLine ∧ LcI (PvF H ns p) D (i + 1) (upd H4 D (.lst (acc ++ [y]))) else LcI (PvF H ns p) D (i + 1) H3)
    (hd : ∀ D H', H D = none → Fr [] H H' → H' D = some (.lst ((ns.filter p).map V.int)) → Qd D H') :
    ∃ b, V.ref a = V.ref b ∧ (∃ xs, SqL K H b xs) ∧ ∀ D, H D = none → ∃ W : Nat → Nat → Hp → Prop, (∃ m, W 0 m (upd H D (.lst []))) ∧ ∀ i m H, W i m H →
      ((Itl K b).stop i H ∧ Qd D H) ∨ ((Itl K b).go i H ∧ ∃ Nx : Hp → Prop, (∀ H', Nx H' → ∃ m', m' < m ∧ W (i + 1) m' H') ∧ ∀ x H', (Itl K b).yld i H x H' → g x (wipe σ vs) H' fun σ2 H2 => wipe σ2 vs = wipe σ vs ∧ tt σ2 H2 fun b H3 =>
        if b = true then te σ2 H3 fun y H4 => ∃ acc, H4 D = some (.lst acc) ∧ acc.length < sizeLine ∧ Nx (upd H4 D (.lst (acc ++ [y]))) else Nx H3) := by
  refine l_list (ns.map V.int) hq (PvF H ns p) (fun D hD => ⟨Fr.new hD, by simp⟩) (fun D i acc H' hD h _ => h.1.seqL hq) ?_ ?_
  · rintro D i x acc H' hD hi h hacc hla
    obtain ⟨y, hy, rfl⟩ := int_at hi
    exact hs D i y H' hD hy h.1 ⟨acc, h, hacc, hla⟩
  · rintro D acc H' hD ⟨F, rfl⟩ hacc hla
    rw [List.length_map, List.take_length] at hacc
    exact hd D H' hD F hacc
theorem lf_yes {H H' H4 : Hp} {ns : List Int} {p : Int → Bool} {D : Addr} {i : Nat} {y : Int} (I : LcI (PvF H ns p) D i H') (hD : H D = none) (hy : ns[i]? = some y) (hp : p y = true) (hl : i < 99999) (f : Fr [] H' H4) :
    ∃ acc, H4 D = some (.lst acc) ∧ acc.length < sizeLine ∧ LcI (PvF H ns p) D (i + 1) (upd H4 D (.lst (acc ++ [.int y]))) := by
  obtain ⟨acc, ⟨F, rfl⟩, h2, h3⟩ := I
  refine lc_end (f.get0 h2) h3 hl ⟨(F.trans f).loc hD, ?_⟩
  rw [take_snoc hy, List.filter_append, List.map_append, List.filter_cons_of_pos hp]
  rfl
theorem lf_no {H H' H3 : Hp} {ns : List Int} {p : Int → Bool} {D : Addr} {i : Nat} {y : Int} (I : LcI (PvF H ns p) D i H') (hy : ns[i]? = some y) (hp : p y = false) (f : Fr [] H' H3) : LcI (PvF H ns p) D (i + 1) H3 := by
  obtain ⟨acc, ⟨F, rfl⟩, h2, h3⟩ := I
  refine ⟨_, ⟨F.trans f, ?_⟩, f.get0 h2, by omega⟩
  rw [take_snoc hy, List.filter_append, List.filter_cons_of_neg (by simp [hp])]
  simp
/-! what the law's own best one lets go -/
def leftStep (rest : List Int) (left : List Int) (x : Int) : List Int := if x ∈ left ∧ 1 < left.length ∧ (left.filter (fun y => decide (y ∈ rest))) ≠ [] then left.filter (fun y => decide (y ≠ x)) else left
def leftAll (rest kept xs : List Int) : List Int := xs.foldl (leftStep rest) (sorts kept)
def nevers (rest kept : List Int) : List Int := (sorts kept).filter fun y => decide (y ∉ rest)
theorem mem_sorts {ns : List Int} {x : Int} : x ∈ sorts ns ↔ x ∈ ns := (sorts_perm ns).mem_iff
theorem never_far {rest kept tl : List Int} {p : Int} (h : nevers rest kept = p :: tl) : far rest kept = p := by
  have hs : (nevers rest kept).Pairwise (· ≤ ·) := (sorts_sorted kept).filter _
  rw [h, List.pairwise_cons] at hs
  have hm : ∀ y, y ∈ nevers rest kept ↔ y ∈ kept ∧ y ∉ rest := fun y => by simp [nevers, List.mem_filter, mem_sorts]
  have hp := (hm p).mp (by rw [h]; simp)
  have ep : rest.idxOf p = rest.length := List.idxOf_eq_length hp.2
  refine far_eq ⟨hp.1, fun x hx => ?_⟩
  by_cases hr : x ∈ rest
  · have := List.idxOf_lt_length_iff.mpr hr
    omega
  · have e2 : rest.idxOf x = rest.length := List.idxOf_eq_length hr
    have hxm := (hm x).mpr ⟨hx, hr⟩
    rw [h] at hxm
    rcases List.mem_cons.mp hxm with e | hxm
    · exact .inr ⟨by omega, by rw [e]; exact Int.le_refl _⟩
    · exact .inr ⟨by omega, hs.1 x hxm⟩
structure LeftOk (rest kept : List Int) (i : Nat) (left : List Int) : Prop where
  nd : left.Nodup
  ne : left ≠ []
  sub : ∀ y ∈ left, y ∈ kept
  one : left.length = 1 ∨ ∀ y ∈ left, y ∉ rest.take i
  gone : ∀ x ∈ kept, x ∉ left → ∀ y ∈ left, rest.idxOf x < rest.idxOf y
theorem left_ok {rest kept : List Int} (hk : kept ≠ []) (nd : kept.Nodup) (hr : ∀ x ∈ kept, x ∈ rest) : ∀ i, i ≤ rest.length → LeftOk rest kept i (leftAll rest kept (rest.take i)) := by
  intro i
  induction i with
  | zero =>
    intro _
    have e : leftAll rest kept (rest.take 0) = sorts kept := by simp [leftAll]
    rw [e]
    refine ⟨(sorts_perm kept).nodup_iff.mpr nd, ?_, fun y hy => mem_sorts.mp hy, .inr fun y _ => by simp, fun x hx hn => absurd (mem_sorts.mpr hx) hn⟩
    intro e
    have := (sorts_perm kept).length_eq
    rw [e] at this
    exact hk (List.eq_nil_of_length_eq_zero this.symm)
  | succ i ih =>
    intro hi
    obtain ⟨x, hx⟩ : ∃ x, rest[i]? = some x := ⟨rest[i], List.getElem?_eq_getElem (by omega)⟩
    have e : leftAll rest kept (rest.take (i + 1)) = leftStep rest (leftAll rest kept (rest.take i)) x := by
      unfold leftAll
      rw [take_snoc hx, List.foldl_append]
      rfl
    rw [e]
    obtain ⟨h1, h2, h3, h4, h5⟩ := ih (by omega)
    generalize leftAll rest kept (rest.take i) = left at *
    unfold leftStep
    split
    · rename_i hc
      obtain ⟨c1, c2, c3⟩ := hc
      have h4' : ∀ y ∈ left, y ∉ rest.take i := h4.resolve_left (by omega)
      have exi : rest.idxOf x = i := by
        have hil : i < rest.length := by omega
        have hxe : rest[i] = x := by
          rw [List.getElem?_eq_getElem hil] at hx
          exact Option.some.inj hx
        have h6 := h4' x c1
        have : rest = rest.take i ++ rest.drop i := (List.take_append_drop i rest).symm
        rw [this, List.idxOf_append]
        rw [if_neg h6, List.length_take, List.drop_eq_getElem_cons hil, hxe, List.idxOf_cons_self]
        omega
      have hmem : ∀ y, y ∈ left.filter (fun y => decide (y ≠ x)) ↔ y ∈ left ∧ y ≠ x := fun y => by simp [List.mem_filter]
      have far_after : ∀ y ∈ left, y ≠ x → i < rest.idxOf y := by
        intro y hy hne
        refine Nat.lt_of_not_le fun hle => ?_
        have hyr := hr y (h3 y hy)
        have hlt := List.idxOf_lt_length_iff.mpr hyr
        have hge : rest[rest.idxOf y] = y := List.getElem_idxOf hlt
        rcases Nat.lt_or_eq_of_le hle with hlt2 | heq
        · refine h4' y hy (List.mem_take_iff_getElem.mpr ⟨rest.idxOf y, by omega, hge⟩)
        · have : rest[i]? = some y := by rw [← heq, List.getElem?_eq_getElem hlt, hge]
          rw [hx] at this
          exact hne (Option.some.inj this).symm
      refine ⟨h1.filter _, ?_, fun y hy => h3 y ((hmem y).mp hy).1, .inr fun y hy => ?_, fun z hz hzn y hy => ?_⟩
      · intro e0
        match left, c1, c2, h1, e0 with
        | [a], _, c2, _, _ => simp at c2
        | a :: b :: r, c1, _, h1, e0 =>
          have hab : a ≠ b := by
            rw [List.nodup_cons] at h1
            intro e
            exact h1.1 (by rw [e]; simp)
          have ha : a ∉ (a :: b :: r).filter (fun y => decide (y ≠ x)) := by rw [e0]; simp
          have hb : b ∉ (a :: b :: r).filter (fun y => decide (y ≠ x)) := by rw [e0]; simp
          simp [List.mem_filter] at ha hb
          exact hab (ha.trans hb.symm)
      · obtain ⟨hy1, hy2⟩ := (hmem y).mp hy
        intro hm
        obtain ⟨j, hj, he⟩ := List.mem_take_iff_getElem.mp hm
        have hl := far_after y hy1 hy2
        have : rest.idxOf y ≤ j := by
          refine Nat.le_of_not_lt fun hlt => ?_
          have := List.not_of_lt_findIdx (p := (· == y)) (xs := rest) (i := j) hlt
          simp [he] at this
        omega
      · obtain ⟨hy1, hy2⟩ := (hmem y).mp hy
        by_cases hzl : z ∈ left
        · have hzx : z = x := by
            refine Classical.byContradiction fun hne => hzn ((hmem z).mpr ⟨hzl, hne⟩)
          rw [hzx, exi]
          exact far_after y hy1 hy2
        · exact h5 z hz hzl y hy1
    · rename_i hc
      refine ⟨h1, h2, h3, ?_, h5⟩
      by_cases hl : left.length = 1
      · exact .inl hl
      · refine .inr fun y hy hm => ?_
        have h4' := h4.resolve_left hl
        rw [take_snoc hx] at hm
        rcases List.mem_append.mp hm with hm | hm
        · exact h4' y hy hm
        · simp at hm
          subst hm
          refine hc ⟨hy, ?_, ?_⟩
          · have : 0 < left.length := List.length_pos_iff.mpr h2
            omega
          · exact List.ne_nil_of_mem (List.mem_filter.mpr ⟨hy, by simpa using hr _ (h3 _ hy)⟩)
theorem left_far {rest kept : List Int} (hk : kept ≠ []) (nd : kept.Nodup) (h : nevers rest kept = []) : leftAll rest kept rest = [far rest kept] := by
  have hr : ∀ x ∈ kept, x ∈ rest := by
    intro x hx
    refine Classical.byContradiction fun hn => ?_
    have : x ∈ nevers rest kept := by simp [nevers, List.mem_filter, mem_sorts, hx, hn]
    rw [h] at this
    cases this
  have ok := left_ok hk nd hr rest.length (Nat.le_refl _)
  rw [List.take_length] at ok
  obtain ⟨h1, h2, h3, h4, h5⟩ := ok
  generalize leftAll rest kept rest = left at *
  have hl : left.length = 1 := by
    rcases h4 with h | h
    · exact h
    · match left, h2 with
      | y :: r, _ => exact absurd (by rw [List.take_length]; exact hr y (h3 y (by simp))) (h y (by simp))
  match left, hl with
  | [y], _ =>
    rw [far_eq (y := y) ⟨h3 y (by simp), fun x hx => ?_⟩]
    by_cases hxy : x = y
    · exact .inr ⟨by rw [hxy], by rw [hxy]; exact Int.le_refl _⟩
    · exact .inl (h5 x hx (by simpa using hxy) y (by simp))
end Cw
namespace Cw
open PySem L2
theorem leftAll_len (rest kept : List Int) : ∀ xs, (leftAll rest kept xs).length ≤ kept.length := by
  refine list_snoc_ind (by unfold leftAll; rw [List.foldl_nil, (sorts_perm kept).length_eq]; exact Nat.le_refl _) ?_
  intro l x ih
  have e : leftAll rest kept (l ++ [x]) = leftStep rest (leftAll rest kept l) x := by unfold leftAll; rw [List.foldl_append]; rfl
  rw [e]
  unfold leftStep
  split
  · exact Nat.le_trans (List.length_filter_le _ _) ih
  · exact ih
theorem leftAll_snoc {rest kept : List Int} {i : Nat} {x : Int} (h : rest[i]? = some x) : leftAll rest kept (rest.take (i + 1)) = leftStep rest (leftAll rest kept (rest.take i)) x := by
  rw [take_snoc h]; unfold leftAll; rw [List.foldl_append]; rfl
theorem sorts_len (ns : List Int) : (sorts ns).length = ns.length := (sorts_perm ns).length_eq
end Cw
namespace Cw
theorem if_merge {b : Bool} {A B : Prop} (C : Prop) (h1 : b = true → C → A) (h2 : b = false → C → B) (h : C) : if b = true then A else B := by
  cases b
  · exact h2 rfl h
  · exact h1 rfl h
end Cw
namespace Cw
open PySem L2
theorem fits_twoT {k : Nat} {a b : PyData} (ha : fits k a) (hb : fits k b) : fits (k + 1) (.tuple [a, b]) := by
  refine ⟨by show 2 ≤ 100000; omega, fun y hy => ?_⟩
  rcases List.mem_cons.mp hy with h | h
  · subst h; exact ha
  · rw [List.mem_singleton.mp h]; exact hb
end Cw

namespace Cw
open PySem L2
/-! set(l) of whole numbers, sorted of it, at any length -/
section
open PySem.Spec PyProof.Rows
variable {P : Program} {w : World} {A : Around} {E : Value → Shared → Prop} {s : Shared}
/-- the fresh set as the model lays it -/
abbrev emptySet (w : World) : Obj := { cls := .type "set", dict := none, data := .set #[] 0 (.fresh 0 0 (!w.params.followText "set-order")) }
/-- what set.__init__ leaves -/
def Filled (P : Program) (w : World) (s : Shared) (ns : List Int) (s₂ : Shared) : Prop :=
  ∃ h' tk c, s₂ = { s with heap := h', toks := tk } ∧ SetR w h' s.heap.objs.size (fun j => decide (j ∈ ns)) c ∧ c ≤ ns.length ∧ ∀ b o, s.heap.get? b = some o → h'.get? b = some o
theorem fill_list {l : Addr} {items : Array Value} {ns : List Int} {A' : Around} (hh : A'.handled = none) (hl : s.heap.IsList l items) (hit : IntsAre items.toList ns) (hb : ns.length + 1 < scanBound) :
    wpAny (model P w) A' (Builtin.«set.__init__» ⟨[.ref s.heap.objs.size, .ref l], []⟩) (fun r s₂ => r = .done (.ret .none) ∧ Filled P w s ns s₂) E { s with heap := s.heap.push (emptySet w) } := by
  have hisz : items.size = ns.length := by
    have q := IntsAre.length hit
    rwa [Array.length_toList] at q
  obtain ⟨⟨ocls, odict, odata, oslots⟩, hol, hcl, nl, hdl⟩ := hl
  simp only at hcl hdl
  subst hcl hdl
  have hS : (s.heap.push (emptySet w)).get? s.heap.objs.size = some (emptySet w) := Heap.get?_push_size _ rfl
  have hol' : (s.heap.push (emptySet w)).get? l = some { cls := .type "list", dict := odict, data := .seq items nl, slots := oslots } := Heap.get?_push_of_some _ hol
  have hl1 : (s.heap.push (emptySet w)).IsList l items := ⟨_, hol', rfl, nl, rfl⟩
  have hT : Shared.TypeIs { s with heap := s.heap.push (emptySet w) } (.ref s.heap.objs.size) "set" := ⟨_, hS, rfl⟩
  have hsls := F.sub_list_set
  have hslf := F.sub_list_frozenset
  have hne : (Value.type "list" == Value.type "dict") = false := by decide
  have hlS : l < s.heap.objs.size := Heap.lt_size hol
  unfold Builtin.«set.__init__» noKeywords Builtin.Frozenset.updateFrom
  generalize hPI : pyIter = PI
  wp_walk
  subst hPI
  refine wpAny_pyIter_list hl1 (wpAny_bind (wpAny_runValue ?_))
  have hneI : l ≠ (s.heap.push (emptySet w)).objs.size := by rw [Heap.size_push]; exact Nat.ne_of_lt (Nat.lt_succ_of_lt hlS)
  have hSf : s.heap.objs.size ∉ [(s.heap.push (emptySet w)).objs.size, l] := by
    rw [Heap.size_push]
    intro m
    rcases List.mem_cons.mp m with m | m
    · exact Nat.ne_of_lt (Nat.lt_succ_self _) m
    · exact Nat.ne_of_gt hlS (List.mem_singleton.mp m)
  have hval : ∀ (i : Nat) (v : Value), items[i]? = some v → ∃ k t, ns[i]? = some k ∧ v = .int k t := fun i v hv => by
    have hi : i < ns.length := by rw [← hisz]; exact (Array.getElem?_eq_some_iff.mp hv).1
    obtain ⟨t, e⟩ := IntsAre.int_at hit i v (by rw [Array.getElem?_toList]; exact hv)
    refine ⟨ns[i], t, List.getElem?_eq_getElem hi, ?_⟩
    rw [e, List.getD_eq_getElem?_getD, List.getElem?_eq_getElem hi]
    rfl
  refine set_update_ints ((Walks.list (by simp [hh]) _ l hneI items).toS) s.heap.objs.size hSf ns hisz hb hval (items.size - 0) 0 _ (by omega) (Nat.zero_le _) ⟨⟨_, Heap.get?_push_size _ rfl, rfl, rfl⟩, hl1.push _⟩
    ⟨0, Nat.le_refl 0, setR_new_at (Heap.get?_push_of_some _ hS)⟩ ?_
  intro s' c' hm hc' hS'
  obtain ⟨h', g2, d', tk', os'⟩ := s'
  have eg : g2 = s.gens := hm.gens
  have ed : d' = s.drawn := hm.drawn
  have eo : os' = s.os := hm.os
  subst eg ed eo
  refine wpAny_pure ?_
  show wpAny _ _ (ret Value.none) _ _ _
  refine wpAny_pure ⟨rfl, h', tk', c', rfl, hS', by omega, fun b o e => ?_⟩
  have hb0 := Heap.lt_size e
  refine hm.heap b o ?_ (Heap.get?_push_of_some _ (Heap.get?_push_of_some _ e))
  rw [Heap.size_push]
  intro m
  rcases List.mem_cons.mp m with m | m
  · exact Nat.ne_of_lt hb0 m
  · exact Nat.ne_of_lt (Nat.lt_succ_of_lt hb0) (List.mem_singleton.mp m)
end
end Cw
namespace Cw
open PySem L2
section
open PySem.Spec PyProof.Rows
variable {P : Program} {w : World} {A : Around} {E : Value → Shared → Prop} {s : Shared}
theorem call_set_listR {l : Addr} {items : Array Value} {ns : List Int} {Q : Value → Shared → Prop} (hh : A.handled = none) (hl : s.heap.IsList l items) (hit : IntsAre items.toList ns) (hb : ns.length + 1 < scanBound)
    (h : ∀ s₂, Filled P w s ns s₂ → Q (.ref s.heap.objs.size) s₂) : wpAny (model P w) A (call (.type "set") [.ref l]) Q E s := by
  obtain ⟨c, tl, hmro⟩ := F.called_set.mro
  have hmade := F.called_set.made
  have hsub := F.called_set.sub
  refine wpAny_call (codeAny_of_tree ?_)
  show wpAny _ _ (callAny (.type "set") _) _ _ _
  refine wpAny_pure ⟨Code.quiet_builtin _ (by decide +kernel), codeAny_builtin F.entry_type_call ?_⟩
  rw [Around.under_plain (weight_type_call_type "set" [.ref l] []) rfl]
  have h1 := F.called_set.notType
  have h2 := F.called_set.canCreate
  have hct := F.typeCall_set_1 (.ref l)
  repeat (any_goals (first | assumption | wp_step))
  refine codeAny_mono (code_set_led1 (.ref l) (E := E) (Q₁ := fun v s₁ => v = .ref s.heap.objs.size ∧ s₁ = { s with heap := s.heap.push (emptySet w) }) ⟨rfl, rfl⟩) fun r s₁ hr => ?_
  rcases r with _ | fl
  · exact hr
  cases fl with
  | ret obj =>
    obtain ⟨rfl, rfl⟩ := hr
    have hT : Shared.TypeIs { s with heap := s.heap.push (emptySet w) } (.ref s.heap.objs.size) "set" := ⟨_, Heap.get?_push_size _ rfl, rfl⟩
    have hli := F.called_set.init.lookup
    have hbi := F.called_set.init.bind (.ref s.heap.objs.size)
    repeat (any_goals (first | assumption | wp_step))
    refine codeAny_mono (codeAny_call_builtin (R := wants (fun r s₂ => r = .none ∧ Filled P w s ns s₂) E) F.called_set.init.plain F.entry_set_init (check_set_init_1 hT ?_)) fun r₂ s₂ hr₂ => ?_
    · refine wpAny_mono (fill_list (E := E) (by simp [hh]) hl hit hb) ?_ ?_
      · rintro r s2 ⟨rfl, hf⟩
        exact ⟨rfl, hf⟩
      · intro e s2 he
        exact he
    · rcases r₂ with _ | fl₂
      · exact hr₂
      cases fl₂ with
      | ret r =>
        obtain ⟨rfl, hf⟩ := hr₂
        repeat (any_goals (first | assumption | wp_step))
        exact h _ hf
      | _ => exact hr₂.elim
  | _ => exact hr.elim
end
end Cw
namespace Cw
open PySem L2
section
open PySem.Spec PyProof.Rows
variable {P : Program} {w : World} {A : Around} {E : Value → Shared → Prop} {s : Shared}
/-- sorted of a set of whole numbers, any size -/
theorem sorted_setAny {a : Addr} {S : Int → Bool} {n : Nat} {Q : Value → Shared → Prop} (R : SetR w s.heap a S n) (hh : A.handled = none) (hz : n ≤ sizeLine)
    (hQ : ∀ s' p (out : Array Value) (c : Nat) (ns : List Int), (∀ b o, s.heap.get? b = some o → s'.heap.get? b = some o) → s'.gens = s.gens → s'.os = s.os → s.heap.objs.size ≤ p →
      s'.heap.get? p = some (seqObj "list" out c) → IntsAre out.toList ns → ns.Pairwise (· < ·) → (∀ k, k ∈ ns ↔ S k = true) → ns.length = n → Q (.ref p) s') :
    wpAny (model P w) A (call (.builtin "sorted") [.ref a]) Q E s := by
  obtain ⟨o, es, ep, t, ho, hex, hd, g, nd, hm, hb, hf, hn, hr, hl⟩ := R
  refine Calls.call_function_entry kind_sorted plain_sorted entry_sorted (args_sorted1 _) ?_
  unfold Builtin.«sorted»
  refine wpAny_bind (m := checkCount "sorted" 1 1 _) (wpAny_pure ?_)
  refine wpAny_bind (collect_set (A := A.in1) hh ⟨o, ho, hex.1, hd⟩ hf hb hr hl fun s1 vs k1 h1 g1 o1 pm => ?_)
  have hvl : vs.length = n := by rw [pm.length_eq, List.length_map, Array.length_toList]; exact hn
  have hI : IntsAre vs (vs.map Builtin.Re.reRawOf) := ints_of vs fun v hv => by
    obtain ⟨e, he, q⟩ := List.mem_map.mp (pm.mem_iff.mp hv)
    obtain ⟨k, tk, h2, _⟩ := g e he
    exact ⟨k, tk, by rw [← q]; exact h2⟩
  have pk : (vs.map Builtin.Re.reRawOf).Perm (es.toList.map keyOf) := by
    have q := pm.map Builtin.Re.reRawOf
    rwa [List.map_map] at q
  refine wpAny_bind (wpAny_newList ?_ (by rw [hvl]; exact hz))
  have hoL : (s1.heap.push (seqObj "list" vs.toArray 0)).get? s1.heap.objs.size = some (seqObj "list" vs.toArray 0) := Heap.get?_push_size _ rfl
  refine wpAny_bind (wpAny_holding (wpAny_call_entry slot_list_sort ⟨_, hoL, rfl⟩ entry_list_sort (list_sort_treeAny hoL hI (by rw [hvl]; exact hz) fun out ns' a1 a2 a3 => ⟨_, rfl, ?_⟩) (args_list_sort _)))
  obtain ⟨c, hc⟩ := sortedHeap_at (vs := vs) (out := out) hoL
  have pn := a2.trans pk
  refine wpAny_pure ⟨_, rfl, hQ _ s1.heap.objs.size out c ns' (fun b u e => ?_) g1 o1 h1 hc a1 (lt_of_le_nodup ns' a3 (pn.nodup_iff.mpr nd)) (fun k => by rw [pn.mem_iff, ← hm k]) ?_⟩
  · have q := k1 b u e
    have hlt := Heap.lt_size q
    show (sortedHeap (s1.heap.push (seqObj "list" vs.toArray 0)) s1.heap.objs.size vs out).get? b = some u
    rw [sortedHeap_old (Nat.ne_of_lt hlt) (by rw [size_push']; exact Nat.lt_succ_of_lt hlt)]
    exact Heap.get?_push_of_some _ q
  · rw [pn.length_eq, List.length_map, Array.length_toList]; exact hn
variable {X : Cx}
def rSetL (K : PySem.W.Frag) (w : World) : List V → Hp → VK → Prop := fun vs H Q => ∃ (l : Addr) (ns : List Int), vs = [.ref l] ∧ SqL K H l (ns.map V.int) ∧ ns.length ≤ 4000 ∧
  ∀ p c, H p = none → c ≤ ns.length → Q (.ref p) (upd H p (SetO w p (fun j => decide (j ∈ ns)) c))
theorem cr_setL (hc : X.calm = true) : CallR X (.type "set") (rSetL X.K X.w) := by
  intro pins s σ H vs us Q I r h
  obtain ⟨l, ns, rfl, hs, hl, q⟩ := h
  obtain ⟨its, rv, hp, _⟩ := I.list hs
  rw [Vals.ref1 r]
  refine call_set_listR (P := X.prog) (w := X.w) (I.ok.hd hc) hp.isList (by simpa using RZ.intsAre_vals rv) (by unfold scanBound; omega) ?_
  rintro s2 ⟨h', tk, c, rfl, hR, hcl, hk⟩
  have hn : H s.heap.objs.size = none := I.hok.fresh (Nat.le_refl _)
  exact ⟨.ref _, _, I.laid hk (Nat.le_refl _) (setO_new hR), rfl, q _ c hn hcl⟩
def rSortSet (w : World) : List V → Hp → VK → Prop := fun vs H Q => ∃ (a : Addr) (S : Int → Bool) (n : Nat), vs = [V.ref a] ∧ H a = some (SetO w a S n) ∧ n ≤ 100000 ∧
  ∀ (ns : List Int) (p : Addr), ns.Pairwise (· < ·) → (∀ k : Int, k ∈ ns ↔ S k = true) → H p = none → Q (.ref p) (upd H p (.lst (ns.map V.int)))
theorem cr_sortSet (hc : X.calm = true) : CallR X (.builtin "sorted") (rSortSet X.w) := by
  intro pins s σ H vs us Q I r h
  obtain ⟨a, S, n, rfl, ha, hz, q⟩ := h
  rw [Vals.ref1 r]
  refine sorted_setAny (setO_get I ha) (I.ok.hd hc) (sz_le hz) fun s' p out c ns k g o hp hg hi hs hm hl => ?_
  have hlen : (ns.map V.int).length ≤ sizeLine := by rw [List.length_map, hl]; exact sz_le hz
  have hn : H p = none := I.hok.fresh hp
  have J : Inv X pins σ (upd H p (.lst (ns.map V.int))) { s with heap := s'.heap, gens := s'.gens, drawn := s'.drawn, toks := s'.toks } :=
    I.call (ch := []) (Un.laid k hp hn) (I.hok.laid k hp ⟨hlen, out.toList, c, vals_of_ints hi, hg⟩) (by rw [g]; exact I.bare) (fun _ z => nomatch z)
  have e : s' = { s with heap := s'.heap, gens := s'.gens, drawn := s'.drawn, toks := s'.toks } := by
    cases s'
    cases o
    rfl
  rw [e]
  exact ⟨.ref p, _, J, rfl, q ns p hs hm hn⟩
theorem kSetL {X : Cx} (K : PySem.W.Frag) (w : World) (h : X.K = K) (hw : X.w = w) (hc : X.calm = true) : CallR X (.type "set") (rSetL K w) := h ▸ hw ▸ cr_setL hc
theorem kSortSet {X : Cx} (w : World) (hw : X.w = w) (hc : X.calm = true) : CallR X (.builtin "sorted") (rSortSet w) := hw ▸ cr_sortSet hc
def uniq (ns : List Int) : List Int := sorts (firsts ns)
theorem lt_sorted {ns : List Int} (h : ns.Pairwise (· < ·)) : ns.Pairwise (· ≤ ·) ∧ ns.Nodup := ⟨h.imp fun h => by omega, h.imp fun h => by omega⟩
theorem sorted_lt_uniq {xs ys : List Int} (h1 : xs.Pairwise (· < ·)) (h2 : ys.Pairwise (· < ·)) (h : ∀ k, k ∈ xs ↔ k ∈ ys) : xs = ys :=
  sorted_uniq ((List.perm_ext_iff_of_nodup (lt_sorted h1).2 (lt_sorted h2).2).mpr h) (lt_sorted h1).1 (lt_sorted h2).1
theorem uniq_spec (ns : List Int) : (uniq ns).Pairwise (· < ·) ∧ ∀ k, k ∈ uniq ns ↔ k ∈ ns := by
  have nd : (uniq ns).Nodup := (sorts_perm _).nodup_iff.mpr (firsts_facts ns).1
  refine ⟨lt_of_le_nodup _ (sorts_sorted _) nd, fun k => ?_⟩
  rw [show (k ∈ uniq ns ↔ k ∈ firsts ns) from mem_sorts]
  exact (firsts_facts ns).2 k
theorem uniq_lt {ns : List Int} (h : ns.Pairwise (· < ·)) : uniq ns = ns := sorted_lt_uniq (uniq_spec ns).1 h (uniq_spec ns).2
theorem w_setOf {K : PySem.W.Frag} {w : World} {H : Hp} {Q : VK} {l : Addr} {ns : List Int} (h : SqL K H l (ns.map V.int)) (hl : ns.length ≤ 4000) (q : ∀ p, H p = none → ∀ c, c ≤ ns.length → Q (.ref p) (upd H p (SetO w p (fun j => decide (j ∈ ns)) c))) : rSetL K w [.ref l] H Q :=
  ⟨l, ns, rfl, h, hl, fun p c hp hc => q p hp c hc⟩
theorem w_sortSet {w : World} {H : Hp} {Q : VK} {a : Addr} {ns : List Int} {n : Nat} (h : H a = some (SetO w a (fun j => decide (j ∈ ns)) n)) (hn : n ≤ 100000) (q : ∀ p, H p = none → Q (.ref p) (upd H p (.lst ((uniq ns).map V.int)))) : rSortSet w [.ref a] H Q :=
  ⟨a, _, n, rfl, h, hn, fun ns' p h1 h2 hp => by
    have e : ns' = uniq ns := sorted_lt_uniq h1 (uniq_spec ns).1 fun k => by rw [h2 k, (uniq_spec ns).2 k]; simp
    rw [e]
    exact q p hp⟩
end
end Cw
namespace Cw
open PySem L2
/-! dicts with keys that are whole numbers -/
section
variable {H : Hp} {σ : L2.St} {Q : VK}
theorem w_dnewK (q : ∀ p, H p = none → Q (.ref p) (upd H p (.dK []))) : tDNewK σ H Q := q
theorem w_dIn {ty td : TE} (h : ty σ H fun y H1 => td σ H1 fun x H2 => ∃ a o, x = .ref a ∧ DGet H2 a y o ∧ Q (.bl o.isSome) H2) : tDIn ty td σ H Q := h
theorem w_dInI {d : Addr} {kvs : List (Key × V)} {z : Int} {P : Option V → Prop} (h : H d = some (.dK kvs)) (q : P (valV kvs (.inl z))) : ∃ a o, V.ref d = .ref a ∧ DGet H a (.int z) o ∧ P o :=
  ⟨d, _, rfl, DGet.k (k := Sum.inl z) h, q⟩
theorem w_dgetI {d : Addr} {kvs : List (Key × V)} {z : Int} {v : V} {P : V → Prop} (h : H d = some (.dK kvs)) (hv : valV kvs (.inl z) = some v) (q : P v) : ∃ a v, V.ref d = .ref a ∧ DGet H a (.int z) (some v) ∧ P v :=
  ⟨d, v, rfl, by rw [← hv]; exact DGet.k (k := Sum.inl z) h, q⟩
theorem w_dputI {d : Addr} {kvs : List (Key × V)} {z : Int} {v : V} {N : Hp → Prop} (h : H d = some (.dK kvs)) (hl : kvs.length < sizeLine) (q : N (upd H d (.dK (putK kvs (.inl z) v)))) : ∃ a H4, V.ref d = .ref a ∧ DPut H a (.int z) v H4 ∧ N H4 :=
  ⟨d, _, rfl, DPut.k (k := Sum.inl z) h hl, q⟩
end
/-! spells -/
def lastAt (ns : List Int) (x : Int) : Option Nat := ((List.range ns.length).filter fun i => decide (ns[i]? = some x)).getLast?
theorem lastAt_snoc (ns : List Int) (y x : Int) : lastAt (ns ++ [y]) x = if y = x then some ns.length else lastAt ns x := by
  unfold lastAt
  rw [List.length_append, List.length_singleton, List.range_succ, List.filter_append]
  have e : (List.range ns.length).filter (fun i => decide ((ns ++ [y])[i]? = some x)) = (List.range ns.length).filter (fun i => decide (ns[i]? = some x)) := by
    refine List.filter_congr fun i hi => ?_
    rw [List.mem_range] at hi
    rw [List.getElem?_append_left hi]
  rw [e]
  by_cases h : y = x
  · subst h
    rw [if_pos rfl, List.filter_cons_of_pos (by simp)]
    simp
  · rw [if_neg h, List.filter_cons_of_neg (by simp [h])]
    simp
theorem lastAt_lt {ns : List Int} {x : Int} {j : Nat} (h : lastAt ns x = some j) : j < ns.length ∧ ns[j]? = some x := by
  have := List.mem_of_getLast? h
  rw [List.mem_filter, List.mem_range] at this
  exact ⟨this.1, by simpa using this.2⟩
def spellAt (ns : List Int) (e : Nat) : List (Int × Int) := match lastAt (ns.take e) (ns.getD e 0) with
  | none => []
  | some b => [((b : Int), (e : Int))]
def spellsTo (ns : List Int) (i : Nat) : List (Int × Int) := (List.range i).flatMap (spellAt ns)
theorem spellsTo_succ (ns : List Int) (i : Nat) : spellsTo ns (i + 1) = spellsTo ns i ++ spellAt ns i := by
  unfold spellsTo
  rw [List.range_succ, List.flatMap_append]
  simp
theorem spellAt_len (ns : List Int) (e : Nat) : (spellAt ns e).length ≤ 1 := by
  unfold spellAt
  split <;> simp
theorem spellsTo_len (ns : List Int) : ∀ i, (spellsTo ns i).length ≤ i
  | 0 => by simp [spellsTo]
  | i + 1 => by
    have := spellsTo_len ns i
    have := spellAt_len ns i
    rw [spellsTo_succ, List.length_append]
    omega
def spellsM (ns : List Int) : List (Int × Int) := spellsTo ns ns.length
theorem spellsTo_mem {ns : List Int} {i : Nat} {e : Int × Int} (h : e ∈ spellsTo ns i) : 0 ≤ e.1 ∧ e.1 < e.2 ∧ e.2 < (i : Int) := by
  unfold spellsTo at h
  rw [List.mem_flatMap] at h
  obtain ⟨k, hk, h⟩ := h
  rw [List.mem_range] at hk
  unfold spellAt at h
  split at h
  · simp at h
  · rename_i b hb
    have := (lastAt_lt hb).1
    rw [List.length_take] at this
    simp at h
    subst h
    refine ⟨by simp, by simp; omega, by simp; omega⟩
/-- no paper's place stands within -/
def isFree (places : List Int) (e : Int × Int) : Bool := decide (places.filter (fun p => decide (e.1 < p ∧ p < e.2)) = [])
def shownM (rooms : Int) (row places : List Int) : Int := (row.length : Int) - (((spellsM row).filter (isFree places)).length : Int) - (rooms - 1) * (places.length : Int)
end Cw
namespace Cw
open PySem L2
theorem PairsAt.upD {H H' : Hp} {xs : List V} {ps : List (Int × Int)} {p : Addr} {o : HO} {kvs : List (Key × V)} (h : PairsAt H H' xs ps) (hp : H' p = some (.dK kvs)) : PairsAt H (upd H' p o) xs ps := ⟨h.1, fun i e he => by
  obtain ⟨t, h1, h2, h3⟩ := h.2 i e he
  refine ⟨t, h1, h2, (upd_ne fun e => ?_).trans h3⟩
  rw [e, hp] at h3
  cases h3⟩
end Cw
namespace Cw
theorem ite_some {α : Type} {x : α} {A B : Prop} (h : A) : if (some x).isSome = true then A else B := h
theorem ite_none {α : Type} {A B : Prop} (h : B) : if (none : Option α).isSome = true then A else B := by rw [if_neg (by simp)]; exact h
end Cw
namespace Cw
/-- a paper: places in rising order, within the row -/
def PapOk (ns ps : List Int) : Prop := ps.Pairwise (· < ·) ∧ ∀ x ∈ ps, 0 ≤ x ∧ x < (ns.length : Int)
theorem rising_len : ∀ (ps : List Int) (lo hi : Int), ps.Pairwise (· < ·) → (∀ x ∈ ps, lo ≤ x ∧ x < hi) → lo ≤ hi → (ps.length : Int) ≤ hi - lo
  | [], lo, hi, _, _, h => by simp; omega
  | x :: r, lo, hi, h1, h2, h => by
    rw [List.pairwise_cons] at h1
    have hx := h2 x (by simp)
    have := rising_len r (x + 1) hi h1.2 (fun y hy => ⟨by have := h1.1 y hy; omega, (h2 y (List.mem_cons_of_mem _ hy)).2⟩) (by omega)
    rw [List.length_cons]
    omega
theorem PapOk.len {ns ps : List Int} (h : PapOk ns ps) (hl : ns.length ≤ 100) : ps.length ≤ 100 := by
  have := rising_len ps 0 ns.length h.1 h.2 (by omega)
  omega
end Cw
namespace Cw
open PySem L2
def lastL {α : Type} (xs : List α) : List α := xs.drop (xs.length - 1)
theorem lastL_eq {α : Type} (xs : List α) : lastL xs = match xs.getLast? with
    | none => []
    | some b => [b] := by
  unfold lastL
  rcases List.eq_nil_or_concat xs with rfl | ⟨ys, y, rfl⟩
  · rfl
  · rw [List.concat_eq_append, List.getLast?_concat, List.length_append, List.length_singleton, Nat.add_sub_cancel, List.drop_left]
theorem w_slLast {K : PySem.W.Frag} {H : Hp} {Q : VK} {a : Addr} {ns : List Int} (h : SqL K H a (ns.map V.int)) (q : ∀ p, H p = none → Q (.ref p) (upd H p (.lst ((lastL ns).map V.int)))) : rSlL K (.ref a) (some (-1)) none H Q :=
  w_slL h fun p hp => by
    rw [cut_last _ (n := 1) (by decide), List.length_map, ← List.map_drop]
    exact q p hp
/-- the earlier places that ask what place e asks -/
def begL (ns : List Int) (e j : Nat) : List Int := ((List.range j).filter (fun i => decide (ns[i]? = ns[e]?))).map fun i : Nat => (i : Int)
theorem begL_succ (ns : List Int) (e j : Nat) : begL ns e (j + 1) = begL ns e j ++ (if ns[j]? = ns[e]? then [(j : Int)] else []) := by
  unfold begL
  rw [List.range_succ, List.filter_append, List.map_append]
  congr 1
  by_cases h : ns[j]? = ns[e]?
  · rw [if_pos h, List.filter_cons_of_pos (by simpa using h)]; rfl
  · rw [if_neg h, List.filter_cons_of_neg (by simpa using h)]; rfl
theorem begL_len (ns : List Int) (e j : Nat) : (begL ns e j).length ≤ j := by
  unfold begL
  rw [List.length_map]
  have := List.length_filter_le (fun i => decide (ns[i]? = ns[e]?)) (List.range j)
  rwa [List.length_range] at this
theorem begL_last {ns : List Int} {e : Nat} {x : Int} (h : ns[e]? = some x) : lastL (begL ns e e) = match lastAt (ns.take e) x with
    | none => []
    | some b => [(b : Int)] := by
  have hl := (List.getElem?_eq_some_iff.mp h).1
  have e1 : lastAt (ns.take e) x = ((List.range e).filter (fun i => decide (ns[i]? = ns[e]?))).getLast? := by
    unfold lastAt
    rw [List.length_take, Nat.min_eq_left (by omega)]
    congr 1
    refine List.filter_congr fun i hi => ?_
    rw [List.mem_range] at hi
    rw [List.getElem?_take, if_pos hi, h]
  rw [lastL_eq, e1]
  unfold begL
  rw [List.getLast?_map]
  cases ((List.range e).filter (fun i => decide (ns[i]? = ns[e]?))).getLast? <;> rfl
theorem spellAt_eq {ns : List Int} {e : Nat} {x : Int} (h : ns[e]? = some x) : spellAt ns e = (lastL (begL ns e e)).map fun b => (b, (e : Int)) := by
  rw [begL_last h]
  unfold spellAt
  rw [List.getD_eq_getElem?_getD, h]
  show (match lastAt (ns.take e) x with | none => [] | some b => [((b : Int), (e : Int))]) = _
  cases lastAt (ns.take e) x <;> rfl
end Cw
namespace Cw
open PySem L2
theorem PairsAt.append {H H' : Hp} {xs ys : List V} {ps qs : List (Int × Int)} (h : PairsAt H H' xs ps) (h2 : PairsAt H H' ys qs) : PairsAt H H' (xs ++ ys) (ps ++ qs) := ⟨by simp [h.1, h2.1], fun i e he => by
  rcases Nat.lt_or_ge i ps.length with l | l
  · rw [List.getElem?_append_left l] at he
    rw [List.getElem?_append_left (by rw [h.1]; exact l)]
    exact h.2 i e he
  · rw [List.getElem?_append_right l] at he
    rw [List.getElem?_append_right (by rw [h.1]; exact l), h.1]
    exact h2.2 _ e he⟩
/-- places drawn in rising order -/
theorem pap_snoc {ps : List Int} {i : Nat} (h : ps.Pairwise (· < ·)) (hm : ∀ x ∈ ps, 0 ≤ x ∧ x < (i : Int)) : (ps ++ [(i : Int)]).Pairwise (· < ·) ∧ ∀ x ∈ ps ++ [(i : Int)], 0 ≤ x ∧ x < ((i + 1 : Nat) : Int) := by
  constructor
  · rw [List.pairwise_append]
    refine ⟨h, List.pairwise_singleton _ _, fun x hx y hy => ?_⟩
    rw [List.mem_singleton.mp hy]
    exact (hm x hx).2
  · intro x hx
    rcases List.mem_append.mp hx with hx | hx
    · have := hm x hx
      omega
    · rw [List.mem_singleton.mp hx]
      omega
end Cw
namespace Cw
open PySem L2
theorem Box.up {H : Hp} {b q D : Addr} {o : HO} (h : Box H b q) (nD : D ∉ [b, q]) : Box (upd H D o) b q :=
  h.keep (W := [D]) (Fr.at (List.mem_singleton.mpr rfl)) (fun m => nD (by rw [List.mem_singleton.mp m]; simp)) (fun m => nD (by rw [List.mem_singleton.mp m]; simp))
end Cw

namespace Cw
/-! ways of keeping pages; papers bound them from below -/
structure Way (r : Nat) (row : List Int) (S : Nat → List Int) : Prop where
  nd : ∀ i, i ≤ row.length → (S i).Nodup
  le : ∀ i, i ≤ row.length → (S i).length ≤ r
  zero : S 0 = []
  step : ∀ i x, row[i]? = some x → ∀ y ∈ S (i + 1), y = x ∨ y ∈ S i
  has : ∀ i x, row[i]? = some x → x ∈ S (i + 1)
def lackAt (row : List Int) (S : Nat → List Int) (i : Nat) : Bool := decide (row.getD i 0 ∉ S i)
def lackN (row : List Int) (S : Nat → List Int) : Nat := ((List.range row.length).filter (lackAt row S)).length
theorem nodup_len {α : Type} [DecidableEq α] : ∀ {l m : List α}, l.Nodup → (∀ x ∈ l, x ∈ m) → l.length ≤ m.length
  | [], _, _, _ => Nat.zero_le _
  | x :: l, m, h, hs => by
    rw [List.nodup_cons] at h
    have hx := hs x (by simp)
    have := nodup_len (l := l) (m := m.erase x) h.2 fun y hy => (List.mem_erase_of_ne (fun e => h.1 (by rw [← e]; exact hy))).mpr (hs y (List.mem_cons_of_mem _ hy))
    rw [List.length_erase_of_mem hx] at this
    have : 0 < m.length := List.length_pos_iff.mpr (List.ne_nil_of_mem hx)
    rw [List.length_cons]
    omega
theorem lastAt_none {ns : List Int} {x : Int} (h : lastAt ns x = none) : x ∉ ns := by
  intro hm
  obtain ⟨j, hj, he⟩ := List.mem_iff_getElem.mp hm
  unfold lastAt at h
  rw [List.getLast?_eq_none_iff] at h
  have : j ∈ (List.range ns.length).filter fun i => decide (ns[i]? = some x) := by
    rw [List.mem_filter, List.mem_range]
    exact ⟨hj, by rw [List.getElem?_eq_getElem hj, he]; simp⟩
  rw [h] at this
  cases this
theorem lastAt_last : ∀ {ns : List Int} {x : Int} {b : Nat}, lastAt ns x = some b → ∀ j, b < j → ns[j]? ≠ some x := by
  intro ns
  refine list_snoc_ind (P := fun ns => ∀ {x : Int} {b : Nat}, lastAt ns x = some b → ∀ j, b < j → ns[j]? ≠ some x) ?_ ?_ ns
  · intro x b h
    exact absurd h (by simp [lastAt])
  · intro l y ih x b h j hj
    rw [lastAt_snoc] at h
    by_cases hy : y = x
    · rw [if_pos hy] at h
      obtain rfl := Option.some.inj h
      rw [List.getElem?_eq_none (by simp; omega)]
      simp
    · rw [if_neg hy] at h
      rcases Nat.lt_trichotomy j l.length with hl | hl | hl
      · rw [List.getElem?_append_left hl]
        exact ih h j hj
      · subst hl
        simp [hy]
      · rw [List.getElem?_eq_none (by simp; omega)]
        simp
/-- a kept page was asked, and was kept since -/
theorem Way.kept {r : Nat} {row : List Int} {S : Nat → List Int} (w : Way r row S) {x : Int} : ∀ t, t ≤ row.length → x ∈ S t → ∃ b, lastAt (row.take t) x = some b ∧ b < t ∧ ∀ u, b < u → u ≤ t → x ∈ S u := by
  intro t
  induction t with
  | zero => intro _ h; rw [w.zero] at h; cases h
  | succ t ih =>
    intro ht h
    obtain ⟨y, hy⟩ : ∃ y, row[t]? = some y := ⟨row[t], List.getElem?_eq_getElem (by omega)⟩
    rw [take_snoc hy, lastAt_snoc, List.length_take, Nat.min_eq_left (by omega)]
    by_cases e : y = x
    · rw [if_pos e]
      exact ⟨t, rfl, Nat.lt_succ_self _, fun u h1 h2 => by rw [show u = t + 1 by omega]; exact h⟩
    · rw [if_neg e]
      rcases w.step t y hy x h with h2 | h2
      · exact absurd h2.symm e
      · obtain ⟨b, h3, h4, h5⟩ := ih (by omega) h2
        refine ⟨b, h3, by omega, fun u h6 h7 => ?_⟩
        rcases Nat.lt_or_eq_of_le h7 with h8 | h8
        · exact h5 u h6 (by omega)
        · rw [h8]; exact h
/-- the spell that ends at e -/
def spellB (row : List Int) (e : Nat) : Option Nat := lastAt (row.take e) (row.getD e 0)
def freeAt (row ps : List Int) (e : Nat) : Bool := match spellB row e with
  | none => false
  | some b => isFree ps ((b : Int), (e : Int))
theorem free_count (row ps : List Int) : ∀ i, ((spellsTo row i).filter (isFree ps)).length = ((List.range i).filter (freeAt row ps)).length
  | 0 => rfl
  | i + 1 => by
    rw [spellsTo_succ, List.range_succ, List.filter_append, List.filter_append, List.length_append, List.length_append, free_count row ps i]
    congr 1
    unfold spellAt
    show _ = ((List.filter (freeAt row ps) [i]).length)
    have e : freeAt row ps i = match spellB row i with | none => false | some b => isFree ps ((b : Int), (i : Int)) := rfl
    unfold spellB at e
    cases h : lastAt (row.take i) (row.getD i 0) with
    | none =>
      rw [h] at e
      rw [List.filter_cons_of_neg (by rw [e]; simp)]
      rfl
    | some b =>
      rw [h] at e
      have e2 : freeAt row ps i = isFree ps ((b : Int), (i : Int)) := e
      cases hf : isFree ps ((b : Int), (i : Int)) with
      | true => simp [e2, hf]
      | false => simp [e2, hf]
/-- the spell that ends at e stands over y -/
def over (row : List Int) (y : Int) (e : Nat) : Bool := match spellB row e with
  | none => false
  | some b => decide ((b : Int) < y ∧ y < (e : Int))
theorem over_iff {row : List Int} {y : Int} {e : Nat} : over row y e = true ↔ ∃ b, spellB row e = some b ∧ (b : Int) < y ∧ y < (e : Int) := by
  unfold over
  cases spellB row e with
  | none => simp
  | some b => simp
theorem not_free {row ps : List Int} {e b : Nat} (h : spellB row e = some b) : freeAt row ps e = false ↔ ∃ y ∈ ps, over row y e = true := by
  have e1 : freeAt row ps e = isFree ps ((b : Int), (e : Int)) := by unfold freeAt; rw [h]
  rw [e1]
  unfold isFree
  rw [decide_eq_false_iff_not]
  constructor
  · intro hn
    obtain ⟨y, hy⟩ := List.exists_mem_of_ne_nil _ hn
    rw [List.mem_filter] at hy
    exact ⟨y, hy.1, over_iff.mpr ⟨b, h, by simpa using hy.2⟩⟩
  · rintro ⟨y, hy, ho⟩ hn
    obtain ⟨b', hb', h1⟩ := over_iff.mp ho
    rw [h] at hb'
    obtain rfl := Option.some.inj hb'
    have : y ∈ ps.filter (fun p => decide ((b : Int) < p ∧ p < (e : Int))) := List.mem_filter.mpr ⟨hy, by simpa using h1⟩
    have hn' : ps.filter (fun p => decide ((b : Int) < p ∧ p < (e : Int))) = [] := hn
    rw [hn'] at this
    cases this
end Cw
namespace Cw
theorem filter_or_len {α : Type} (l : List α) (p q : α → Bool) : (l.filter fun x => p x || q x).length ≤ (l.filter p).length + (l.filter q).length := by
  induction l with
  | nil => simp
  | cons x l ih =>
    simp only [List.filter_cons]
    cases p x <;> cases q x <;> simp <;> omega
theorem filter_split {α : Type} (l : List α) (p q : α → Bool) : (l.filter p).length = (l.filter fun x => p x && q x).length + (l.filter fun x => p x && !q x).length := by
  induction l with
  | nil => simp
  | cons x l ih =>
    simp only [List.filter_cons]
    cases p x <;> cases q x <;> simp <;> omega
theorem filter_mono_len {α : Type} (l : List α) {p q : α → Bool} (h : ∀ x ∈ l, p x = true → q x = true) : (l.filter p).length ≤ (l.filter q).length := by
  induction l with
  | nil => simp
  | cons x l ih =>
    have ih' := ih fun y hy => h y (List.mem_cons_of_mem _ hy)
    have hx := h x (by simp)
    simp only [List.filter_cons]
    cases hp : p x <;> cases hq : q x <;> simp [hp, hq] at * <;> omega
/-- those over some y of ps are no more than the sum -/
theorem any_count {α β : Type} (l : List α) (P : β → α → Bool) {m : Nat} : ∀ ps : List β, (∀ y ∈ ps, (l.filter (P y)).length ≤ m) → (l.filter fun x => ps.any fun y => P y x).length ≤ m * ps.length
  | [], _ => by simp
  | y :: ps, h => by
    have h1 := h y (by simp)
    have h2 := any_count l P ps fun z hz => h z (List.mem_cons_of_mem _ hz)
    have h3 := filter_or_len l (P y) (fun x => ps.any fun y => P y x)
    simp only [List.any_cons, List.length_cons]
    rw [Nat.mul_add]
    omega
theorem hits_over {r : Nat} {row : List Int} {S : Nat → List Int} (w : Way r row S) (r0 : 0 < r) (y : Int) :
    ((List.range row.length).filter fun e => !lackAt row S e && over row y e).length ≤ r - 1 := by
  by_cases hne : ((List.range row.length).filter fun e => !lackAt row S e && over row y e) = []
  · rw [hne]; exact Nat.zero_le _
  have key : ∀ e ∈ (List.range row.length).filter (fun e => !lackAt row S e && over row y e), e < row.length ∧ row.getD e 0 ∈ S e ∧ ∃ b, spellB row e = some b ∧ (b : Int) < y ∧ y < (e : Int) := by
    intro e he
    rw [List.mem_filter, List.mem_range, Bool.and_eq_true] at he
    refine ⟨he.1, ?_, over_iff.mp he.2.2⟩
    have := he.2.1
    simpa [lackAt] using this
  obtain ⟨e0, he0⟩ := List.exists_mem_of_ne_nil _ hne
  obtain ⟨h1, h2, b0, h3, h4, h5⟩ := key e0 he0
  obtain ⟨t, rfl⟩ : ∃ t : Nat, y = (t : Int) := ⟨y.toNat, by omega⟩
  have htl : t < row.length := by omega
  have hx : row[t]? = some row[t] := List.getElem?_eq_getElem htl
  have hm : (((List.range row.length).filter fun e => !lackAt row S e && over row (t : Int) e).map fun e => row.getD e 0).length ≤ ((S (t + 1)).erase row[t]).length := by
    refine nodup_len ?_ ?_
    · rw [List.Nodup, List.pairwise_map]
      refine List.Pairwise.imp_of_mem (R := fun a b => a < b) ?_ (List.pairwise_lt_range.filter _)
      intro e e' he he' hlt heq
      obtain ⟨k1, k2, b, k3, k4, k5⟩ := key e he
      obtain ⟨k1', k2', b', k3', k4', k5'⟩ := key e' he'
      refine lastAt_last k3' e (by omega) ?_
      rw [List.getElem?_take, if_pos hlt, ← heq, List.getD_eq_getElem?_getD, List.getElem?_eq_getElem k1]
      rfl
    · intro x hxm
      obtain ⟨e, he, rfl⟩ := List.mem_map.mp hxm
      obtain ⟨k1, k2, b, k3, k4, k5⟩ := key e he
      obtain ⟨b', k6, k7, k8⟩ := w.kept e (by omega) k2
      have : b' = b := by
        unfold spellB at k3
        rw [k6] at k3
        exact Option.some.inj k3
      subst this
      have hin := k8 (t + 1) (by omega) (by omega)
      refine (List.mem_erase_of_ne fun heq => ?_).mpr hin
      refine lastAt_last k6 t (by omega) ?_
      rw [List.getElem?_take, if_pos (by omega), hx, heq]
  rw [List.length_map] at hm
  rw [List.length_erase_of_mem (w.has t _ hx)] at hm
  have := w.le (t + 1) (by omega)
  omega
theorem lack_hit (row : List Int) (S : Nat → List Int) : lackN row S + ((List.range row.length).filter fun e => !lackAt row S e).length = row.length := by
  have := filter_split (List.range row.length) (fun _ => true) (lackAt row S)
  have e : (List.range row.length).filter (fun _ => true) = List.range row.length := List.filter_eq_self.mpr (by simp)
  rw [e, List.length_range] at this
  simp only [Bool.true_and] at this
  show ((List.range row.length).filter fun x => lackAt row S x).length + _ = _
  omega
/-- no paper shows more than a way lacks -/
theorem weak {r : Nat} {row : List Int} {S : Nat → List Int} (w : Way r row S) (r0 : 0 < r) (ps : List Int) : shownM (r : Int) row ps ≤ (lackN row S : Int) := by
  have h1 := lack_hit row S
  have h2 := filter_split (List.range row.length) (fun e => !lackAt row S e) (freeAt row ps)
  have h3 : ((List.range row.length).filter fun e => !lackAt row S e && freeAt row ps e).length ≤ ((List.range row.length).filter (freeAt row ps)).length :=
    filter_mono_len _ fun e _ h => by rw [Bool.and_eq_true] at h; exact h.2
  have h4 : ((List.range row.length).filter fun e => !lackAt row S e && !freeAt row ps e).length ≤ (r - 1) * ps.length := by
    refine Nat.le_trans ?_ (any_count (List.range row.length) (fun y e => !lackAt row S e && over row y e) ps fun y _ => hits_over w r0 y)
    refine filter_mono_len _ fun e he h => ?_
    rw [List.mem_range] at he
    rw [Bool.and_eq_true] at h
    have hk : row.getD e 0 ∈ S e := by simpa [lackAt] using h.1
    obtain ⟨b, k1, _, _⟩ := w.kept e (by omega) hk
    obtain ⟨y, hy, ho⟩ := (not_free (ps := ps) (e := e) k1).mp (by simpa using h.2)
    exact List.any_eq_true.mpr ⟨y, hy, by rw [Bool.and_eq_true]; exact ⟨h.1, ho⟩⟩
  have h5 := free_count row ps row.length
  have e1 : ((r : Int) - 1) * (ps.length : Int) = (((r - 1) * ps.length : Nat) : Int) := by
    rw [Int.natCast_mul, Int.ofNat_sub r0]
    rfl
  unfold shownM spellsM
  rw [e1, h5]
  omega
end Cw
namespace Cw
/-! the best one is a way -/
def bestK (r : Nat) (row : List Int) (i : Nat) : List Int := (bst r row (row.take i)).kept
theorem bst_n {r : Nat} (r0 : 0 < r) {row : List Int} {i : Nat} (hi : i ≤ row.length) : (bst r row (row.take i)).n = i := by
  rw [(bst_ok r0 row (row.take i)).n, List.length_take, Nat.min_eq_left hi]
theorem bestK_succ {r : Nat} (r0 : 0 < r) {row : List Int} {i : Nat} {x : Int} (hx : row[i]? = some x) :
    bestK r row (i + 1) = if x ∈ bestK r row i then bestK r row i else if (bestK r row i).length = r then (bestK r row i).erase (far (row.drop i) (bestK r row i)) ++ [x] else bestK r row i ++ [x] := by
  have hl := (List.getElem?_eq_some_iff.mp hx).1
  have hn := bst_n r0 (row := row) (i := i) (by omega)
  unfold bestK
  rw [take_snoc hx, bst_snoc]
  unfold bstep
  rw [hn]
  split
  · rfl
  · split <;> rfl
theorem best_way {r : Nat} (r0 : 0 < r) (row : List Int) : Way r row (bestK r row) where
  nd i _ := (bst_ok r0 row (row.take i)).nd
  le i _ := (bst_ok r0 row (row.take i)).le
  zero := rfl
  step i x hx y hy := by
    rw [bestK_succ r0 hx] at hy
    split at hy
    · exact .inr hy
    · split at hy
      · rcases List.mem_append.mp hy with h | h
        · exact .inr (List.mem_of_mem_erase h)
        · exact .inl (List.mem_singleton.mp h)
      · rcases List.mem_append.mp hy with h | h
        · exact .inr h
        · exact .inl (List.mem_singleton.mp h)
  has i x hx := by
    rw [bestK_succ r0 hx]
    split
    · assumption
    · split <;> simp
theorem best_lacks {r : Nat} (r0 : 0 < r) (row : List Int) : ∀ i, i ≤ row.length → (bst r row (row.take i)).lacks = ((List.range i).filter (lackAt row (bestK r row))).map fun j : Nat => (j : Int)
  | 0, _ => rfl
  | i + 1, hi => by
    obtain ⟨x, hx⟩ : ∃ x, row[i]? = some x := ⟨row[i], List.getElem?_eq_getElem (by omega)⟩
    have ih := best_lacks r0 row i (by omega)
    have hn := bst_n r0 (row := row) (i := i) (by omega)
    have hg : row.getD i 0 = x := by rw [List.getD_eq_getElem?_getD, hx]; rfl
    rw [take_snoc hx, bst_snoc, List.range_succ, List.filter_append, List.map_append, ← ih]
    unfold bstep
    rw [hn]
    by_cases hm : x ∈ (bst r row (row.take i)).kept
    · rw [if_pos hm]
      have e : lackAt row (bestK r row) i = false := by unfold lackAt; rw [hg]; exact decide_eq_false fun h => h hm
      rw [List.filter_cons_of_neg (by simp [e])]
      simp
    · rw [if_neg hm]
      have e : lackAt row (bestK r row) i = true := by unfold lackAt; rw [hg]; exact decide_eq_true hm
      rw [List.filter_cons_of_pos e]
      split <;> rfl
def bestN (r : Nat) (row : List Int) : Nat := (bst r row row).lacks.length
theorem bestN_eq {r : Nat} (r0 : 0 < r) (row : List Int) : bestN r row = lackN row (bestK r row) := by
  have h := best_lacks r0 row row.length (Nat.le_refl _)
  rw [List.take_length] at h
  unfold bestN lackN
  rw [h, List.length_map]
/-! the best one's drops -/
def endOf (row : List Int) (p : Nat) (x : Int) : Nat := p + (row.drop p).idxOf x
structure Drop (r : Nat) (row : List Int) (p : Nat) : Prop where
  lt : p < row.length
  lack : row.getD p 0 ∉ bestK r row p
  full : (bestK r row p).length = r
  back : endOf row p (far (row.drop p) (bestK r row p)) < row.length
abbrev gone (r : Nat) (row : List Int) (p : Nat) : Int := far (row.drop p) (bestK r row p)
abbrev dropE (r : Nat) (row : List Int) (p : Nat) : Nat := endOf row p (gone r row p)
theorem endOf_at {row : List Int} {p : Nat} {x : Int} (h : endOf row p x < row.length) : row[endOf row p x]? = some x := by
  unfold endOf at h ⊢
  have hl : (row.drop p).idxOf x < (row.drop p).length := by rw [List.length_drop]; omega
  rw [← List.getElem?_drop, List.getElem?_eq_getElem hl]
  simp
theorem endOf_before {row : List Int} {p j : Nat} {x : Int} (h1 : p ≤ j) (h2 : j < endOf row p x) : row[j]? ≠ some x := by
  unfold endOf at h2
  intro e
  obtain ⟨k, rfl⟩ : ∃ k, j = p + k := ⟨j - p, by omega⟩
  rw [← List.getElem?_drop] at e
  have hk : k < (row.drop p).idxOf x := by omega
  have z := List.not_of_lt_findIdx (p := (· == x)) (xs := row.drop p) (i := k) hk
  rw [List.getElem?_eq_some_iff] at e
  obtain ⟨_, e⟩ := e
  simp [e] at z
theorem endOf_uniq {row : List Int} {p e : Nat} {x : Int} (h1 : p ≤ e) (h2 : row[e]? = some x) (h3 : ∀ j, p ≤ j → j < e → row[j]? ≠ some x) : endOf row p x = e := by
  have hel := (List.getElem?_eq_some_iff.mp h2).1
  rcases Nat.lt_trichotomy (endOf row p x) e with h | h | h
  · exact absurd (endOf_at (by omega)) (h3 _ (by unfold endOf; omega) h)
  · exact h
  · exact absurd h2 (endOf_before h1 h)
theorem far_end {r : Nat} {row : List Int} {p : Nat} {x : Int} (hx : x ∈ bestK r row p) : endOf row p x ≤ dropE r row p := by
  have := (far_spec (row.drop p) (kept := bestK r row p) (List.ne_nil_of_mem hx)).2 x hx
  unfold dropE endOf gone
  omega
theorem drop_gt {r : Nat} (r0 : 0 < r) {row : List Int} {p : Nat} (d : Drop r row p) : p < dropE r row p := by
  have hne : bestK r row p ≠ [] := fun e => by have := d.full; rw [e] at this; simp at this; omega
  have hf := (far_spec (row.drop p) hne).1
  refine Nat.lt_of_not_le fun h => ?_
  have e : dropE r row p = p := by
    have : p ≤ dropE r row p := by unfold dropE endOf; omega
    omega
  have h2 := endOf_at d.back
  rw [show endOf row p (far (row.drop p) (bestK r row p)) = p from e] at h2
  refine d.lack ?_
  rw [List.getD_eq_getElem?_getD, h2]
  exact hf
end Cw
namespace Cw
theorem ex_max (P : Nat → Prop) : ∀ n, (∃ p, p < n ∧ P p) → ∃ p, p < n ∧ P p ∧ ∀ q, q < n → P q → q ≤ p
  | 0, ⟨p, h, _⟩ => by omega
  | n + 1, h => by
    by_cases hn : P n
    · exact ⟨n, Nat.lt_succ_self _, hn, fun q hq _ => by omega⟩
    · obtain ⟨p, h1, h2⟩ := h
      have hpn : p ≠ n := fun e => hn (by rw [← e]; exact h2)
      obtain ⟨p', h3, h4, h5⟩ := ex_max P n ⟨p, by omega, h2⟩
      refine ⟨p', by omega, h4, fun q hq hP => h5 q ?_ hP⟩
      have : q ≠ n := fun e => hn (by rw [← e]; exact hP)
      omega
/-- the paper's places, from behind -/
theorem chain_ex {r : Nat} (r0 : 0 < r) (row : List Int) : ∀ B : Nat, ∃ Y : List Nat, Y.Pairwise (fun y' y => y' < y ∧ dropE r row y' ≤ y) ∧ (∀ y ∈ Y, Drop r row y ∧ dropE r row y ≤ B ∧ ∀ p, Drop r row p → y < p → dropE r row y < dropE r row p) ∧
    ∀ p, Drop r row p → dropE r row p ≤ B → ∃ y ∈ Y, p ≤ y ∧ y < dropE r row p := by
  intro B
  induction B using Nat.strongRecOn with
  | _ B ih =>
    by_cases hex : ∃ p, p < row.length ∧ (Drop r row p ∧ dropE r row p ≤ B)
    · obtain ⟨P, hP1, ⟨hP2, hP3⟩, hP4⟩ := ex_max (fun p => Drop r row p ∧ dropE r row p ≤ B) row.length hex
      have hlt := drop_gt r0 hP2
      obtain ⟨Y, hY1, hY2, hY3⟩ := ih P (by omega)
      refine ⟨Y ++ [P], ?_, ?_, ?_⟩
      · rw [List.pairwise_append]
        refine ⟨hY1, List.pairwise_singleton _ _, fun y hy z hz => ?_⟩
        rw [List.mem_singleton.mp hz]
        have h1 := hY2 y hy
        have := drop_gt r0 h1.1
        exact ⟨by omega, h1.2.1⟩
      · intro y hy
        rcases List.mem_append.mp hy with hy | hy
        · obtain ⟨h1, h2, h3⟩ := hY2 y hy
          exact ⟨h1, by omega, h3⟩
        · rw [List.mem_singleton.mp hy]
          refine ⟨hP2, hP3, fun p hp hlp => ?_⟩
          refine Nat.lt_of_not_le fun hle => ?_
          have := hP4 p hp.lt ⟨hp, by omega⟩
          omega
      · intro p hp hpB
        have hpP := hP4 p hp.lt ⟨hp, hpB⟩
        by_cases h : P < dropE r row p
        · exact ⟨P, by simp, hpP, h⟩
        · obtain ⟨y, hy, h1, h2⟩ := hY3 p hp (by omega)
          exact ⟨y, List.mem_append_left _ hy, h1, h2⟩
    · exact ⟨[], List.Pairwise.nil, (fun y hy => absurd hy (by simp)), (fun p hp hpB => absurd ⟨p, hp.lt, hp, hpB⟩ hex)⟩
end Cw
namespace Cw
theorem disjoint_count {α β : Type} (l : List α) (P : β → α → Bool) {m : Nat} : ∀ Y : List β, (∀ y ∈ Y, m ≤ (l.filter (P y)).length) → Y.Pairwise (fun a b => ∀ e ∈ l, P a e = true → P b e = true → False) → m * Y.length ≤ (l.filter fun x => Y.any fun y => P y x).length
  | [], _, _ => by simp
  | y :: Y, h, hd => by
    rw [List.pairwise_cons] at hd
    have h1 := h y (by simp)
    have h2 := disjoint_count l P Y (fun z hz => h z (List.mem_cons_of_mem _ hz)) hd.2
    have h3 := filter_split l (fun x => (y :: Y).any fun y => P y x) (P y)
    have h4 : (l.filter (P y)).length ≤ (l.filter fun x => ((y :: Y).any fun y => P y x) && P y x).length := filter_mono_len l fun x _ hx => by simp [hx]
    have h5 : (l.filter fun x => Y.any fun y => P y x).length ≤ (l.filter fun x => ((y :: Y).any fun y => P y x) && !P y x).length := filter_mono_len l fun x hxl hx => by
      obtain ⟨z, hz, hzx⟩ := List.any_eq_true.mp hx
      have hy : P y x = false := by
        cases hp : P y x with
        | false => rfl
        | true => exact (hd.1 z hz x hxl hp hzx).elim
      rw [List.any_cons, hx, hy]
      rfl
    rw [List.length_cons, Nat.mul_add]
    omega
theorem gone_of {r : Nat} (r0 : 0 < r) {row : List Int} {p : Nat} {x : Int} (hp : p < row.length) (h1 : x ∈ bestK r row p) (h2 : x ∉ bestK r row (p + 1)) : row.getD p 0 ∉ bestK r row p ∧ (bestK r row p).length = r ∧ x = gone r row p := by
  have hx : row[p]? = some row[p] := List.getElem?_eq_getElem hp
  have hg : row.getD p 0 = row[p] := by rw [List.getD_eq_getElem?_getD, hx]; rfl
  rw [bestK_succ r0 hx] at h2
  rw [hg]
  by_cases c1 : row[p] ∈ bestK r row p
  · rw [if_pos c1] at h2
    exact absurd h1 h2
  · rw [if_neg c1] at h2
    by_cases c2 : (bestK r row p).length = r
    · rw [if_pos c2] at h2
      refine ⟨c1, c2, Classical.byContradiction fun hne => h2 (List.mem_append_left _ ((List.mem_erase_of_ne hne).mpr h1))⟩
    · rw [if_neg c2] at h2
      exact absurd (List.mem_append_left _ h1) h2
/-- kept here, not kept there: between it went -/
theorem went {P : Nat → Prop} {i j : Nat} (h : i ≤ j) (h1 : P i) (h2 : ¬ P j) : ∃ p, i ≤ p ∧ p < j ∧ P p ∧ ¬ P (p + 1) := by
  induction j with
  | zero => exact absurd (by rw [show i = 0 by omega] at h1; exact h1) h2
  | succ j ih =>
    by_cases hj : P j
    · have : i ≠ j + 1 := fun e => h2 (by rw [← e]; exact h1)
      exact ⟨j, by omega, Nat.lt_succ_self _, hj, h2⟩
    · have : i ≠ j + 1 := fun e => h2 (by rw [← e]; exact h1)
      obtain ⟨p, a, b, c, d⟩ := ih (by omega) hj
      exact ⟨p, a, by omega, c, d⟩
theorem spell_ends {row : List Int} {b e p : Nat} {x : Int} (he : row[e]? = some x) (hb : lastAt (row.take e) x = some b) (h1 : b < p) (h2 : p ≤ e) : endOf row p x = e :=
  endOf_uniq h2 he fun j h3 h4 hj => lastAt_last hb j (by omega) (by rw [List.getElem?_take, if_pos h4]; exact hj)
theorem strong {r : Nat} (r0 : 0 < r) (row : List Int) : ∃ ps : List Int, PapOk row ps ∧ (∀ x ∈ ps, 1 ≤ x) ∧ (bestN r row : Int) ≤ shownM (r : Int) row ps := by
  obtain ⟨Y, hY1, hY2, hY3⟩ := chain_ex r0 row (row.length - 1)
  have w := best_way r0 row
  refine ⟨Y.map fun y : Nat => (y : Int), ⟨?_, ?_⟩, ?_, ?_⟩
  · rw [List.pairwise_map]
    exact hY1.imp fun h => by have := h.1; omega
  · intro x hx
    obtain ⟨y, hy, rfl⟩ := List.mem_map.mp hx
    have := (hY2 y hy).1.lt
    omega
  · intro x hx
    obtain ⟨y, hy, rfl⟩ := List.mem_map.mp hx
    have hf := (hY2 y hy).1.full
    by_cases h0 : y = 0
    · subst h0
      rw [show bestK r row 0 = [] from rfl] at hf
      simp at hf
      omega
    · omega
  -- free ones are hit
  have ha : ∀ e ∈ List.range row.length, freeAt row (Y.map fun y : Nat => (y : Int)) e = true → (!lackAt row (bestK r row) e && freeAt row (Y.map fun y : Nat => (y : Int)) e) = true := by
    intro e he hf
    rw [List.mem_range] at he
    rw [hf, Bool.and_true]
    cases hl : lackAt row (bestK r row) e with
    | false => rfl
    | true =>
      exfalso
      have hex : row[e]? = some (row.getD e 0) := by rw [List.getD_eq_getElem?_getD, List.getElem?_eq_getElem he]; rfl
      generalize hx : row.getD e 0 = x at hex
      have hl' : x ∉ bestK r row e := by unfold lackAt at hl; rw [hx] at hl; exact of_decide_eq_true hl
      cases hb : spellB row e with
      | none => unfold freeAt at hf; rw [hb] at hf; cases hf
      | some b =>
        have hb' : lastAt (row.take e) x = some b := by unfold spellB at hb; rw [hx] at hb; exact hb
        have hbl := lastAt_lt hb'
        rw [List.length_take] at hbl
        have hbx : row[b]? = some x := by
          have := hbl.2
          rw [List.getElem?_take] at this
          split at this
          · exact this
          · cases this
        obtain ⟨p, p1, p2, p3, p4⟩ := went (P := fun i => x ∈ bestK r row i) (i := b + 1) (j := e) (by omega) (w.has b x hbx) hl'
        obtain ⟨q1, q2, q3⟩ := gone_of r0 (by omega) p3 p4
        have hend : dropE r row p = e := by
          unfold dropE
          rw [← q3]
          exact spell_ends hex hb' (by omega) (by omega)
        have hd : Drop r row p := ⟨by omega, q1, q2, by rw [show endOf row p (far (row.drop p) (bestK r row p)) = e from hend]; exact he⟩
        obtain ⟨y, hy, y1, y2⟩ := hY3 p hd (by omega)
        rw [hend] at y2
        have hnf := (not_free (ps := Y.map fun y : Nat => (y : Int)) hb).mpr ⟨(y : Int), List.mem_map.mpr ⟨y, hy, rfl⟩, over_iff.mpr ⟨b, hb, by omega, by omega⟩⟩
        rw [hf] at hnf
        cases hnf
  -- over each place stand r - 1 hit ones
  have hb : ∀ y ∈ Y, r - 1 ≤ ((List.range row.length).filter fun e => !lackAt row (bestK r row) e && over row (y : Int) e).length := by
    intro y hy
    obtain ⟨hd, hB, hmax⟩ := hY2 y hy
    have hdl : dropE r row y < row.length := hd.back
    have hne : bestK r row y ≠ [] := fun e => by have := hd.full; rw [e] at this; simp at this; omega
    have hgm := (far_spec (row.drop y) hne).1
    have hnd := w.nd y (by have := hd.lt; omega)
    have key : ∀ x ∈ (bestK r row y).erase (gone r row y), endOf row y x < row.length ∧ endOf row y x ∈ (List.range row.length).filter fun e => !lackAt row (bestK r row) e && over row (y : Int) e := by
      intro x hx
      rw [hnd.mem_erase_iff] at hx
      have hle := far_end hx.2
      have hel : endOf row y x < row.length := by omega
      have hat := endOf_at hel
      have hye : y ≤ endOf row y x := by unfold endOf; omega
      generalize he : endOf row y x = e at *
      have hgd : row.getD e 0 = x := by rw [List.getD_eq_getElem?_getD, hat]; rfl
      have hhit : x ∈ bestK r row e := by
        refine Classical.byContradiction fun hn => ?_
        obtain ⟨p, p1, p2, p3, p4⟩ := went (P := fun i => x ∈ bestK r row i) hye hx.2 hn
        obtain ⟨q1, q2, q3⟩ := gone_of r0 (by omega) p3 p4
        by_cases hpy : p = y
        · subst hpy
          exact hx.1 q3
        · have hend : dropE r row p = e := by
            unfold dropE
            rw [← q3]
            exact endOf_uniq (by omega) hat fun j h3 h4 => endOf_before (p := y) (by omega) (by rw [he]; exact h4)
          have hdp : Drop r row p := ⟨by omega, q1, q2, by rw [show endOf row p (far (row.drop p) (bestK r row p)) = e from hend]; exact hel⟩
          have := hmax p hdp (by omega)
          omega
      refine ⟨hel, ?_⟩
      rw [List.mem_filter, List.mem_range, Bool.and_eq_true]
      obtain ⟨b, b1, b2, b3⟩ := w.kept e (by omega) hhit
      have hbl := lastAt_lt b1
      rw [List.length_take] at hbl
      have hbx : row[b]? = some x := by
        have := hbl.2
        rw [List.getElem?_take, if_pos (by omega)] at this
        exact this
      have hby : b < y := Nat.lt_of_not_le fun h => endOf_before (p := y) (x := x) h (by rw [he]; omega) hbx
      have hyne : y ≠ e := by
        intro h
        refine hd.lack ?_
        rw [h, hgd]
        exact hhit
      refine ⟨hel, ?_, over_iff.mpr ⟨b, by unfold spellB; rw [hgd]; exact b1, by omega, by omega⟩⟩
      unfold lackAt
      rw [hgd]
      simpa using hhit
    have hlen : (((bestK r row y).erase (gone r row y)).map (endOf row y)).length ≤ ((List.range row.length).filter fun e => !lackAt row (bestK r row) e && over row (y : Int) e).length := by
      refine nodup_len ?_ fun e he => ?_
      · rw [List.Nodup, List.pairwise_map]
        refine List.Pairwise.imp_of_mem ?_ (hnd.erase _)
        intro x x' hx hx' hne heq
        have a1 := endOf_at (key x hx).1
        have a2 := endOf_at (key x' hx').1
        rw [heq, a2] at a1
        exact hne (Option.some.inj a1).symm
      · obtain ⟨x, hx, rfl⟩ := List.mem_map.mp he
        exact (key x hx).2
    rw [List.length_map, List.length_erase_of_mem hgm, hd.full] at hlen
    exact hlen
  -- no hit one stands over two places
  have hc : Y.Pairwise (fun (a b : Nat) => ∀ e ∈ List.range row.length, (!lackAt row (bestK r row) e && over row (a : Int) e) = true → (!lackAt row (bestK r row) e && over row (b : Int) e) = true → False) := by
    refine hY1.imp fun {y' y} h e he h1 h2 => ?_
    rw [List.mem_range] at he
    rw [Bool.and_eq_true] at h1 h2
    obtain ⟨b, b1, b2, b3⟩ := over_iff.mp h1.2
    obtain ⟨b', b1', b2', b3'⟩ := over_iff.mp h2.2
    have hhit : row.getD e 0 ∈ bestK r row e := by simpa [lackAt] using h1.1
    have hex : row[e]? = some (row.getD e 0) := by rw [List.getD_eq_getElem?_getD, List.getElem?_eq_getElem he]; rfl
    obtain ⟨c, c1, c2, c3⟩ := w.kept e (by omega) hhit
    have hbc : b = c := by
      unfold spellB at b1
      rw [c1] at b1
      exact (Option.some.inj b1).symm
    subst hbc
    have hin := c3 y' (by omega) (by omega)
    have hend := spell_ends hex c1 (p := y') (by omega) (by omega)
    have := far_end hin
    rw [hend] at this
    omega
  have h1 := lack_hit row (bestK r row)
  have h2 := filter_split (List.range row.length) (fun e => !lackAt row (bestK r row) e) (freeAt row (Y.map fun y : Nat => (y : Int)))
  have h3 := filter_mono_len (List.range row.length) ha
  have h4 := disjoint_count (List.range row.length) (fun (y : Nat) e => !lackAt row (bestK r row) e && over row (y : Int) e) Y hb hc
  have h5 : ((List.range row.length).filter fun x => Y.any fun y => !lackAt row (bestK r row) x && over row (y : Int) x).length ≤ ((List.range row.length).filter fun e => !lackAt row (bestK r row) e && !freeAt row (Y.map fun y : Nat => (y : Int)) e).length := by
    refine filter_mono_len _ fun e he h => ?_
    obtain ⟨y, hy, ho⟩ := List.any_eq_true.mp h
    rw [Bool.and_eq_true] at ho
    rw [Bool.and_eq_true]
    obtain ⟨b, b1, _, _⟩ := over_iff.mp ho.2
    have := (not_free (ps := Y.map fun y : Nat => (y : Int)) b1).mpr ⟨(y : Int), List.mem_map.mpr ⟨y, hy, rfl⟩, ho.2⟩
    exact ⟨ho.1, by rw [this]; rfl⟩
  have h6 := free_count row (Y.map fun y : Nat => (y : Int)) row.length
  have e1 : ((r : Int) - 1) * ((Y.map fun y : Nat => (y : Int)).length : Int) = (((r - 1) * Y.length : Nat) : Int) := by
    rw [List.length_map, Int.natCast_mul, Int.ofNat_sub r0]
    rfl
  rw [bestN_eq r0]
  unfold shownM spellsM
  rw [e1, h6]
  omega
/-- no way lacks more seldom than the best one -/
theorem best_least {r : Nat} (r0 : 0 < r) {row : List Int} {S : Nat → List Int} (w : Way r row S) : bestN r row ≤ lackN row S := by
  obtain ⟨ps, _, _, h⟩ := strong r0 row
  have := weak w r0 ps
  omega
theorem shown_le {r : Nat} (r0 : 0 < r) (row ps : List Int) : shownM (r : Int) row ps ≤ (bestN r row : Int) := by
  rw [bestN_eq r0]
  exact weak (best_way r0 row) r0 ps
/-- a room more -/
theorem best_more {r : Nat} (r0 : 0 < r) (row : List Int) : bestN (r + 1) row ≤ bestN r row := by
  rw [bestN_eq r0]
  have w := best_way r0 row
  exact best_least (Nat.succ_pos r) ⟨w.nd, fun i h => Nat.le_succ_of_le (w.le i h), w.zero, w.step, w.has⟩
end Cw
namespace Cw
open PySem
/-! the rules are ways -/
def keepW (n : Nat) (u : Bool) (row : List Int) (i : Nat) : List Int := keepEnd n u [] (row.take i)
def dialW (n : Nat) (row : List Int) (i : Nat) : List Int := (endAll (Dl.new n) (row.take i)).here.filterMap id
def ruleW (n : Nat) (z : Str) (row : List Int) : Nat → List Int := if z = Str.ofString "hand" then dialW n row else keepW n (decide (z = Str.ofString "unseen")) row
theorem keepEnd_snoc (n : Nat) (u : Bool) (k l : List Int) (x : Int) : keepEnd n u k (l ++ [x]) = keepS n u (keepEnd n u k l) x := by rw [keepEnd_app]; rfl
theorem keepW_way {n : Nat} (n0 : 0 < n) (u : Bool) (row : List Int) : Way n row (keepW n u row) where
  nd i _ := (keepEnd_ok n0 u [] (row.take i) ⟨List.nodup_nil, Nat.zero_le _⟩).nd
  le i _ := (keepEnd_ok n0 u [] (row.take i) ⟨List.nodup_nil, Nat.zero_le _⟩).le
  zero := rfl
  step i x hx y hy := by
    unfold keepW at hy ⊢
    rw [take_snoc hx, keepEnd_snoc] at hy
    generalize keepEnd n u [] (row.take i) = k at *
    unfold keepS at hy
    split at hy
    · split at hy
      · rcases List.mem_append.mp hy with h | h
        · exact .inr (List.mem_of_mem_erase h)
        · exact .inl (List.mem_singleton.mp h)
      · exact .inr hy
    · rcases List.mem_append.mp hy with h | h
      · exact .inr (List.mem_of_mem_drop h)
      · exact .inl (List.mem_singleton.mp h)
  has i x hx := by
    unfold keepW
    rw [take_snoc hx, keepEnd_snoc]
    generalize keepEnd n u [] (row.take i) = k at *
    unfold keepS
    split
    · split
      · simp
      · assumption
    · simp
theorem mem_dial {hs : List (Option Int)} {x : Int} : x ∈ hs.filterMap id ↔ some x ∈ hs := by simp
theorem endAll_snoc (d : Dl) (l : List Int) (x : Int) : endAll d (l ++ [x]) = ((endAll d l).ask x).1 := by rw [endAll_app]; rfl
theorem set_nodup : ∀ (hs : List (Option Int)) (j : Nat) (x : Int), (hs.filterMap id).Nodup → some x ∉ hs → ((hs.set j (some x)).filterMap id).Nodup
  | [], j, x, h, hx => by simp
  | o :: hs, 0, x, h, hx => by
    rw [List.set_cons_zero, List.filterMap_cons]
    show (x :: hs.filterMap id).Nodup
    rw [List.nodup_cons]
    refine ⟨fun h2 => hx (List.mem_cons_of_mem _ (mem_dial.mp h2)), ?_⟩
    rw [List.filterMap_cons] at h
    cases o with
    | none => exact h
    | some y => exact (List.nodup_cons.mp h).2
  | o :: hs, j + 1, x, h, hx => by
    rw [List.set_cons_succ, List.filterMap_cons]
    have hx' : some x ∉ hs := fun h2 => hx (List.mem_cons_of_mem _ h2)
    rw [List.filterMap_cons] at h
    cases o with
    | none => exact set_nodup hs j x h hx'
    | some y =>
      have h' := List.nodup_cons.mp h
      show (y :: (hs.set j (some x)).filterMap id).Nodup
      rw [List.nodup_cons]
      refine ⟨fun h2 => ?_, set_nodup hs j x h'.2 hx'⟩
      rcases List.mem_or_eq_of_mem_set (mem_dial.mp h2) with h3 | h3
      · exact h'.1 (mem_dial.mpr h3)
      · have : y = x := Option.some.inj h3
        subst this
        exact hx (by simp)
theorem ask_here (d : Dl) (x : Int) : (d.ask x).1.here = if some x ∈ d.here then d.here else d.here.set d.spin.2.1 (some x) := by
  unfold Dl.ask
  split <;> rfl
theorem dialW_way {n : Nat} (n0 : 0 < n) (n8 : n ≤ 8) (row : List Int) : Way n row (dialW n row) := by
  have wf : ∀ i, (endAll (Dl.new n) (row.take i)).Wf n := fun i => endAll_wf _ _ (Dl.Wf.new n0 n8)
  refine ⟨fun i => ?_, fun i _ => ?_, ?_, fun i x hx y hy => ?_, fun i x hx => ?_⟩
  · induction i with
    | zero =>
      intro _
      have e : dialW n row 0 = [] := by unfold dialW; simp [endAll, Dl.new]
      rw [e]
      exact List.nodup_nil
    | succ i ih =>
      intro hi
      obtain ⟨x, hx⟩ : ∃ x, row[i]? = some x := ⟨row[i], List.getElem?_eq_getElem (by omega)⟩
      have ih := ih (by omega)
      unfold dialW at ih ⊢
      rw [take_snoc hx, endAll_snoc, ask_here]
      split
      · exact ih
      · exact set_nodup _ _ _ ih ‹_›
  · unfold dialW
    have := (wf i).hl
    exact Nat.le_trans (List.length_filterMap_le _ _) (by omega)
  · unfold dialW
    simp [endAll, Dl.new]
  · unfold dialW at hy ⊢
    rw [take_snoc hx, endAll_snoc, ask_here] at hy
    rw [mem_dial] at hy ⊢
    split at hy
    · exact .inr hy
    · rcases List.mem_or_eq_of_mem_set hy with h | h
      · exact .inr h
      · exact .inl (Option.some.inj h)
  · unfold dialW
    rw [take_snoc hx, endAll_snoc, ask_here, mem_dial]
    split
    · assumption
    · have w := wf i
      have hs := (spin_facts n0 _ (endAll (Dl.new n) (row.take i)).seen (endAll (Dl.new n) (row.take i)).hand (Nat.le_refl _) w.sl w.hd).2.1
      have hlt : (endAll (Dl.new n) (row.take i)).spin.2.1 < (endAll (Dl.new n) (row.take i)).here.length := by
        rw [w.hl]
        show (Cw.spin _ _ _ _).2.1 < n
        rw [w.hl]
        exact hs
      exact List.mem_iff_getElem.mpr ⟨_, by rw [List.length_set]; exact hlt, List.getElem_set_self _⟩
theorem ruleW_way {n : Nat} (n0 : 0 < n) (n8 : n ≤ 8) (z : Str) (row : List Int) : Way n row (ruleW n z row) := by
  unfold ruleW
  split
  · exact dialW_way n0 n8 row
  · exact keepW_way n0 _ row
theorem lackB_take (n : Nat) (z : Str) (row : List Int) : ∀ i, i ≤ row.length → lackB n z (row.take i) = (List.range i).map (lackAt row (ruleW n z row))
  | 0, _ => by
    unfold lackB
    split <;> simp [askAll, keepAll]
  | i + 1, hi => by
    obtain ⟨x, hx⟩ : ∃ x, row[i]? = some x := ⟨row[i], List.getElem?_eq_getElem (by omega)⟩
    have hg : row.getD i 0 = x := by rw [List.getD_eq_getElem?_getD, hx]; rfl
    rw [List.range_succ, List.map_append, ← lackB_take n z row i (by omega), take_snoc hx]
    unfold lackB ruleW lackAt
    rw [List.map_cons, List.map_nil, hg]
    by_cases hz : z = Str.ofString "hand"
    · rw [if_pos hz, if_pos hz, if_pos hz, askAll_app, List.map_append]
      congr 1
      show [((endAll (Dl.new n) (row.take i)).ask x).2.lack] = _
      unfold dialW Dl.ask
      split
      · rename_i h; rw [decide_eq_false (fun h2 => h2 (mem_dial.mpr h))]
      · rename_i h
        show [true] = _
        have hn : ¬ x ∈ (endAll (Dl.new n) (row.take i)).here.filterMap id := fun h2 => h (mem_dial.mp h2)
        rw [decide_eq_true hn]
    · rw [if_neg hz, if_neg hz, if_neg hz, keepAll_app]
      rfl
theorem placesFrom_cnt : ∀ (i : Nat) (bs : List Bool), (placesFrom i bs).length = (bs.filter id).length
  | _, [] => rfl
  | i, b :: bs => by
    have := placesFrom_cnt (i + 1) bs
    cases b <;> simp [placesFrom, this]
theorem lacking_len (n : Nat) (z : Str) (row : List Int) : (places (lackB n z row)).length = lackN row (ruleW n z row) := by
  have h := lackB_take n z row row.length (Nat.le_refl _)
  rw [List.take_length] at h
  unfold places lackN
  rw [placesFrom_cnt, h, List.filter_map, List.length_map]
  rfl
theorem best_le_rule {n : Nat} (n0 : 0 < n) (n8 : n ≤ 8) (z : Str) (row : List Int) : bestN n row ≤ (places (lackB n z row)).length := by
  rw [lacking_len]
  exact best_least n0 (ruleW_way n0 n8 z row)
end Cw

namespace Cw
/-! the least paper: cuts of a row -/
theorem isFree_iff {ps : List Int} {e : Int × Int} : isFree ps e = true ↔ ∀ p ∈ ps, ¬ (e.1 < p ∧ p < e.2) := by
  unfold isFree
  rw [decide_eq_true_iff, List.filter_eq_nil_iff]
  simp
def btw (row : List Int) (low high : Nat) : Nat := ((spellsM row).filter fun e => decide ((low : Int) ≤ e.1 ∧ e.2 ≤ (high : Int))).length
inductive Path (r : Nat) (row : List Int) : Nat → Int → List Int → Prop
  | zero : Path r row 0 0 []
  | step {low high : Nat} {c : Int} {ps : List Int} : Path r row low c ps → low < high → high ≤ row.length →
      Path r row high (c + (btw row low high : Int) + (if high < row.length then (r : Int) - 1 else 0)) (ps ++ if high < row.length then [(high : Int)] else [])
structure PathOk (r : Nat) (row : List Int) (h : Nat) (c : Int) (ps : List Int) : Prop where
  up : ps.Pairwise (· < ·)
  mem : ∀ x ∈ ps, 1 ≤ x ∧ x ≤ (h : Int) ∧ x < (row.length : Int)
  last : 0 < h → h < row.length → (h : Int) ∈ ps
  nil : h = 0 → ps = []
  cost : c = (((spellsM row).filter fun e => decide (e.2 ≤ (h : Int)) && isFree ps e).length : Int) + ((r : Int) - 1) * (ps.length : Int)
theorem path_ok {r : Nat} {row : List Int} {h : Nat} {c : Int} {ps : List Int} (p : Path r row h c ps) : PathOk r row h c ps := by
  induction p with
  | zero =>
    refine ⟨List.Pairwise.nil, by simp, by omega, fun _ => rfl, ?_⟩
    have : (spellsM row).filter (fun e => decide (e.2 ≤ ((0 : Nat) : Int)) && isFree [] e) = [] := by
      rw [List.filter_eq_nil_iff]
      intro e he
      have := spellsTo_mem he
      simp
      omega
    rw [this]
    simp
  | @step low high c ps p hl hh ih =>
    obtain ⟨h1, h2, h3, h4, h5⟩ := ih
    refine ⟨?_, ?_, ?_, by omega, ?_⟩
    · split
      · rw [List.pairwise_append]
        refine ⟨h1, List.pairwise_singleton _ _, fun x hx y hy => ?_⟩
        rw [List.mem_singleton.mp hy]
        have := h2 x hx
        omega
      · rw [List.append_nil]
        exact h1
    · intro x hx
      rcases List.mem_append.mp hx with hx | hx
      · have := h2 x hx
        omega
      · split at hx
        · rw [List.mem_singleton.mp hx]
          omega
        · cases hx
    · intro _ hn
      rw [if_pos hn]
      simp
    · have e1 := filter_split (spellsM row) (fun e => decide (e.2 ≤ (high : Int)) && isFree (ps ++ if high < row.length then [(high : Int)] else []) e) (fun e => decide (e.2 ≤ (low : Int)))
      have tl : ∀ (e : Int × Int), e.2 ≤ (high : Int) → (isFree (ps ++ if high < row.length then [(high : Int)] else []) e = true ↔ isFree ps e = true) := by
        intro e he
        rw [isFree_iff, isFree_iff]
        constructor
        · intro hf p hp
          exact hf p (List.mem_append_left _ hp)
        · intro hf p hp
          rcases List.mem_append.mp hp with hp | hp
          · exact hf p hp
          · split at hp
            · rw [List.mem_singleton.mp hp]
              omega
            · cases hp
      have e2 : (spellsM row).filter (fun e => (decide (e.2 ≤ (high : Int)) && isFree (ps ++ if high < row.length then [(high : Int)] else []) e) && decide (e.2 ≤ (low : Int))) = (spellsM row).filter fun e => decide (e.2 ≤ (low : Int)) && isFree ps e := by
        refine List.filter_congr fun e he => ?_
        rw [Bool.eq_iff_iff]
        simp only [Bool.and_eq_true, decide_eq_true_eq]
        constructor
        · rintro ⟨⟨a, b⟩, d⟩
          exact ⟨d, (tl e a).mp b⟩
        · rintro ⟨a, b⟩
          exact ⟨⟨by omega, (tl e (by omega)).mpr b⟩, a⟩
      have e3 : (spellsM row).filter (fun e => (decide (e.2 ≤ (high : Int)) && isFree (ps ++ if high < row.length then [(high : Int)] else []) e) && !decide (e.2 ≤ (low : Int))) = (spellsM row).filter fun e => decide ((low : Int) ≤ e.1 ∧ e.2 ≤ (high : Int)) := by
        refine List.filter_congr fun e he => ?_
        have hm := spellsTo_mem he
        rw [Bool.eq_iff_iff]
        simp only [Bool.and_eq_true, decide_eq_true_eq, Bool.not_eq_true', decide_eq_false_iff_not]
        constructor
        · rintro ⟨⟨a, b⟩, d⟩
          refine ⟨?_, a⟩
          by_cases hz : low = 0
          · omega
          · have hin := h3 (by omega) (by omega)
            have := (isFree_iff.mp ((tl e a).mp b)) _ hin
            omega
        · rintro ⟨a, b⟩
          refine ⟨⟨b, (tl e b).mpr (isFree_iff.mpr fun p hp => ?_)⟩, by omega⟩
          have := h2 p hp
          omega
      rw [e2, e3] at e1
      have e4 : ((ps ++ if high < row.length then [(high : Int)] else []).length : Int) = (ps.length : Int) + (if high < row.length then 1 else 0) := by
        rw [List.length_append]
        split <;> simp
      rw [e1, e4, h5, Int.mul_add]
      unfold btw
      split <;> omega
/-- each rising list of places within the row is a way of cutting -/
theorem path_of {r : Nat} {row : List Int} : ∀ ps : List Int, ps.Pairwise (· < ·) → (∀ x ∈ ps, 1 ≤ x ∧ x < (row.length : Int)) → ∃ h c, Path r row h c ps ∧ h < max 1 row.length ∧ (∀ x ∈ ps, x ≤ (h : Int)) := by
  refine list_snoc_ind ?_ ?_
  · intro _ _
    exact ⟨0, 0, .zero, by omega, by simp⟩
  · intro ps x ih h1 h2
    rw [List.pairwise_append] at h1
    obtain ⟨h, c, p, hlt, hle⟩ := ih h1.1 fun y hy => h2 y (List.mem_append_left _ hy)
    have hx := h2 x (by simp)
    have hk := path_ok p
    have hlx : (h : Int) < x := by
      by_cases hz : h = 0
      · omega
      · exact h1.2.2 _ (hk.last (by omega) (by omega)) x (by simp)
    obtain ⟨k, rfl⟩ : ∃ k : Nat, x = (k : Int) := ⟨x.toNat, by omega⟩
    have p2 := p.step (high := k) (by omega) (by omega)
    rw [if_pos (show k < row.length by omega), if_pos (show k < row.length by omega)] at p2
    exact ⟨k, _, p2, by omega, fun y hy => by
      rcases List.mem_append.mp hy with hy | hy
      · have := hle y hy
        omega
      · rw [List.mem_singleton.mp hy]
        omega⟩
theorem path_full {r : Nat} {row : List Int} (hn : row ≠ []) {ps : List Int} (h1 : ps.Pairwise (· < ·)) (h2 : ∀ x ∈ ps, 1 ≤ x ∧ x < (row.length : Int)) : ∃ c, Path r row row.length c ps := by
  obtain ⟨h, c, p, hlt, _⟩ := path_of (r := r) ps h1 h2
  have : 0 < row.length := List.length_pos_iff.mpr hn
  have p2 := p.step (high := row.length) (by omega) (Nat.le_refl _)
  rw [if_neg (Nat.lt_irrefl _), if_neg (Nat.lt_irrefl _), List.append_nil] at p2
  exact ⟨_, p2⟩
theorem path_shown {r : Nat} {row : List Int} {c : Int} {ps : List Int} (p : Path r row row.length c ps) : PapOk row ps ∧ shownM (r : Int) row ps = (row.length : Int) - c := by
  obtain ⟨h1, h2, h3, h4, h5⟩ := path_ok p
  refine ⟨⟨h1, fun x hx => by have := h2 x hx; omega⟩, ?_⟩
  have e : (spellsM row).filter (fun e => decide (e.2 ≤ (row.length : Int)) && isFree ps e) = (spellsM row).filter (isFree ps) := by
    refine List.filter_congr fun e he => ?_
    have := spellsTo_mem he
    rw [decide_eq_true (by omega), Bool.true_and]
  rw [e] at h5
  unfold shownM
  omega
end Cw
namespace Cw
/-- what stands behind known[h] -/
def Known (r : Nat) (row : List Int) (h : Nat) (e : Int × List Int) : Prop := Path r row h e.1 e.2 ∧ ∀ c ps, Path r row h c ps → e.1 ≤ c
theorem known_zero (r : Nat) (row : List Int) : Known r row 0 (0, []) := ⟨.zero, fun c ps p => by
  have h := path_ok p
  have e : (spellsM row).filter (fun e => decide (e.2 ≤ ((0 : Nat) : Int)) && isFree ps e) = [] := by
    rw [List.filter_eq_nil_iff]
    intro e he
    have := spellsTo_mem he
    simp
    omega
  rw [h.cost, h.nil rfl]
  rw [h.nil rfl] at e
  rw [e]
  simp⟩
/-- the cut ahead of high is at low -/
def edge (r : Nat) (row : List Int) (e : Int × List Int) (low high : Nat) : Int × List Int := (e.1 + (btw row low high : Int) + (if high < row.length then (r : Int) - 1 else 0), e.2 ++ if high < row.length then [(high : Int)] else [])
theorem known_step {r : Nat} {row : List Int} {high : Nat} (h0 : 0 < high) (hh : high ≤ row.length) {kn : List (Int × List Int)} (hl : kn.length = high) (hk : ∀ (i : Nat) (e : Int × List Int), kn[i]? = some e → Known r row i e) {e : Int × List Int}
    (he : ∃ (i : Nat) (k : Int × List Int), kn[i]? = some k ∧ e = edge r row k i high) (hm : ∀ (i : Nat) (k : Int × List Int), kn[i]? = some k → e.1 ≤ (edge r row k i high).1) : Known r row high e := by
  constructor
  · obtain ⟨i, k, hi, rfl⟩ := he
    have hil := (List.getElem?_eq_some_iff.mp hi).1
    exact (hk i k hi).1.step (by omega) hh
  · intro c ps p
    cases p with
    | zero => omega
    | @step low _ c' ps' p' hl' _ =>
      obtain ⟨k, hi⟩ : ∃ k, kn[low]? = some k := ⟨kn[low], List.getElem?_eq_getElem (by omega)⟩
      have h1 := hm low k hi
      have h2 := (hk low k hi).2 _ _ p'
      unfold edge at h1
      simp only at h1
      omega
/-- the least paper shows what the best one lacks -/
theorem paper_best {r : Nat} (r0 : 0 < r) {row : List Int} {e : Int × List Int} (h : Known r row row.length e) : PapOk row e.2 ∧ (∀ x ∈ e.2, 1 ≤ x) ∧ shownM (r : Int) row e.2 = (bestN r row : Int) := by
  obtain ⟨h1, h2⟩ := path_shown h.1
  refine ⟨h1, fun x hx => ((path_ok h.1).mem x hx).1, ?_⟩
  have h3 := shown_le r0 row e.2
  obtain ⟨ps, p1, p2, p3⟩ := strong r0 row
  by_cases hn : row = []
  · subst hn
    have e0 : bestN r [] = 0 := rfl
    have : e.2 = [] := (path_ok h.1).nil rfl
    rw [this, e0]
    simp [shownM, spellsM, spellsTo]
  · obtain ⟨c, hc⟩ := path_full (r := r) hn p1.1 (fun x hx => ⟨p2 x hx, (p1.2 x hx).2⟩)
    have h4 := h.2 c ps hc
    have h5 := (path_shown hc).2
    omega
end Cw
namespace Cw
open PySem L2
/-- xs are refs to tuples of a whole number and a list of whole numbers, all new beside H and none of A -/
def CutsAt (A : List Addr) (H H' : Hp) (xs : List V) (kn : List (Int × List Int)) : Prop := xs.length = kn.length ∧ ∀ (i : Nat) (e : Int × List Int), kn[i]? = some e → ∃ t l, xs[i]? = some (.ref t) ∧ H t = none ∧ H l = none ∧ t ∉ A ∧ l ∉ A ∧
  H' t = some (.tup [.int e.1, .ref l]) ∧ H' l = some (.lst (e.2.map V.int))
theorem CutsAt.nil {A : List Addr} {H H' : Hp} : CutsAt A H H' [] [] := ⟨rfl, fun i e h => by simp at h⟩
theorem CutsAt.fr {A W : List Addr} {H H' H2 : Hp} {xs : List V} {kn : List (Int × List Int)} (h : CutsAt A H H' xs kn) (f : Fr W H' H2) (hw : ∀ w ∈ W, w ∈ A) : CutsAt A H H2 xs kn := ⟨h.1, fun i e he => by
  obtain ⟨t, l, h1, h2, h3, h4, h5, h6, h7⟩ := h.2 i e he
  exact ⟨t, l, h1, h2, h3, h4, h5, f.get h6 (fun m => h4 (hw _ m)), f.get h7 (fun m => h5 (hw _ m))⟩⟩
theorem CutsAt.fr0 {A : List Addr} {H H' H2 : Hp} {xs : List V} {kn : List (Int × List Int)} (h : CutsAt A H H' xs kn) (f : Fr [] H' H2) : CutsAt A H H2 xs kn := h.fr f (by simp)
/-- a free place may be kept out of it -/
theorem CutsAt.add {A : List Addr} {H H' : Hp} {xs : List V} {kn : List (Int × List Int)} {p : Addr} (h : CutsAt A H H' xs kn) (hp : H' p = none) : CutsAt (p :: A) H H' xs kn := ⟨h.1, fun i e he => by
  obtain ⟨t, l, h1, h2, h3, h4, h5, h6, h7⟩ := h.2 i e he
  refine ⟨t, l, h1, h2, h3, fun m => ?_, fun m => ?_, h6, h7⟩
  · rcases List.mem_cons.mp m with m | m
    · rw [m, hp] at h6; cases h6
    · exact h4 m
  · rcases List.mem_cons.mp m with m | m
    · rw [m, hp] at h7; cases h7
    · exact h5 m⟩
theorem CutsAt.less {A B : List Addr} {H H' : Hp} {xs : List V} {kn : List (Int × List Int)} (h : CutsAt A H H' xs kn) (hb : ∀ x ∈ B, x ∈ A) : CutsAt B H H' xs kn := ⟨h.1, fun i e he => by
  obtain ⟨t, l, h1, h2, h3, h4, h5, h6, h7⟩ := h.2 i e he
  exact ⟨t, l, h1, h2, h3, fun m => h4 (hb _ m), fun m => h5 (hb _ m), h6, h7⟩⟩
theorem CutsAt.base {A W : List Addr} {H0 H H' : Hp} {xs : List V} {kn : List (Int × List Int)} (h : CutsAt A H H' xs kn) (f : Fr W H0 H) : CutsAt A H0 H' xs kn := ⟨h.1, fun i e he => by
  obtain ⟨t, l, h1, h2, h3, h4⟩ := h.2 i e he
  exact ⟨t, l, h1, f.2 t h2, f.2 l h3, h4⟩⟩
theorem CutsAt.snoc {A : List Addr} {H H' : Hp} {xs : List V} {kn : List (Int × List Int)} {t l : Addr} {c : Int} {ps : List Int} (h : CutsAt A H H' xs kn) (ht : H t = none) (hl : H l = none) (at' : t ∉ A) (al : l ∉ A) (h1 : H' t = some (.tup [.int c, .ref l])) (h2 : H' l = some (.lst (ps.map V.int))) :
    CutsAt A H H' (xs ++ [.ref t]) (kn ++ [(c, ps)]) := ⟨by simp [h.1], fun i e he => by
  rcases Nat.lt_or_ge i kn.length with lt | ge
  · rw [List.getElem?_append_left lt] at he
    rw [List.getElem?_append_left (by rw [h.1]; exact lt)]
    exact h.2 i e he
  · rw [List.getElem?_append_right ge] at he
    have hi : i - kn.length = 0 := by
      have := (List.getElem?_eq_some_iff.mp he).1
      simp at this
      omega
    rw [hi] at he
    obtain rfl := Option.some.inj he
    exact ⟨t, l, by rw [List.getElem?_append_right (by rw [h.1]; exact ge), h.1, hi]; rfl, ht, hl, at', al, h1, h2⟩⟩
def cutD (e : Int × List Int) : PyData := .tuple [.int e.1, .list (e.2.map .int)]
theorem CutsAt.dp {K : PySem.W.Frag} {A : List Addr} {H H' : Hp} : ∀ {xs : List V} {kn : List (Int × List Int)}, CutsAt A H H' xs kn → DpAll K H' xs (kn.map cutD)
  | [], [], _ => .nil
  | [], _ :: _, h => by have := h.1; simp at this
  | _ :: _, [], h => by have := h.1; simp at this
  | x :: xs, e :: kn, h => by
    obtain ⟨t, l, h1, h2, h3, h4, h5, h6, h7⟩ := h.2 0 e rfl
    have hx : x = .ref t := Option.some.inj h1
    subst hx
    exact .cons (.tup (SqT.of h6) (.cons (.int _) (.cons (.lst (SqL.of h7) (dp_ints _)) .nil))) (CutsAt.dp ⟨by have := h.1; simpa using this, fun i e' he => h.2 (i + 1) e' he⟩)
end Cw
namespace Cw
open PySem L2
section
open PySem.W
theorem minOf_cut (x : Int × List Int) : ∀ xs : List (Int × List Int), minOf x xs ∈ x :: xs ∧ ∀ y ∈ x :: xs, (minOf x xs).1 ≤ y.1 := by
  have lt1 : ∀ a b : Int × List Int, DatumOrd.lt a b = true → a.1 ≤ b.1 := by
    intro a b
    show (if a.1 = b.1 then DatumOrd.lt a.2 b.2 else decide (a.1 < b.1)) = true → _
    split
    · omega
    · intro h
      have := of_decide_eq_true h
      omega
  have lt2 : ∀ a b : Int × List Int, ¬ DatumOrd.lt a b = true → b.1 ≤ a.1 := by
    intro a b
    show ¬ (if a.1 = b.1 then DatumOrd.lt a.2 b.2 else decide (a.1 < b.1)) = true → _
    split
    · omega
    · intro h
      have : ¬ a.1 < b.1 := fun z => h (decide_eq_true z)
      omega
  intro xs
  unfold minOf
  induction xs generalizing x with
  | nil => exact ⟨List.mem_singleton.mpr rfl, fun y hy => by rw [List.mem_singleton.mp hy]; exact Int.le_refl _⟩
  | cons z xs ih =>
    rw [List.foldl_cons]
    by_cases h : DatumOrd.lt z x = true
    · rw [if_pos h]
      obtain ⟨h1, h2⟩ := ih z
      have h3 := lt1 z x h
      refine ⟨by simp only [List.mem_cons] at h1 ⊢; exact .inr h1, fun y hy => ?_⟩
      rcases List.mem_cons.mp hy with e | hy
      · subst e
        have := h2 z (by simp)
        omega
      · exact h2 y hy
    · rw [if_neg h]
      obtain ⟨h1, h2⟩ := ih x
      have h3 := lt2 z x h
      refine ⟨by simp only [List.mem_cons] at h1 ⊢; rcases h1 with h1 | h1 <;> simp [h1], fun y hy => ?_⟩
      rcases List.mem_cons.mp hy with e | hy
      · subst e; exact h2 y (by simp)
      · rcases List.mem_cons.mp hy with e | hy
        · subst e
          have := h2 x (by simp)
          omega
        · exact h2 y (List.mem_cons_of_mem _ hy)
theorem lay_cuts : ∀ ps : List (Int × List Int), PyData.canLayAll0 (ps.map cutD) = true
  | [] => rfl
  | e :: r => by simp [PyData.canLayAll0, cutD, PyData.canLay0, lay_cuts r, lay_ints]
theorem depth_cuts : ∀ ps : List (Int × List Int), PyData.depthAll (ps.map cutD) ≤ 40
  | [] => by simp [PyData.depthAll]
  | e :: r => by
    have := depth_cuts r
    have := depth_ints e.2
    simp [PyData.depthAll, cutD, PyData.depth] at *
    omega
theorem w_minC {K : PySem.W.Frag} {A : List Addr} {H0 H : Hp} {Q : VK} {a : Addr} {xs : List V} {k : Int × List Int} {ks : List (Int × List Int)} (h : SqL K H a xs) (hd : CutsAt A H0 H xs (k :: ks))
    (q : ∀ (i : Nat) v, xs[i]? = some v → (k :: ks)[i]? = some (minOf k ks) → Q v H) : rMinD K [.ref a] H Q := by
  refine ⟨a, xs, cutD k, ks.map cutD, rfl, h, hd.dp, alikeAll_datum (k :: ks), depth_cuts (k :: ks), lay_cuts (k :: ks), fun i v hv hi => ?_⟩
  have e1 : minD (cutD k) (ks.map cutD) = cutD (minOf k ks) := minD_map k ks
  rw [e1] at hi
  have hi' : ((k :: ks).map cutD)[i]? = some (cutD (minOf k ks)) := hi
  rw [List.getElem?_map] at hi'
  obtain ⟨e, he, hce⟩ := Option.map_eq_some_iff.mp hi'
  have : e = minOf k ks := by
    have inj : ∀ l m : List Int, l.map PyData.int = m.map PyData.int → l = m := fun l m h => by
      have := congrArg (List.map fun d => match d with | .int n => n | _ => 0) h
      simpa [List.map_map, Function.comp_def] using this
    unfold cutD at hce
    injection hce with h1
    injection h1 with h2 h3
    injection h3 with h4 _
    injection h2 with h2
    injection h4 with h4
    exact Prod.ext h2 (inj _ _ h4)
  rw [this] at he
  exact q i v hv he
end
end Cw
namespace Cw
def edges (r : Nat) (row : List Int) (kn : List (Int × List Int)) (high j : Nat) : List (Int × List Int) := (List.range j).map fun i => edge r row (kn.getD i (0, [])) i high
theorem edges_succ (r : Nat) (row : List Int) (kn : List (Int × List Int)) (high j : Nat) : edges r row kn high (j + 1) = edges r row kn high j ++ [edge r row (kn.getD j (0, [])) j high] := by
  unfold edges
  rw [List.range_succ, List.map_append]
  rfl
theorem edges_len (r : Nat) (row : List Int) (kn : List (Int × List Int)) (high j : Nat) : (edges r row kn high j).length = j := by
  unfold edges
  rw [List.length_map, List.length_range]
theorem known_min {r : Nat} {row : List Int} {high : Nat} (h0 : 0 < high) (hh : high ≤ row.length) {kn : List (Int × List Int)} (hl : kn.length = high) (hk : ∀ (i : Nat) (e : Int × List Int), kn[i]? = some e → Known r row i e) {k : Int × List Int} {ks : List (Int × List Int)}
    (he : edges r row kn high high = k :: ks) : Known r row high (PySem.W.minOf k ks) := by
  obtain ⟨h1, h2⟩ := minOf_cut k ks
  rw [← he] at h1 h2
  have get : ∀ (i : Nat) (e : Int × List Int), kn[i]? = some e → kn.getD i (0, []) = e := fun i e h => by rw [List.getD_eq_getElem?_getD, h]; rfl
  refine known_step h0 hh hl hk ?_ ?_
  · unfold edges at h1
    obtain ⟨i, hi, h3⟩ := List.mem_map.mp h1
    rw [List.mem_range] at hi
    have hi' : kn[i]? = some kn[i] := List.getElem?_eq_getElem (by omega)
    exact ⟨i, _, hi', by rw [← h3, get i _ hi']⟩
  · intro i e hi
    have hil := (List.getElem?_eq_some_iff.mp hi).1
    have := h2 (edge r row e i high) (List.mem_map.mpr ⟨i, List.mem_range.mpr (by omega), by rw [get i e hi]⟩)
    exact this
end Cw

namespace Cw
open PySem
/-! stretches: one behind the other -/
inductive Chain (r : Nat) (row : List Int) : Nat → List (Int × Int) → Prop
  | nil : Chain r row row.length []
  | cons {b e : Nat} {ps : List (Int × Int)} : b < e → e ≤ row.length → (firsts ((row.take e).drop b)).length ≤ r → (e < row.length → r < (firsts ((row.take (e + 1)).drop b)).length) → Chain r row e ps → Chain r row b (((b : Int), (e : Int)) :: ps)
theorem cst_chain {r : Nat} (r0 : 0 < r) (row : List Int) : ∀ i, i ≤ row.length → ∀ ps, Chain r row (cst r (row.take i)).b ps → Chain r row 0 ((cst r (row.take i)).out ++ ps) := by
  intro i
  induction i with
  | zero =>
    intro _ ps h
    have e : cst r (row.take 0) = ⟨[], 0, [], 0⟩ := by simp [cst]
    rw [e] at h ⊢
    exact h
  | succ i ih =>
    intro hi ps h
    obtain ⟨x, hx⟩ : ∃ x, row[i]? = some x := ⟨row[i], List.getElem?_eq_getElem (by omega)⟩
    have ok := cst_ok r0 (row.take i)
    have ok2 := cst_ok r0 (row.take (i + 1))
    have ih := ih (by omega)
    rw [take_snoc hx, cst_snoc] at h ok2 ⊢
    have hn : (cst r (row.take i)).n = i := by rw [ok.n, List.length_take]; omega
    have hseg := ok.seg
    have hle := ok.le
    have hlt := ok.lt
    generalize cst r (row.take i) = s at *
    unfold cstep at h ⊢
    split at h
    · rename_i hc
      rw [if_pos hc]
      have hne : row.take i ≠ [] := by
        intro e
        rw [hseg, e] at hc
        have h2 := hc.2
        simp [firsts] at h2
        omega
      have hbi : s.b < i := by have := hlt hne; omega
      simp only at h ⊢
      rw [List.append_assoc]
      rw [hn] at h ⊢
      refine ih _ (.cons hbi (by omega) (by rw [← hseg]; exact hle) (fun hi2 => ?_) h)
      rw [take_snoc hx, List.drop_append_of_le_length (by rw [List.length_take]; omega), ← hseg, firsts_snoc]
      unfold add1
      rw [if_neg hc.1, List.length_append]
      simp
      omega
    · rename_i hc
      rw [if_neg hc]
      exact ih _ h
theorem parts_chain {r : Nat} (r0 : 0 < r) (row : List Int) : Chain r row 0 (parts r row) := by
  unfold parts
  split
  · rename_i h
    subst h
    exact .nil
  · rename_i h
    have ok := cst_ok r0 row
    have hc := cst_chain r0 row row.length (Nat.le_refl _)
    rw [List.take_length] at hc
    have hlt := ok.lt h
    have hn := ok.n
    refine hc _ (.cons (by omega) (Nat.le_refl _) ?_ (fun h => absurd h (Nat.lt_irrefl _)) .nil)
    rw [List.take_length, ← ok.seg]
    exact ok.le
/-! lacks and stretches -/
theorem firsts_max {l m : List Int} (nd : l.Nodup) (h : ∀ x ∈ l, x ∈ m) : l.length ≤ (firsts m).length := nodup_len nd fun x hx => ((firsts_facts m).2 x).mpr (h x hx)
theorem firsts_min {l m : List Int} (h : ∀ x ∈ m, x ∈ l) : (firsts m).length ≤ l.length := nodup_len (firsts_facts m).1 fun x hx => h x (((firsts_facts m).2 x).mp hx)
theorem mem_seg {row : List Int} {b e : Nat} {x : Int} : x ∈ (row.take e).drop b ↔ ∃ j, b ≤ j ∧ j < e ∧ row[j]? = some x := by
  constructor
  · intro h
    obtain ⟨j, hj, he⟩ := List.mem_iff_getElem.mp h
    rw [List.length_drop, List.length_take] at hj
    refine ⟨b + j, by omega, by omega, ?_⟩
    rw [List.getElem_drop, List.getElem_take] at he
    rw [List.getElem?_eq_getElem (by omega), he]
  · rintro ⟨j, h1, h2, h3⟩
    obtain ⟨hl, he⟩ := List.getElem?_eq_some_iff.mp h3
    refine List.mem_iff_getElem.mpr ⟨j - b, by rw [List.length_drop, List.length_take]; omega, ?_⟩
    rw [List.getElem_drop, List.getElem_take]
    simp only [show b + (j - b) = j from by omega]
    exact he
theorem lack_in {r : Nat} {row : List Int} {S : Nat → List Int} (w : Way r row S) {b e : Nat} (hb : b < e) (he : e < row.length) (hf : r < (firsts ((row.take (e + 1)).drop b)).length) : ∃ t, b < t ∧ t ≤ e ∧ lackAt row S t = true := by
  refine Classical.byContradiction fun hno => ?_
  have no : ∀ t, b < t → t ≤ e → row.getD t 0 ∈ S t := fun t h1 h2 => Classical.byContradiction fun h => hno ⟨t, h1, h2, decide_eq_true h⟩
  have get : ∀ t, t < row.length → row[t]? = some (row.getD t 0) := fun t ht => by rw [List.getD_eq_getElem?_getD, List.getElem?_eq_getElem ht]; rfl
  have down : ∀ d, b + 1 + d ≤ e + 1 → ∀ y ∈ S (b + 1 + d), y ∈ S (b + 1) := by
    intro d
    induction d with
    | zero => intro _ y hy; exact hy
    | succ d ih =>
      intro hd y hy
      refine ih (by omega) y ?_
      rcases w.step (b + 1 + d) _ (get _ (by omega)) y hy with h | h
      · rw [h]; exact no _ (by omega) (by omega)
      · exact h
  have all : ∀ x ∈ (row.take (e + 1)).drop b, x ∈ S (b + 1) := by
    intro x hx
    obtain ⟨j, h1, h2, h3⟩ := mem_seg.mp hx
    rcases Nat.eq_or_lt_of_le h1 with h | h
    · subst h; exact w.has _ _ h3
    · have : x = row.getD j 0 := by rw [List.getD_eq_getElem?_getD, h3]; rfl
      have h4 := no j h (by omega)
      rw [← this] at h4
      have e2 : j = b + 1 + (j - (b + 1)) := by omega
      rw [e2] at h4
      exact down _ (by omega) x h4
  have h1 := firsts_min all
  have h2 := w.le (b + 1) (by omega)
  omega
def lacksFrom (row : List Int) (S : Nat → List Int) (b : Nat) : Nat := ((List.range row.length).filter fun i => decide (b < i) && lackAt row S i).length
theorem chain_lacks {r : Nat} {row : List Int} {S : Nat → List Int} (w : Way r row S) : ∀ {b : Nat} {ps : List (Int × Int)}, Chain r row b ps → (b = row.length → ps = []) ∧ ps.length ≤ lacksFrom row S b + 1
  | _, _, .nil => ⟨fun _ => rfl, Nat.zero_le _⟩
  | _, _, .cons (b := b) (e := e) (ps := ps) h1 h2 h3 h4 h5 => by
    refine ⟨fun h => by omega, ?_⟩
    obtain ⟨i1, i2⟩ := chain_lacks w h5
    rw [List.length_cons]
    rcases Nat.eq_or_lt_of_le h2 with h | h
    · rw [i1 h]; simp
    · obtain ⟨t, t1, t2, t3⟩ := lack_in w h1 h (h4 h)
      have : lacksFrom row S e + 1 ≤ lacksFrom row S b := by
        unfold lacksFrom
        rw [filter_split _ (fun i => decide (b < i) && lackAt row S i) (fun i => decide (e < i))]
        have a1 : ((List.range row.length).filter fun i => decide (e < i) && lackAt row S i).length ≤ ((List.range row.length).filter fun i => (decide (b < i) && lackAt row S i) && decide (e < i)).length := by
          refine filter_mono_len _ fun i _ hi => ?_
          simp at hi ⊢
          exact ⟨⟨by omega, hi.2⟩, hi.1⟩
        have a2 : 0 < ((List.range row.length).filter fun i => (decide (b < i) && lackAt row S i) && !decide (e < i)).length := by
          refine List.length_pos_of_mem (a := t) (List.mem_filter.mpr ⟨List.mem_range.mpr (by omega), ?_⟩)
          simp
          exact ⟨⟨t1, t3⟩, t2⟩
        omega
      omega
theorem parts_lacks {r : Nat} (r0 : 0 < r) {row : List Int} {S : Nat → List Int} (w : Way r row S) : (parts r row).length ≤ lackN row S := by
  have h := (chain_lacks w (parts_chain r0 row)).2
  by_cases hr : row = []
  · subst hr; simp [parts]
  · have hl : 0 < row.length := List.length_pos_iff.mpr hr
    have : lacksFrom row S 0 + 1 ≤ lackN row S := by
      unfold lacksFrom lackN
      rw [filter_split _ (lackAt row S) (fun i => decide (0 < i))]
      have a1 : ((List.range row.length).filter fun i => decide (0 < i) && lackAt row S i).length ≤ ((List.range row.length).filter fun i => lackAt row S i && decide (0 < i)).length := by
        refine filter_mono_len _ fun i _ hi => ?_
        simp at hi ⊢
        exact ⟨hi.2, hi.1⟩
      have a2 : 0 < ((List.range row.length).filter fun i => lackAt row S i && !decide (0 < i)).length := by
        refine List.length_pos_of_mem (a := 0) (List.mem_filter.mpr ⟨List.mem_range.mpr hl, ?_⟩)
        simp [lackAt, w.zero]
      omega
    omega
theorem parts_best {r : Nat} (r0 : 0 < r) (row : List Int) : (parts r row).length ≤ bestN r row := by
  rw [bestN_eq r0]
  exact parts_lacks r0 (best_way r0 row)
end Cw
namespace Cw
open PySem
/-! in a stretch no page lacks twice -/
theorem stays_keep {n : Nat} (n0 : 0 < n) (u : Bool) {row : List Int} {b e p : Nat} {x : Int} (hle : (firsts ((row.take e).drop b)).length ≤ n) (hel : e ≤ row.length) (hb : b ≤ p) (hp : p < e) (hx : row[p]? = some x) (hlack : x ∉ keepW n u row p) :
    ∀ i, p < i → i ≤ e → ∃ A B, keepW n u row i = A ++ x :: B ∧ ∀ y ∈ B, y ∈ (row.take i).drop b := by
  have ok : ∀ i, KOk n (keepW n u row i) := fun i => keepEnd_ok n0 u [] (row.take i) ⟨List.nodup_nil, Nat.zero_le _⟩
  have succ : ∀ i z, row[i]? = some z → keepW n u row (i + 1) = keepS n u (keepW n u row i) z := fun i z hz => by
    unfold keepW
    rw [take_snoc hz, keepEnd_snoc]
  intro i
  induction i with
  | zero => intro h; exact absurd h (Nat.not_lt_zero _)
  | succ i ih =>
    intro h1 h2
    obtain ⟨z, hz⟩ : ∃ z, row[i]? = some z := ⟨row[i], List.getElem?_eq_getElem (by omega)⟩
    rw [succ i z hz]
    rcases Nat.eq_or_lt_of_le (Nat.le_of_lt_succ h1) with h | h
    · subst h
      rw [hx] at hz
      obtain rfl := Option.some.inj hz
      unfold keepS
      rw [if_neg hlack]
      exact ⟨_, [], rfl, by simp⟩
    · obtain ⟨A, B, hk, hB⟩ := ih h (by omega)
      have o := ok i
      have hzs : z ∈ (row.take (i + 1)).drop b := mem_seg.mpr ⟨i, by omega, Nat.lt_succ_self _, hz⟩
      have up : ∀ y, y ∈ (row.take i).drop b → y ∈ (row.take (i + 1)).drop b := fun y hy => by
        obtain ⟨j, j1, j2, j3⟩ := mem_seg.mp hy
        exact mem_seg.mpr ⟨j, j1, by omega, j3⟩
      rw [hk] at o ⊢
      obtain ⟨nd, le⟩ := o
      unfold keepS
      split
      · split
        · by_cases hzx : z = x
          · subst hzx
            have hA : z ∉ A := by
              intro hA
              rw [List.nodup_append] at nd
              exact nd.2.2 z hA z (by simp) rfl
            refine ⟨A ++ B, [], ?_, by simp⟩
            rw [List.erase_append_right _ hA, List.erase_cons_head]
          · by_cases hA : z ∈ A
            · refine ⟨A.erase z, B ++ [z], ?_, fun y hy => ?_⟩
              · rw [List.erase_append_left _ hA, List.append_assoc]; rfl
              · rcases List.mem_append.mp hy with hy | hy
                · exact up y (hB y hy)
                · rw [List.mem_singleton.mp hy]; exact hzs
            · refine ⟨A, B.erase z ++ [z], ?_, fun y hy => ?_⟩
              · rw [List.erase_append_right _ hA, List.erase_cons_tail (by simpa using fun e => hzx e.symm), List.append_assoc]; rfl
              · rcases List.mem_append.mp hy with hy | hy
                · exact up y (hB y (List.mem_of_mem_erase hy))
                · rw [List.mem_singleton.mp hy]; exact hzs
        · exact ⟨A, B, rfl, fun y hy => up y (hB y hy)⟩
      · rename_i hzn
        have hB' : ∀ y ∈ B ++ [z], y ∈ (row.take (i + 1)).drop b := fun y hy => by
          rcases List.mem_append.mp hy with hy | hy
          · exact up y (hB y hy)
          · rw [List.mem_singleton.mp hy]; exact hzs
        split
        · rename_i hl
          cases A with
          | nil =>
            exfalso
            have nd2 : ((x :: B) ++ [z]).Nodup := by
              rw [List.nodup_append]
              refine ⟨nd, by simp, fun a ha c hc e => ?_⟩
              rw [List.mem_singleton.mp hc] at e
              subst e
              exact hzn ha
            have := firsts_max (m := (row.take e).drop b) nd2 fun y hy => by
              have hy' : y = x ∨ y ∈ B ++ [z] := by
                rcases List.mem_append.mp hy with h | h
                · rcases List.mem_cons.mp h with h | h
                  · exact .inl h
                  · exact .inr (List.mem_append_left _ h)
                · exact .inr (List.mem_append_right _ h)
              rcases hy' with h | h
              · rw [h]; exact mem_seg.mpr ⟨p, hb, hp, hx⟩
              · obtain ⟨j, j1, j2, j3⟩ := mem_seg.mp (hB' y h)
                exact mem_seg.mpr ⟨j, j1, by omega, j3⟩
            rw [List.length_append] at this
            simp only [List.nil_append] at hl
            rw [hl] at this
            simp at this
            omega
          | cons a A =>
            refine ⟨A, B ++ [z], ?_, hB'⟩
            show A ++ x :: B ++ [z] = A ++ x :: (B ++ [z])
            rw [List.append_assoc]; rfl
        · refine ⟨A, B ++ [z], ?_, hB'⟩
          show A ++ x :: B ++ [z] = A ++ x :: (B ++ [z])
          rw [List.append_assoc]; rfl
/-! the hand: a slot was stepped on (at least) j times since it stood at h0; w: how often it came round -/
def stepped (w hand h0 s j : Nat) : Prop := j + (if s < h0 then 1 else 0) ≤ w + (if s < hand then 1 else 0)
structure HInv (n h0 w : Nat) (P L : Int → Prop) (here : List (Option Int)) (seen : List Bool) (hand : Nat) : Prop where
  hd : hand < n
  wh : hand < h0 → 1 ≤ w
  one : ∀ s, s < n → stepped w hand h0 s 1 → seen[s]? = some true → ∃ x, here[s]? = some (some x) ∧ P x
  two : ∀ s, s < n → stepped w hand h0 s 2 → ∃ x, here[s]? = some (some x) ∧ P x
  ld : ∀ s x, s < n → here[s]? = some (some x) → L x → stepped w hand h0 s 1 ∧ (seen[s]? = some true ∨ stepped w hand h0 s 2)
def wrap (n w hand : Nat) : Nat := if hand + 1 = n then w + 1 else w
theorem next_hand {n hand : Nat} (h : hand < n) : (hand + 1) % n = if hand + 1 = n then 0 else hand + 1 := by
  split
  · rename_i e; rw [e, Nat.mod_self]
  · exact Nat.mod_eq_of_lt (by omega)
theorem stepped_other {n w hand h0 s j : Nat} (hh : hand < n) (hs : s < n) (hne : s ≠ hand) : stepped (wrap n w hand) ((hand + 1) % n) h0 s j ↔ stepped w hand h0 s j := by
  unfold stepped wrap
  rw [next_hand hh]
  split <;> split <;> split <;> split <;> omega
theorem stepped_self {n w hand h0 j : Nat} (hh : hand < n) : stepped (wrap n w hand) ((hand + 1) % n) h0 hand (j + 1) ↔ stepped w hand h0 hand j := by
  unfold stepped wrap
  rw [next_hand hh]
  split <;> split <;> split <;> split <;> omega
theorem stepped_all {w hand h0 t j : Nat} (h : stepped w hand h0 hand j) : stepped w hand h0 t j := by
  unfold stepped at *
  split at h <;> split at h <;> split <;> split <;> omega
theorem wrap_wh {n w hand h0 : Nat} (hh : hand < n) (h : hand < h0 → 1 ≤ w) : (hand + 1) % n < h0 → 1 ≤ wrap n w hand := by
  unfold wrap
  rw [next_hand hh]
  split
  · omega
  · intro z; exact h (by omega)
theorem HInv.pass {n h0 w : Nat} {P L : Int → Prop} {here : List (Option Int)} {seen : List Bool} {hand : Nat} (I : HInv n h0 w P L here seen hand) (hs : seen[hand]? = some true) :
    HInv n h0 (wrap n w hand) P L here (seen.set hand false) ((hand + 1) % n) := by
  obtain ⟨hd, wh, one, two, ld⟩ := I
  have n0 : 0 < n := by omega
  have off : (seen.set hand false)[hand]? = some false := List.getElem?_set_self (List.getElem?_eq_some_iff.mp hs).1
  have other : ∀ s, s ≠ hand → (seen.set hand false)[s]? = seen[s]? := fun s h => List.getElem?_set_ne fun z => h z.symm
  refine ⟨Nat.mod_lt _ n0, wrap_wh hd wh, fun s hsn h1 h2 => ?_, fun s hsn h1 => ?_, fun s x hsn h1 h2 => ?_⟩
  · by_cases e : s = hand
    · subst e; rw [off] at h2; cases h2
    · rw [other s e] at h2
      exact one s hsn ((stepped_other hd hsn e).mp h1) h2
  · by_cases e : s = hand
    · subst e; exact one s hsn ((stepped_self hd).mp h1) hs
    · exact two s hsn ((stepped_other hd hsn e).mp h1)
  · obtain ⟨l1, l2⟩ := ld s x hsn h1 h2
    by_cases e : s = hand
    · subst e
      refine ⟨(stepped_self hd).mpr ?_, .inr ((stepped_self hd).mpr l1)⟩
      unfold stepped at l1 ⊢
      omega
    · rw [stepped_other hd hsn e, stepped_other hd hsn e, other s e]
      exact ⟨l1, l2⟩
theorem HInv.spin {n h0 : Nat} {P L : Int → Prop} {here : List (Option Int)} : ∀ (k : Nat) (w : Nat) (seen : List Bool) (hand : Nat), HInv n h0 w P L here seen hand → ∃ w', HInv n h0 w' P L here (spin n k seen hand).1 (spin n k seen hand).2.1
  | 0, w, seen, hand, I => ⟨w, I⟩
  | k + 1, w, seen, hand, I => by
    unfold Cw.spin
    split
    · rename_i h
      exact HInv.spin k _ _ _ (I.pass h)
    · exact ⟨w, I⟩
theorem stays_dial {n : Nat} (n0 : 0 < n) (n8 : n ≤ 8) {row : List Int} {b e : Nat} (hle : (firsts ((row.take e).drop b)).length ≤ n) (hel : e ≤ row.length) :
    ∀ i, b ≤ i → i ≤ e → (∃ w, HInv n (endAll (Dl.new n) (row.take b)).hand w (fun x => x ∈ (row.take i).drop b) (fun x => ∃ p, b ≤ p ∧ p < i ∧ row[p]? = some x ∧ x ∉ dialW n row p) (endAll (Dl.new n) (row.take i)).here (endAll (Dl.new n) (row.take i)).seen (endAll (Dl.new n) (row.take i)).hand) ∧
      ∀ x, (∃ p, b ≤ p ∧ p < i ∧ row[p]? = some x ∧ x ∉ dialW n row p) → x ∈ dialW n row i := by
  have wf : ∀ i, (endAll (Dl.new n) (row.take i)).Wf n := fun i => endAll_wf _ _ (Dl.Wf.new n0 n8)
  have way := dialW_way n0 n8 row
  generalize hh0 : (endAll (Dl.new n) (row.take b)).hand = h0
  have h0n : h0 < n := by rw [← hh0]; exact (wf b).hd
  intro i
  induction i with
  | zero =>
    intro h1 _
    have hb0 : b = 0 := by omega
    subst hb0
    refine ⟨⟨0, ?_⟩, fun x ⟨p, _, hp, _⟩ => absurd hp (Nat.not_lt_zero _)⟩
    rw [hh0]
    refine ⟨h0n, fun h => absurd h (Nat.lt_irrefl _), fun s _ h => ?_, fun s _ h => ?_, fun s x _ _ ⟨p, _, hp, _⟩ => absurd hp (Nat.not_lt_zero _)⟩
    · unfold stepped at h; split at h <;> omega
    · unfold stepped at h; split at h <;> omega
  | succ i ih =>
    intro h1 h2
    rcases Nat.eq_or_lt_of_le h1 with hbe | hbl
    · rw [← hbe]
      refine ⟨⟨0, ?_⟩, fun x ⟨p, h3, hp, _⟩ => absurd h3 (by omega)⟩
      rw [hh0]
      refine ⟨h0n, fun h => absurd h (Nat.lt_irrefl _), fun s _ h => ?_, fun s _ h => ?_, fun s x _ _ ⟨p, h3, hp, _⟩ => absurd h3 (by omega)⟩
      · unfold stepped at h; split at h <;> omega
      · unfold stepped at h; split at h <;> omega
    obtain ⟨⟨w, I⟩, hin⟩ := ih (by omega) (by omega)
    obtain ⟨z, hz⟩ : ∃ z, row[i]? = some z := ⟨row[i], List.getElem?_eq_getElem (by omega)⟩
    have hzs : z ∈ (row.take (i + 1)).drop b := mem_seg.mpr ⟨i, by omega, Nat.lt_succ_self _, hz⟩
    have up : ∀ y, y ∈ (row.take i).drop b → y ∈ (row.take (i + 1)).drop b := fun y hy => by
      obtain ⟨j, j1, j2, j3⟩ := mem_seg.mp hy
      exact mem_seg.mpr ⟨j, j1, by omega, j3⟩
    have W := wf i
    have hdw : ∀ y, y ∈ dialW n row i ↔ some y ∈ (endAll (Dl.new n) (row.take i)).here := fun y => mem_dial
    have hdw2 : ∀ y, y ∈ dialW n row (i + 1) ↔ some y ∈ ((endAll (Dl.new n) (row.take i)).ask z).1.here := fun y => by
      unfold dialW
      rw [take_snoc hz, endAll_snoc]
      exact mem_dial
    have hnd : ((endAll (Dl.new n) (row.take i)).here.filterMap id).Nodup := way.nd i (by omega)
    rw [take_snoc hz, endAll_snoc, ← take_snoc hz]
    generalize endAll (Dl.new n) (row.take i) = d at *
    by_cases hm : some z ∈ d.here
    · have hL : ∀ y, (∃ p, b ≤ p ∧ p < i + 1 ∧ row[p]? = some y ∧ y ∉ dialW n row p) → ∃ p, b ≤ p ∧ p < i ∧ row[p]? = some y ∧ y ∉ dialW n row p := by
        rintro y ⟨p, p1, p2, p3, p4⟩
        rcases Nat.eq_or_lt_of_le (Nat.le_of_lt_succ p2) with h | h
        · subst h
          rw [hz] at p3
          obtain rfl := Option.some.inj p3
          exact absurd ((hdw z).mpr hm) p4
        · exact ⟨p, p1, h, p3, p4⟩
      have ea : (d.ask z).1 = { d with seen := d.seen.set (d.here.idxOf (some z)) true } := by unfold Dl.ask; rw [if_pos hm]
      refine ⟨⟨w, ?_⟩, fun y hy => (hdw2 y).mpr (by rw [ea]; exact (hdw y).mp (hin y (hL y hy)))⟩
      rw [ea]
      obtain ⟨hd, wh, one, two, ld⟩ := I
      have hidx := List.idxOf_lt_length_iff.mpr hm
      have hat : d.here[d.here.idxOf (some z)]? = some (some z) := by rw [List.getElem?_eq_getElem hidx]; simp
      refine ⟨hd, wh, fun s hsn s1 s2 => ?_, fun s hsn s1 => ?_, fun s y hsn s1 s2 => ?_⟩
      · by_cases e : s = d.here.idxOf (some z)
        · exact ⟨z, by rw [e]; exact hat, hzs⟩
        · simp only at s2
          rw [List.getElem?_set_ne (fun q => e q.symm)] at s2
          obtain ⟨y, y1, y2⟩ := one s hsn s1 s2
          exact ⟨y, y1, up y y2⟩
      · obtain ⟨y, y1, y2⟩ := two s hsn s1
        exact ⟨y, y1, up y y2⟩
      · obtain ⟨l1, l2⟩ := ld s y hsn s1 (hL y s2)
        refine ⟨l1, ?_⟩
        by_cases e : s = d.here.idxOf (some z)
        · refine .inl ?_
          show (d.seen.set (d.here.idxOf (some z)) true)[s]? = _
          rw [e, List.getElem?_set_self]
          rw [W.sl, ← W.hl]
          exact hidx
        · show (d.seen.set (d.here.idxOf (some z)) true)[s]? = _ ∨ _
          rw [List.getElem?_set_ne (fun q => e q.symm)]
          exact l2
    · have hzn : z ∉ dialW n row i := fun h => hm ((hdw z).mp h)
      obtain ⟨w', I'⟩ := I.spin (d.seen.count true)
      have sf := spin_facts n0 (d.seen.count true) d.seen d.hand (Nat.le_refl _) W.sl W.hd
      have es : d.spin = Cw.spin n (d.seen.count true) d.seen d.hand := by unfold Dl.spin; rw [W.hl]
      rw [← es] at I' sf
      have ea : (d.ask z).1 = ⟨d.here.set d.spin.2.1 (some z), d.spin.1.set d.spin.2.1 true, (d.spin.2.1 + 1) % d.here.length, d.lacks + 1⟩ := by unfold Dl.ask; rw [if_neg hm]
      rw [ea] at hdw2 ⊢
      generalize d.spin.1 = seen at *
      generalize d.spin.2.1 = hand at *
      obtain ⟨sl, hd', nm, _⟩ := sf
      obtain ⟨hd, wh, one, two, ld⟩ := I'
      have hl := W.hl
      have notL : ∀ y, d.here[hand]? = some (some y) → ¬ ∃ p, b ≤ p ∧ p < i ∧ row[p]? = some y ∧ y ∉ dialW n row p := by
        intro y hy hL
        obtain ⟨l1, l2⟩ := ld hand y hd' hy hL
        have l3 := l2.resolve_left nm
        have full : ∀ s, s < n → ∃ x, d.here[s]? = some (some x) ∧ x ∈ (row.take i).drop b := fun s hs => two s hs (stepped_all l3)
        have lenall : ∀ hs : List (Option Int), (∀ s, s < hs.length → ∃ x, hs[s]? = some (some x)) → (hs.filterMap id).length = hs.length := by
          intro hs
          induction hs with
          | nil => intro _; rfl
          | cons o r ih =>
            intro h
            obtain ⟨x, hx⟩ := h 0 (by simp)
            have ho : o = some x := Option.some.inj hx
            subst ho
            rw [List.filterMap_cons]
            show (x :: r.filterMap id).length = _
            rw [List.length_cons, List.length_cons, ih fun s hs => by
              have := h (s + 1) (by simp; omega)
              simpa using this]
        have len : (d.here.filterMap id).length = n := by
          rw [lenall d.here fun s hs => by obtain ⟨x, x1, _⟩ := full s (by omega); exact ⟨x, x1⟩]
          exact hl
        have nd2 : (z :: d.here.filterMap id).Nodup := List.nodup_cons.mpr ⟨fun h => hm (mem_dial.mp h), hnd⟩
        have := firsts_max (m := (row.take e).drop b) nd2 fun v hv => by
          rcases List.mem_cons.mp hv with h | h
          · rw [h]; exact mem_seg.mpr ⟨i, by omega, by omega, hz⟩
          · obtain ⟨s, hs, hse⟩ := List.mem_iff_getElem.mp (mem_dial.mp h)
            obtain ⟨x, x1, x2⟩ := full s (by omega)
            rw [List.getElem?_eq_getElem hs, hse] at x1
            have : v = x := Option.some.inj (Option.some.inj x1)
            subst this
            obtain ⟨j, j1, j2, j3⟩ := mem_seg.mp x2
            exact mem_seg.mpr ⟨j, j1, by omega, j3⟩
        rw [List.length_cons, len] at this
        omega
      have hL : ∀ y, (∃ p, b ≤ p ∧ p < i + 1 ∧ row[p]? = some y ∧ y ∉ dialW n row p) → y = z ∨ ∃ p, b ≤ p ∧ p < i ∧ row[p]? = some y ∧ y ∉ dialW n row p := by
        rintro y ⟨p, p1, p2, p3, p4⟩
        rcases Nat.eq_or_lt_of_le (Nat.le_of_lt_succ p2) with h | h
        · subst h
          rw [hz] at p3
          exact .inl (Option.some.inj p3).symm
        · exact .inr ⟨p, p1, h, p3, p4⟩
      have self : (d.here.set hand (some z))[hand]? = some (some z) := List.getElem?_set_self (by omega)
      have other : ∀ s, s ≠ hand → (d.here.set hand (some z))[s]? = d.here[s]? := fun s h => List.getElem?_set_ne fun q => h q.symm
      have self2 : (seen.set hand true)[hand]? = some true := List.getElem?_set_self (by omega)
      have other2 : ∀ s, s ≠ hand → (seen.set hand true)[s]? = seen[s]? := fun s h => List.getElem?_set_ne fun q => h q.symm
      simp only at hdw2 ⊢
      rw [hl]
      refine ⟨⟨wrap n w' hand, Nat.mod_lt _ n0, wrap_wh hd' wh, fun s hsn s1 s2 => ?_, fun s hsn s1 => ?_, fun s y hsn s1 s2 => ?_⟩, fun y hy => (hdw2 y).mpr ?_⟩
      · by_cases e : s = hand
        · subst e; exact ⟨z, self, hzs⟩
        · rw [other2 s e] at s2
          obtain ⟨y, y1, y2⟩ := one s hsn ((stepped_other hd' hsn e).mp s1) s2
          exact ⟨y, by rw [other s e]; exact y1, up y y2⟩
      · by_cases e : s = hand
        · subst e; exact ⟨z, self, hzs⟩
        · obtain ⟨y, y1, y2⟩ := two s hsn ((stepped_other hd' hsn e).mp s1)
          exact ⟨y, by rw [other s e]; exact y1, up y y2⟩
      · by_cases e : s = hand
        · subst e
          refine ⟨(stepped_self hd').mpr ?_, .inl self2⟩
          unfold stepped
          split
          · have := wh (by assumption); omega
          · omega
        · rw [other s e] at s1
          rcases hL y s2 with h | h
          · subst h
            exact absurd (List.mem_of_getElem? s1) hm
          · obtain ⟨l1, l2⟩ := ld s y hsn s1 h
            rw [stepped_other hd' hsn e, stepped_other hd' hsn e, other2 s e]
            exact ⟨l1, l2⟩
      · rcases hL y hy with h | h
        · subst h; exact List.mem_of_getElem? self
        · have h3 := (hdw y).mp (hin y h)
          obtain ⟨s, hs, hse⟩ := List.mem_iff_getElem.mp h3
          have hs1 : d.here[s]? = some (some y) := by rw [List.getElem?_eq_getElem hs, hse]
          have hne : s ≠ hand := fun q => by rw [q] at hs1; exact notL y hs1 h
          exact List.mem_of_getElem? (by rw [other s hne]; exact hs1)
/-- by no rule a page lacks twice in a stretch -/
theorem no_twice {n : Nat} (n0 : 0 < n) (n8 : n ≤ 8) (z : Str) {row : List Int} {b e : Nat} (hle : (firsts ((row.take e).drop b)).length ≤ n) (hel : e ≤ row.length) {p q : Nat} (hb : b ≤ p) (hpq : p < q) (hq : q < e)
    (lp : lackAt row (ruleW n z row) p = true) (lq : lackAt row (ruleW n z row) q = true) : row.getD p 0 ≠ row.getD q 0 := by
  intro heq
  have get : ∀ t, t < row.length → row[t]? = some (row.getD t 0) := fun t ht => by rw [List.getD_eq_getElem?_getD, List.getElem?_eq_getElem ht]; rfl
  have hp := get p (by omega)
  have lp' := of_decide_eq_true lp
  have lq' := of_decide_eq_true lq
  refine lq' ?_
  rw [← heq]
  generalize row.getD p 0 = x at *
  unfold ruleW at *
  by_cases hz : z = Str.ofString "hand"
  · rw [if_pos hz] at lp' ⊢
    exact (stays_dial n0 n8 hle hel q (by omega) (by omega)).2 x ⟨p, hb, hpq, hp, lp'⟩
  · rw [if_neg hz] at lp' ⊢
    obtain ⟨A, B, h, _⟩ := stays_keep n0 (decide (z = Str.ofString "unseen")) hle hel hb (by omega) hp lp' q hpq (by omega)
    rw [h]
    simp
end Cw
namespace Cw
open PySem
/-! the pages that lack in a stretch -/
theorem places_pair : ∀ bs : List Bool, (places bs).Pairwise (· < ·) := by
  refine list_snoc_ind (by simp [places, placesFrom]) ?_
  intro l b ih
  rw [places_snoc, List.pairwise_append]
  refine ⟨ih, by cases b <;> simp, fun x hx y hy => ?_⟩
  have := places_mem l x hx
  cases b with
  | false => simp at hy
  | true => simp at hy; omega
theorem places_at : ∀ (bs : List Bool) (p : Int), p ∈ places bs ↔ ∃ j : Nat, p = (j : Int) ∧ bs[j]? = some true := by
  refine list_snoc_ind (by intro p; simp [places, placesFrom]) ?_
  intro l b ih p
  rw [places_snoc, List.mem_append, ih]
  constructor
  · rintro (⟨j, rfl, h⟩ | h)
    · exact ⟨j, rfl, by rw [List.getElem?_append_left (List.getElem?_eq_some_iff.mp h).1]; exact h⟩
    · cases b with
      | false => simp at h
      | true => simp at h; exact ⟨l.length, h, by simp⟩
  · rintro ⟨j, rfl, h⟩
    rcases Nat.lt_or_ge j l.length with lt | ge
    · rw [List.getElem?_append_left lt] at h
      exact .inl ⟨j, rfl, h⟩
    · rw [List.getElem?_append_right ge] at h
      have hj : j - l.length = 0 := by
        have := (List.getElem?_eq_some_iff.mp h).1
        simp at this
        omega
      rw [hj] at h
      have hb : b = true := Option.some.inj h
      have : j = l.length := by omega
      subst this
      exact .inr (by rw [hb]; simp)
theorem lackB_at {n : Nat} {z : Str} {row : List Int} {j : Nat} (h : (lackB n z row)[j]? = some true) : j < row.length ∧ lackAt row (ruleW n z row) j = true := by
  have e := lackB_take n z row row.length (Nat.le_refl _)
  rw [List.take_length] at e
  rw [e, List.getElem?_map] at h
  obtain ⟨i, hi, hl⟩ := Option.map_eq_some_iff.mp h
  obtain ⟨h1, h2⟩ := List.getElem?_eq_some_iff.mp hi
  rw [List.getElem_range] at h2
  subst h2
  rw [List.length_range] at h1
  exact ⟨h1, hl⟩
def pagesAt (row ps : List Int) : List Int := ps.map fun p => row.getD p.toNat 0
theorem pages_nodup {n : Nat} (n0 : 0 < n) (n8 : n ≤ 8) (z : Str) {row : List Int} {b e : Nat} (hle : (firsts ((row.take e).drop b)).length ≤ n) (hel : e ≤ row.length) :
    (pagesAt row (cntL (lackB n z row) b e)).Nodup ∧ (cntL (lackB n z row) b e).length ≤ n := by
  have hm : ∀ p ∈ cntL (lackB n z row) b e, ∃ j : Nat, p = (j : Int) ∧ b ≤ j ∧ j < e ∧ lackAt row (ruleW n z row) j = true := by
    intro p hp
    rw [← cntL_law, List.mem_filter] at hp
    obtain ⟨h1, h2⟩ := hp
    obtain ⟨j, rfl, hj⟩ := (places_at _ _).mp h1
    have := of_decide_eq_true h2
    exact ⟨j, rfl, by omega, by omega, (lackB_at hj).2⟩
  have nd : (pagesAt row (cntL (lackB n z row) b e)).Nodup := by
    unfold pagesAt List.Nodup
    rw [List.pairwise_map]
    have hp : (cntL (lackB n z row) b e).Pairwise (· < ·) := by
      rw [← cntL_law]
      exact (places_pair _).filter _
    refine hp.imp_of_mem fun {p q} h1 h2 h3 => ?_
    obtain ⟨i, rfl, i1, i2, i3⟩ := hm p h1
    obtain ⟨j, rfl, j1, j2, j3⟩ := hm q h2
    rw [Int.toNat_natCast, Int.toNat_natCast]
    exact no_twice n0 n8 z hle hel i1 (by omega) j2 i3 j3
  refine ⟨nd, ?_⟩
  have := firsts_max (m := (row.take e).drop b) nd fun x hx => by
    obtain ⟨p, hp, rfl⟩ := List.mem_map.mp hx
    obtain ⟨j, rfl, j1, j2, _⟩ := hm p hp
    rw [Int.toNat_natCast]
    exact mem_seg.mpr ⟨j, j1, j2, by rw [List.getD_eq_getElem?_getD, List.getElem?_eq_getElem (by omega)]; rfl⟩
  unfold pagesAt at this
  rw [List.length_map] at this
  omega
theorem cntL_split (bs : List Bool) {b e n : Nat} (h1 : b ≤ e) (h2 : e ≤ n) : (cntL bs b n).length = (cntL bs b e).length + (cntL bs e n).length := by
  rw [← cntL_law, ← cntL_law, ← cntL_law, filter_split _ _ (fun p => decide (p < (e : Int)))]
  congr 2
  · congr 1
    funext p
    simp only [Bool.decide_and]
    by_cases h3 : p < (e : Int)
    · have : p < (n : Int) := by omega
      simp [h3, this]
    · simp [h3]
  · congr 1
    funext p
    simp only [Bool.decide_and]
    by_cases h3 : p < (e : Int)
    · have : ¬ (e : Int) ≤ p := by omega
      simp [h3, this]
    · have h4 : (e : Int) ≤ p := by omega
      have h5 : (b : Int) ≤ p := by omega
      simp [h3, h4, h5]
theorem chain_count {n : Nat} (n0 : 0 < n) (n8 : n ≤ 8) (z : Str) {row : List Int} : ∀ {b : Nat} {ps : List (Int × Int)}, Chain n row b ps → b ≤ row.length ∧ (cntL (lackB n z row) b row.length).length ≤ n * ps.length
  | _, _, .nil => ⟨Nat.le_refl _, by rw [cntL_start]; exact Nat.zero_le _⟩
  | _, _, .cons (b := b) (e := e) (ps := ps) h1 h2 h3 h4 h5 => by
    refine ⟨by omega, ?_⟩
    obtain ⟨_, ih⟩ := chain_count n0 n8 z h5
    have := (pages_nodup n0 n8 z h3 h2).2
    rw [cntL_split _ (Nat.le_of_lt h1) h2, List.length_cons, Nat.mul_succ]
    omega
theorem rooms_times {n : Nat} (n0 : 0 < n) (n8 : n ≤ 8) (z : Str) (row : List Int) : (places (lackB n z row)).length ≤ n * bestN n row := by
  have h := (chain_count n0 n8 z (parts_chain n0 row)).2
  have e : cntL (lackB n z row) 0 row.length = places (lackB n z row) := by
    rw [← cntL_law]
    refine List.filter_eq_self.mpr fun p hp => ?_
    have := places_mem _ p hp
    rw [lackB_len] at this
    simp
    omega
  rw [e] at h
  exact Nat.le_trans h (Nat.mul_le_mul_left _ (parts_best n0 row))
theorem firsts_nodup {l : List Int} (h : l.Nodup) : (firsts l).length = l.length := Nat.le_antisymm (firsts_len_le l) (firsts_max h fun x hx => hx)
theorem pagesAt_take {row ps : List Int} {i : Nat} {p : Int} {x : Int} (h : ps[i]? = some p) (hx : row.getD p.toNat 0 = x) : pagesAt row (ps.take (i + 1)) = pagesAt row (ps.take i) ++ [x] := by
  unfold pagesAt
  rw [take_snoc h, List.map_append, ← hx]
  rfl
end Cw
namespace Cw
open PySem L2
theorem chain_seg {r : Nat} {row : List Int} : ∀ {b : Nat} {ps : List (Int × Int)}, Chain r row b ps → ∀ {u e : Nat}, ((u : Int), (e : Int)) ∈ ps → e ≤ row.length ∧ (firsts ((row.take e).drop u)).length ≤ r
  | _, _, .nil, u, e, h => by cases h
  | _, _, .cons h1 h2 h3 h4 h5, u, e, h => by
    rcases List.mem_cons.mp h with h | h
    · have e1 := congrArg Prod.fst h
      have e2 := congrArg Prod.snd h
      simp only [Int.natCast_inj] at e1 e2
      subst e1 e2
      exact ⟨h2, h3⟩
    · exact chain_seg h5 h
/-- a list that changes is no tuple -/
theorem SqT_frW {K : PySem.W.Frag} {H H' : Hp} {c t : Addr} {xs ys : List V} (h : SqT K H t xs) (f : Fr [c] H H') (hc : H c = some (.lst ys)) : SqT K H' t xs := by
  rcases h with (h | ⟨o, h⟩) | h
  · exact .inl (.inl (f.get h (by simp; intro e; subst e; rw [hc] at h; cases h)))
  · exact .inl (.inr ⟨o, f.get h (by simp; intro e; subst e; rw [hc] at h; cases h)⟩)
  · exact .inr h
end Cw

namespace Cw
open PySem
/-! the fewest lacks of all ways, gone through by sets of pages kept -/
/-- a way's first steps: what is kept behind i asks, and how many lacked -/
inductive Goes (r : Nat) (row : List Int) : Nat → List Int → Nat → Prop
  | zero : Goes r row 0 [] 0
  | hit {i : Nat} {K : List Int} {m : Nat} {x : Int} : Goes r row i K m → row[i]? = some x → x ∈ K → Goes r row (i + 1) K m
  | miss {i : Nat} {K L : List Int} {m : Nat} {x : Int} : Goes r row i K m → row[i]? = some x → x ∉ K → L.Nodup → L.length ≤ r → x ∈ L → (∀ y ∈ L, y = x ∨ y ∈ K) → Goes r row (i + 1) L (m + 1)
structure WayTo (r : Nat) (row : List Int) (i : Nat) (K : List Int) (m : Nat) (S : Nat → List Int) : Prop where
  nd : ∀ j, j ≤ i → (S j).Nodup
  le : ∀ j, j ≤ i → (S j).length ≤ r
  zero : S 0 = []
  step : ∀ j x, j < i → row[j]? = some x → ∀ y ∈ S (j + 1), y = x ∨ y ∈ S j
  has : ∀ j x, j < i → row[j]? = some x → x ∈ S (j + 1)
  last : S i = K
  cnt : ((List.range i).filter (lackAt row S)).length = m
theorem wayTo_more {r : Nat} {row : List Int} {i : Nat} {K L : List Int} {m m' : Nat} {x : Int} {S : Nat → List Int} (w : WayTo r row i K m S) (hx : row[i]? = some x) (nd : L.Nodup) (le : L.length ≤ r) (hL : ∀ y ∈ L, y = x ∨ y ∈ K) (hxL : x ∈ L)
    (hm : m' = m + if x ∈ K then 0 else 1) : ∃ S', WayTo r row (i + 1) L m' S' := by
  obtain ⟨w1, w2, w3, w4, w5, w6, w7⟩ := w
  have old : ∀ j, j ≤ i → (if j ≤ i then S j else L) = S j := fun j h => if_pos h
  have new : (if i + 1 ≤ i then S (i + 1) else L) = L := if_neg (by omega)
  refine ⟨fun j => if j ≤ i then S j else L, fun j hj => ?_, fun j hj => ?_, ?_, fun j y hj hy z hz => ?_, fun j y hj hy => ?_, new, ?_⟩
  · rcases Nat.lt_or_ge i j with h | h
    · simp only [if_neg (show ¬ j ≤ i by omega)]; exact nd
    · simp only [if_pos h]; exact w1 j h
  · rcases Nat.lt_or_ge i j with h | h
    · simp only [if_neg (show ¬ j ≤ i by omega)]; exact le
    · simp only [if_pos h]; exact w2 j h
  · show (if 0 ≤ i then S 0 else L) = []
    rw [if_pos (Nat.zero_le i)]; exact w3
  · have hz : z ∈ (if j + 1 ≤ i then S (j + 1) else L) := hz
    show z = y ∨ z ∈ (if j ≤ i then S j else L)
    rcases Nat.lt_or_ge j i with h | h
    · rw [old _ (by omega)] at hz
      rw [old j (by omega)]
      exact w4 j y h hy z hz
    · have : j = i := by omega
      subst this
      rw [new] at hz
      rw [old j (Nat.le_refl _)]
      rw [hx] at hy
      obtain rfl := Option.some.inj hy
      rw [w6]
      exact hL z hz
  · rcases Nat.lt_or_ge j i with h | h
    · simp only [old (j + 1) (by omega)]
      exact w5 j y h hy
    · have : j = i := by omega
      subst this
      simp only [new]
      rw [hx] at hy
      obtain rfl := Option.some.inj hy
      exact hxL
  · rw [List.range_succ, List.filter_append, List.length_append, hm]
    congr 1
    · rw [← w7]
      congr 1
      refine List.filter_congr fun j hj => ?_
      rw [List.mem_range] at hj
      unfold lackAt
      simp only [old j (by omega)]
    · have hg : row.getD i 0 = x := by rw [List.getD_eq_getElem?_getD, hx]; rfl
      by_cases h : x ∈ K
      · rw [if_pos h, List.filter_cons_of_neg]
        · rfl
        · unfold lackAt
          simp only [old i (Nat.le_refl _)]
          rw [w6, hg]
          simpa using h
      · rw [if_neg h, List.filter_cons_of_pos]
        · rfl
        · unfold lackAt
          simp only [old i (Nat.le_refl _)]
          rw [w6, hg]
          simpa using h
theorem goes_ok {r : Nat} {row : List Int} {i : Nat} {K : List Int} {m : Nat} (g : Goes r row i K m) : K.Nodup ∧ K.length ≤ r ∧ ∃ S, WayTo r row i K m S := by
  induction g with
  | zero => exact ⟨List.nodup_nil, Nat.zero_le _, fun _ => [], fun _ _ => List.nodup_nil, fun _ _ => Nat.zero_le _, rfl, fun j _ h => by omega, fun j _ h => by omega, rfl, rfl⟩
  | hit g hx hxK ih =>
    obtain ⟨nd, le, S, w⟩ := ih
    exact ⟨nd, le, wayTo_more w hx nd le (fun y hy => .inr hy) hxK (by rw [if_pos hxK]; rfl)⟩
  | miss g hx hxK nd2 le2 hxL hL ih =>
    obtain ⟨nd, le, S, w⟩ := ih
    exact ⟨nd2, le2, wayTo_more w hx nd2 le2 hL hxL (by rw [if_neg hxK])⟩
theorem goes_best {r : Nat} (r0 : 0 < r) {row : List Int} {K : List Int} {m : Nat} (g : Goes r row row.length K m) : bestN r row ≤ m := by
  obtain ⟨_, _, S, w⟩ := goes_ok g
  have e : lackN row S = m := w.cnt
  rw [← e]
  refine best_least r0 ⟨fun i h => w.nd i h, fun i h => w.le i h, w.zero, fun i x hx => w.step i x (List.getElem?_eq_some_iff.mp hx).1 hx, fun i x hx => w.has i x (List.getElem?_eq_some_iff.mp hx).1 hx⟩
/-! what is known, by sets -/
abbrev Kn : Type := List (List Int × Int)
def look (kn : Kn) (k : List Int) : Option Int := (kn.find? fun e => decide (e.1 = k)).map (·.2)
def put (kn : Kn) (k : List Int) (v : Int) : Kn := if (look kn k).isSome then kn.map fun e => if e.1 = k then (e.1, v) else e else kn ++ [(k, v)]
def least (a b : Int) : Int := if b < a then b else a
def relax (kn : Kn) (k : List Int) (c : Int) : Kn := put kn k (least c ((look kn k).getD c))
def succs (r : Nat) (x : Int) (K : List Int) : List (List Int) := if x ∈ K then [K] else if K.length = r then K.map fun g => sorts (K.filter (fun y => decide (y ≠ g)) ++ [x]) else [sorts (K ++ [x])]
def costs (x : Int) (e : List Int × Int) : Int := e.2 + if x ∈ e.1 then 0 else 1
def fewE (r : Nat) (x : Int) (lt : Kn) (e : List Int × Int) : Kn := (succs r x e.1).foldl (fun lt o => relax lt o (costs x e)) lt
def fewS (r : Nat) (kn : Kn) (x : Int) : Kn := kn.foldl (fewE r x) []
def fewM (r : Nat) (row : List Int) : Kn := row.foldl (fewS r) [([], 0)]
theorem look_nil (k : List Int) : look [] k = none := rfl
theorem look_mem {kn : Kn} {k : List Int} {v : Int} (h : look kn k = some v) : (k, v) ∈ kn := by
  unfold look at h
  obtain ⟨e, he, rfl⟩ := Option.map_eq_some_iff.mp h
  have := List.find?_some he
  have hk : e.1 = k := of_decide_eq_true this
  rw [← hk]
  exact List.mem_of_find?_eq_some he
theorem look_some {kn : Kn} {e : List Int × Int} (h : e ∈ kn) : (look kn e.1).isSome = true := by
  unfold look
  rw [Option.isSome_map, List.find?_isSome]
  exact ⟨e, h, by simp⟩
theorem look_put {kn : Kn} {k : List Int} {v : Int} (k' : List Int) : look (put kn k v) k' = if k = k' then some v else look kn k' := by
  unfold put
  by_cases h : (look kn k).isSome = true
  · rw [if_pos h]
    have gen : ∀ l : Kn, look (l.map fun e => if e.1 = k then (e.1, v) else e) k' = if k = k' then (look l k).map fun _ => v else look l k' := by
      intro l
      induction l with
      | nil => by_cases e : k = k' <;> simp [look, e]
      | cons a l ih =>
        unfold look at ih ⊢
        rw [List.map_cons, List.find?_cons, List.find?_cons, List.find?_cons]
        by_cases ha : a.1 = k
        · by_cases e : k = k'
          · subst e
            simp [ha]
          · have h2 : ¬ a.1 = k' := fun z => e (ha.symm.trans z)
            rw [if_neg e] at ih ⊢
            simp only [ha, if_true, decide_eq_true_eq]
            rw [decide_eq_false (show ¬ k = k' from e)]
            exact ih
        · by_cases e : k = k'
          · subst e
            rw [if_pos rfl] at ih ⊢
            simp only [if_neg ha, decide_eq_false ha]
            exact ih
          · rw [if_neg e] at ih ⊢
            simp only [if_neg ha]
            cases decide (a.1 = k') with
            | true => rfl
            | false => exact ih
    rw [gen]
    by_cases e : k = k'
    · rw [if_pos e, if_pos e]
      cases hl : look kn k with
      | none => rw [hl] at h; cases h
      | some w => rfl
    · rw [if_neg e, if_neg e]
  · rw [if_neg h]
    unfold look at h ⊢
    rw [List.find?_append]
    by_cases e : k = k'
    · subst e
      rw [if_pos rfl]
      cases hf : kn.find? fun e => decide (e.1 = k) with
      | none => simp [hf]
      | some w => rw [hf] at h; exact absurd rfl h
    · rw [if_neg e]
      cases hf : kn.find? fun e => decide (e.1 = k') with
      | none => simp [e]
      | some w => rfl
theorem keys_put (kn : Kn) (k : List Int) (v : Int) : (put kn k v).map (·.1) = if (look kn k).isSome then kn.map (·.1) else kn.map (·.1) ++ [k] := by
  unfold put
  split
  · rw [List.map_map]
    refine List.map_congr_left fun e _ => ?_
    simp only [Function.comp]
    split <;> rfl
  · rw [List.map_append]; rfl
structure KnOk (r : Nat) (row : List Int) (i : Nat) (kn : Kn) : Prop where
  keys : (kn.map (·.1)).Nodup
  good : ∀ e ∈ kn, e.1.Pairwise (· < ·) ∧ (∀ y ∈ e.1, 0 ≤ y ∧ y < 12) ∧ ∃ m : Nat, e.2 = (m : Int) ∧ Goes r row i e.1 m
theorem look_of_mem {kn : Kn} (nd : (kn.map (·.1)).Nodup) {e : List Int × Int} (h : e ∈ kn) : look kn e.1 = some e.2 := by
  induction kn with
  | nil => cases h
  | cons a l ih =>
    rw [List.map_cons, List.nodup_cons] at nd
    unfold look
    rw [List.find?_cons]
    rcases List.mem_cons.mp h with h | h
    · subst h; simp
    · have : ¬ a.1 = e.1 := fun z => nd.1 (by rw [z]; exact List.mem_map.mpr ⟨e, h, rfl⟩)
      rw [decide_eq_false this]
      exact ih nd.2 h
theorem put_mem {kn : Kn} {k : List Int} {v : Int} {e : List Int × Int} (h : e ∈ put kn k v) : e = (k, v) ∨ e ∈ kn := by
  unfold put at h
  split at h
  · obtain ⟨a, ha, rfl⟩ := List.mem_map.mp h
    split
    · rename_i hk; exact .inl (by rw [hk])
    · exact .inr ha
  · rcases List.mem_append.mp h with h | h
    · exact .inr h
    · exact .inl (List.mem_singleton.mp h)
theorem put_keys_nodup {kn : Kn} (nd : (kn.map (·.1)).Nodup) (k : List Int) (v : Int) : ((put kn k v).map (·.1)).Nodup := by
  rw [keys_put]
  split
  · exact nd
  · rename_i h
    rw [List.nodup_append]
    refine ⟨nd, by simp, fun a ha b hb e => ?_⟩
    rw [List.mem_singleton.mp hb] at e
    obtain ⟨c, hc, rfl⟩ := List.mem_map.mp ha
    exact h (by rw [← e]; exact look_some hc)
theorem relax_ok {r : Nat} {row : List Int} {i : Nat} {kn : Kn} (ok : KnOk r row i kn) {k : List Int} {m : Nat} (h1 : k.Pairwise (· < ·)) (h2 : ∀ y ∈ k, 0 ≤ y ∧ y < 12) (g : Goes r row i k m) : KnOk r row i (relax kn k (m : Int)) := by
  refine ⟨put_keys_nodup ok.keys _ _, fun e he => ?_⟩
  rcases put_mem he with h | h
  · subst h
    refine ⟨h1, h2, ?_⟩
    unfold least
    split
    · cases hl : look kn k with
      | none => exact ⟨m, rfl, g⟩
      | some v => exact (ok.good _ (look_mem hl)).2.2
    · exact ⟨m, rfl, g⟩
  · exact ok.good e h
theorem relax_has (kn : Kn) (k : List Int) (c : Int) : ∃ v, look (relax kn k c) k = some v ∧ v ≤ c := by
  unfold relax
  rw [look_put, if_pos rfl]
  refine ⟨_, rfl, ?_⟩
  unfold least
  split <;> omega
theorem relax_keeps {kn : Kn} {k' : List Int} {v : Int} (h : look kn k' = some v) (k : List Int) (c : Int) : ∃ v', look (relax kn k c) k' = some v' ∧ v' ≤ v := by
  unfold relax
  rw [look_put]
  by_cases e : k = k'
  · subst e
    rw [if_pos rfl]
    refine ⟨_, rfl, ?_⟩
    rw [h]
    unfold least
    simp only [Option.getD_some]
    split <;> omega
  · rw [if_neg e]; exact ⟨v, h, Int.le_refl _⟩
theorem fold_keeps {k' : List Int} (c : Int) : ∀ (os : List (List Int)) (kn : Kn) (v : Int), look kn k' = some v → ∃ v', look (os.foldl (fun lt o => relax lt o c) kn) k' = some v' ∧ v' ≤ v
  | [], kn, v, h => ⟨v, h, Int.le_refl _⟩
  | o :: os, kn, v, h => by
    obtain ⟨v1, h1, l1⟩ := relax_keeps h o c
    obtain ⟨v2, h2, l2⟩ := fold_keeps c os _ v1 h1
    exact ⟨v2, h2, by omega⟩
theorem fold_has (c : Int) {o : List Int} : ∀ (os : List (List Int)) (kn : Kn), o ∈ os → ∃ v, look (os.foldl (fun lt o => relax lt o c) kn) o = some v ∧ v ≤ c
  | [], _, h => by cases h
  | a :: os, kn, h => by
    by_cases e : o = a
    · subst e
      obtain ⟨v1, h1, l1⟩ := relax_has kn o c
      obtain ⟨v2, h2, l2⟩ := fold_keeps c os _ v1 h1
      exact ⟨v2, h2, by omega⟩
    · exact fold_has c os _ ((List.mem_cons.mp h).resolve_left e)
theorem fewE_keeps {r : Nat} {x : Int} {k' : List Int} : ∀ (es : Kn) (lt : Kn) (v : Int), look lt k' = some v → ∃ v', look (es.foldl (fewE r x) lt) k' = some v' ∧ v' ≤ v
  | [], lt, v, h => ⟨v, h, Int.le_refl _⟩
  | e :: es, lt, v, h => by
    obtain ⟨v1, h1, l1⟩ := fold_keeps (costs x e) (succs r x e.1) lt v h
    obtain ⟨v2, h2, l2⟩ := fewE_keeps es _ v1 h1
    exact ⟨v2, h2, by omega⟩
theorem fewE_has {r : Nat} {x : Int} {e : List Int × Int} {o : List Int} : ∀ (es : Kn) (lt : Kn), e ∈ es → o ∈ succs r x e.1 → ∃ v, look (es.foldl (fewE r x) lt) o = some v ∧ v ≤ costs x e
  | [], _, h, _ => by cases h
  | a :: es, lt, h, ho => by
    by_cases q : e = a
    · subst q
      obtain ⟨v1, h1, l1⟩ := fold_has (costs x e) (succs r x e.1) lt ho
      obtain ⟨v2, h2, l2⟩ := fewE_keeps (r := r) (x := x) es _ v1 h1
      exact ⟨v2, h2, by omega⟩
    · exact fewE_has es _ ((List.mem_cons.mp h).resolve_left q) ho
theorem sorts_lt {l : List Int} (nd : l.Nodup) : (sorts l).Pairwise (· < ·) := by
  have h1 := sorts_sorted l
  have h2 : (sorts l).Nodup := (sorts_perm l).nodup_iff.mpr nd
  have : (sorts l).Pairwise fun a b => a ≤ b ∧ a ≠ b := h1.and h2
  exact this.imp fun h => by omega
theorem filter_ne {K : List Int} (nd : K.Nodup) (g : Int) : K.filter (fun y => decide (y ≠ g)) = K.erase g := (erase_filter nd).symm
theorem succs_good {r : Nat} (r0 : 0 < r) {row : List Int} {i : Nat} {x : Int} (hx : row[i]? = some x) (hx0 : 0 ≤ x ∧ x < 12) {K : List Int} {m : Nat} (h1 : K.Pairwise (· < ·)) (h2 : ∀ y ∈ K, 0 ≤ y ∧ y < 12) (g : Goes r row i K m) {o : List Int} (ho : o ∈ succs r x K) :
    o.Pairwise (· < ·) ∧ (∀ y ∈ o, 0 ≤ y ∧ y < 12) ∧ Goes r row (i + 1) o (m + if x ∈ K then 0 else 1) := by
  obtain ⟨nd, le, _⟩ := goes_ok g
  unfold succs at ho
  by_cases hm : x ∈ K
  · rw [if_pos hm] at ho ⊢
    rw [List.mem_singleton.mp ho]
    exact ⟨h1, h2, .hit g hx hm⟩
  · rw [if_neg hm] at ho ⊢
    by_cases hl : K.length = r
    · rw [if_pos hl] at ho
      obtain ⟨y, hy, rfl⟩ := List.mem_map.mp ho
      rw [filter_ne nd]
      have hmem : ∀ z, z ∈ sorts (K.erase y ++ [x]) ↔ z ∈ K.erase y ∨ z = x := fun z => by rw [mem_sorts]; simp
      have nd2 : (K.erase y ++ [x]).Nodup := by
        rw [List.nodup_append]
        refine ⟨nd.erase y, by simp, fun a ha b hb e => ?_⟩
        rw [List.mem_singleton.mp hb] at e
        subst e
        exact hm (List.mem_of_mem_erase ha)
      refine ⟨sorts_lt nd2, fun z hz => ?_, .miss g hx hm ((sorts_perm _).nodup_iff.mpr nd2) ?_ ((hmem x).mpr (.inr rfl)) fun z hz => ?_⟩
      · rcases (hmem z).mp hz with h | h
        · exact h2 z (List.mem_of_mem_erase h)
        · rw [h]; exact hx0
      · rw [sorts_len, List.length_append, List.length_erase_of_mem hy]
        simp
        omega
      · rcases (hmem z).mp hz with h | h
        · exact .inr (List.mem_of_mem_erase h)
        · exact .inl h
    · rw [if_neg hl] at ho
      rw [List.mem_singleton.mp ho]
      have hmem : ∀ z, z ∈ sorts (K ++ [x]) ↔ z ∈ K ∨ z = x := fun z => by rw [mem_sorts]; simp
      have nd2 : (K ++ [x]).Nodup := by
        rw [List.nodup_append]
        refine ⟨nd, by simp, fun a ha b hb e => ?_⟩
        rw [List.mem_singleton.mp hb] at e
        subst e
        exact hm ha
      refine ⟨sorts_lt nd2, fun z hz => ?_, .miss g hx hm ((sorts_perm _).nodup_iff.mpr nd2) ?_ ((hmem x).mpr (.inr rfl)) fun z hz => ?_⟩
      · rcases (hmem z).mp hz with h | h
        · exact h2 z h
        · rw [h]; exact hx0
      · rw [sorts_len, List.length_append]
        simp
        omega
      · rcases (hmem z).mp hz with h | h
        · exact .inr h
        · exact .inl h
theorem fold_ok {r : Nat} {row : List Int} {i m : Nat} : ∀ (os : List (List Int)) (lt : Kn), KnOk r row i lt → (∀ o ∈ os, o.Pairwise (· < ·) ∧ (∀ y ∈ o, 0 ≤ y ∧ y < 12) ∧ Goes r row i o m) → KnOk r row i (os.foldl (fun lt o => relax lt o (m : Int)) lt)
  | [], _, h, _ => h
  | o :: os, lt, h, hs => by
    obtain ⟨a, b, c⟩ := hs o (by simp)
    exact fold_ok os _ (relax_ok h a b c) fun o ho => hs o (List.mem_cons_of_mem _ ho)
theorem fewE_ok {r : Nat} (r0 : 0 < r) {row : List Int} {i : Nat} {x : Int} (hx : row[i]? = some x) (hx0 : 0 ≤ x ∧ x < 12) {lt : Kn} (h : KnOk r row (i + 1) lt) {e : List Int × Int} (he : e.1.Pairwise (· < ·) ∧ (∀ y ∈ e.1, 0 ≤ y ∧ y < 12) ∧ ∃ m : Nat, e.2 = (m : Int) ∧ Goes r row i e.1 m) (os : List (List Int)) (hos : ∀ o ∈ os, o ∈ succs r x e.1) :
    KnOk r row (i + 1) (os.foldl (fun lt o => relax lt o (costs x e)) lt) := by
  obtain ⟨h1, h2, m, hm, g⟩ := he
  have hc : costs x e = ((m + if x ∈ e.1 then 0 else 1 : Nat) : Int) := by
    unfold costs
    rw [hm]
    split <;> simp
  rw [hc]
  exact fold_ok _ lt h fun o ho => succs_good r0 hx hx0 h1 h2 g (hos o ho)
theorem fewS_ok {r : Nat} (r0 : 0 < r) {row : List Int} {i : Nat} {x : Int} (hx : row[i]? = some x) (hx0 : 0 ≤ x ∧ x < 12) : ∀ (es : Kn) (lt : Kn), KnOk r row (i + 1) lt → (∀ e ∈ es, e.1.Pairwise (· < ·) ∧ (∀ y ∈ e.1, 0 ≤ y ∧ y < 12) ∧ ∃ m : Nat, e.2 = (m : Int) ∧ Goes r row i e.1 m) → KnOk r row (i + 1) (es.foldl (fewE r x) lt)
  | [], _, h, _ => h
  | e :: es, lt, h, hs => fewS_ok r0 hx hx0 es _ (fewE_ok r0 hx hx0 h (hs e (by simp)) _ fun o ho => ho) fun e he => hs e (List.mem_cons_of_mem _ he)
theorem kn_nil (r : Nat) (row : List Int) (i : Nat) : KnOk r row i [] := ⟨List.nodup_nil, fun e h => by cases h⟩
theorem fewM_succ (r : Nat) {row : List Int} {i : Nat} {x : Int} (hx : row[i]? = some x) : fewM r (row.take (i + 1)) = fewS r (fewM r (row.take i)) x := by
  unfold fewM
  rw [take_snoc hx, List.foldl_append]
  rfl
theorem fewM_ok {r : Nat} (r0 : 0 < r) {row : List Int} (hp : ∀ x ∈ row, 0 ≤ x ∧ x < 12) : ∀ i, i ≤ row.length → KnOk r row i (fewM r (row.take i)) ∧ ∃ v, look (fewM r (row.take i)) (sorts (bestK r row i)) = some v ∧ v ≤ ((bst r row (row.take i)).lacks.length : Int)
  | 0, _ => by
    refine ⟨⟨by simp [fewM], fun e he => ?_⟩, 0, ?_, by simp [bst]⟩
    · have : e = ([], 0) := by simpa [fewM] using he
      subst this
      exact ⟨.nil, by simp, 0, rfl, .zero⟩
    · have : bestK r row 0 = [] := by simp [bestK, bst]
      have e : sorts (bestK r row 0) = [] := by
        rw [this]
        exact List.eq_nil_of_length_eq_zero (by rw [sorts_len]; rfl)
      rw [e]
      simp [fewM, look]
  | i + 1, hi => by
    obtain ⟨x, hx⟩ : ∃ x, row[i]? = some x := ⟨row[i], List.getElem?_eq_getElem (by omega)⟩
    have hx0 := hp x (List.mem_of_getElem? hx)
    obtain ⟨ok, v, hv, hl⟩ := fewM_ok r0 hp i (by omega)
    rw [fewM_succ r hx]
    refine ⟨fewS_ok r0 hx hx0 _ _ (kn_nil _ _ _) fun e he => ok.good e he, ?_⟩
    have hw := best_way r0 row
    have nd := hw.nd i (by omega)
    have hb : sorts (bestK r row (i + 1)) ∈ succs r x (sorts (bestK r row i)) := by
      have hs := bestK_succ r0 hx
      rw [hs]
      unfold succs
      by_cases h1 : x ∈ bestK r row i
      · rw [if_pos h1, if_pos (mem_sorts.mpr h1)]
        simp
      · rw [if_neg h1, if_neg (fun z => h1 (mem_sorts.mp z)), sorts_len]
        by_cases h2 : (bestK r row i).length = r
        · rw [if_pos h2, if_pos h2]
          have hne : bestK r row i ≠ [] := fun z => by rw [z] at h2; simp at h2; omega
          have hf := (far_spec (row.drop i) hne).1
          refine List.mem_map.mpr ⟨far (row.drop i) (bestK r row i), mem_sorts.mpr hf, ?_⟩
          refine sorted_uniq ?_ (sorts_sorted _) (sorts_sorted _)
          refine (sorts_perm _).trans (List.Perm.trans ?_ (sorts_perm _).symm)
          refine List.Perm.append_right _ ?_
          rw [filter_ne ((sorts_perm _).nodup_iff.mpr nd)]
          exact (sorts_perm _).erase _
        · rw [if_neg h2, if_neg h2]
          refine List.mem_singleton.mpr (sorted_uniq ?_ (sorts_sorted _) (sorts_sorted _))
          exact (sorts_perm _).trans (List.Perm.trans (List.Perm.append_right _ (sorts_perm _).symm) (sorts_perm _).symm)
    obtain ⟨v', hv', hl'⟩ := fewE_has (r := r) (x := x) _ [] (look_mem hv) hb
    refine ⟨v', hv', ?_⟩
    have e1 : (bst r row (row.take (i + 1))).lacks.length = (bst r row (row.take i)).lacks.length + if x ∈ bestK r row i then 0 else 1 := by
      rw [take_snoc hx, bst_snoc]
      unfold bestK bstep
      split
      · rfl
      · split <;> simp
    rw [e1]
    unfold costs at hl'
    simp only [mem_sorts] at hl'
    split at hl' <;> rename_i h
    · rw [if_pos h]; omega
    · rw [if_neg h]; omega
/-- the least of what is known behind the whole row -/
theorem few_best {r : Nat} (r0 : 0 < r) {row : List Int} (hp : ∀ x ∈ row, 0 ≤ x ∧ x < 12) : (∃ e ∈ fewM r row, e.2 = (bestN r row : Int)) ∧ ∀ e ∈ fewM r row, (bestN r row : Int) ≤ e.2 := by
  obtain ⟨ok, v, hv, hl⟩ := fewM_ok r0 hp row.length (Nat.le_refl _)
  rw [List.take_length] at ok hv hl
  have low : ∀ e ∈ fewM r row, (bestN r row : Int) ≤ e.2 := fun e he => by
    obtain ⟨_, _, m, hm, g⟩ := ok.good e he
    have := goes_best r0 g
    omega
  have hmem := look_mem hv
  have h1 := low _ hmem
  have h2 : v ≤ (bestN r row : Int) := hl
  exact ⟨⟨_, hmem, by simp only at h1 ⊢; omega⟩, low⟩
/-! how many sets there are -/
def subs : Nat → List (List Int)
  | 0 => [[]]
  | n + 1 => subs n ++ (subs n).map fun l => l ++ [(n : Int)]
theorem subs_len : ∀ n, (subs n).length = 2 ^ n
  | 0 => rfl
  | n + 1 => by
    unfold subs
    rw [List.length_append, List.length_map, subs_len n, Nat.pow_succ]
    omega
theorem subs_mem : ∀ (n : Nat) (l : List Int), l.Pairwise (· < ·) → (∀ y ∈ l, 0 ≤ y ∧ y < (n : Int)) → l ∈ subs n
  | 0, l, _, h => by
    cases l with
    | nil => simp [subs]
    | cons a l => have := h a (by simp); omega
  | n + 1, l, hp, h => by
    unfold subs
    by_cases hn : (n : Int) ∈ l
    · have hne : l ≠ [] := List.ne_nil_of_mem hn
      have e := List.dropLast_concat_getLast hne
      have hlast : l.getLast hne = (n : Int) := by
        have hm := h _ (List.getLast_mem hne)
        rw [← e] at hn
        rcases List.mem_append.mp hn with h1 | h1
        · rw [← e, List.pairwise_append] at hp
          have := hp.2.2 _ h1 (l.getLast hne) (by simp)
          omega
        · exact (List.mem_singleton.mp h1).symm
      refine List.mem_append_right _ (List.mem_map.mpr ⟨l.dropLast, subs_mem n _ (hp.sublist (List.dropLast_sublist l)) fun y hy => ?_, by rw [← hlast]; exact e⟩)
      have h1 := h y ((List.dropLast_sublist l).subset hy)
      rw [← e, List.pairwise_append] at hp
      have := hp.2.2 y hy (l.getLast hne) (by simp)
      omega
    · refine List.mem_append_left _ (subs_mem n l hp fun y hy => ?_)
      have h1 := h y hy
      have : y ≠ (n : Int) := fun e => hn (by rw [← e]; exact hy)
      omega
theorem kn_len {r : Nat} {row : List Int} {i : Nat} {kn : Kn} (ok : KnOk r row i kn) : kn.length ≤ 4096 := by
  have := nodup_len (m := subs 12) ok.keys fun k hk => by
    obtain ⟨e, he, rfl⟩ := List.mem_map.mp hk
    obtain ⟨h1, h2, _⟩ := ok.good e he
    exact subs_mem 12 _ h1 h2
  rw [List.length_map, subs_len] at this
  exact this
end Cw

namespace Cw
open PySem
/-! other numbers of the pages -/
abbrev Inj {α β : Type} (f : α → β) : Prop := ∀ x y, f x = f y → x = y
theorem inj_opt {f : Int → Int} (hf : Inj f) : Inj (Option.map f) := fun x y h => by
  cases x <;> cases y <;> simp at h
  · rfl
  · rw [hf _ _ h]
theorem mem_re {α β : Type} {f : α → β} (hf : Inj f) {l : List α} {x : α} : f x ∈ l.map f ↔ x ∈ l :=
  ⟨fun h => by obtain ⟨y, h1, h2⟩ := List.mem_map.mp h; rw [← hf _ _ h2]; exact h1, fun h => List.mem_map.mpr ⟨x, h, rfl⟩⟩
theorem idx_re {α β : Type} [BEq α] [LawfulBEq α] [BEq β] [LawfulBEq β] {f : α → β} (hf : Inj f) {x : α} : ∀ l : List α, (l.map f).idxOf (f x) = l.idxOf x
  | [] => rfl
  | y :: l => by
    rw [List.map_cons, List.idxOf_cons, List.idxOf_cons, idx_re hf l]
    have e : (f y == f x) = (y == x) := by
      by_cases h : y = x
      · rw [h, beq_self_eq_true, beq_self_eq_true]
      · rw [beq_false_of_ne h, beq_false_of_ne fun e => h (hf _ _ e)]
    rw [e]
theorem erase_re {f : Int → Int} (hf : Inj f) {x : Int} : ∀ l : List Int, (l.map f).erase (f x) = (l.erase x).map f
  | [] => rfl
  | y :: l => by
    by_cases h : y = x
    · subst h; simp
    · have : f y ≠ f x := fun e => h (hf _ _ e)
      rw [List.map_cons, List.erase_cons_tail (by simpa using this), List.erase_cons_tail (by simpa using h), List.map_cons, erase_re hf l]
theorem keepS_re {f : Int → Int} (hf : Inj f) (n : Nat) (u : Bool) (k : List Int) (x : Int) : keepS n u (k.map f) (f x) = (keepS n u k x).map f := by
  unfold keepS
  by_cases h : x ∈ k
  · rw [if_pos h, if_pos ((mem_re hf).mpr h), erase_re hf]
    cases u <;> simp
  · rw [if_neg h, if_neg (fun z => h ((mem_re hf).mp z)), List.length_map, List.map_append, List.map_drop]
    rfl
theorem keepAll_re {f : Int → Int} (hf : Inj f) (n : Nat) (u : Bool) : ∀ (k r : List Int), keepAll n u (k.map f) (r.map f) = keepAll n u k r
  | _, [] => rfl
  | k, x :: r => by
    have h : decide (f x ∉ k.map f) = decide (x ∉ k) := by
      by_cases h : x ∈ k
      · have h2 := (mem_re hf).mpr h
        have a1 : ¬ (x ∉ k) := fun z => z h
        have a2 : ¬ (f x ∉ k.map f) := fun z => z h2
        rw [decide_eq_false a1, decide_eq_false a2]
      · have h2 : f x ∉ k.map f := fun z => h ((mem_re hf).mp z)
        rw [decide_eq_true h, decide_eq_true h2]
    rw [List.map_cons, keepAll, keepAll, h, keepS_re hf, keepAll_re hf n u]
def Dl.re (f : Int → Int) (d : Dl) : Dl := ⟨d.here.map (Option.map f), d.seen, d.hand, d.lacks⟩
def Tl.re (f : Int → Int) (t : Tl) : Tl := ⟨t.lack, t.gone.map f, t.passed⟩
theorem ask_re {f : Int → Int} (hf : Inj f) (d : Dl) (x : Int) : (d.re f).ask (f x) = ((d.ask x).1.re f, (d.ask x).2.re f) := by
  have hm : some (f x) ∈ (d.re f).here ↔ some x ∈ d.here := mem_re (inj_opt hf) (x := some x)
  have hi : (d.re f).here.idxOf (some (f x)) = d.here.idxOf (some x) := idx_re (inj_opt hf) (x := some x) d.here
  have hs : (d.re f).spin = d.spin := by
    unfold Dl.spin Dl.re
    simp only [List.length_map]
  unfold Dl.ask
  by_cases h : some x ∈ d.here
  · rw [if_pos h, if_pos (hm.mpr h), hi]
    rfl
  · rw [if_neg h, if_neg (fun z => h (hm.mp z)), hs]
    have e1 : (d.re f).here.set d.spin.2.1 (some (f x)) = (d.here.set d.spin.2.1 (some x)).map (Option.map f) := by
      rw [List.map_set]; rfl
    have e2 : ((d.re f).here[d.spin.2.1]?).join = ((d.here[d.spin.2.1]?).join).map f := by
      show ((d.here.map (Option.map f))[d.spin.2.1]?).join = _
      rw [List.getElem?_map]
      cases d.here[d.spin.2.1]? with
      | none => rfl
      | some o => rfl
    have e3 : (d.re f).here.length = d.here.length := List.length_map _
    rw [e1, e2, e3]
    rfl
theorem askAll_re {f : Int → Int} (hf : Inj f) : ∀ (d : Dl) (r : List Int), askAll (d.re f) (r.map f) = (askAll d r).map (Tl.re f)
  | _, [] => rfl
  | d, x :: r => by
    rw [List.map_cons, askAll, askAll, ask_re hf, List.map_cons, askAll_re hf]
theorem new_re (f : Int → Int) (n : Nat) : (Dl.new n).re f = Dl.new n := by
  unfold Dl.re Dl.new
  simp
theorem told_re {f : Int → Int} (hf : Inj f) (n : Nat) (r : List Int) : askAll (Dl.new n) (r.map f) = (askAll (Dl.new n) r).map (Tl.re f) := by
  rw [← askAll_re hf, new_re]
theorem lackB_re {f : Int → Int} (hf : Inj f) (n : Nat) (z : Str) (r : List Int) : lackB n z (r.map f) = lackB n z r := by
  unfold lackB
  split
  · rw [told_re hf, List.map_map]
    rfl
  · exact keepAll_re hf n _ [] r
theorem lastAt_re {f : Int → Int} (hf : Inj f) (l : List Int) (x : Int) : lastAt (l.map f) (f x) = lastAt l x := by
  unfold lastAt
  rw [List.length_map]
  congr 1
  congr 1
  funext i
  rw [List.getElem?_map]
  cases h : l[i]? with
  | none => simp
  | some y =>
    by_cases e : y = x
    · subst e; simp
    · have : f y ≠ f x := fun q => e (hf _ _ q)
      simp [e, this]
theorem getD_re {f : Int → Int} {l : List Int} {e : Nat} (h : e < l.length) : (l.map f).getD e 0 = f (l.getD e 0) := by
  rw [List.getD_eq_getElem?_getD, List.getD_eq_getElem?_getD, List.getElem?_map, List.getElem?_eq_getElem h]
  rfl
theorem spells_re {f : Int → Int} (hf : Inj f) (l : List Int) : spellsM (l.map f) = spellsM l := by
  have h : ∀ i, i ≤ l.length → spellsTo (l.map f) i = spellsTo l i := by
    intro i
    induction i with
    | zero => intro _; rfl
    | succ i ih =>
      intro hi
      rw [spellsTo_succ, spellsTo_succ, ih (by omega)]
      congr 1
      unfold spellAt
      rw [getD_re (by omega), ← List.map_take, lastAt_re hf]
  unfold spellsM
  rw [List.length_map]
  exact h _ (Nat.le_refl _)
theorem shown_re {f : Int → Int} (hf : Inj f) (r : Int) (l ps : List Int) : shownM r (l.map f) ps = shownM r l ps := by
  unfold shownM
  rw [spells_re hf, List.length_map]
theorem best_re {f : Int → Int} (hf : Inj f) {r : Nat} (r0 : 0 < r) (l : List Int) : bestN r (l.map f) = bestN r l := by
  obtain ⟨p1, _, _, h1⟩ := strong r0 l
  obtain ⟨p2, _, _, h2⟩ := strong r0 (l.map f)
  have a1 := shown_le r0 (l.map f) p1
  have a2 := shown_le r0 l p2
  rw [shown_re hf] at a1 h2
  omega
theorem firsts_re {f : Int → Int} (hf : Inj f) : ∀ l : List Int, firsts (l.map f) = (firsts l).map f := by
  refine list_snoc_ind rfl ?_
  intro l x ih
  rw [List.map_append, List.map_cons, List.map_nil, firsts_snoc, firsts_snoc, ih]
  unfold add1
  by_cases h : x ∈ firsts l
  · rw [if_pos h, if_pos ((mem_re hf).mpr h)]
  · rw [if_neg h, if_neg (fun z => h ((mem_re hf).mp z)), List.map_append]
    rfl
theorem cst_re {f : Int → Int} (hf : Inj f) (n : Nat) : ∀ l : List Int, cst n (l.map f) = ⟨(cst n l).out, (cst n l).b, (cst n l).seg.map f, (cst n l).n⟩ := by
  refine list_snoc_ind rfl ?_
  intro l x ih
  rw [List.map_append, List.map_cons, List.map_nil, cst_snoc, cst_snoc, ih]
  generalize cst n l = s
  unfold cstep
  simp only [firsts_re hf, List.length_map, mem_re hf]
  split
  · rfl
  · simp
theorem parts_re {f : Int → Int} (hf : Inj f) (n : Nat) (l : List Int) : parts n (l.map f) = parts n l := by
  unfold parts
  rw [cst_re hf, List.length_map]
  cases l with
  | nil => rfl
  | cons x l => rw [if_neg (by simp), if_neg (by simp)]
/-! a room more by the rule that looks who wasn't asked for for longest -/
def Suf (n : Nat) (k' k : List Int) : Prop := k'.Nodup ∧ k.length ≤ n ∧ (k' = k ∨ ∃ a, k' = a :: k ∧ k.length = n)
theorem suf_step {n : Nat} (n0 : 0 < n) {k' k : List Int} (h : Suf n k' k) (x : Int) : (x ∈ k → x ∈ k') ∧ Suf n (keepS (n + 1) true k' x) (keepS n true k x) := by
  obtain ⟨nd, le, h⟩ := h
  have ok' : KOk (n + 1) k' := ⟨nd, by
    rcases h with h | ⟨a, h, h2⟩
    · rw [h]; omega
    · rw [h, List.length_cons]; omega⟩
  have ok : KOk n k := ⟨by
    rcases h with h | ⟨a, h, h2⟩
    · rw [h] at nd; exact nd
    · rw [h] at nd; exact (List.nodup_cons.mp nd).2, le⟩
  have o1 := ok'.step (Nat.succ_pos n) true x
  have o2 := ok.step n0 true x
  refine ⟨fun hx => ?_, o1.nd, o2.le, ?_⟩
  · rcases h with h | ⟨a, h, _⟩
    · rw [h]; exact hx
    · rw [h]; exact List.mem_cons_of_mem _ hx
  · rcases h with h | ⟨a, h, hl⟩
    · subst h
      unfold keepS
      by_cases hx : x ∈ k'
      · rw [if_pos hx, if_pos hx]; exact .inl rfl
      · rw [if_neg hx, if_neg hx, if_neg (by omega)]
        by_cases hl : k'.length = n
        · rw [if_pos hl]
          cases k' with
          | nil => simp at hl; omega
          | cons a r =>
            refine .inr ⟨a, by simp, ?_⟩
            simp at hl ⊢
            exact hl
        · rw [if_neg hl]; exact .inl rfl
    · subst h
      have ha : a ∉ k := (List.nodup_cons.mp nd).1
      unfold keepS
      by_cases hx : x ∈ k
      · rw [if_pos hx, if_pos (List.mem_cons_of_mem _ hx)]
        have hne : a ≠ x := fun e => ha (by rw [e]; exact hx)
        refine .inr ⟨a, ?_, ?_⟩
        · show (a :: k).erase x ++ [x] = _
          rw [List.erase_cons_tail (by simpa using hne)]
          rfl
        · show (k.erase x ++ [x]).length = n
          rw [List.length_append, List.length_erase_of_mem hx]
          simp
          omega
      · rw [if_neg hx, if_pos hl]
        obtain ⟨c, r, hk⟩ : ∃ c r, k = c :: r := by
          cases k with
          | nil => simp at hl; omega
          | cons c r => exact ⟨c, r, rfl⟩
        subst hk
        by_cases hxa : x = a
        · subst hxa
          rw [if_pos (by simp)]
          refine .inr ⟨c, ?_, ?_⟩
          · show (x :: c :: r).erase x ++ [x] = _
            rw [List.erase_cons_head]
            rfl
          · simp at hl ⊢
            exact hl
        · rw [if_neg (by simp at hx ⊢; exact ⟨hxa, hx⟩), if_pos (by simp at hl ⊢; exact hl)]
          refine .inr ⟨c, rfl, ?_⟩
          simp at hl ⊢
          exact hl
theorem unseen_more {n : Nat} (n0 : 0 < n) : ∀ (r k' k : List Int), Suf n k' k → ((keepAll (n + 1) true k' r).filter id).length ≤ ((keepAll n true k r).filter id).length
  | [], _, _, _ => Nat.le_refl _
  | x :: r, k', k, h => by
    obtain ⟨h1, h2⟩ := suf_step n0 h x
    have ih := unseen_more n0 r _ _ h2
    rw [keepAll, keepAll]
    by_cases hx : x ∈ k
    · have a1 : ¬ (x ∉ k) := fun z => z hx
      have a2 : ¬ (x ∉ k') := fun z => z (h1 hx)
      rw [decide_eq_false a1, decide_eq_false a2]
      exact ih
    · rw [decide_eq_true hx]
      show _ ≤ (true :: (keepAll n true (keepS n true k x) r).filter id).length
      rw [List.length_cons]
      cases decide (x ∉ k') with
      | true =>
        show (true :: (keepAll (n + 1) true (keepS (n + 1) true k' x) r).filter id).length ≤ _
        rw [List.length_cons]
        omega
      | false =>
        show ((keepAll (n + 1) true (keepS (n + 1) true k' x) r).filter id).length ≤ _
        omega
theorem unseen_room {n : Nat} (n0 : 0 < n) (row : List Int) : (places (lackB (n + 1) (Str.ofString "unseen") row)).length ≤ (places (lackB n (Str.ofString "unseen") row)).length := by
  unfold places
  rw [placesFrom_cnt, placesFrom_cnt]
  have hne : ¬ (Str.ofString "unseen") = Str.ofString "hand" := by decide +kernel
  unfold lackB
  rw [if_neg hne, if_neg hne, decide_eq_true rfl]
  exact unseen_more n0 row [] [] ⟨List.nodup_nil, Nat.zero_le _, .inl rfl⟩
end Cw

namespace Cw
open PySem L2
/-! what a dial tells: tuples and lists new beside H -/
def TlAt (H H' : Hp) (xs : List V) (ts : List Tl) : Prop := xs.length = ts.length ∧ ∀ (i : Nat) (tl : Tl), ts[i]? = some tl → ∃ t q, xs[i]? = some (.ref t) ∧ H t = none ∧ H q = none ∧ H' t = some (.tup (toldV tl q)) ∧ H' q = some (.lst (natsV tl.passed))
theorem TlAt.nil {H H' : Hp} : TlAt H H' [] [] := ⟨rfl, fun i e h => by simp at h⟩
theorem TlAt.snoc {H H' : Hp} {xs : List V} {ts : List Tl} {t q : Addr} {tl : Tl} (h : TlAt H H' xs ts) (ht : H t = none) (hq : H q = none) (h1 : H' t = some (.tup (toldV tl q))) (h2 : H' q = some (.lst (natsV tl.passed))) : TlAt H H' (xs ++ [.ref t]) (ts ++ [tl]) := ⟨by simp [h.1], fun i e he => by
  rcases Nat.lt_or_ge i ts.length with l | l
  · rw [List.getElem?_append_left l] at he
    rw [List.getElem?_append_left (by rw [h.1]; exact l)]
    exact h.2 i e he
  · rw [List.getElem?_append_right l] at he
    have hi : i - ts.length = 0 := by
      have := (List.getElem?_eq_some_iff.mp he).1
      simp at this
      omega
    rw [hi] at he
    have he' : tl = e := Option.some.inj he
    subst he'
    exact ⟨t, q, by rw [List.getElem?_append_right (by rw [h.1]; exact l), h.1, hi]; rfl, ht, hq, h1, h2⟩⟩
theorem TlAt.step {H H' H2 : Hp} {xs : List V} {ts : List Tl} {W : List Addr} (h : TlAt H H' xs ts) (hw : ∀ w ∈ W, H w ≠ none) (f : Fr W H' H2) : TlAt H H2 xs ts := ⟨h.1, fun i e he => by
  obtain ⟨t, q, h1, h2, h3, h4, h5⟩ := h.2 i e he
  exact ⟨t, q, h1, h2, h3, f.get h4 (fun m => hw t m h2), f.get h5 (fun m => hw q m h3)⟩⟩
theorem TlAt.base {H0 H H' : Hp} {xs : List V} {ts : List Tl} {W : List Addr} (h : TlAt H H' xs ts) (f : Fr W H0 H) : TlAt H0 H' xs ts := ⟨h.1, fun i e he => by
  obtain ⟨t, q, h1, h2, h3, h4⟩ := h.2 i e he
  exact ⟨t, q, h1, f.2 t h2, f.2 q h3, h4⟩⟩
theorem TlAt.nwa {K : PySem.W.Frag} {H H' : Hp} : ∀ {xs : List V} {ts : List Tl}, TlAt H H' xs ts → NwA K H H' xs (ts.map tlD)
  | [], [], _ => .nil
  | [], _ :: _, h => by have := h.1; simp at this
  | _ :: _, [], h => by have := h.1; simp at this
  | x :: xs, e :: ts, h => by
    obtain ⟨t, q, h1, h2, h3, h4, h5⟩ := h.2 0 e rfl
    have hx : x = .ref t := Option.some.inj h1
    subst hx
    exact .cons (nw_tl e h2 h3 h4 h5) (TlAt.nwa ⟨by have := h.1; simpa using this, fun i e' he => h.2 (i + 1) e' he⟩)
end Cw

namespace Cw
open PySem L2
/-! the same data compared -/
section
variable {K : PySem.W.Frag} {H : Hp}
theorem dp_same : ∀ (d : PyData) (v : V), Dp K H v d → PyData.eqv d d = true := fun d v h =>
  Dp.rec (motive_1 := fun v d _ => PyData.eqv d d = true) (motive_2 := fun vs ds _ => PyData.eqvAll ds ds = true)
    (by simp [PyData.eqv]) (fun b => by simp [PyData.eqv]) (fun i => by simp [PyData.eqv]) (fun x => by simp [PyData.eqv])
    (fun _ _ ih => by simp only [PyData.eqv]; exact ih) (fun _ _ ih => by simp only [PyData.eqv]; exact ih)
    (by simp [PyData.eqvAll]) (fun _ _ a b => by simp [PyData.eqvAll, a, b]) h
theorem fits_depth : ∀ (k : Nat) (d : PyData), fits k d → d.depth ≤ k := by
  intro k
  induction k with
  | zero =>
    intro d h
    cases d <;> simp [fits] at h <;> simp [PyData.depth]
  | succ k ih =>
    intro d h
    have all : ∀ ds : List PyData, (∀ x ∈ ds, fits k x) → PyData.depthAll ds ≤ k := by
      intro ds
      induction ds with
      | nil => intro _; simp [PyData.depthAll]
      | cons x ds ih2 =>
        intro h
        have h1 := ih x (h x (by simp))
        have h2 := ih2 fun y hy => h y (List.mem_cons_of_mem _ hy)
        simp [PyData.depthAll]
        omega
    cases d with
    | list ds => have := all ds h.2; simp [PyData.depth]; omega
    | tuple ds => have := all ds h.2; simp [PyData.depth]; omega
    | dict kvs => exact h.elim
    | _ => simp [PyData.depth]
theorem dp_shaped {d : PyData} {k : Nat} (hc : d.canLay0 = true) (hf : fits k d) (hk : k ≤ 60) : SeqAt.shaped d = true := by
  have h2 := fits_depth k d hf
  unfold SeqAt.shaped
  rw [hc, Bool.true_and]
  exact decide_eq_true (by omega)
theorem w_eqSame {x y : V} {Q : VK} (d : PyData) {k : Nat} (h1 : Dp K H x d) (h2 : Dp K H y d) (hc : d.canLay0 = true) (hf : fits k d) (hk : k ≤ 60) (q : Q (.bl true) H) : rEqD K x y H Q :=
  ⟨d, d, h1, h2, dp_shaped hc hf hk, dp_shaped hc hf hk, by rw [dp_same d x h1]; exact q⟩
theorem w_neSame {x y : V} {Q : VK} (d : PyData) {k : Nat} (h1 : Dp K H x d) (h2 : Dp K H y d) (hc : d.canLay0 = true) (hf : fits k d) (hk : k ≤ 60) (q : Q (.bl false) H) : rNeD K x y H Q :=
  ⟨d, d, h1, h2, dp_shaped hc hf hk, dp_shaped hc hf hk, by rw [dp_same d x h1]; exact q⟩
end
theorem lay_nats : ∀ l : List Nat, PyData.canLayAll0 (natsD l) = true
  | [] => rfl
  | n :: r => by
    have := lay_nats r
    unfold natsD at this ⊢
    simp [PyData.canLayAll0, PyData.canLay0, this]
theorem lay_tls : ∀ ts : List Tl, PyData.canLayAll0 (ts.map tlD) = true
  | [] => rfl
  | t :: r => by
    have h1 := lay_tls r
    have h2 := lay_nats t.passed
    cases hg : t.gone <;> simp [PyData.canLayAll0, tlD, PyData.canLay0, oD, hg, h1, h2]
theorem fits_tls {ts : List Tl} (h : ts.length ≤ 100000) (hp : ∀ t ∈ ts, t.passed.length ≤ 100000) {k : Nat} : fits (k + 3) (.list (ts.map tlD)) := by
  refine ⟨by rw [List.length_map]; exact h, fun d hd => ?_⟩
  obtain ⟨t, ht, rfl⟩ := List.mem_map.mp hd
  refine ⟨by show 3 ≤ 100000; decide, fun e he => ?_⟩
  simp only [List.mem_cons, List.not_mem_nil, or_false] at he
  rcases he with rfl | rfl | rfl
  · trivial
  · cases t.gone <;> trivial
  · refine ⟨by unfold natsD; rw [List.length_map]; exact hp t ht, fun e he => ?_⟩
    unfold natsD at he
    obtain ⟨i, _, rfl⟩ := List.mem_map.mp he
    cases k <;> trivial
theorem spin_len (n : Nat) : ∀ (k : Nat) (s : List Bool) (h : Nat), (spin n k s h).2.2.length ≤ k
  | 0, _, _ => Nat.le_refl _
  | k + 1, s, h => by
    unfold spin
    split
    · have := spin_len n k (s.set h false) ((h + 1) % n)
      simp
      omega
    · exact Nat.zero_le _
theorem ask_passed {d : Dl} {n : Nat} (w : d.Wf n) (x : Int) : (d.ask x).2.passed.length ≤ 8 := by
  unfold Dl.ask
  split
  · exact Nat.zero_le _
  · show d.spin.2.2.length ≤ 8
    unfold Dl.spin
    have h1 := spin_len d.here.length (d.seen.count true) d.seen d.hand
    have h2 := List.count_le_length (a := true) (l := d.seen)
    have := w.sl
    have := w.n8
    omega
theorem askAll_passed {n : Nat} : ∀ (r : List Int) (d : Dl), d.Wf n → ∀ t ∈ askAll d r, t.passed.length ≤ 8
  | [], _, _, t, h => by cases h
  | x :: r, d, w, t, h => by
    rcases List.mem_cons.mp h with h | h
    · rw [h]; exact ask_passed w x
    · exact askAll_passed r _ (w.ask x) t h
/-! new numbers, drawn one by one -/
def base12 : List Int := (List.range 12).map fun i : Nat => (0 : Int) + (i : Int)
theorem rg12 : rgV 0 12 = base12.map V.int := by unfold rgV base12; rw [List.map_map]; rfl
def nmF (ns : List Int) (x : Int) : Int := if 0 ≤ x ∧ x < 12 then ns.getD x.toNat 0 else x
theorem base12_mem {x : Int} : x ∈ base12 ↔ 0 ≤ x ∧ x < 12 := by
  unfold base12
  rw [List.mem_map]
  constructor
  · rintro ⟨i, hi, rfl⟩
    rw [List.mem_range] at hi
    omega
  · rintro ⟨h1, h2⟩
    exact ⟨x.toNat, List.mem_range.mpr (by omega), by omega⟩
theorem base12_nodup : base12.Nodup := by decide
theorem nm_in {ns : List Int} (h : ns.Perm base12) {x : Int} (h0 : 0 ≤ x) (h1 : x < 12) : 0 ≤ nmF ns x ∧ nmF ns x < 12 := by
  have hl : ns.length = 12 := by rw [h.length_eq]; rfl
  unfold nmF
  rw [if_pos ⟨h0, h1⟩, List.getD_eq_getElem?_getD, List.getElem?_eq_getElem (by omega)]
  exact base12_mem.mp (h.mem_iff.mp (List.getElem_mem _))
theorem nm_inj {ns : List Int} (h : ns.Perm base12) : Inj (nmF ns) := by
  have hl : ns.length = 12 := by rw [h.length_eq]; rfl
  have nd : ns.Nodup := h.nodup_iff.mpr base12_nodup
  intro x y e
  by_cases hx : 0 ≤ x ∧ x < 12 <;> by_cases hy : 0 ≤ y ∧ y < 12
  · unfold nmF at e
    rw [if_pos hx, if_pos hy, List.getD_eq_getElem?_getD, List.getD_eq_getElem?_getD, List.getElem?_eq_getElem (by omega), List.getElem?_eq_getElem (by omega)] at e
    have := (List.getElem_inj nd).mp e
    omega
  · have h1 := nm_in h hx.1 hx.2
    rw [e] at h1
    unfold nmF at h1
    rw [if_neg hy] at h1
    exact absurd h1 hy
  · have h1 := nm_in h hy.1 hy.2
    rw [← e] at h1
    unfold nmF at h1
    rw [if_neg hx] at h1
    exact absurd h1 hx
  · unfold nmF at e
    rw [if_neg hx, if_neg hy] at e
    exact e
theorem nm_at {ns : List Int} (h : ns.Perm base12) {x : Int} (h0 : 0 ≤ x) (h1 : x < 12) : atI (ns.map V.int) x = some (.int (nmF ns x)) := by
  have hl : ns.length = 12 := by rw [h.length_eq]; rfl
  obtain ⟨k, rfl⟩ : ∃ k : Nat, x = (k : Int) := ⟨x.toNat, by omega⟩
  refine atI_nat ?_
  unfold nmF
  rw [if_pos ⟨h0, h1⟩, Int.toNat_natCast, List.getElem?_map, List.getD_eq_getElem?_getD, List.getElem?_eq_getElem (by omega)]
  rfl
theorem erase_map {f : Int → V} (ns : List Int) (k : Nat) : (ns.map f).eraseIdx k = (ns.eraseIdx k).map f := by
  rw [List.eraseIdx_eq_take_drop_succ, List.eraseIdx_eq_take_drop_succ, List.map_append, List.map_take, List.map_drop]
/-- l.pop(r) -/
theorem w_popI {H : Hp} {Q : VK} {l : Addr} {ns : List Int} {r : Int} (h : H l = some (.lst (ns.map V.int))) (h0 : 0 ≤ r) (h1 : r < ns.length) (hz : ns.length < 1000000)
    (q : ∀ y, ns[r.toNat]? = some y → Q (.int y) (upd H l (.lst ((ns.eraseIdx r.toNat).map V.int)))) : rPopAt (.ref l) [.int r] H Q := by
  obtain ⟨k, rfl⟩ : ∃ k : Nat, r = (k : Int) := ⟨r.toNat, by omega⟩
  have hk : k < ns.length := by omega
  refine ⟨l, ns.map V.int, (k : Int), k, .int ns[k], rfl, rfl, h, by omega, by omega, ?_, ?_, ?_⟩
  · unfold seqIndex?
    rw [List.length_map]
    simp
    omega
  · rw [List.getElem?_map, List.getElem?_eq_getElem hk]; rfl
  · rw [erase_map]
    exact q _ (List.getElem?_eq_getElem hk)
theorem perm_pop {ns lf : List Int} {k : Nat} {y : Int} (hk : lf[k]? = some y) {b : List Int} (h : (ns ++ lf).Perm b) : ((ns ++ [y]) ++ lf.eraseIdx k).Perm b := by
  obtain ⟨hl, rfl⟩ := List.getElem?_eq_some_iff.mp hk
  rw [List.append_assoc]
  refine (List.Perm.append_left ns ?_).trans h
  have e : lf = lf.take k ++ lf[k] :: lf.drop (k + 1) := by rw [← List.drop_eq_getElem_cons hl, List.take_append_drop]
  refine List.Perm.trans ?_ (List.Perm.of_eq e.symm)
  rw [List.eraseIdx_eq_take_drop_succ]
  show (lf[k] :: (lf.take k ++ lf.drop (k + 1))).Perm _
  exact List.perm_middle.symm
end Cw

namespace Cw
open PySem L2
/-! sorted(t) of a tuple of whole numbers; a display with one tuple for a key -/
section
open PySem.Spec PyProof.Rows
variable {P : Program} {w : World} {A : Around} {E : Value → Shared → Prop} {s : Shared}
theorem gather_tup {t : Addr} {us : List Value} {Q : List Value → Shared → Prop} (ht : s.heap.IsTuple t us.toArray) (hz : us.length ≤ sizeLine)
    (q : ∀ h', (∀ b o, s.heap.get? b = some o → h'.get? b = some o) → s.heap.objs.size ≤ h'.objs.size → Q us { s with heap := h' }) : wpAny (model P w) A (collect (.ref t)) Q E s := by
  obtain ⟨to, hto, hcls, tn, hdat⟩ := id ht
  have at2 : (s.heap.push (seqObj "list" #[] 0)).get? t = some to := Heap.get?_push_of_some _ hto
  unfold collect
  refine wpAny_bind (wpAny_runValue (codeAny_builtin PyProof.Rows.entry_proto_collect' ?_))
  show wpAny _ _ (do again (.builtin "list.__iadd__" ⟨[← newList [], .ref t], []⟩)) _ _ s
  refine wpAny_bind (wpAny_newList (wpAny_pure ⟨Code.quiet_builtin _ (by decide +kernel), codeAny_builtin PyProof.Rows.entry_list_iadd' ?_⟩))
  show wpAny _ _ (Builtin.List.listExtendWith (.ref s.heap.objs.size) (.ref t) (.ref s.heap.objs.size)) _ _ { s with heap := s.heap.push (seqObj "list" #[] 0) }
  unfold Builtin.List.listExtendWith
  refine wpAny_bind (wpAny_typeOf (T := "tuple") ⟨to, at2, hcls⟩ ?_)
  have tt : (Value.type "tuple" == Value.type "tuple") = true := by rfl
  rw [if_pos (by rw [tt]; simp)]
  refine wpAny_bind (listItems_at at2 hdat (wpAny_bind (listItems_at (xs := #[]) (n := 0) (Heap.get?_push_size _ rfl) rfl ?_)))
  rw [if_neg (by simp)]
  have hsize : (#[] ++ us.toArray).size ≤ sizeLine + 1 := by
    rw [Array.size_append, List.size_toArray]
    simp
    omega
  refine wpAny_bind (listUpdate_at (xs := #[]) (n := 0) (Heap.get?_push_size _ rfl) rfl (wpAny_pure ?_) (Nat.zero_le _) hsize)
  show wpAny (model P w) A (do
      let o ← load s.heap.objs.size
      match o.data with
      | .seq xs _ => pure xs.toList
      | _ => unsupported "internal:collect") Q E { s with heap := (s.heap.push (seqObj "list" #[] 0)).update s.heap.objs.size (Obj.mapSeq (· ++ us.toArray)) }
  refine wpAny_bind (wpAny_load (get?_update_seq (Heap.get?_push_size _ rfl) _) ?_)
  have e : ((#[] : Array Value) ++ us.toArray).toList = us := by simp
  show wpAny _ _ (pure ((#[] : Array Value) ++ us.toArray).toList) Q E _
  rw [e]
  refine wpAny_pure (q _ (fun b o hb => ?_) ?_)
  · have hlt := Heap.lt_size hb
    rw [Heap.get?_update_ne _ _ _ _ (Nat.ne_of_lt hlt)]
    exact Heap.get?_push_of_some _ hb
  · rw [Heap.size_update, size_push']
    omega
theorem sorted_tupAny {a : Addr} {us : List Value} {ns : List Int} {Q : Value → Shared → Prop} (ht : s.heap.IsTuple a us.toArray) (hI : IntsAre us ns) (hz : us.length ≤ sizeLine)
    (q : ∀ h' p (out : Array Value) (c : Nat) (ms : List Int), (∀ b o, s.heap.get? b = some o → h'.get? b = some o) → s.heap.objs.size ≤ p → h'.get? p = some (seqObj "list" out c) → IntsAre out.toList ms → ms.Perm ns → ms.Pairwise (· ≤ ·) → Q (.ref p) { s with heap := h' }) :
    wpAny (model P w) A (call (.builtin "sorted") [.ref a]) Q E s := by
  refine Calls.call_function_entry PyProof.Rows.kind_sorted plain_sorted PyProof.Rows.entry_sorted (PyProof.Rows.args_sorted1 _) ?_
  unfold Builtin.«sorted»
  refine wpAny_bind (m := checkCount "sorted" 1 1 _) (wpAny_pure (wpAny_bind (gather_tup (A := A.in1) ht hz fun h1 k1 z1 => wpAny_bind (wpAny_newList ?_ hz))))
  have lo : (h1.push (seqObj "list" us.toArray 0)).get? h1.objs.size = some (seqObj "list" us.toArray 0) := Heap.get?_push_size _ rfl
  refine wpAny_bind (wpAny_holding (wpAny_call_entry slot_list_sort ⟨_, lo, rfl⟩ PyProof.Rows.entry_list_sort (list_sort_treeAny lo hI hz fun out ms a1 a2 a3 => ⟨_, rfl, ?_⟩) (PyProof.Rows.args_list_sort _)))
  obtain ⟨c, hc⟩ := sortedHeap_at (vs := us) (out := out) lo
  refine wpAny_pure ⟨_, rfl, q _ h1.objs.size out c ms (fun b u e => ?_) z1 hc a1 a2 a3⟩
  have e2 := k1 b u e
  have hlt := Heap.lt_size e2
  show (sortedHeap (h1.push (seqObj "list" us.toArray 0)) h1.objs.size us out).get? b = some u
  rw [sortedHeap_old (Nat.ne_of_lt hlt) (by rw [size_push']; exact Nat.lt_succ_of_lt hlt)]
  exact Heap.get?_push_of_some _ e2
variable {X : Cx}
def rSortTI (K : PySem.W.Frag) : List V → Hp → VK → Prop := fun vs H Q => ∃ (a : Addr) (ns : List Int), vs = [V.ref a] ∧ SqT K H a (ns.map V.int) ∧ ns.length ≤ 100000 ∧
  ∀ (ms : List Int) (p : Addr), ms.Perm ns → ms.Pairwise (· ≤ ·) → H p = none → Q (.ref p) (upd H p (.lst (ms.map V.int)))
theorem cr_sortTI : CallR X (.builtin "sorted") (rSortTI X.K) := by
  intro pins s σ H vs us Q I r h
  obtain ⟨a, ns, rfl, hs, hz, q⟩ := h
  obtain ⟨its, rv, ht, _⟩ := I.tuple hs
  rw [Vals.ref1 r]
  have hI : IntsAre its ns := by simpa using RZ.intsAre_vals rv
  have hl : its.length = ns.length := IntsAre.length hI
  refine sorted_tupAny ht hI (by rw [hl]; exact sz_le hz) fun h' p out c ms k hp hg hi hpm hs => ?_
  have hlen : (ms.map V.int).length ≤ sizeLine := by rw [List.length_map, hpm.length_eq]; exact sz_le hz
  have hn : H p = none := I.hok.fresh hp
  exact ⟨.ref p, upd H p (.lst (ms.map V.int)), I.laid (t' := s.toks) k hp ⟨hlen, out.toList, c, vals_of_ints hi, hg⟩, rfl, q ms p hpm hs hn⟩
def tDisp1T (tk tv : TE) : TE := fun σ H Q => ∀ p, H p = none → tk σ (upd H p (.dT [])) fun x H1 => tv σ H1 fun y H2 => ∃ (b : Addr) (k : List Key), x = .ref b ∧ H2 b = some (.tup (k.map kV)) ∧ H2 p = some (.dT []) ∧ Q (.ref p) (upd H2 p (.dT [(k, y)]))
theorem pe_disp1T {k v : Expr} {tk tv : TE} {pos : Pos} (hu : X.A.units + 1 < cLine) (hk : PE X k tk) (hv : PE X v tv) : PE X (.Dict [some k] [v] pos) (tDisp1T tk tv) := by
  refine ⟨fun pins s σ H Q I q => ?_⟩
  have hn := I.hok.fresh (Nat.le_refl s.heap.objs.size)
  have I1 := I.laid (a := s.heap.objs.size) (o := .dT []) (h' := s.heap.push { cls := .type "dict", data := .dict #[] }) (t' := s.toks) (fun _ _ z => Heap.get?_push_of_some _ z) (Nat.le_refl _) (dt_empty s.heap I.big)
  refine wpAny_Dict_any rfl rfl (by simp) (by show 1 ≤ 15; decide) (pairTrees_cons_walk (thn (hk.run pins _ σ _ _ I1 (q _ hn)) fun u s1 ⟨x, H1, I2, rx, q1⟩ => thn (hv.run pins s1 σ H1 _ I2 q1) fun z s2 ⟨y, H2, I3, ry, b, ks, ex, eb, ed, q2⟩ => pairTrees_nil_walk ?_))
  subst ex
  obtain rfl : u = Value.ref b := rx
  obtain ⟨z0, hd, xs0, r0, dd⟩ := dt_of I3.hok ed
  cases r0
  have hroom : (tupleKind (mixKind X.prog X.w)).room X.A := by show X.A.units < cLine; omega
  refine wpAny_storeAllH hroom [(Value.ref b, z)] [(ks, b, z)] [] s2 _ ⟨rfl, rfl, key_of I3.hok eb, trivial⟩ dd (by rw [sizeLine_eq]; show 1 ≤ 16777216; decide) fun h' tk2 dd' hs => ?_
  obtain ⟨o, es, ep, ho, h2, h3, h4, _, h5⟩ := dd'
  refine ⟨.ref s.heap.objs.size, upd H2 s.heap.objs.size (.dT [(ks, y)]), d_write I3 (by rw [ed]; exact True.intro) hs ⟨o, ho⟩ ⟨by rw [sizeLine_eq]; show 1 ≤ 16777216; decide, hd, _, .cons ⟨rfl, ?_, ry⟩ .nil, o, es, ep, ho, h2, h3, h4, h5⟩, rfl, q2⟩
  show upd H2 s.heap.objs.size (.dT [(ks, y)]) b = _
  rw [upd_ne (ne_of eb ed (fun z => nomatch z))]
  exact eb
end
end Cw
namespace Cw
open PySem L2
theorem kSortTI {X : Cx} (K : PySem.W.Frag) (h : X.K = K) : CallR X (.builtin "sorted") (rSortTI K) := h ▸ cr_sortTI
def rTupOf (K : PySem.W.Frag) : List V → Hp → VK → Prop := fun xs H Q => ∃ p ys, xs = [.ref p] ∧ ((SqL K H p ys ∧ ∀ l, H l = none → Q (.ref l) (upd H l (.tup ys))) ∨ (SqT K H p ys ∧ Q (.ref p) H))
theorem kTupOf {X : Cx} (K : PySem.W.Frag) (h : X.K = K) : CallR X (.type "tuple") (rTupOf K) := h ▸ call_tuple_of
theorem kCatA {X : Cx} (K : PySem.W.Frag) (h : X.K = K) : OpR X (binaryOp .Add) (rCatA K) := h ▸ op_catA
theorem kMinI {X : Cx} (K : PySem.W.Frag) (h : X.K = K) (hc : X.calm = true) : CallR X (.builtin "min") (rMin K) := h ▸ cr_min hc
section
variable {K : PySem.W.Frag} {H : Hp} {Q : VK} {σ : L2.St}
theorem w_sortTI {a : Addr} {ns : List Int} (h : SqT K H a (ns.map V.int)) (hl : ns.length ≤ 100000) (q : ∀ p, H p = none → Q (.ref p) (upd H p (.lst ((sorts ns).map V.int)))) : rSortTI K [.ref a] H Q :=
  ⟨a, ns, rfl, h, hl, fun ms p h1 h2 hp => by
    rw [sorted_uniq (h1.trans (sorts_perm ns).symm) h2 (sorts_sorted ns)]
    exact q p hp⟩
theorem w_tupOf {a : Addr} {xs : List V} (h : SqL K H a xs) (q : ∀ p, H p = none → Q (.ref p) (upd H p (.tup xs))) : rTupOf K [.ref a] H Q := ⟨a, xs, rfl, .inl ⟨h, q⟩⟩
theorem w_catA {a b : Addr} {xs ys : List V} (h1 : SqT K H a xs) (h2 : SqT K H b ys) (hy : ys ≠ []) (hz : xs.length + ys.length ≤ 100000) (q : ∀ p H', Fr [] H H' → SqT K H' p (xs ++ ys) → Q (.ref p) H') : rCatA K (.ref a) (.ref b) H Q :=
  ⟨a, b, xs, ys, rfl, rfl, h1, h2, sz_le hz, fun e => q b H .refl (by rw [e]; exact h2), fun _ e => absurd e hy, fun _ _ p hp => q p _ (Fr.new hp) (SqT.of upd_same)⟩
theorem w_minI {a : Addr} {ns : List Int} {m : Int} (h : SqL K H a (ns.map V.int)) (hm : m ∈ ns) (hl : ∀ y ∈ ns, m ≤ y) (q : Q (.int m) H) : rMin K [.ref a] H Q :=
  ⟨a, ns, rfl, h, List.length_pos_of_mem hm, fun m' h1 h2 => by
    have e : m' = m := by
      have a1 := h2 m hm
      have a2 := hl m' h1
      omega
    rw [e]
    exact q⟩
theorem w_niT {p : Addr} {ns : List Int} {x : Int} (h : SqT K H p (ns.map V.int)) (q : Q (.bl (decide (x ∉ ns))) H) : rIn K true (.int x) (.ref p) H Q :=
  ⟨p, ns.map V.int, rfl, .inr h, rfl, flat_int ns, by
    rw [if_pos rfl, in_int]
    have e : (!decide (x ∈ ns)) = decide (x ∉ ns) := by simp
    rw [e]
    exact q⟩
theorem w_dnewT (q : ∀ p, H p = none → Q (.ref p) (upd H p (.dT []))) : tDNewT σ H Q := q
theorem w_disp1T {tk tv : TE} (q : ∀ p, H p = none → tk σ (upd H p (.dT [])) fun x H1 => tv σ H1 fun y H2 => ∃ (b : Addr) (k : List Key), x = .ref b ∧ H2 b = some (.tup (k.map kV)) ∧ H2 p = some (.dT []) ∧ Q (.ref p) (upd H2 p (.dT [(k, y)]))) : tDisp1T tk tv σ H Q := q
def encT (kn : Kn) : List (List Key × V) := kn.map fun e => (e.1.map Sum.inl, V.int e.2)
theorem key_inj {a b : List Int} (h : a.map (Sum.inl : Int → Key) = b.map Sum.inl) : a = b := by
  have := congrArg (List.map fun k : Key => match k with | .inl i => i | .inr _ => 0) h
  simpa [List.map_map, Function.comp_def] using this
theorem key_vals (k : List Int) : (k.map (Sum.inl : Int → Key)).map kV = k.map V.int := by rw [List.map_map]; rfl
theorem valV_enc (kn : Kn) (k : List Int) : valV (encT kn) (k.map Sum.inl) = (look kn k).map V.int := by
  unfold look
  induction kn with
  | nil => rfl
  | cons e kn ih =>
    unfold encT at ih ⊢
    rw [List.map_cons, List.find?_cons]
    by_cases h : e.1 = k
    · rw [valV_pos (by rw [h]), decide_eq_true h]
      rfl
    · rw [valV_neg (fun z => h (key_inj z)), decide_eq_false h]
      exact ih
theorem putK_enc (kn : Kn) (k : List Int) (v : Int) : putK (encT kn) (k.map Sum.inl) (.int v) = encT (put kn k v) := by
  unfold putK put
  rw [valV_any, valV_enc, Option.isSome_map]
  split
  · unfold encT
    rw [List.map_map, List.map_map]
    refine List.map_congr_left fun e _ => ?_
    simp only [Function.comp]
    by_cases h : e.1 = k
    · rw [if_pos (by rw [h]), if_pos h]
    · rw [if_neg (fun z => h (key_inj z)), if_neg h]
  · unfold encT
    rw [List.map_append]
    rfl
theorem encT_at {kn : Kn} {i : Nat} {k : List Key} {v : V} (h : (encT kn)[i]? = some (k, v)) : ∃ e, kn[i]? = some e ∧ k = e.1.map Sum.inl ∧ v = .int e.2 := by
  unfold encT at h
  rw [List.getElem?_map] at h
  obtain ⟨e, he, q⟩ := Option.map_eq_some_iff.mp h
  exact ⟨e, he, (congrArg Prod.fst q).symm, (congrArg Prod.snd q).symm⟩
theorem encT_len (kn : Kn) : (encT kn).length = kn.length := List.length_map _
theorem w_get2 {td ty tx : TE} (h : td σ H fun x H1 => ∃ a, x = .ref a ∧ IsD H1 a ∧ ty σ H1 fun y H2 => tx σ H2 fun z H3 => ∃ o, DGet H3 a y o ∧ Q (o.getD z) H3) : tDGet2 td ty tx σ H Q := h
theorem w_isD {d : Addr} {kvs : List (List Key × V)} {P : Addr → Prop} (h : H d = some (.dT kvs)) (q : P d) : ∃ a, V.ref d = .ref a ∧ IsD H a ∧ P a := ⟨d, rfl, .inr ⟨kvs, .inl h⟩, q⟩
theorem w_getT {d b : Addr} {kn : Kn} {k : List Int} {P : Option V → Prop} (h : H d = some (.dT (encT kn))) (hb : H b = some (.tup (k.map V.int))) (q : P ((look kn k).map V.int)) : ∃ o, DGet H d (.ref b) o ∧ P o :=
  ⟨_, DGet.t (k := k.map Sum.inl) h (by rw [key_vals]; exact hb), by rw [valV_enc]; exact q⟩
theorem getD_int (o : Option Int) (c : Int) : (o.map V.int).getD (.int c) = .int (o.getD c) := by cases o <;> rfl
theorem w_dgetF {d b : Addr} {o : Obj} {kn : Kn} {k : List Int} {v : Int} {P : V → Prop} (h : H d = some (.frz o (.dT (encT kn)))) (hb : H b = some (.tup (k.map V.int))) (hv : look kn k = some v) (q : P (.int v)) : ∃ a v, V.ref d = .ref a ∧ DGet H a (.ref b) (some v) ∧ P v :=
  ⟨d, .int v, rfl, .inr ⟨encT kn, k.map Sum.inl, b, .inr ⟨o, h⟩, rfl, by rw [key_vals]; exact hb, by rw [valV_enc, hv]; rfl⟩, q⟩
theorem w_dputT {d b : Addr} {kn : Kn} {k : List Int} {v : Int} {N : Hp → Prop} (h : H d = some (.dT (encT kn))) (hb : H b = some (.tup (k.map V.int))) (hl : kn.length < 100000) (q : N (upd H d (.dT (encT (put kn k v))))) : ∃ a H4, V.ref d = .ref a ∧ DPut H a (.ref b) (.int v) H4 ∧ N H4 :=
  ⟨d, _, rfl, DPut.t (k := k.map Sum.inl) h (by rw [key_vals]; exact hb) (by rw [encT_len]; exact sz_lt hl), by rw [putK_enc]; exact q⟩
theorem w_iKeys {td : TE} {R : It → Hp → Prop} (h : td σ H fun x H1 => ∃ d o, x = .ref d ∧ ((∃ kvs, H1 d = some (.frz o (.dK kvs)) ∧ R (Itk d o kvs) H1) ∨ ∃ kvs, H1 d = some (.frz o (.dT kvs)) ∧ R (Itkt d o kvs) H1)) : iKeys td σ H R := h
theorem w_lock {t : TS} {nx : L2.St → Hp → Prop} {rt : VK} {bk ct : L2.St → Hp → Prop} {d : Addr} {kvs : List (List Key × V)} (h : H d = some (.dT kvs)) (q : ∀ od, t ⟨fun σ' H' => H' d = some (.frz od (.dT kvs)) ∧ nx σ' (upd H' d (.dT kvs)), fun v H' => H' d = some (.frz od (.dT kvs)) ∧ rt v (upd H' d (.dT kvs)),
    fun σ' H' => H' d = some (.frz od (.dT kvs)) ∧ bk σ' (upd H' d (.dT kvs)), fun σ' H' => H' d = some (.frz od (.dT kvs)) ∧ ct σ' (upd H' d (.dT kvs))⟩ σ (upd H d (.frz od (.dT kvs)))) : tLock t ⟨nx, rt, bk, ct⟩ σ H := ⟨d, _, h, True.intro, q⟩
theorem w_lockE {t : TE} {d : Addr} {kvs : List (List Key × V)} (h : H d = some (.dT kvs)) (q : ∀ od, t σ (upd H d (.frz od (.dT kvs))) fun v H' => H' d = some (.frz od (.dT kvs)) ∧ Q v (upd H' d (.dT kvs))) : tLockE t σ H Q := ⟨d, _, h, True.intro, q⟩
theorem f_keysT {g : TG} {tb : TS} {nx : L2.St → Hp → Prop} {rt : VK} {d : Addr} {od : Obj} (kn : Kn) (Pv : Nat → L2.St → Hp → Prop) (h0 : Pv 0 σ H) (hl : ∀ i σ H, Pv i σ H → H d = some (.frz od (.dT (encT kn))))
    (hs : ∀ i e q σ H, kn[i]? = some e → H q = some (.tup (e.1.map V.int)) → Pv i σ H → g (.ref q) σ H fun σ2 H2 => tb ⟨Pv (i + 1), rt, nx, Pv (i + 1)⟩ σ2 H2) (hd : ∀ σ H, Pv kn.length σ H → nx σ H) :
    ∃ d' o, V.ref d = .ref d' ∧ ((∃ kvs, H d' = some (.frz o (.dK kvs)) ∧ ∃ W : Nat → Nat → L2.St → Hp → Prop, (∃ m, W 0 m σ H) ∧ ∀ i m σ H, W i m σ H →
        ((Itk d' o kvs).stop i H ∧ nx σ H) ∨ ((Itk d' o kvs).go i H ∧ ∃ N : L2.St → Hp → Prop, (∀ σ' H', N σ' H' → ∃ m', m' < m ∧ W (i + 1) m' σ' H') ∧ ∀ x H', (Itk d' o kvs).yld i H x H' → g x σ H' fun σ2 H2 => tb ⟨N, rt, nx, N⟩ σ2 H2)) ∨
      ∃ kvs, H d' = some (.frz o (.dT kvs)) ∧ ∃ W : Nat → Nat → L2.St → Hp → Prop, (∃ m, W 0 m σ H) ∧ ∀ i m σ H, W i m σ H →
        ((Itkt d' o kvs).stop i H ∧ nx σ H) ∨ ((Itkt d' o kvs).go i H ∧ ∃ N : L2.St → Hp → Prop, (∀ σ' H', N σ' H' → ∃ m', m' < m ∧ W (i + 1) m' σ' H') ∧ ∀ x H', (Itkt d' o kvs).yld i H x H' → g x σ H' fun σ2 H2 => tb ⟨N, rt, nx, N⟩ σ2 H2)) := by
  refine ⟨d, od, rfl, .inr ⟨encT kn, hl 0 σ H h0, fun i m σ H => m = kn.length - i ∧ i ≤ kn.length ∧ Pv i σ H, ⟨kn.length, by simp, Nat.zero_le _, h0⟩, ?_⟩⟩
  rintro i m σ H ⟨rfl, hi, p⟩
  have q := hl i σ H p
  by_cases hlt : i < kn.length
  · refine .inr ⟨⟨q, by rw [encT_len]; exact hlt⟩, Pv (i + 1), fun σ' H' p' => ⟨kn.length - (i + 1), by omega, rfl, hlt, p'⟩, fun x H' y => ?_⟩
    obtain ⟨rfl, k, v, b, hk, rfl, hb⟩ := y
    obtain ⟨e, he, rfl, rfl⟩ := encT_at hk
    rw [key_vals] at hb
    exact hs i e b σ H' he hb p
  · have e : i = kn.length := by omega
    subst e
    exact .inl ⟨⟨q, by rw [encT_len]; exact Nat.le_refl _⟩, hd σ H p⟩
theorem l_keysT {g : TG} {tt : TT} {te : TE} {vs : List Nat} {Qd : Addr → Hp → Prop} {d : Addr} {od : Obj} (kn : Kn) (hq : H d = some (.frz od (.dT (encT kn)))) (Pv : Addr → Nat → List V → Hp → Prop) (h0 : ∀ D, H D = none → Pv D 0 [] (upd H D (.lst [])))
    (hl : ∀ D i acc H', H D = none → Pv D i acc H' → H' D = some (.lst acc) → H' d = some (.frz od (.dT (encT kn))))
    (hs : ∀ D i e q acc H', H D = none → kn[i]? = some e → H' q = some (.tup (e.1.map V.int)) → Pv D i acc H' → H' D = some (.lst acc) → acc.length ≤ i → g (.ref q) (wipe σ vs) H' fun σ2 H2 => wipe σ2 vs = wipe σ vs ∧ tt σ2 H2 fun b H3 =>
      if b = true then te σ2 H3 fun y H4 => ∃ acc, H4 D = some (.lst acc) ∧ acc.length < sizeLine ∧ LcI Pv D (i + 1) (upd H4 D (.lst (acc ++ [y]))) else LcI Pv D (i + 1) H3)
    (hd : ∀ D acc H', H D = none → Pv D kn.length acc H' → H' D = some (.lst acc) → acc.length ≤ kn.length → Qd D H') :
    ∃ d' o, V.ref d = .ref d' ∧ ((∃ kvs, H d' = some (.frz o (.dK kvs)) ∧ ∀ D, H D = none → ∃ W : Nat → Nat → Hp → Prop, (∃ m, W 0 m (upd H D (.lst []))) ∧ ∀ i m H, W i m H →
        ((Itk d' o kvs).stop i H ∧ Qd D H) ∨ ((Itk d' o kvs).go i H ∧ ∃ Nx : Hp → Prop, (∀ H', Nx H' → ∃ m', m' < m ∧ W (i + 1) m' H') ∧ ∀ x H', (Itk d' o kvs).yld i H x H' → g x (wipe σ vs) H' fun σ2 H2 => wipe σ2 vs = wipe σ vs ∧ tt σ2 H2 fun b H3 =>
          if b = true then te σ2 H3 fun y H4 => ∃ acc, H4 D = some (.lst acc) ∧ acc.length < sizeLine ∧ Nx (upd H4 D (.lst (acc ++ [y]))) else Nx H3)) ∨
      ∃ kvs, H d' = some (.frz o (.dT kvs)) ∧ ∀ D, H D = none → ∃ W : Nat → Nat → Hp → Prop, (∃ m, W 0 m (upd H D (.lst []))) ∧ ∀ i m H, W i m H →
        ((Itkt d' o kvs).stop i H ∧ Qd D H) ∨ ((Itkt d' o kvs).go i H ∧ ∃ Nx : Hp → Prop, (∀ H', Nx H' → ∃ m', m' < m ∧ W (i + 1) m' H') ∧ ∀ x H', (Itkt d' o kvs).yld i H x H' → g x (wipe σ vs) H' fun σ2 H2 => wipe σ2 vs = wipe σ vs ∧ tt σ2 H2 fun b H3 =>
          if b = true then te σ2 H3 fun y H4 => ∃ acc, H4 D = some (.lst acc) ∧ acc.length < sizeLine ∧ Nx (upd H4 D (.lst (acc ++ [y]))) else Nx H3)) := by
  refine ⟨d, od, rfl, .inr ⟨encT kn, hq, fun D hD => ⟨fun i m H' => m = kn.length - i ∧ i ≤ kn.length ∧ LcI Pv D i H', ⟨kn.length, by simp, Nat.zero_le _, [], h0 D hD, upd_same, Nat.le_refl _⟩, ?_⟩⟩⟩
  rintro i m H' ⟨rfl, hi, acc, p, e, l⟩
  have q := hl D i acc H' hD p e
  by_cases hlt : i < kn.length
  · refine .inr ⟨⟨q, by rw [encT_len]; exact hlt⟩, LcI Pv D (i + 1), fun H2 p' => ⟨kn.length - (i + 1), by omega, rfl, hlt, p'⟩, fun x H2 y => ?_⟩
    obtain ⟨rfl, k, v, b, hk, rfl, hb⟩ := y
    obtain ⟨u, hu, rfl, rfl⟩ := encT_at hk
    rw [key_vals] at hb
    exact hs D i u b acc H2 hD hu hb p e l
  · have e' : i = kn.length := by omega
    subst e'
    exact .inl ⟨⟨q, by rw [encT_len]; exact Nat.le_refl _⟩, hd D acc H' hD p e l⟩
theorem w_iTup {tl : TE} {R : It → Hp → Prop} (h : tl σ H fun x H1 => ∃ a, x = V.ref a ∧ (∃ xs, SqT K H1 a xs) ∧ R (Itt K a) H1) : iTup K tl σ H R := h
theorem l_tup {g : TG} {tt : TT} {te : TE} {vs : List Nat} {Qd : Addr → Hp → Prop} {a : Addr} (xs : List V) (hq : SqT K H a xs) (Pv : Addr → Nat → List V → Hp → Prop) (h0 : ∀ D, H D = none → Pv D 0 [] (upd H D (.lst [])))
    (hl : ∀ D i acc H', H D = none → Pv D i acc H' → H' D = some (.lst acc) → SqT K H' a xs)
    (hs : ∀ D (i : Nat) x acc H', H D = none → xs[i]? = some x → Pv D i acc H' → H' D = some (.lst acc) → acc.length ≤ i → g x (wipe σ vs) H' fun σ2 H2 => wipe σ2 vs = wipe σ vs ∧ tt σ2 H2 fun b H3 =>
      if b = true then te σ2 H3 fun y H4 => ∃ acc, H4 D = some (.lst acc) ∧ acc.length < sizeLine ∧ LcI Pv D (i + 1) (upd H4 D (.lst (acc ++ [y]))) else LcI Pv D (i + 1) H3)
    (hd : ∀ D acc H', H D = none → Pv D xs.length acc H' → H' D = some (.lst acc) → acc.length ≤ xs.length → Qd D H') :
    ∃ b, V.ref a = V.ref b ∧ (∃ xs, SqT K H b xs) ∧ ∀ D, H D = none → ∃ W : Nat → Nat → Hp → Prop, (∃ m, W 0 m (upd H D (.lst []))) ∧ ∀ i m H, W i m H →
      ((Itt K b).stop i H ∧ Qd D H) ∨ ((Itt K b).go i H ∧ ∃ Nx : Hp → Prop, (∀ H', Nx H' → ∃ m', m' < m ∧ W (i + 1) m' H') ∧ ∀ x H', (Itt K b).yld i H x H' → g x (wipe σ vs) H' fun σ2 H2 => wipe σ2 vs = wipe σ vs ∧ tt σ2 H2 fun b H3 =>
        if b = true then te σ2 H3 fun y H4 => ∃ acc, H4 D = some (.lst acc) ∧ acc.length < sizeLine ∧ Nx (upd H4 D (.lst (acc ++ [y]))) else Nx H3) := by
  refine ⟨a, rfl, ⟨xs, hq⟩, fun D hD => lc_tup (K := K) (a := a) (xs := xs) (LcI Pv D) ⟨[], h0 D hD, upd_same, Nat.le_refl _⟩ (fun i H' _ ⟨acc, p, e, _⟩ => hl D i acc H' hD p e) (fun i x H' hx ⟨acc, p, e, l⟩ => hs D i x acc H' hD hx p e l) (fun H' ⟨acc, p, e, l⟩ => hd D acc H' hD p e l)⟩
/-- [x for x in t if test] of a tuple of whole numbers -/
theorem l_filterT {g : TG} {tt : TT} {te : TE} {vs : List Nat} {Qd : Addr → Hp → Prop} {a : Addr} (ns : List Int) (p : Int → Bool) (hq : SqT K H a (ns.map V.int))
    (hs : ∀ D (i : Nat) y H', H D = none → ns[i]? = some y → Fr [] H H' → LcI (PvF H ns p) D i H' → g (.int y) (wipe σ vs) H' fun σ2 H2 => wipe σ2 vs = wipe σ vs ∧ tt σ2 H2 fun b H3 =>
      if b = true then te σ2 H3 fun y H4 => ∃ acc, H4 D = some (.lst acc) ∧ acc.length < sizeLine ∧ LcI (PvF H ns p) D (i + 1) (upd H4 D (.lst (acc ++ [y]))) else LcI (PvF H ns p) D (i + 1) H3)
    (hd : ∀ D H', H D = none → Fr [] H H' → H' D = some (.lst ((ns.filter p).map V.int)) → Qd D H') :
    ∃ b, V.ref a = V.ref b ∧ (∃ xs, SqT K H b xs) ∧ ∀ D, H D = none → ∃ W : Nat → Nat → Hp → Prop, (∃ m, W 0 m (upd H D (.lst []))) ∧ ∀ i m H, W i m H →
      ((Itt K b).stop i H ∧ Qd D H) ∨ ((Itt K b).go i H ∧ ∃ Nx : Hp → Prop, (∀ H', Nx H' → ∃ m', m' < m ∧ W (i + 1) m' H') ∧ ∀ x H', (Itt K b).yld i H x H' → g x (wipe σ vs) H' fun σ2 H2 => wipe σ2 vs = wipe σ vs ∧ tt σ2 H2 fun b H3 =>
        if b = true then te σ2 H3 fun y H4 => ∃ acc, H4 D = some (.lst acc) ∧ acc.length < sizeLine ∧ Nx (upd H4 D (.lst (acc ++ [y]))) else Nx H3) := by
  refine l_tup (ns.map V.int) hq (PvF H ns p) (fun D hD => ⟨Fr.new hD, by simp⟩) (fun D i acc H' hD h _ => h.1.seqT hq) ?_ ?_
  · rintro D i x acc H' hD hi h hacc hla
    obtain ⟨y, hy, rfl⟩ := int_at hi
    exact hs D i y H' hD hy h.1 ⟨acc, h, hacc, hla⟩
  · rintro D acc H' hD ⟨F, rfl⟩ hacc hla
    rw [List.length_map, List.take_length] at hacc
    exact hd D H' hD F hacc
end
/-- xs are refs to tuples of whole numbers -/
def TupsAt (H : Hp) (xs : List V) (os : List (List Int)) : Prop := xs.length = os.length ∧ ∀ (i : Nat) (o : List Int), os[i]? = some o → ∃ t, xs[i]? = some (.ref t) ∧ H t = some (.tup (o.map V.int))
theorem TupsAt.nil {H : Hp} : TupsAt H [] [] := ⟨rfl, fun i e h => by simp at h⟩
theorem TupsAt.fr0 {H H' : Hp} {xs : List V} {os : List (List Int)} (h : TupsAt H xs os) (f : Fr [] H H') : TupsAt H' xs os := ⟨h.1, fun i o ho => by
  obtain ⟨t, h1, h2⟩ := h.2 i o ho
  exact ⟨t, h1, f.get0 h2⟩⟩
theorem TupsAt.snoc {H : Hp} {xs : List V} {os : List (List Int)} {t : Addr} {o : List Int} (h : TupsAt H xs os) (ht : H t = some (.tup (o.map V.int))) : TupsAt H (xs ++ [.ref t]) (os ++ [o]) := ⟨by simp [h.1], fun i e he => by
  rcases Nat.lt_or_ge i os.length with l | l
  · rw [List.getElem?_append_left l] at he
    rw [List.getElem?_append_left (by rw [h.1]; exact l)]
    exact h.2 i e he
  · rw [List.getElem?_append_right l] at he
    have hi : i - os.length = 0 := by
      have := (List.getElem?_eq_some_iff.mp he).1
      simp at this
      omega
    rw [hi] at he
    obtain rfl := Option.some.inj he
    exact ⟨t, by rw [List.getElem?_append_right (by rw [h.1]; exact l), h.1, hi]; rfl, ht⟩⟩
theorem TupsAt.one {H : Hp} {t : Addr} {o : List Int} (ht : H t = some (.tup (o.map V.int))) : TupsAt H [.ref t] [o] := TupsAt.snoc .nil ht
/-- lists and dicts that change are no tuples -/
theorem TupsAt.up {H : Hp} {xs : List V} {os : List (List Int)} {p : Addr} {u v : HO} (h : TupsAt H xs os) (hp : H p = some u) (hu : ∀ ys, u ≠ .tup ys) : TupsAt (upd H p v) xs os := ⟨h.1, fun i o ho => by
  obtain ⟨t, h1, h2⟩ := h.2 i o ho
  refine ⟨t, h1, (upd_ne fun e => ?_).trans h2⟩
  subst e
  rw [hp] at h2
  exact hu _ (Option.some.inj h2)⟩
end Cw

namespace Cw
open PySem L2
/-! how many Trues a list has -/
section
open PySem.Spec PyProof.Rows PySem.W
variable {X : Cx}
theorem cnt_vals {y : V} (fy : flatV y = true) : ∀ {zs : List V} {us : List Value}, Vals zs us → zs.all flatV = true → us.countP (eqU y) = zs.countP (fun z => eqV z y)
  | _, _, .nil, _ => rfl
  | _, _, .cons (a := z) (b := u) (l₁ := zs) (l₂ := us) ru rt, h => by
    rw [List.all_cons, Bool.and_eq_true] at h
    rw [List.countP_cons, List.countP_cons, cnt_vals fy rt h.2, eqU_of ru h.1]
def rCntB (K : PySem.W.Frag) : V → List V → Hp → VK → Prop := fun x xs H Q => ∃ (p : Addr) (bs : List Bool), x = .ref p ∧ xs = [.bl true] ∧ SqL K H p (bs.map V.bl) ∧ Q (.int (bs.filter id).length) H
theorem mt_countB : MtR X "list.count" (rCntB X.K) := by
  intro pins s σ H x xs v us Q I rx rxs h
  obtain ⟨p, bs, rfl, rfl, hs, q⟩ := h
  cases rx
  obtain ⟨u, rfl, ru⟩ := rxs.one
  obtain ⟨its, rv, ⟨⟨cls, dd, data, sl⟩, n, ho, hc, hdn, hd⟩, hlen⟩ := I.list hs
  simp only at hc hd
  subst hc hd
  have fb : (bs.map V.bl).all flatV = true := by
    rw [List.all_map, List.all_eq_true]
    intro b _
    rfl
  refine call_meets PySem.F.slot_list_count ⟨_, ho, rfl⟩ PySem.F.entry_list_count (PySem.F.args_list_count_2 _ _)
    (SeqAt.list_countAt p its.toArray n dd sl u (eqU (.bl true))) ⟨ho, fun y hy => mem_eqAt ru rfl rv fb y (by simpa using hy), ?_⟩
  have ec : its.toArray.toList.countP (eqU (.bl true)) = (bs.filter id).length := by
    rw [List.toList_toArray, cnt_vals rfl rv fb, List.countP_map, List.countP_eq_length_filter]
    congr 1
    refine List.filter_congr fun b _ => ?_
    cases b <;> simp [eqV]
  refine ⟨.int (bs.filter id).length, H, I.tok _, ⟨s.toks, ?_⟩, q⟩
  show Value.int ((its.toArray.toList.countP (eqU (.bl true)) : Nat) : Int) s.toks = Value.int ((bs.filter id).length : Nat) s.toks
  rw [ec]
end
theorem kCountB {X : Cx} (K : PySem.W.Frag) (h : X.K = K) : MtR X "list.count" (rCntB K) := h ▸ mt_countB
theorem kMaxI {X : Cx} (K : PySem.W.Frag) (h : X.K = K) (hc : X.calm = true) : CallR X (.builtin "max") (rMax K) := h ▸ cr_max hc
section
variable {K : PySem.W.Frag} {H : Hp} {Q : VK}
theorem w_countB {p : Addr} {bs : List Bool} (h : SqL K H p (bs.map V.bl)) (q : Q (.int (bs.filter id).length) H) : rCntB K (.ref p) [.bl true] H Q := ⟨p, bs, rfl, rfl, h, q⟩
theorem w_maxI {a : Addr} {ns : List Int} {m : Int} (h : SqL K H a (ns.map V.int)) (hm : m ∈ ns) (hl : ∀ y ∈ ns, y ≤ m) (q : Q (.int m) H) : rMax K [.ref a] H Q :=
  ⟨a, ns, rfl, h, List.length_pos_of_mem hm, fun m' h1 h2 => by
    have e : m' = m := by
      have a1 := h2 m hm
      have a2 := hl m' h1
      omega
    rw [e]
    exact q⟩
theorem w_indexI {a : Addr} {ns : List Int} {x : Int} (h : SqL K H a (ns.map V.int)) (hm : x ∈ ns) (q : Q (.int ((ns.idxOf x : Nat) : Int)) H) : rIndex K (.ref a) [.int x] H Q := by
  have hl := List.idxOf_lt_length_iff.mpr hm
  refine ⟨a, ns.map V.int, .int x, ns.idxOf x, .int x, rfl, rfl, h, rfl, flat_int ns, ?_, by simp [eqV], fun m z' hm' hz => ?_, q⟩
  · rw [List.getElem?_map, List.getElem?_eq_getElem hl]; simp
  · rw [List.getElem?_map, List.getElem?_eq_getElem (by omega)] at hz
    obtain rfl := Option.some.inj hz
    have ne : ns[m] ≠ x := fun e => by
      have z := List.not_of_lt_findIdx (p := (· == x)) (xs := ns) (i := m) hm'
      simp [e] at z
    simp [eqV, ne]
end
/-! lists of rows, new beside H and none of A -/
def RowsAt (A : List Addr) (H H' : Hp) (xs : List V) (rs : List (List Int)) : Prop := xs.length = rs.length ∧ ∀ (i : Nat) (r : List Int), rs[i]? = some r → ∃ l, xs[i]? = some (.ref l) ∧ H l = none ∧ l ∉ A ∧ H' l = some (.lst (r.map V.int))
theorem RowsAt.nil {A : List Addr} {H H' : Hp} : RowsAt A H H' [] [] := ⟨rfl, fun i e h => by simp at h⟩
theorem RowsAt.fr {A W : List Addr} {H H' H2 : Hp} {xs : List V} {rs : List (List Int)} (h : RowsAt A H H' xs rs) (f : Fr W H' H2) (hw : ∀ w ∈ W, w ∈ A) : RowsAt A H H2 xs rs := ⟨h.1, fun i r hr => by
  obtain ⟨l, h1, h2, h3, h4⟩ := h.2 i r hr
  exact ⟨l, h1, h2, h3, f.get h4 (fun m => h3 (hw _ m))⟩⟩
theorem RowsAt.fr0 {A : List Addr} {H H' H2 : Hp} {xs : List V} {rs : List (List Int)} (h : RowsAt A H H' xs rs) (f : Fr [] H' H2) : RowsAt A H H2 xs rs := h.fr f (by simp)
theorem RowsAt.add {A : List Addr} {H H' : Hp} {xs : List V} {rs : List (List Int)} {p : Addr} (h : RowsAt A H H' xs rs) (hp : H' p = none) : RowsAt (p :: A) H H' xs rs := ⟨h.1, fun i r hr => by
  obtain ⟨l, h1, h2, h3, h4⟩ := h.2 i r hr
  refine ⟨l, h1, h2, fun m => ?_, h4⟩
  rcases List.mem_cons.mp m with m | m
  · rw [m, hp] at h4; cases h4
  · exact h3 m⟩
theorem RowsAt.less {A B : List Addr} {H H' : Hp} {xs : List V} {rs : List (List Int)} (h : RowsAt A H H' xs rs) (hb : ∀ x ∈ B, x ∈ A) : RowsAt B H H' xs rs := ⟨h.1, fun i r hr => by
  obtain ⟨l, h1, h2, h3, h4⟩ := h.2 i r hr
  exact ⟨l, h1, h2, fun m => h3 (hb _ m), h4⟩⟩
theorem RowsAt.base {A W : List Addr} {H0 H H' : Hp} {xs : List V} {rs : List (List Int)} (h : RowsAt A H H' xs rs) (f : Fr W H0 H) : RowsAt A H0 H' xs rs := ⟨h.1, fun i r hr => by
  obtain ⟨l, h1, h2, h3⟩ := h.2 i r hr
  exact ⟨l, h1, f.2 l h2, h3⟩⟩
theorem RowsAt.append {A : List Addr} {H H' : Hp} {xs ys : List V} {rs qs : List (List Int)} (h : RowsAt A H H' xs rs) (h2 : RowsAt A H H' ys qs) : RowsAt A H H' (xs ++ ys) (rs ++ qs) := ⟨by simp [h.1, h2.1], fun i r hr => by
  rcases Nat.lt_or_ge i rs.length with lt | ge
  · rw [List.getElem?_append_left lt] at hr
    rw [List.getElem?_append_left (by rw [h.1]; exact lt)]
    exact h.2 i r hr
  · rw [List.getElem?_append_right ge] at hr
    rw [List.getElem?_append_right (by rw [h.1]; exact ge), h.1]
    exact h2.2 _ r hr⟩
theorem RowsAt.one {A : List Addr} {H H' : Hp} {l : Addr} {r : List Int} (hl : H l = none) (al : l ∉ A) (h : H' l = some (.lst (r.map V.int))) : RowsAt A H H' [.ref l] [r] := ⟨rfl, fun i e he => by
  match i, he with
  | 0, he =>
    obtain rfl := Option.some.inj he
    exact ⟨l, rfl, hl, al, h⟩⟩
theorem RowsAt.snoc {A : List Addr} {H H' : Hp} {xs : List V} {rs : List (List Int)} {l : Addr} {r : List Int} (h : RowsAt A H H' xs rs) (hl : H l = none) (al : l ∉ A) (h2 : H' l = some (.lst (r.map V.int))) : RowsAt A H H' (xs ++ [.ref l]) (rs ++ [r]) := h.append (.one hl al h2)
/-! all rows of so long -/
def nextR (p : Nat) (r : List Int) : List (List Int) := (List.range p).map fun q : Nat => r ++ [(q : Int)]
def rowsM (p : Nat) : Nat → List (List Int)
  | 0 => [[]]
  | k + 1 => (rowsM p k).flatMap (nextR p)
theorem nextR_len (p : Nat) (r : List Int) : (nextR p r).length = p := by unfold nextR; rw [List.length_map, List.length_range]
theorem flat_len {p : Nat} : ∀ rs : List (List Int), (rs.flatMap (nextR p)).length = rs.length * p
  | [] => by simp
  | r :: rs => by rw [List.flatMap_cons, List.length_append, nextR_len, flat_len rs, List.length_cons, Nat.succ_mul]; omega
theorem rowsM_len (p : Nat) : ∀ k, (rowsM p k).length = p ^ k
  | 0 => rfl
  | k + 1 => by unfold rowsM; rw [flat_len, rowsM_len p k, Nat.pow_succ]
theorem rowsM_mem {p : Nat} : ∀ (k : Nat) (r : List Int), r ∈ rowsM p k → r.length = k ∧ ∀ x ∈ r, 0 ≤ x ∧ x < (p : Int)
  | 0, r, h => by
    have : r = [] := by simpa [rowsM] using h
    subst this
    exact ⟨rfl, by simp⟩
  | k + 1, r, h => by
    unfold rowsM at h
    obtain ⟨r0, h1, h2⟩ := List.mem_flatMap.mp h
    obtain ⟨i1, i2⟩ := rowsM_mem k r0 h1
    unfold nextR at h2
    obtain ⟨q, hq, rfl⟩ := List.mem_map.mp h2
    rw [List.mem_range] at hq
    refine ⟨by simp [i1], fun x hx => ?_⟩
    rcases List.mem_append.mp hx with hx | hx
    · exact i2 x hx
    · rw [List.mem_singleton.mp hx]
      omega
theorem pow_fits {p k n : Nat} (hp : 1 ≤ p) (h : k ≤ n) (hn : p ^ n ≤ 5000) : p ^ k ≤ 5000 := Nat.le_trans (Nat.pow_le_pow_right hp h) hn
/-! the worst row -/
def moreM (n : Nat) (z : Str) (r : List Int) : Int := ((places (lackB n z r)).length : Int) - (bestN n r : Int)
def worstStep (n : Nat) (z : Str) (b : Int × Option (List Int)) (r : List Int) : Int × Option (List Int) := if b.1 < moreM n z r then (moreM n z r, some r) else b
def worstM (n : Nat) (z : Str) (rs : List (List Int)) : Int × Option (List Int) := rs.foldl (worstStep n z) (-1, none)
theorem more_pos {n : Nat} (n0 : 0 < n) (n8 : n ≤ 8) (z : Str) (r : List Int) : 0 ≤ moreM n z r := by
  have := best_le_rule n0 n8 z r
  unfold moreM
  omega
theorem worstM_some {n : Nat} (n0 : 0 < n) (n8 : n ≤ 8) (z : Str) : ∀ rs : List (List Int), (rs = [] ∧ worstM n z rs = (-1, none)) ∨ ∃ r, r ∈ rs ∧ worstM n z rs = (moreM n z r, some r) := by
  refine list_snoc_ind (.inl ⟨rfl, rfl⟩) ?_
  intro l r ih
  have e : worstM n z (l ++ [r]) = worstStep n z (worstM n z l) r := by unfold worstM; rw [List.foldl_append]; rfl
  rw [e]
  right
  unfold worstStep
  rcases ih with ⟨_, h⟩ | ⟨r0, h0, h⟩
  · rw [h, if_pos (by have := more_pos n0 n8 z r; show (-1 : Int) < _; omega)]
    exact ⟨r, by simp, rfl⟩
  · rw [h]
    by_cases c : moreM n z r0 < moreM n z r
    · rw [if_pos c]; exact ⟨r, by simp, rfl⟩
    · rw [if_neg c]; exact ⟨r0, by simp [h0], rfl⟩
end Cw
namespace Cw
open PySem
/-! by the page whose next ask is farthest, ties as they fall -/
def askF (row : List Int) (i : Nat) (z : Int) : Nat := if z ∈ row.drop i then (row.drop i).idxOf z else row.length
inductive Sel (n : Nat) (row : List Int) : Nat → List Int → Nat → Prop
  | zero : Sel n row 0 [] 0
  | hit {i : Nat} {K : List Int} {c : Nat} {x : Int} : Sel n row i K c → row[i]? = some x → x ∈ K → Sel n row (i + 1) K c
  | room {i : Nat} {K : List Int} {c : Nat} {x : Int} : Sel n row i K c → row[i]? = some x → x ∉ K → K.length ≠ n → Sel n row (i + 1) (K ++ [x]) (c + 1)
  | full {i : Nat} {K : List Int} {c : Nat} {x y : Int} : Sel n row i K c → row[i]? = some x → x ∉ K → K.length = n → y ∈ K → (∀ z ∈ K, askF row i z ≤ askF row i y) → Sel n row (i + 1) (K.erase y ++ [x]) (c + 1)
theorem sub_eq {A B : List Int} (nd : A.Nodup) (h : ∀ x ∈ A, x ∈ B) (hl : A.length = B.length) : ∀ x ∈ B, x ∈ A := by
  intro x hx
  refine Classical.byContradiction fun hn => ?_
  have := nodup_len (l := x :: A) (m := B) (List.nodup_cons.mpr ⟨hn, nd⟩) fun y hy => by
    rcases List.mem_cons.mp hy with e | e
    · rw [e]; exact hx
    · exact h y e
  rw [List.length_cons] at this
  omega
theorem idx_same {l : List Int} {x y : Int} (hx : x ∈ l) (h : l.idxOf x = l.idxOf y) : x = y := by
  have h1 := List.idxOf_lt_length_iff.mpr hx
  have e1 : l[l.idxOf x] = x := List.getElem_idxOf h1
  have h2 : l.idxOf y < l.length := by rw [← h]; exact h1
  have e2 : l[l.idxOf y] = y := List.getElem_idxOf h2
  rw [← e1, ← e2]
  simp only [h]
structure Sim (n : Nat) (row : List Int) (i : Nat) (K : List Int) (c : Nat) : Prop where
  nd : K.Nodup
  ln : K.length = (bestK n row i).length
  fut : ∀ x ∈ row.drop i, x ∈ K ↔ x ∈ bestK n row i
  cnt : c = (bst n row (row.take i)).lacks.length
theorem sel_sim {n : Nat} (n0 : 0 < n) {row : List Int} {i : Nat} {K : List Int} {c : Nat} (s : Sel n row i K c) (hi : i ≤ row.length) : Sim n row i K c := by
  have way := best_way n0 row
  have cntS : ∀ i x, row[i]? = some x → (bst n row (row.take (i + 1))).lacks.length = (bst n row (row.take i)).lacks.length + if x ∈ bestK n row i then 0 else 1 := fun i x hx => by
    rw [take_snoc hx, bst_snoc]
    unfold bestK bstep
    split
    · rfl
    · split <;> simp
  have dropS : ∀ i x, row[i]? = some x → row.drop i = x :: row.drop (i + 1) := fun i x hx => by
    obtain ⟨hl, rfl⟩ := List.getElem?_eq_some_iff.mp hx
    exact List.drop_eq_getElem_cons hl
  have ndx : ∀ (K : List Int) (x : Int), K.Nodup → x ∉ K → (K ++ [x]).Nodup := fun K x nd hx => by
    rw [List.nodup_append]
    refine ⟨nd, by simp, fun a ha b hb e => ?_⟩
    rw [List.mem_singleton.mp hb] at e
    subst e
    exact hx ha
  induction s with
  | zero => exact ⟨List.nodup_nil, by simp [bestK, bst], fun x _ => by simp [bestK, bst], by simp [bst]⟩
  | @hit i K c x s hx hxK ih =>
    obtain ⟨nd, ln, fut, cnt⟩ := ih (by omega)
    have hd := dropS i x hx
    have hxB : x ∈ bestK n row i := (fut x (by rw [hd]; simp)).mp hxK
    have hB : bestK n row (i + 1) = bestK n row i := by rw [bestK_succ n0 hx, if_pos hxB]
    refine ⟨nd, by rw [hB]; exact ln, fun y hy => ?_, by rw [cntS i x hx, if_pos hxB]; exact cnt⟩
    rw [hB]
    exact fut y (by rw [hd]; exact List.mem_cons_of_mem _ hy)
  | @room i K c x s hx hxK hne ih =>
    obtain ⟨nd, ln, fut, cnt⟩ := ih (by omega)
    have hd := dropS i x hx
    have hxB : x ∉ bestK n row i := fun h => hxK ((fut x (by rw [hd]; simp)).mpr h)
    have hB : bestK n row (i + 1) = bestK n row i ++ [x] := by rw [bestK_succ n0 hx, if_neg hxB, if_neg (by rw [← ln]; exact hne)]
    refine ⟨ndx K x nd hxK, by rw [hB, List.length_append, List.length_append, ln], fun y hy => ?_, by rw [cntS i x hx, if_neg hxB, cnt]⟩
    rw [hB, List.mem_append, List.mem_append, fut y (by rw [hd]; exact List.mem_cons_of_mem _ hy)]
  | @full i K c x y s hx hxK hl hy hfar ih =>
    obtain ⟨nd, ln, fut, cnt⟩ := ih (by omega)
    have hil := (List.getElem?_eq_some_iff.mp hx).1
    have hd := dropS i x hx
    have hxB : x ∉ bestK n row i := fun h => hxK ((fut x (by rw [hd]; simp)).mpr h)
    have hBl : (bestK n row i).length = n := by rw [← ln]; exact hl
    have ndB := way.nd i (by omega)
    have hne : bestK n row i ≠ [] := fun z => by rw [z] at hBl; simp at hBl; omega
    obtain ⟨hb, hbf⟩ := far_spec (row.drop i) hne
    have hB : bestK n row (i + 1) = (bestK n row i).erase (far (row.drop i) (bestK n row i)) ++ [x] := by rw [bestK_succ n0 hx, if_neg hxB, if_pos hBl]
    generalize far (row.drop i) (bestK n row i) = b at *
    have restl : (row.drop i).length ≤ row.length := by rw [List.length_drop]; omega
    have ltr : ∀ z, z ∈ row.drop i → (row.drop i).idxOf z < (row.drop i).length := fun z hz => List.idxOf_lt_length_iff.mpr hz
    have outr : ∀ z, z ∉ row.drop i → (row.drop i).idxOf z = (row.drop i).length := fun z hz => List.idxOf_eq_length hz
    have fin : ∀ z, z ∈ row.drop i → askF row i z = (row.drop i).idxOf z := fun z hz => if_pos hz
    have fout : ∀ z, z ∉ row.drop i → askF row i z = row.length := fun z hz => if_neg hz
    have same : y ∈ row.drop i ∨ b ∈ row.drop i → y = b := by
      intro h
      have bothIn : (∀ z ∈ K, z ∈ row.drop i) ∨ (∀ z ∈ bestK n row i, z ∈ row.drop i) := by
        rcases h with h | h
        · refine .inl fun z hz => Classical.byContradiction fun hn => ?_
          have h1 := hfar z hz
          rw [fout z hn, fin y h] at h1
          have := ltr y h
          omega
        · refine .inr fun z hz => Classical.byContradiction fun hn => ?_
          have h1 := hbf z hz
          rw [outr z hn] at h1
          have := ltr b h
          omega
      have KB : ∀ z, z ∈ K ↔ z ∈ bestK n row i := by
        rcases bothIn with h | h
        · have sub : ∀ z ∈ K, z ∈ bestK n row i := fun z hz => (fut z (h z hz)).mp hz
          exact fun z => ⟨sub z, sub_eq nd sub ln z⟩
        · have sub : ∀ z ∈ bestK n row i, z ∈ K := fun z hz => (fut z (h z hz)).mpr hz
          exact fun z => ⟨sub_eq ndB sub ln.symm z, sub z⟩
      have allIn : ∀ z ∈ K, z ∈ row.drop i := by
        rcases bothIn with h | h
        · exact h
        · exact fun z hz => h z ((KB z).mp hz)
      have hbK := (KB b).mpr hb
      have hyB := (KB y).mp hy
      have h1 := hfar b hbK
      rw [fin b (allIn b hbK), fin y (allIn y hy)] at h1
      have h2 := hbf y hyB
      exact idx_same (allIn y hy) (by omega)
    refine ⟨ndx _ x (nd.erase y) (fun h => hxK (List.mem_of_mem_erase h)), ?_, fun z hz => ?_, by rw [cntS i x hx, if_neg hxB, cnt]⟩
    · rw [hB, List.length_append, List.length_append, List.length_erase_of_mem hy, List.length_erase_of_mem hb, ln]
    · have hz' : z ∈ row.drop i := by rw [hd]; exact List.mem_cons_of_mem _ hz
      rw [hB, List.mem_append, List.mem_append, nd.mem_erase_iff, ndB.mem_erase_iff, fut z hz']
      constructor
      · rintro (⟨h1, h2⟩ | h)
        · refine .inl ⟨fun e => h1 ?_, h2⟩
          rw [e]
          exact (same (.inr (by rw [← e]; exact hz'))).symm
        · exact .inr h
      · rintro (⟨h1, h2⟩ | h)
        · refine .inl ⟨fun e => h1 ?_, h2⟩
          rw [e]
          exact same (.inl (by rw [← e]; exact hz'))
        · exact .inr h
theorem sel_best {n : Nat} (n0 : 0 < n) {row : List Int} {K : List Int} {c : Nat} (s : Sel n row row.length K c) : c = bestN n row := by
  have := (sel_sim n0 s (Nat.le_refl _)).cnt
  rw [List.take_length] at this
  exact this
end Cw
namespace Cw
/-- the first place of the most -/
theorem first_max {f : Int → Nat} {K : List Int} (hK : K ≠ []) : ∃ j y, K[j]? = some y ∧ (∀ z ∈ K, f z ≤ f y) ∧ (K.map fun z => (f z : Int)).idxOf (f y : Int) = j := by
    obtain ⟨y, hy, hm⟩ : ∃ y ∈ K, ∀ z ∈ K, f z ≤ f y := by
      have : ∀ (l : List Int) (a : Int), ∃ y ∈ a :: l, ∀ z ∈ a :: l, f z ≤ f y := by
        intro l
        induction l with
        | nil => intro a; exact ⟨a, by simp, by simp⟩
        | cons b l ih =>
          intro a
          obtain ⟨y, hy, hm⟩ := ih b
          by_cases h : f a ≤ f y
          · refine ⟨y, List.mem_cons_of_mem _ hy, fun z hz => ?_⟩
            rcases List.mem_cons.mp hz with e | e
            · rw [e]; exact h
            · exact hm z e
          · refine ⟨a, by simp, fun z hz => ?_⟩
            rcases List.mem_cons.mp hz with e | e
            · rw [e]; exact Nat.le_refl _
            · have := hm z e; omega
      cases K with
      | nil => exact absurd rfl hK
      | cons a l => exact this l a
    have hin : (f y : Int) ∈ K.map fun z => (f z : Int) := List.mem_map.mpr ⟨y, hy, rfl⟩
    have hlt := List.idxOf_lt_length_iff.mpr hin
    have hlt2 : (K.map fun z => (f z : Int)).idxOf (f y : Int) < K.length := by rw [List.length_map] at hlt; exact hlt
    have he : (K.map fun z => (f z : Int))[(K.map fun z => (f z : Int)).idxOf (f y : Int)] = (f y : Int) := List.getElem_idxOf hlt
    rw [List.getElem_map] at he
    refine ⟨_, _, List.getElem?_eq_getElem hlt2, fun z hz => ?_, ?_⟩
    · have := hm z hz
      omega
    · rw [he]
end Cw
namespace Cw
theorem erase_at : ∀ {l : List Int} {j : Nat}, l.Nodup → ∀ h : j < l.length, l.eraseIdx j = l.erase l[j]
  | [], _, _, h => absurd h (Nat.not_lt_zero _)
  | a :: l, 0, _, _ => by simp
  | a :: l, j + 1, nd, h => by
    rw [List.nodup_cons] at nd
    have hj : j < l.length := by simpa using h
    have hne : a ≠ l[j] := fun e => nd.1 (by rw [e]; exact List.getElem_mem hj)
    rw [List.eraseIdx_cons_succ, List.getElem_cons_succ, List.erase_cons_tail (by simpa using hne), erase_at nd.2 hj]
end Cw

namespace Cw
open PySem L2
/-! data of one's own: every list and tuple of it new beside H0, each list in it once; F: its lists -/
mutual
inductive Own (H0 H : Hp) : V → PyData → List Addr → Prop
  | non : Own H0 H .non .none []
  | bl (b : Bool) : Own H0 H (.bl b) (.bool b) []
  | int (i : Int) : Own H0 H (.int i) (.int i) []
  | lst {a : Addr} {xs : List V} {ds : List PyData} {F : List Addr} : H0 a = none → H a = some (.lst xs) → OwnAll H0 H xs ds F → a ∉ F → Own H0 H (.ref a) (.list ds) (a :: F)
  | tup {a : Addr} {xs : List V} {ds : List PyData} {F : List Addr} : H0 a = none → H a = some (.tup xs) → OwnAll H0 H xs ds F → Own H0 H (.ref a) (.tuple ds) F
inductive OwnAll (H0 H : Hp) : List V → List PyData → List Addr → Prop
  | nil : OwnAll H0 H [] [] []
  | cons {v : V} {vs : List V} {d : PyData} {ds : List PyData} {F G : List Addr} : Own H0 H v d F → OwnAll H0 H vs ds G → (∀ x ∈ F, x ∉ G) → OwnAll H0 H (v :: vs) (d :: ds) (F ++ G)
end
section
variable {H0 H H' : Hp} {W : List Addr}
/-- it stays while lists that are none of it change -/
theorem Own.keep (f : Fr W H H') (hl : ∀ w ∈ W, ∃ ys, H w = some (.lst ys)) : ∀ {v d F}, Own H0 H v d F → (∀ w ∈ W, w ∉ F) → Own H0 H' v d F := fun {v d F} h =>
  Own.rec (motive_1 := fun v d F _ => (∀ w ∈ W, w ∉ F) → Own H0 H' v d F) (motive_2 := fun vs ds F _ => (∀ w ∈ W, w ∉ F) → OwnAll H0 H' vs ds F)
    (fun _ => .non) (fun b _ => .bl b) (fun i _ => .int i)
    (fun {a xs ds F} h0 h1 _ hn ih hw => .lst h0 (f.get h1 fun m => hw a m (by simp)) (ih fun w m z => hw w m (List.mem_cons_of_mem _ z)) hn)
    (fun {a xs ds F} h0 h1 _ ih hw => .tup h0 (f.get h1 fun m => by obtain ⟨ys, e⟩ := hl a m; rw [h1] at e; cases e) (ih hw))
    (fun _ => .nil) (fun {v vs d ds F G} _ _ hd i1 i2 hw => .cons (i1 fun w m z => hw w m (List.mem_append_left _ z)) (i2 fun w m z => hw w m (List.mem_append_right _ z)) hd) h
theorem OwnAll.keep (f : Fr W H H') (hl : ∀ w ∈ W, ∃ ys, H w = some (.lst ys)) : ∀ {vs ds F}, OwnAll H0 H vs ds F → (∀ w ∈ W, w ∉ F) → OwnAll H0 H' vs ds F
  | _, _, _, .nil, _ => .nil
  | _, _, _, .cons h t hd, hw => .cons (h.keep f hl fun w m z => hw w m (List.mem_append_left _ z)) (OwnAll.keep f hl t fun w m z => hw w m (List.mem_append_right _ z)) hd
/-- it stays while what stood in H0 changes -/
theorem Own.step (hw : ∀ w ∈ W, H0 w ≠ none) (f : Fr W H H') : ∀ {v d F}, Own H0 H v d F → Own H0 H' v d F := fun {v d F} h =>
  Own.rec (motive_1 := fun v d F _ => Own H0 H' v d F) (motive_2 := fun vs ds F _ => OwnAll H0 H' vs ds F)
    .non (fun b => .bl b) (fun i => .int i) (fun {a xs ds F} h0 h1 _ hn ih => .lst h0 (f.get h1 fun m => hw a m h0) ih hn) (fun {a xs ds F} h0 h1 _ ih => .tup h0 (f.get h1 fun m => hw a m h0) ih)
    .nil (fun _ _ hd i1 i2 => .cons i1 i2 hd) h
theorem OwnAll.step (hw : ∀ w ∈ W, H0 w ≠ none) (f : Fr W H H') : ∀ {vs ds F}, OwnAll H0 H vs ds F → OwnAll H0 H' vs ds F
  | _, _, _, .nil => .nil
  | _, _, _, .cons h t hd => .cons (h.step hw f) (OwnAll.step hw f t) hd
theorem Own.fr0 (f : Fr [] H H') {v d F} (h : Own H0 H v d F) : Own H0 H' v d F := h.step (W := []) (by simp) f
theorem OwnAll.fr0 (f : Fr [] H H') {vs ds F} (h : OwnAll H0 H vs ds F) : OwnAll H0 H' vs ds F := h.step (W := []) (by simp) f
theorem Own.base {H1 : Hp} (f : Fr W H1 H0) : ∀ {v d F}, Own H0 H v d F → Own H1 H v d F := fun {v d F} h =>
  Own.rec (motive_1 := fun v d F _ => Own H1 H v d F) (motive_2 := fun vs ds F _ => OwnAll H1 H vs ds F)
    .non (fun b => .bl b) (fun i => .int i) (fun {a xs ds F} h0 h1 _ hn ih => .lst (f.2 a h0) h1 ih hn) (fun {a xs ds F} h0 h1 _ ih => .tup (f.2 a h0) h1 ih)
    .nil (fun _ _ hd i1 i2 => .cons i1 i2 hd) h
theorem OwnAll.base {H1 : Hp} (f : Fr W H1 H0) : ∀ {vs ds F}, OwnAll H0 H vs ds F → OwnAll H1 H vs ds F
  | _, _, _, .nil => .nil
  | _, _, _, .cons h t hd => .cons (h.base f) (OwnAll.base f t) hd
theorem Own.mem : ∀ {v d F}, Own H0 H v d F → ∀ w ∈ F, H0 w = none ∧ ∃ ys, H w = some (.lst ys) := fun {v d F} h =>
  Own.rec (motive_1 := fun v d F _ => ∀ w ∈ F, H0 w = none ∧ ∃ ys, H w = some (.lst ys)) (motive_2 := fun vs ds F _ => ∀ w ∈ F, H0 w = none ∧ ∃ ys, H w = some (.lst ys))
    (by simp) (by simp) (by simp)
    (fun {a xs ds F} h0 h1 _ hn ih w m => by
      rcases List.mem_cons.mp m with e | e
      · rw [e]; exact ⟨h0, xs, h1⟩
      · exact ih w e)
    (fun {a xs ds F} h0 h1 _ ih => ih) (by simp)
    (fun {v vs d ds F G} _ _ hd i1 i2 w m => (List.mem_append.mp m).elim (i1 w) (i2 w)) h
theorem OwnAll.mem : ∀ {vs ds F}, OwnAll H0 H vs ds F → ∀ w ∈ F, H0 w = none ∧ ∃ ys, H w = some (.lst ys)
  | _, _, _, .nil, w, m => by cases m
  | _, _, _, .cons h t hd, w, m => (List.mem_append.mp m).elim (h.mem w) (OwnAll.mem t w)
theorem Own.dp {K : PySem.W.Frag} : ∀ {v d F}, Own H0 H v d F → Dp K H v d := fun {v d F} h =>
  Own.rec (motive_1 := fun v d F _ => Dp K H v d) (motive_2 := fun vs ds F _ => DpAll K H vs ds)
    .non (fun b => .bl b) (fun i => .int i) (fun {a xs ds F} h0 h1 _ hn ih => .lst (SqL.of h1) ih) (fun {a xs ds F} h0 h1 _ ih => .tup (SqT.of h1) ih)
    .nil (fun _ _ hd i1 i2 => .cons i1 i2) h
theorem OwnAll.dp {K : PySem.W.Frag} : ∀ {vs ds F}, OwnAll H0 H vs ds F → DpAll K H vs ds
  | _, _, _, .nil => .nil
  | _, _, _, .cons h t _ => .cons h.dp (OwnAll.dp t)
theorem Own.nw {K : PySem.W.Frag} {v d F} (h : Own H0 H v d F) : Nw K H0 H v d := fun W H'' hw f => (h.step hw f).dp
theorem OwnAll.nwa {K : PySem.W.Frag} {vs ds F} (h : OwnAll H0 H vs ds F) : NwA K H0 H vs ds := fun W H'' hw f => (h.step hw f).dp
theorem OwnAll.snoc : ∀ {vs ds F v d G}, OwnAll H0 H vs ds F → Own H0 H v d G → (∀ x ∈ G, x ∉ F) → OwnAll H0 H (vs ++ [v]) (ds ++ [d]) (F ++ G)
  | _, _, _, v, d, G, .nil, h, _ => by
    have := OwnAll.cons (F := G) (G := []) h .nil (by simp)
    simpa using this
  | _, _, _, v, d, G, .cons (F := F1) (G := G1) h t hd, h2, hn => by
    have ih := OwnAll.snoc t h2 fun x hx z => hn x hx (List.mem_append_right _ z)
    have := OwnAll.cons h ih fun x hx z => by
      rcases List.mem_append.mp z with z | z
      · exact hd x hx z
      · exact hn x z (List.mem_append_left _ hx)
    simpa using this
/-- one more, made anew -/
theorem OwnAll.grow {H1 H2 : Hp} {vs ds F v d G} (h : OwnAll H0 H1 vs ds F) (f0 : Fr [] H0 H1) (f : Fr [] H1 H2) (g : Own H1 H2 v d G) : OwnAll H0 H2 (vs ++ [v]) (ds ++ [d]) (F ++ G) :=
  (h.fr0 f).snoc (g.base f0) fun x hx z => by
    obtain ⟨h1, _⟩ := g.mem x hx
    obtain ⟨_, ys, h2⟩ := h.mem x z
    rw [h1] at h2
    cases h2
theorem OwnAll.len : ∀ {vs ds F}, OwnAll H0 H vs ds F → vs.length = ds.length
  | _, _, _, .nil => rfl
  | _, _, _, .cons _ t _ => congrArg (· + 1) (OwnAll.len t)
theorem OwnAll.ints : ∀ ns : List Int, OwnAll H0 H (ns.map V.int) (ns.map PyData.int) []
  | [] => .nil
  | n :: r => .cons (F := []) (G := []) (.int n) (OwnAll.ints r) (by simp)
theorem OwnAll.bls : ∀ ns : List Bool, OwnAll H0 H (ns.map V.bl) (ns.map PyData.bool) []
  | [] => .nil
  | n :: r => .cons (F := []) (G := []) (.bl n) (OwnAll.bls r) (by simp)
theorem Own.o : ∀ o : Option Int, Own H0 H (oV o) (oD o) []
  | none => .non
  | some i => .int i
theorem OwnAll.os : ∀ os : List (Option Int), OwnAll H0 H (os.map oV) (os.map oD) []
  | [] => .nil
  | n :: r => .cons (F := []) (G := []) (.o n) (OwnAll.os r) (by simp)
theorem OwnAll.nats (l : List Nat) : OwnAll H0 H (natsV l) (natsD l) [] := by
  have e1 : natsV l = (l.map fun (i : Nat) => (i : Int)).map V.int := by simp [natsV]
  have e2 : natsD l = (l.map fun (i : Nat) => (i : Int)).map PyData.int := by simp [natsD]
  rw [e1, e2]
  exact .ints _
theorem Own.lints {a : Addr} {ns : List Int} (h0 : H0 a = none) (h : H a = some (.lst (ns.map V.int))) : Own H0 H (.ref a) (.list (ns.map PyData.int)) [a] := .lst h0 h (.ints ns) (by simp)
theorem PairsAt.own : ∀ {xs : List V} {ps : List (Int × Int)}, PairsAt H0 H xs ps → OwnAll H0 H xs (ps.map pairD) []
  | [], [], _ => .nil
  | [], _ :: _, h => by have := h.1; simp at this
  | _ :: _, [], h => by have := h.1; simp at this
  | x :: xs, e :: ps, h => by
    obtain ⟨t, h1, h2, h3⟩ := h.2 0 e rfl
    have hx : x = .ref t := Option.some.inj h1
    subst hx
    exact .cons (F := []) (G := []) (.tup (F := []) h2 h3 (.cons (F := []) (G := []) (.int _) (.cons (F := []) (G := []) (.int _) .nil (by simp)) (by simp))) (PairsAt.own ⟨by have := h.1; simpa using this, fun i e' he => h.2 (i + 1) e' he⟩) (by simp)
theorem PairsAt.step {xs : List V} {ps : List (Int × Int)} (h : PairsAt H0 H xs ps) (hw : ∀ w ∈ W, H0 w ≠ none) (f : Fr W H H') : PairsAt H0 H' xs ps := ⟨h.1, fun i e he => by
  obtain ⟨t, h1, h2, h3⟩ := h.2 i e he
  exact ⟨t, h1, h2, f.get h3 fun m => hw t m h2⟩⟩
theorem Own.tl {t q : Addr} (tl : Tl) (ht : H0 t = none) (hq : H0 q = none) (h1 : H t = some (.tup (toldV tl q))) (h2 : H q = some (.lst (natsV tl.passed))) : Own H0 H (.ref t) (tlD tl) [q] :=
  .tup ht h1 (.cons (F := []) (G := [q]) (.bl _) (.cons (F := []) (G := [q]) (.o _) (.cons (F := [q]) (G := []) (.lst (F := []) hq h2 (.nats _) (by simp)) .nil (by simp)) (by simp)) (by simp))
end
/-! walking what may be a list or a tuple; isinstance of two -/
section
variable {X : Cx}
def iSeq (K : PySem.W.Frag) (tl : TE) : TI := fun σ H R => tl σ H fun x H1 => ∃ a, x = V.ref a ∧ (((∃ xs, SqL K H1 a xs) ∧ R (Itl K a) H1) ∨ ((∃ xs, SqT K H1 a xs) ∧ R (Itt K a) H1))
theorem pi_seq {tg l : Expr} {tl : TE} (hl : PE X l tl) : PI X tg l (iSeq X.K tl) := by
  refine ⟨fun pins s σ H R I h => thn (hl.run pins s σ H _ I h) fun v s1 ⟨x, H1, J, rx, p, ex, alt⟩ => ?_⟩
  subst ex
  cases rx
  have hsz : ∀ (o : Obj), Inv X pins σ H1 { s1 with heap := s1.heap.push o } := fun o => J.kept (t' := s1.toks) fun b u e => Heap.get?_push_of_some _ e
  have fp : ∀ b ∈ [s1.heap.objs.size], s1.heap.objs.size ≤ b := fun b hb => by rw [List.mem_singleton.mp hb]; exact Nat.le_refl _
  rcases alt with ⟨⟨xs, hq⟩, q⟩ | ⟨⟨xs, hq⟩, q⟩
  · obtain ⟨us, ru, pl, hz⟩ := J.list hq
    exact wpAny_pyIter_list pl.isList ⟨s1.heap.objs.size, [s1.heap.objs.size], _, _, H1, rfl, hsz _, turn_list p _, ⟨_, Heap.get?_push_size _ rfl, rfl, rfl⟩, fun b hb => by
      rw [List.mem_singleton.mp hb]
      exact J.fpOk (Nat.le_refl _) (J.hok.fresh (Nat.le_refl _)), q⟩
  · obtain ⟨us, ru, pl, hz⟩ := J.tuple hq
    exact wpAny_pyIter_tuple (show s1.heap.IsTuple p us.toArray from pl) ⟨s1.heap.objs.size, [s1.heap.objs.size], _, _, H1, rfl, hsz _, turn_tuple p _, ⟨_, Heap.get?_push_size _ rfl, rfl, rfl⟩, fun b hb => by
      rw [List.mem_singleton.mp hb]
      exact J.fpOk (Nat.le_refl _) (J.hok.fresh (Nat.le_refl _)), q⟩
theorem kISeq {X : Cx} {K : PySem.W.Frag} {e l : Expr} {t : TE} (h : X.K = K) (p : PI X e l (iSeq X.K t)) : PI X e l (iSeq K t) := h ▸ p
def rIsiT (K : PySem.W.Frag) : List V → Hp → VK → Prop := fun xs H Q => ∃ (x : V) (tp : Addr) (cs : List V) (t : Value) (us : List Value) (b : Bool), xs = [x, .ref tp] ∧ H tp = some (.tup cs) ∧ Paired ClsV cs us ∧ TyX K H x t ∧ PySem.W.kitAny K t us = some b ∧ Q (.bl b) H
theorem kIsiT {X : Cx} (K : PySem.W.Frag) (h : X.K = K) : CallR X (.builtin "isinstance") (rIsiT K) := h ▸ call_isiT
theorem w_isi2 {K : PySem.W.Frag} {H : Hp} {Q : VK} {x : V} {tp : Addr} {t c1 c2 : String} {b : Bool} (h : H tp = some (.tup [.ty c1, .ty c2])) (ht : TyX K H x (.type t)) (hk : PySem.W.kitAny K (.type t) [.type c1, .type c2] = some b) (q : Q (.bl b) H) : rIsiT K [x, .ref tp] H Q :=
  ⟨x, tp, _, .type t, _, b, rfl, h, .cons (.ty c1) (.cons (.ty c2) .nil), ht, hk, q⟩
end
section
variable {σ : L2.St} {H : Hp} {K : PySem.W.Frag} {nx : L2.St → Hp → Prop} {rt : VK}
theorem f_tup {g : TG} {tb : TS} {a : Addr} (xs : List V) (Pv : Nat → L2.St → Hp → Prop) (h0 : Pv 0 σ H) (hl : ∀ i σ H, i ≤ xs.length → Pv i σ H → SqT K H a xs)
    (hs : ∀ i x σ H, xs[i]? = some x → Pv i σ H → g x σ H fun σ2 H2 => tb ⟨Pv (i + 1), rt, nx, Pv (i + 1)⟩ σ2 H2) (hd : ∀ σ H, Pv xs.length σ H → nx σ H) :
    ∃ W : Nat → Nat → L2.St → Hp → Prop, (∃ m, W 0 m σ H) ∧ ∀ i m σ H, W i m σ H →
      ((Itt K a).stop i H ∧ nx σ H) ∨ ((Itt K a).go i H ∧ ∃ N : L2.St → Hp → Prop, (∀ σ' H', N σ' H' → ∃ m', m' < m ∧ W (i + 1) m' σ' H') ∧ ∀ x H', (Itt K a).yld i H x H' → g x σ H' fun σ2 H2 => tb ⟨N, rt, nx, N⟩ σ2 H2) :=
  for_tup (D := ⟨nx, rt, fun _ _ => False, fun _ _ => False⟩) (K := K) (a := a) (xs := xs) Pv h0 hl hs hd
theorem f_lst {g : TG} {tb : TS} {a : Addr} (xs : List V) (Pv : Nat → L2.St → Hp → Prop) (h0 : Pv 0 σ H) (hl : ∀ i σ H, i ≤ xs.length → Pv i σ H → SqL K H a xs)
    (hs : ∀ i x σ H, xs[i]? = some x → Pv i σ H → g x σ H fun σ2 H2 => tb ⟨Pv (i + 1), rt, nx, Pv (i + 1)⟩ σ2 H2) (hd : ∀ σ H, Pv xs.length σ H → nx σ H) :
    ∃ W : Nat → Nat → L2.St → Hp → Prop, (∃ m, W 0 m σ H) ∧ ∀ i m σ H, W i m σ H →
      ((Itl K a).stop i H ∧ nx σ H) ∨ ((Itl K a).go i H ∧ ∃ N : L2.St → Hp → Prop, (∀ σ' H', N σ' H' → ∃ m', m' < m ∧ W (i + 1) m' σ' H') ∧ ∀ x H', (Itl K a).yld i H x H' → g x σ H' fun σ2 H2 => tb ⟨N, rt, nx, N⟩ σ2 H2) :=
  for_list (D := ⟨nx, rt, fun _ _ => False, fun _ _ => False⟩) (K := K) (a := a) (xs := xs) Pv h0 hl hs hd
theorem w_iSeq {tl : TE} {R : It → Hp → Prop} (h : tl σ H fun x H1 => ∃ a, x = V.ref a ∧ (((∃ xs, SqL K H1 a xs) ∧ R (Itl K a) H1) ∨ ((∃ xs, SqT K H1 a xs) ∧ R (Itt K a) H1))) : iSeq K tl σ H R := h
end
theorem sz_fit {n : Nat} (h : n ≤ 100000) : n < sizeLine := Nat.lt_of_le_of_lt h (by rw [sizeLine_eq]; decide)
end Cw
namespace Cw
open PySem L2
theorem own_list {H0 H : Hp} {p : Addr} {ds : List PyData} {F : List Addr} (h : Own H0 H (.ref p) (.list ds) F) : ∃ xs G, F = p :: G ∧ H0 p = none ∧ H p = some (.lst xs) ∧ OwnAll H0 H xs ds G ∧ p ∉ G := by
  cases h with
  | lst h0 h1 h2 h3 => exact ⟨_, _, rfl, h0, h1, h2, h3⟩
theorem cut_to (xs : List V) (k : Nat) : cutV xs none (some (k : Int)) = xs.take k := by
  have := cut_mid xs 0 k
  rw [List.drop_zero] at this
  rw [← this]
  rfl
/-! what is told of rooms, a row and a rule -/
def wrow (n : Nat) (z : Str) : List Int := ((worstM n z (rowsM 2 4)).2).getD []
def toldD (n : Nat) (z : Str) (row : List Int) : PyData := .list [.list ((askAll (Dl.new n) row).map tlD), .list ((places (lackB n z row)).map .int), .tuple [.list ((bst n row row).lacks.map .int), .list ((bst n row row).gone.map pairD)],
  .list ((spellsM row).map pairD), .list ((parts n row).map pairD), .list ((counts (lackB n z row) (parts n row)).map .int), .tuple [.int (moreM n z (wrow n z)), .list ((wrow n z).map .int)],
  .list ((endAll (Dl.new n) (row.take 9)).here.map oD), .list ((endAll (Dl.new n) (row.take 9)).seen.map .bool), .int (bestN n row : Int), .int ((endAll (Dl.new n) (row.take 9)).hand : Nat), .int ((endAll (Dl.new n) (row.take 9)).lacks : Nat)]
theorem lay_os : ∀ os : List (Option Int), PyData.canLayAll0 (os.map oD) = true
  | [] => rfl
  | o :: r => by cases o <;> simp [PyData.canLayAll0, oD, PyData.canLay0, lay_os r]
theorem lay_bls : ∀ os : List Bool, PyData.canLayAll0 (os.map PyData.bool) = true
  | [] => rfl
  | o :: r => by simp [PyData.canLayAll0, PyData.canLay0, lay_bls r]
theorem told_lay (n : Nat) (z : Str) (row : List Int) : (toldD n z row).canLay0 = true := by
  simp only [toldD, PyData.canLay0, PyData.canLayAll0, lay_ints, lay_tls, lay_pairs, lay_os, lay_bls, Bool.and_self, Bool.and_true]
theorem fits_flat {k : Nat} {ds : List PyData} (h : ds.length ≤ 100000) (hd : ∀ d ∈ ds, ∀ k, fits k d) : fits (k + 1) (.list ds) := ⟨h, fun d m => hd d m k⟩
theorem told_fits {n : Nat} (n0 : 0 < n) (n8 : n ≤ 8) {z : Str} {row : List Int} (hl : row.length ≤ 100) : fits 5 (toldD n z row) := by
  have W := endAll_wf (Dl.new n) (row.take 9) (Dl.Wf.new n0 n8)
  have h1 : ((askAll (Dl.new n) row)).length ≤ 100000 := by rw [askAll_len]; omega
  have h2 := askAll_passed row (Dl.new n) (Dl.Wf.new n0 n8)
  have h3 := places_len (lackB n z row)
  rw [lackB_len] at h3
  have o := bst_ok n0 row row
  have h4 : (spellsM row).length ≤ row.length := spellsTo_len row row.length
  have h5 := parts_len n0 row
  have h6 : (counts (lackB n z row) (parts n row)).length ≤ 100 := by unfold counts; rw [List.length_map]; omega
  have h7 : (wrow n z).length ≤ 4 := by
    unfold wrow
    rcases worstM_some n0 n8 z (rowsM 2 4) with ⟨_, h⟩ | ⟨r, hr, h⟩
    · rw [h]; simp
    · rw [h]
      have := (rowsM_mem (p := 2) 4 r hr).1
      simp
      omega
  refine ⟨by show 12 ≤ 100000; decide, fun d hd => ?_⟩
  simp only [List.mem_cons, List.not_mem_nil, or_false] at hd
  rcases hd with rfl | rfl | rfl | rfl | rfl | rfl | rfl | rfl | rfl | rfl | rfl | rfl
  · exact fits_tls (k := 1) h1 fun t ht => Nat.le_trans (h2 t ht) (by decide)
  · exact fits_ints (by omega)
  · exact fits_twoT (fits_ints (by have := o.ll; omega)) (fits_pairs (k := 1) (by have := o.gl; omega))
  · exact fits_pairs (k := 2) (by omega)
  · exact fits_pairs (k := 2) (by omega)
  · exact fits_ints (by omega)
  · exact fits_twoT trivial (fits_ints (by omega))
  · refine fits_flat (by rw [List.length_map, W.hl]; omega) fun d hd k => ?_
    obtain ⟨o, _, rfl⟩ := List.mem_map.mp hd
    cases o <;> cases k <;> trivial
  · refine fits_flat (by rw [List.length_map, W.sl]; omega) fun d hd k => ?_
    obtain ⟨o, _, rfl⟩ := List.mem_map.mp hd
    cases k <;> trivial
  · trivial
  · trivial
  · trivial
end Cw
namespace Cw
open PySem L2
section
variable {σ : L2.St} {H : Hp} {K : PySem.W.Frag}
theorem l_lst {g : TG} {tt : TT} {te : TE} {vs : List Nat} {Qd : Addr → Hp → Prop} {a : Addr} (xs : List V) (hq : SqL K H a xs) (Pv : Addr → Nat → List V → Hp → Prop) (h0 : ∀ D, H D = none → Pv D 0 [] (upd H D (.lst [])))
    (hl : ∀ D i acc H', H D = none → Pv D i acc H' → H' D = some (.lst acc) → SqL K H' a xs)
    (hs : ∀ D (i : Nat) x acc H', H D = none → xs[i]? = some x → Pv D i acc H' → H' D = some (.lst acc) → acc.length ≤ i → g x (wipe σ vs) H' fun σ2 H2 => wipe σ2 vs = wipe σ vs ∧ tt σ2 H2 fun b H3 =>
      if b = true then te σ2 H3 fun y H4 => ∃ acc, H4 D = some (.lst acc) ∧ acc.length < sizeLine ∧ LcI Pv D (i + 1) (upd H4 D (.lst (acc ++ [y]))) else LcI Pv D (i + 1) H3)
    (hd : ∀ D acc H', H D = none → Pv D xs.length acc H' → H' D = some (.lst acc) → acc.length ≤ xs.length → Qd D H') :
    ∀ D, H D = none → ∃ W : Nat → Nat → Hp → Prop, (∃ m, W 0 m (upd H D (.lst []))) ∧ ∀ i m H, W i m H →
      ((Itl K a).stop i H ∧ Qd D H) ∨ ((Itl K a).go i H ∧ ∃ Nx : Hp → Prop, (∀ H', Nx H' → ∃ m', m' < m ∧ W (i + 1) m' H') ∧ ∀ x H', (Itl K a).yld i H x H' → g x (wipe σ vs) H' fun σ2 H2 => wipe σ2 vs = wipe σ vs ∧ tt σ2 H2 fun b H3 =>
        if b = true then te σ2 H3 fun y H4 => ∃ acc, H4 D = some (.lst acc) ∧ acc.length < sizeLine ∧ Nx (upd H4 D (.lst (acc ++ [y]))) else Nx H3) := by
  obtain ⟨b, e, _, h⟩ := l_list (K := K) (σ := σ) (H := H) (g := g) (tt := tt) (te := te) (vs := vs) (Qd := Qd) (a := a) xs hq Pv h0 hl hs hd
  cases e
  exact h
theorem l_tpl {g : TG} {tt : TT} {te : TE} {vs : List Nat} {Qd : Addr → Hp → Prop} {a : Addr} (xs : List V) (hq : SqT K H a xs) (Pv : Addr → Nat → List V → Hp → Prop) (h0 : ∀ D, H D = none → Pv D 0 [] (upd H D (.lst [])))
    (hl : ∀ D i acc H', H D = none → Pv D i acc H' → H' D = some (.lst acc) → SqT K H' a xs)
    (hs : ∀ D (i : Nat) x acc H', H D = none → xs[i]? = some x → Pv D i acc H' → H' D = some (.lst acc) → acc.length ≤ i → g x (wipe σ vs) H' fun σ2 H2 => wipe σ2 vs = wipe σ vs ∧ tt σ2 H2 fun b H3 =>
      if b = true then te σ2 H3 fun y H4 => ∃ acc, H4 D = some (.lst acc) ∧ acc.length < sizeLine ∧ LcI Pv D (i + 1) (upd H4 D (.lst (acc ++ [y]))) else LcI Pv D (i + 1) H3)
    (hd : ∀ D acc H', H D = none → Pv D xs.length acc H' → H' D = some (.lst acc) → acc.length ≤ xs.length → Qd D H') :
    ∀ D, H D = none → ∃ W : Nat → Nat → Hp → Prop, (∃ m, W 0 m (upd H D (.lst []))) ∧ ∀ i m H, W i m H →
      ((Itt K a).stop i H ∧ Qd D H) ∨ ((Itt K a).go i H ∧ ∃ Nx : Hp → Prop, (∀ H', Nx H' → ∃ m', m' < m ∧ W (i + 1) m' H') ∧ ∀ x H', (Itt K a).yld i H x H' → g x (wipe σ vs) H' fun σ2 H2 => wipe σ2 vs = wipe σ vs ∧ tt σ2 H2 fun b H3 =>
        if b = true then te σ2 H3 fun y H4 => ∃ acc, H4 D = some (.lst acc) ∧ acc.length < sizeLine ∧ Nx (upd H4 D (.lst (acc ++ [y]))) else Nx H3) := by
  obtain ⟨b, e, _, h⟩ := l_tup (K := K) (σ := σ) (H := H) (g := g) (tt := tt) (te := te) (vs := vs) (Qd := Qd) (a := a) xs hq Pv h0 hl hs hd
  cases e
  exact h
end
theorem OwnAll.get {H0 H : Hp} : ∀ {vs ds F}, OwnAll H0 H vs ds F → ∀ {i : Nat} {d : PyData}, ds[i]? = some d → ∃ x G, vs[i]? = some x ∧ Own H0 H x d G
  | _, _, _, .nil, i, d, h => by simp at h
  | _, _, _, .cons h1 t hd, 0, d, h => by
    obtain rfl := Option.some.inj h
    exact ⟨_, _, rfl, h1⟩
  | _, _, _, .cons h1 t hd, i + 1, d, h => by
    obtain ⟨x, G, a, b⟩ := OwnAll.get t (i := i) (d := d) (by simpa using h)
    exact ⟨x, G, by simpa using a, b⟩
/-- one more, made anew, while D (a list of H0) was changed -/
theorem OwnAll.growW {H0 H1 H2 : Hp} {W : List Addr} {vs ds F v d G} (h : OwnAll H0 H1 vs ds F) (f0 : Fr W H0 H1) (f : Fr [] H1 H2) (g : Own H1 H2 v d G) : OwnAll H0 H2 (vs ++ [v]) (ds ++ [d]) (F ++ G) :=
  (h.fr0 f).snoc (g.base f0) fun x hx z => by
    obtain ⟨h1, _⟩ := g.mem x hx
    obtain ⟨_, ys, h2⟩ := h.mem x z
    rw [h1] at h2
    cases h2
theorem kit2 {K : PySem.W.Frag} : PySem.W.kitAny K (.type "NoneType") [.type "list", .type "tuple"] = some false ∧ PySem.W.kitAny K (.type "bool") [.type "list", .type "tuple"] = some false ∧ PySem.W.kitAny K (.type "int") [.type "list", .type "tuple"] = some false ∧
    PySem.W.kitAny K (.type "list") [.type "list", .type "tuple"] = some true ∧ PySem.W.kitAny K (.type "tuple") [.type "list", .type "tuple"] = some true :=
  ⟨kitAny_cons (kit_ty kb_NoneType_list) (fun _ => kitAny_cons (kit_ty kb_NoneType_tuple) (fun _ => rfl) (fun h => by cases h)) (fun h => by cases h),
   kitAny_cons (kit_ty kb_bool_list) (fun _ => kitAny_cons (kit_ty kb_bool_tuple) (fun _ => rfl) (fun h => by cases h)) (fun h => by cases h),
   kitAny_cons (kit_ty kb_int_list) (fun _ => kitAny_cons (kit_ty kb_int_tuple) (fun _ => rfl) (fun h => by cases h)) (fun h => by cases h),
   kitAny_cons (kit_ty kb_list_list) (fun h => by cases h) (fun _ => rfl),
   kitAny_cons (kit_ty kb_tuple_list) (fun _ => kitAny_cons (kit_ty kb_tuple_tuple) (fun h => by cases h) (fun _ => rfl)) (fun h => by cases h)⟩
end Cw

namespace Cw
open PySem L2
/-! the text by places -/
def top (i : Nat) : Stmt := PySem.Challenge.pw_clockhand_k12_asked_again.main.body.getD i (.Pass ⟨0, 0, 0, 0⟩)
abbrev s_need_rooms : Stmt := top 10
abbrev N_need_rooms : List Str := ["rooms"]
theorem sc_need_rooms : FnScope N_need_rooms ["rooms"] (defScope s_need_rooms) := ⟨rfl, rfl, rfl, by decide +kernel, rfl, by decide +kernel, by decide +kernel⟩
abbrev s_is_page : Stmt := top 11
abbrev N_is_page : List Str := ["page"]
theorem sc_is_page : FnScope N_is_page ["page"] (defScope s_is_page) := ⟨rfl, rfl, rfl, by decide +kernel, rfl, by decide +kernel, by decide +kernel⟩
abbrev s_need_row : Stmt := top 12
abbrev N_need_row : List Str := ["row", "place", "page"]
theorem sc_need_row : FnScope N_need_row ["row"] (defScope s_need_row) := ⟨rfl, rfl, rfl, by decide +kernel, rfl, by decide +kernel, by decide +kernel⟩
abbrev s_need_both : Stmt := top 13
abbrev N_need_both : List Str := ["rooms", "row"]
theorem sc_need_both : FnScope N_need_both ["rooms", "row"] (defScope s_need_both) := ⟨rfl, rfl, rfl, by decide +kernel, rfl, by decide +kernel, by decide +kernel⟩
abbrev s_spells_of : Stmt := top 15
abbrev N_spells_of : List Str := ["row", "last", "found", "place", "page"]
theorem sc_spells_of : FnScope N_spells_of ["row"] (defScope s_spells_of) := ⟨rfl, rfl, rfl, by decide +kernel, rfl, by decide +kernel, by decide +kernel⟩
abbrev s_between : Stmt := top 16
abbrev N_between : List Str := ["spells", "low", "high", "spell"]
theorem sc_between : FnScope N_between ["spells", "low", "high"] (defScope s_between) := ⟨rfl, rfl, rfl, by decide +kernel, rfl, by decide +kernel, by decide +kernel⟩
abbrev s_least_paper : Stmt := top 17
abbrev N_least_paper : List Str := ["rooms", "row", "spells", "known", "high", "some", "low", "cost", "let", "places"]
theorem sc_least_paper : FnScope N_least_paper ["rooms", "row"] (defScope s_least_paper) := ⟨rfl, rfl, rfl, by decide +kernel, rfl, by decide +kernel, by decide +kernel⟩
abbrev s_shown_by : Stmt := top 18
abbrev N_shown_by : List Str := ["rooms", "row", "places", "free", "spell", "place"]
theorem sc_shown_by : FnScope N_shown_by ["rooms", "row", "places"] (defScope s_shown_by) := ⟨rfl, rfl, rfl, by decide +kernel, rfl, by decide +kernel, by decide +kernel⟩
abbrev s_spells : Stmt := top 19
abbrev N_spells : List Str := ["row"]
theorem sc_spells : FnScope N_spells ["row"] (defScope s_spells) := ⟨rfl, rfl, rfl, by decide +kernel, rfl, by decide +kernel, by decide +kernel⟩
abbrev s_paper : Stmt := top 20
abbrev N_paper : List Str := ["rooms", "row"]
theorem sc_paper : FnScope N_paper ["rooms", "row"] (defScope s_paper) := ⟨rfl, rfl, rfl, by decide +kernel, rfl, by decide +kernel, by decide +kernel⟩
abbrev s_shown : Stmt := top 21
abbrev N_shown : List Str := ["rooms", "row", "places", "place"]
theorem sc_shown : FnScope N_shown ["rooms", "row", "places"] (defScope s_shown) := ⟨rfl, rfl, rfl, by decide +kernel, rfl, by decide +kernel, by decide +kernel⟩
abbrev s_next_ask : Stmt := top 23
abbrev N_next_ask : List Str := ["row", "place", "page"]
theorem sc_next_ask : FnScope N_next_ask ["row", "place", "page"] (defScope s_next_ask) := ⟨rfl, rfl, rfl, by decide +kernel, rfl, by decide +kernel, by decide +kernel⟩
abbrev s_farthest : Stmt := top 24
abbrev N_farthest : List Str := ["row", "place", "kept", "page"]
theorem sc_farthest : FnScope N_farthest ["row", "place", "kept"] (defScope s_farthest) := ⟨rfl, rfl, rfl, by decide +kernel, rfl, by decide +kernel, by decide +kernel⟩
abbrev s_gone_through : Stmt := top 25
abbrev N_gone_through : List Str := ["rooms", "row", "kept", "lacks", "gone", "place", "page"]
theorem sc_gone_through : FnScope N_gone_through ["rooms", "row"] (defScope s_gone_through) := ⟨rfl, rfl, rfl, by decide +kernel, rfl, by decide +kernel, by decide +kernel⟩
abbrev s_best : Stmt := top 26
abbrev N_best : List Str := ["rooms", "row"]
theorem sc_best : FnScope N_best ["rooms", "row"] (defScope s_best) := ⟨rfl, rfl, rfl, by decide +kernel, rfl, by decide +kernel, by decide +kernel⟩
abbrev s_Dial_init : Stmt := inClass (top 28) 0
abbrev N_Dial_init : List Str := ["self", "rooms", "room"]
theorem sc_Dial_init : FnScope N_Dial_init ["self", "rooms"] (defScope s_Dial_init) := ⟨rfl, rfl, rfl, by decide +kernel, rfl, by decide +kernel, by decide +kernel⟩
abbrev s_Dial_ask : Stmt := inClass (top 28) 1
abbrev N_Dial_ask : List Str := ["self", "page", "passed", "gone"]
theorem sc_Dial_ask : FnScope N_Dial_ask ["self", "page"] (defScope s_Dial_ask) := ⟨rfl, rfl, rfl, by decide +kernel, rfl, by decide +kernel, by decide +kernel⟩
abbrev s_Dial_pages : Stmt := inClass (top 28) 2
abbrev N_Dial_pages : List Str := ["self"]
theorem sc_Dial_pages : FnScope N_Dial_pages ["self"] (defScope s_Dial_pages) := ⟨rfl, rfl, rfl, by decide +kernel, rfl, by decide +kernel, by decide +kernel⟩
abbrev s_Dial_looked : Stmt := inClass (top 28) 3
abbrev N_Dial_looked : List Str := ["self"]
theorem sc_Dial_looked : FnScope N_Dial_looked ["self"] (defScope s_Dial_looked) := ⟨rfl, rfl, rfl, by decide +kernel, rfl, by decide +kernel, by decide +kernel⟩
abbrev s_Dial_points : Stmt := inClass (top 28) 4
abbrev N_Dial_points : List Str := ["self"]
theorem sc_Dial_points : FnScope N_Dial_points ["self"] (defScope s_Dial_points) := ⟨rfl, rfl, rfl, by decide +kernel, rfl, by decide +kernel, by decide +kernel⟩
abbrev s_Dial_lacked : Stmt := inClass (top 28) 5
abbrev N_Dial_lacked : List Str := ["self"]
theorem sc_Dial_lacked : FnScope N_Dial_lacked ["self"] (defScope s_Dial_lacked) := ⟨rfl, rfl, rfl, by decide +kernel, rfl, by decide +kernel, by decide +kernel⟩
abbrev s_round_told : Stmt := top 29
abbrev N_round_told : List Str := ["rooms", "row", "dial", "page"]
theorem sc_round_told : FnScope N_round_told ["rooms", "row"] (defScope s_round_told) := ⟨rfl, rfl, rfl, by decide +kernel, rfl, by decide +kernel, by decide +kernel⟩
abbrev s_told : Stmt := top 30
abbrev N_told : List Str := ["rooms", "row"]
theorem sc_told : FnScope N_told ["rooms", "row"] (defScope s_told) := ⟨rfl, rfl, rfl, by decide +kernel, rfl, by decide +kernel, by decide +kernel⟩
abbrev s_need_rule : Stmt := top 36
abbrev N_need_rule : List Str := ["rule"]
theorem sc_need_rule : FnScope N_need_rule ["rule"] (defScope s_need_rule) := ⟨rfl, rfl, rfl, by decide +kernel, rfl, by decide +kernel, by decide +kernel⟩
abbrev s_by_row : Stmt := top 37
abbrev N_by_row : List Str := ["rooms", "row", "rule", "kept", "found", "page"]
theorem sc_by_row : FnScope N_by_row ["rooms", "row", "rule"] (defScope s_by_row) := ⟨rfl, rfl, rfl, by decide +kernel, rfl, by decide +kernel, by decide +kernel⟩
abbrev s_all_lacking : Stmt := top 38
abbrev N_all_lacking : List Str := ["rooms", "row", "rule", "one"]
theorem sc_all_lacking : FnScope N_all_lacking ["rooms", "row", "rule"] (defScope s_all_lacking) := ⟨rfl, rfl, rfl, by decide +kernel, rfl, by decide +kernel, by decide +kernel⟩
abbrev s_lacking : Stmt := top 39
abbrev N_lacking : List Str := ["rooms", "row", "rule", "place", "one"]
theorem sc_lacking : FnScope N_lacking ["rooms", "row", "rule"] (defScope s_lacking) := ⟨rfl, rfl, rfl, by decide +kernel, rfl, by decide +kernel, by decide +kernel⟩
abbrev s_all_stretches : Stmt := top 41
abbrev N_all_stretches : List Str := ["rooms", "row", "found", "begin", "place"]
theorem sc_all_stretches : FnScope N_all_stretches ["rooms", "row"] (defScope s_all_stretches) := ⟨rfl, rfl, rfl, by decide +kernel, rfl, by decide +kernel, by decide +kernel⟩
abbrev s_stretches : Stmt := top 42
abbrev N_stretches : List Str := ["rooms", "row"]
theorem sc_stretches : FnScope N_stretches ["rooms", "row"] (defScope s_stretches) := ⟨rfl, rfl, rfl, by decide +kernel, rfl, by decide +kernel, by decide +kernel⟩
abbrev s_lacking_in : Stmt := top 43
abbrev N_lacking_in : List Str := ["rooms", "row", "rule", "lacks", "begin", "end", "place"]
theorem sc_lacking_in : FnScope N_lacking_in ["rooms", "row", "rule"] (defScope s_lacking_in) := ⟨rfl, rfl, rfl, by decide +kernel, rfl, by decide +kernel, by decide +kernel⟩
abbrev s_all_rows : Stmt := top 46
abbrev N_all_rows : List Str := ["pages", "long", "found", "turn", "longer", "row", "page"]
theorem sc_all_rows : FnScope N_all_rows ["pages", "long"] (defScope s_all_rows) := ⟨rfl, rfl, rfl, by decide +kernel, rfl, by decide +kernel, by decide +kernel⟩
abbrev s_more_of : Stmt := top 47
abbrev N_more_of : List Str := ["rooms", "row", "rule"]
theorem sc_more_of : FnScope N_more_of ["rooms", "row", "rule"] (defScope s_more_of) := ⟨rfl, rfl, rfl, by decide +kernel, rfl, by decide +kernel, by decide +kernel⟩
abbrev s_need_size : Stmt := top 48
abbrev N_need_size : List Str := ["pages", "long", "rows", "turn"]
theorem sc_need_size : FnScope N_need_size ["pages", "long"] (defScope s_need_size) := ⟨rfl, rfl, rfl, by decide +kernel, rfl, by decide +kernel, by decide +kernel⟩
abbrev s_worst : Stmt := top 49
abbrev N_worst : List Str := ["rooms", "pages", "long", "rule", "most", "first", "row", "more"]
theorem sc_worst : FnScope N_worst ["rooms", "pages", "long", "rule"] (defScope s_worst) := ⟨rfl, rfl, rfl, by decide +kernel, rfl, by decide +kernel, by decide +kernel⟩
abbrev s_l_begun : Stmt := top 51
abbrev N_l_begun : List Str := ["_law_script", "_law_stirred", "_law_cell"]
theorem sc_l_begun : FnScope N_l_begun ["_law_script"] (defScope s_l_begun) := ⟨rfl, rfl, rfl, by decide +kernel, rfl, by decide +kernel, by decide +kernel⟩
abbrev s_l_take : Stmt := top 52
abbrev N_l_take : List Str := ["_law_box", "_law_many", "_law_number"]
theorem sc_l_take : FnScope N_l_take ["_law_box", "_law_many"] (defScope s_l_take) := ⟨rfl, rfl, rfl, by decide +kernel, rfl, by decide +kernel, by decide +kernel⟩
abbrev s_l_row : Stmt := top 53
abbrev N_l_row : List Str := ["_law_box", "_law_most", "_law_pages", "_law_found", "_law_way", "_law_turn", "_law_page"]
theorem sc_l_row : FnScope N_l_row ["_law_box", "_law_most"] (defScope s_l_row) := ⟨rfl, rfl, rfl, by decide +kernel, rfl, by decide +kernel, by decide +kernel⟩
abbrev s_l_told : Stmt := top 54
abbrev N_l_told : List Str := ["_law_case", "_law_dial", "_law_page", "_law_found", "_law_rooms", "_law_row_here", "_law_rule"]
theorem sc_l_told : FnScope N_l_told ["_law_case"] (defScope s_l_told) := ⟨rfl, rfl, rfl, by decide +kernel, rfl, by decide +kernel, by decide +kernel⟩
abbrev s_l_kept : Stmt := top 55
abbrev N_l_kept : List Str := ["_law_found", "_law_parts", "_law_one"]
theorem sc_l_kept : FnScope N_l_kept ["_law_found"] (defScope s_l_kept) := ⟨rfl, rfl, rfl, by decide +kernel, rfl, by decide +kernel, by decide +kernel⟩
abbrev s_l_spoil : Stmt := top 56
abbrev N_l_spoil : List Str := ["_law_found", "_law_part"]
theorem sc_l_spoil : FnScope N_l_spoil ["_law_found"] (defScope s_l_spoil) := ⟨rfl, rfl, rfl, by decide +kernel, rfl, by decide +kernel, by decide +kernel⟩
abbrev s_l_law : Stmt := top 57
abbrev N_l_law : List Str := ["_law_script", "_law_box", "_law_cases", "_law_turn", "_law_every", "_law_kept_here", "_law_k", "_law_rule", "_law_rooms", "_law_row_here", "_law_case", "_law_one"]
theorem sc_l_law : FnScope N_l_law ["_law_script"] (defScope s_l_law) := ⟨rfl, rfl, rfl, by decide +kernel, rfl, by decide +kernel, by decide +kernel⟩
/-- where the defs stand -/
structure Ad where
  a_need_rooms : Addr
  d_need_rooms : FuncData
  a_is_page : Addr
  d_is_page : FuncData
  a_need_row : Addr
  d_need_row : FuncData
  a_need_both : Addr
  d_need_both : FuncData
  a_spells_of : Addr
  d_spells_of : FuncData
  a_between : Addr
  d_between : FuncData
  a_least_paper : Addr
  d_least_paper : FuncData
  a_shown_by : Addr
  d_shown_by : FuncData
  a_spells : Addr
  d_spells : FuncData
  a_paper : Addr
  d_paper : FuncData
  a_shown : Addr
  d_shown : FuncData
  a_next_ask : Addr
  d_next_ask : FuncData
  a_farthest : Addr
  d_farthest : FuncData
  a_gone_through : Addr
  d_gone_through : FuncData
  a_best : Addr
  d_best : FuncData
  a_Dial_init : Addr
  d_Dial_init : FuncData
  a_Dial_ask : Addr
  d_Dial_ask : FuncData
  a_Dial_pages : Addr
  d_Dial_pages : FuncData
  a_Dial_looked : Addr
  d_Dial_looked : FuncData
  a_Dial_points : Addr
  d_Dial_points : FuncData
  a_Dial_lacked : Addr
  d_Dial_lacked : FuncData
  a_round_told : Addr
  d_round_told : FuncData
  a_told : Addr
  d_told : FuncData
  a_need_rule : Addr
  d_need_rule : FuncData
  a_by_row : Addr
  d_by_row : FuncData
  a_all_lacking : Addr
  d_all_lacking : FuncData
  a_lacking : Addr
  d_lacking : FuncData
  a_all_stretches : Addr
  d_all_stretches : FuncData
  a_stretches : Addr
  d_stretches : FuncData
  a_lacking_in : Addr
  d_lacking_in : FuncData
  a_all_rows : Addr
  d_all_rows : FuncData
  a_more_of : Addr
  d_more_of : FuncData
  a_need_size : Addr
  d_need_size : FuncData
  a_worst : Addr
  d_worst : FuncData
  a_l_begun : Addr
  d_l_begun : FuncData
  a_l_take : Addr
  d_l_take : FuncData
  a_l_row : Addr
  d_l_row : FuncData
  a_l_told : Addr
  d_l_told : FuncData
  a_l_kept : Addr
  d_l_kept : FuncData
  a_l_spoil : Addr
  d_l_spoil : FuncData
  a_l_law : Addr
  d_l_law : FuncData
  t_MOST_ROOMS : Tok
  t_MOST_PAGES : Tok
  t_MOST_ASKS : Tok
  t_HAND : Tok
  t_UNSEEN : Tok
  a_RULES : Addr
  t_MOST_ROWS : Tok
  C_Dial : Addr
/-- what the top has written -/
structure Txt (K : PySem.W.Frag) (mg : Str → Option Value) (ad : Ad) : Prop where
  F_need_rooms : Fun K "need_rooms" "need_rooms" s_need_rooms ad.a_need_rooms ad.d_need_rooms
  b_need_rooms : Binds K ad.d_need_rooms ["rooms"] []
  m_need_rooms : mg "need_rooms" = some (.ref ad.a_need_rooms)
  F_is_page : Fun K "is_page" "is_page" s_is_page ad.a_is_page ad.d_is_page
  b_is_page : Binds K ad.d_is_page ["page"] []
  m_is_page : mg "is_page" = some (.ref ad.a_is_page)
  F_need_row : Fun K "need_row" "need_row" s_need_row ad.a_need_row ad.d_need_row
  b_need_row : Binds K ad.d_need_row ["row"] []
  m_need_row : mg "need_row" = some (.ref ad.a_need_row)
  F_need_both : Fun K "need_both" "need_both" s_need_both ad.a_need_both ad.d_need_both
  b_need_both : Binds K ad.d_need_both ["rooms", "row"] []
  m_need_both : mg "need_both" = some (.ref ad.a_need_both)
  F_spells_of : Fun K "spells_of" "spells_of" s_spells_of ad.a_spells_of ad.d_spells_of
  b_spells_of : Binds K ad.d_spells_of ["row"] []
  m_spells_of : mg "spells_of" = some (.ref ad.a_spells_of)
  F_between : Fun K "between" "between" s_between ad.a_between ad.d_between
  b_between : Binds K ad.d_between ["spells", "low", "high"] []
  m_between : mg "between" = some (.ref ad.a_between)
  F_least_paper : Fun K "least_paper" "least_paper" s_least_paper ad.a_least_paper ad.d_least_paper
  b_least_paper : Binds K ad.d_least_paper ["rooms", "row"] []
  m_least_paper : mg "least_paper" = some (.ref ad.a_least_paper)
  F_shown_by : Fun K "shown_by" "shown_by" s_shown_by ad.a_shown_by ad.d_shown_by
  b_shown_by : Binds K ad.d_shown_by ["rooms", "row", "places"] []
  m_shown_by : mg "shown_by" = some (.ref ad.a_shown_by)
  F_spells : Fun K "spells" "spells" s_spells ad.a_spells ad.d_spells
  b_spells : Binds K ad.d_spells ["row"] []
  m_spells : mg "spells" = some (.ref ad.a_spells)
  F_paper : Fun K "paper" "paper" s_paper ad.a_paper ad.d_paper
  b_paper : Binds K ad.d_paper ["rooms", "row"] []
  m_paper : mg "paper" = some (.ref ad.a_paper)
  F_shown : Fun K "shown" "shown" s_shown ad.a_shown ad.d_shown
  b_shown : Binds K ad.d_shown ["rooms", "row", "places"] []
  m_shown : mg "shown" = some (.ref ad.a_shown)
  F_next_ask : Fun K "next_ask" "next_ask" s_next_ask ad.a_next_ask ad.d_next_ask
  b_next_ask : Binds K ad.d_next_ask ["row", "place", "page"] []
  m_next_ask : mg "next_ask" = some (.ref ad.a_next_ask)
  F_farthest : Fun K "farthest" "farthest" s_farthest ad.a_farthest ad.d_farthest
  b_farthest : Binds K ad.d_farthest ["row", "place", "kept"] []
  m_farthest : mg "farthest" = some (.ref ad.a_farthest)
  F_gone_through : Fun K "gone_through" "gone_through" s_gone_through ad.a_gone_through ad.d_gone_through
  b_gone_through : Binds K ad.d_gone_through ["rooms", "row"] []
  m_gone_through : mg "gone_through" = some (.ref ad.a_gone_through)
  F_best : Fun K "best" "best" s_best ad.a_best ad.d_best
  b_best : Binds K ad.d_best ["rooms", "row"] []
  m_best : mg "best" = some (.ref ad.a_best)
  F_Dial_init : Fun K "__init__" "Dial.__init__" s_Dial_init ad.a_Dial_init ad.d_Dial_init
  b_Dial_init : Binds K ad.d_Dial_init ["self", "rooms"] []
  mk_Dial : Mk K ad.C_Dial ad.a_Dial_init
  F_Dial_ask : Fun K "ask" "Dial.ask" s_Dial_ask ad.a_Dial_ask ad.d_Dial_ask
  b_Dial_ask : Binds K ad.d_Dial_ask ["self", "page"] []
  mt_Dial_ask : Meth K ad.C_Dial "ask" ad.a_Dial_ask
  F_Dial_pages : Fun K "pages" "Dial.pages" s_Dial_pages ad.a_Dial_pages ad.d_Dial_pages
  b_Dial_pages : Binds K ad.d_Dial_pages ["self"] []
  mt_Dial_pages : Meth K ad.C_Dial "pages" ad.a_Dial_pages
  F_Dial_looked : Fun K "looked" "Dial.looked" s_Dial_looked ad.a_Dial_looked ad.d_Dial_looked
  b_Dial_looked : Binds K ad.d_Dial_looked ["self"] []
  mt_Dial_looked : Meth K ad.C_Dial "looked" ad.a_Dial_looked
  F_Dial_points : Fun K "points" "Dial.points" s_Dial_points ad.a_Dial_points ad.d_Dial_points
  b_Dial_points : Binds K ad.d_Dial_points ["self"] []
  mt_Dial_points : Meth K ad.C_Dial "points" ad.a_Dial_points
  F_Dial_lacked : Fun K "lacked" "Dial.lacked" s_Dial_lacked ad.a_Dial_lacked ad.d_Dial_lacked
  b_Dial_lacked : Binds K ad.d_Dial_lacked ["self"] []
  mt_Dial_lacked : Meth K ad.C_Dial "lacked" ad.a_Dial_lacked
  F_round_told : Fun K "round_told" "round_told" s_round_told ad.a_round_told ad.d_round_told
  b_round_told : Binds K ad.d_round_told ["rooms", "row"] []
  m_round_told : mg "round_told" = some (.ref ad.a_round_told)
  F_told : Fun K "told" "told" s_told ad.a_told ad.d_told
  b_told : Binds K ad.d_told ["rooms", "row"] []
  m_told : mg "told" = some (.ref ad.a_told)
  F_need_rule : Fun K "need_rule" "need_rule" s_need_rule ad.a_need_rule ad.d_need_rule
  b_need_rule : Binds K ad.d_need_rule ["rule"] []
  m_need_rule : mg "need_rule" = some (.ref ad.a_need_rule)
  F_by_row : Fun K "by_row" "by_row" s_by_row ad.a_by_row ad.d_by_row
  b_by_row : Binds K ad.d_by_row ["rooms", "row", "rule"] []
  m_by_row : mg "by_row" = some (.ref ad.a_by_row)
  F_all_lacking : Fun K "all_lacking" "all_lacking" s_all_lacking ad.a_all_lacking ad.d_all_lacking
  b_all_lacking : Binds K ad.d_all_lacking ["rooms", "row", "rule"] []
  m_all_lacking : mg "all_lacking" = some (.ref ad.a_all_lacking)
  F_lacking : Fun K "lacking" "lacking" s_lacking ad.a_lacking ad.d_lacking
  b_lacking : Binds K ad.d_lacking ["rooms", "row", "rule"] []
  m_lacking : mg "lacking" = some (.ref ad.a_lacking)
  F_all_stretches : Fun K "all_stretches" "all_stretches" s_all_stretches ad.a_all_stretches ad.d_all_stretches
  b_all_stretches : Binds K ad.d_all_stretches ["rooms", "row"] []
  m_all_stretches : mg "all_stretches" = some (.ref ad.a_all_stretches)
  F_stretches : Fun K "stretches" "stretches" s_stretches ad.a_stretches ad.d_stretches
  b_stretches : Binds K ad.d_stretches ["rooms", "row"] []
  m_stretches : mg "stretches" = some (.ref ad.a_stretches)
  F_lacking_in : Fun K "lacking_in" "lacking_in" s_lacking_in ad.a_lacking_in ad.d_lacking_in
  b_lacking_in : Binds K ad.d_lacking_in ["rooms", "row", "rule"] []
  m_lacking_in : mg "lacking_in" = some (.ref ad.a_lacking_in)
  F_all_rows : Fun K "all_rows" "all_rows" s_all_rows ad.a_all_rows ad.d_all_rows
  b_all_rows : Binds K ad.d_all_rows ["pages", "long"] []
  m_all_rows : mg "all_rows" = some (.ref ad.a_all_rows)
  F_more_of : Fun K "more_of" "more_of" s_more_of ad.a_more_of ad.d_more_of
  b_more_of : Binds K ad.d_more_of ["rooms", "row", "rule"] []
  m_more_of : mg "more_of" = some (.ref ad.a_more_of)
  F_need_size : Fun K "need_size" "need_size" s_need_size ad.a_need_size ad.d_need_size
  b_need_size : Binds K ad.d_need_size ["pages", "long"] []
  m_need_size : mg "need_size" = some (.ref ad.a_need_size)
  F_worst : Fun K "worst" "worst" s_worst ad.a_worst ad.d_worst
  b_worst : Binds K ad.d_worst ["rooms", "pages", "long", "rule"] []
  m_worst : mg "worst" = some (.ref ad.a_worst)
  F_l_begun : Fun K "_law_begun" "_law_begun" s_l_begun ad.a_l_begun ad.d_l_begun
  b_l_begun : Binds K ad.d_l_begun ["_law_script"] []
  m_l_begun : mg "_law_begun" = some (.ref ad.a_l_begun)
  F_l_take : Fun K "_law_take" "_law_take" s_l_take ad.a_l_take ad.d_l_take
  b_l_take : Binds K ad.d_l_take ["_law_box", "_law_many"] []
  m_l_take : mg "_law_take" = some (.ref ad.a_l_take)
  F_l_row : Fun K "_law_row" "_law_row" s_l_row ad.a_l_row ad.d_l_row
  b_l_row : Binds K ad.d_l_row ["_law_box", "_law_most"] []
  m_l_row : mg "_law_row" = some (.ref ad.a_l_row)
  F_l_told : Fun K "_law_told" "_law_told" s_l_told ad.a_l_told ad.d_l_told
  b_l_told : Binds K ad.d_l_told ["_law_case"] []
  m_l_told : mg "_law_told" = some (.ref ad.a_l_told)
  F_l_kept : Fun K "_law_kept" "_law_kept" s_l_kept ad.a_l_kept ad.d_l_kept
  b_l_kept : Binds K ad.d_l_kept ["_law_found"] []
  m_l_kept : mg "_law_kept" = some (.ref ad.a_l_kept)
  F_l_spoil : Fun K "_law_spoil" "_law_spoil" s_l_spoil ad.a_l_spoil ad.d_l_spoil
  b_l_spoil : Binds K ad.d_l_spoil ["_law_found"] []
  m_l_spoil : mg "_law_spoil" = some (.ref ad.a_l_spoil)
  F_l_law : Fun K "law" "law" s_l_law ad.a_l_law ad.d_l_law
  b_l_law : Binds K ad.d_l_law ["_law_script"] []
  m_l_law : mg "law" = some (.ref ad.a_l_law)
  m_MOST_ROOMS : mg "MOST_ROOMS" = some (.int 8 ad.t_MOST_ROOMS)
  m_MOST_PAGES : mg "MOST_PAGES" = some (.int 12 ad.t_MOST_PAGES)
  m_MOST_ASKS : mg "MOST_ASKS" = some (.int 100 ad.t_MOST_ASKS)
  m_HAND : mg "HAND" = some (.str (Str.ofString "hand") ad.t_HAND)
  m_UNSEEN : mg "UNSEEN" = some (.str (Str.ofString "unseen") ad.t_UNSEEN)
  m_RULES : mg "RULES" = some (.ref ad.a_RULES)
  k_RULES : ∃ xs : List V, xs = [.str (Str.ofString "hand"), .str (Str.ofString "unseen"), .str (Str.ofString "first")] ∧ ∀ H, SqT K H ad.a_RULES xs
  m_MOST_ROWS : mg "MOST_ROWS" = some (.int 5000 ad.t_MOST_ROWS)
  cl_Dial : Cls K ad.C_Dial
  m_Dial : mg "Dial" = some (.ref ad.C_Dial)
  n_Dial_here : NoAttr K ad.C_Dial "here"
  n_Dial_seen : NoAttr K ad.C_Dial "seen"
  n_Dial_hand : NoAttr K ad.C_Dial "hand"
  n_Dial_lacks : NoAttr K ad.C_Dial "lacks"
  z_len : mg "len" = none
  z_int : mg "int" = none
  z_min : mg "min" = none
  z_list : mg "list" = none
  z_sorted : mg "sorted" = none
  z_set : mg "set" = none
  z_tuple : mg "tuple" = none
  z_isinstance : mg "isinstance" = none
  z_range : mg "range" = none
  z_enumerate : mg "enumerate" = none

/-! the stepping words: one row a key -/
local macro_rules | `(tactic| walk_at "cw ne") => `(tactic| first
  | assumption
  | ((with_reducible apply ne_s); assumption)
  | ((with_reducible apply ne_n); (· assumption); (walk_at "cw at"))
  | ((with_reducible apply ne_n'); (· assumption); (walk_at "cw at")))
local macro_rules | `(tactic| walk_at "cw at") => `(tactic| first
  | assumption
  | with_reducible exact upd_same
  | ((with_reducible apply at_ne); (· walk_at "cw ne"); (walk_at "cw at"))
  | ((with_reducible apply Fr.get0); (· assumption); (walk_at "cw at")))
local macro_rules | `(tactic| walk_at "cw sq") => `(tactic| first
  | assumption
  | ((with_reducible apply SqL.of); (walk_at "cw at"))
  | ((with_reducible apply SqT.of); (walk_at "cw at"))
  | ((with_reducible apply sq_new); (· walk_at "cw sq"); (· assumption))
  | ((with_reducible apply st_new); (· walk_at "cw sq"); (· assumption))
  | ((with_reducible apply Fr.seqL); (· assumption); (walk_at "cw sq"))
  | ((with_reducible apply Fr.seqT); (· assumption); (walk_at "cw sq")))
local macro_rules | `(tactic| walk_at "cw sz") => `(tactic| first
  | (show _ ≤ sizeLine; exact sz_le (by first | decide | omega | (simp only [List.length_append, List.length_map, List.length_cons, List.length_nil]; omega)))
  | (show _ < sizeLine; exact sz_lt (by first | decide | omega | (simp only [List.length_append, List.length_map, List.length_cons, List.length_nil]; omega))))
local macro_rules | `(tactic| walk_at "cw num") => `(tactic| first
  | ((with_reducible apply cpos_); omega)
  | ((with_reducible apply cdiv_) <;> omega)
  | ((with_reducible apply cmul_l) <;> omega)
  | ((with_reducible apply cmul_r) <;> omega))
local macro_rules | `(tactic| walk_at "cw ix") => `(tactic| first
  | exact rfl
  | assumption
  | with_reducible exact atI_0
  | exact atI_nat (by assumption))
local macro_rules | `(tactic| walk_at "cw ixn") => `(tactic| first
  | assumption
  | with_reducible exact ixN_0
  | with_reducible exact ixN_1
  | exact ixN_nat (by assumption))
local macro_rules | `(tactic| walk_at "cw set") => `(tactic| first
  | (simp only [List.set_cons_zero, List.set_cons_succ]; exact rfl)
  | exact rfl)
local macro_rules | `(tactic| walk_at "cw ty") => `(tactic| first
  | with_reducible exact .base .non
  | with_reducible exact .base (.bl _)
  | with_reducible exact .base (.int _)
  | with_reducible exact .base (.str _)
  | ((with_reducible apply ty_L); walk_at "cw sq")
  | ((with_reducible apply ty_T); walk_at "cw sq"))
local macro_rules | `(tactic| walk_at "cw kit") => `(tactic| first
  | with_reducible exact kb_NoneType_bool
  | with_reducible exact kb_NoneType_int
  | with_reducible exact kb_NoneType_str
  | with_reducible exact kb_NoneType_tuple
  | with_reducible exact kb_NoneType_list
  | with_reducible exact kb_bool_bool
  | with_reducible exact kb_bool_int
  | with_reducible exact kb_bool_str
  | with_reducible exact kb_bool_tuple
  | with_reducible exact kb_bool_list
  | with_reducible exact kb_int_bool
  | with_reducible exact kb_int_int
  | with_reducible exact kb_int_str
  | with_reducible exact kb_int_tuple
  | with_reducible exact kb_int_list
  | with_reducible exact kb_str_bool
  | with_reducible exact kb_str_int
  | with_reducible exact kb_str_str
  | with_reducible exact kb_str_tuple
  | with_reducible exact kb_str_list
  | with_reducible exact kb_list_bool
  | with_reducible exact kb_list_int
  | with_reducible exact kb_list_str
  | with_reducible exact kb_list_tuple
  | with_reducible exact kb_list_list
  | with_reducible exact kb_tuple_bool
  | with_reducible exact kb_tuple_int
  | with_reducible exact kb_tuple_str
  | with_reducible exact kb_tuple_tuple
  | with_reducible exact kb_tuple_list)
local macro_rules | `(tactic| walk_at "cw yes") => `(tactic| first
  | with_reducible rfl
  | assumption
  | omega)
local macro_rules | `(tactic| walk_at "cw no") => `(tactic| first
  | assumption
  | (intro cwh; cases cwh; done)
  | omega)
local macro_rules | `(tactic| walk_at "cw1") => `(tactic| first
  | with_reducible apply w_seq
  | with_reducible apply w_asg
  | with_reducible apply w_gn
  | ((with_reducible apply w_var); (· exact rfl))
  | with_reducible apply w_c
  | with_reducible apply w_op
  | with_reducible apply w_I0
  | ((with_reducible apply w_I); (· walk_at "cw num"))
  | with_reducible apply w_cb
  | with_reducible apply w_cons
  | with_reducible apply w_nil
  | with_reducible apply w_test
  | with_reducible apply w_B
  | with_reducible apply w_isbl
  | with_reducible apply w_ifS
  | with_reducible apply iteT
  | with_reducible apply iteF
  | with_reducible apply ite_nf
  | with_reducible apply ite_nt
  | with_reducible apply w_eqI
  | with_reducible apply w_neI
  | with_reducible apply w_eqB
  | with_reducible apply w_neB
  | with_reducible apply w_eqS
  | ((with_reducible apply w_ixL); (· walk_at "cw sq"); (· walk_at "cw ix"))
  | ((with_reducible apply w_ixT); (· walk_at "cw sq"); (· walk_at "cw ix"))
  | with_reducible apply w_and
  | with_reducible apply w_or
  | with_reducible apply w_not
  | with_reducible apply w_notV
  | with_reducible apply w_andV
  | with_reducible apply w_orV
  | with_reducible apply w_if
  | with_reducible apply w_isN
  | with_reducible apply w_notN
  | with_reducible apply w_chain
  | with_reducible apply w_un
  | with_reducible apply w_U
  | with_reducible apply w_drop
  | with_reducible apply w_ret
  | with_reducible apply w_next
  | with_reducible apply w_brk
  | with_reducible apply w_cont
  | with_reducible apply w_sub
  | ((with_reducible apply w_pop0); (· walk_at "cw at"); (· first | omega | (simp only [List.length_map]; omega)))
  | ((with_reducible apply w_gTup); (· walk_at "cw sq"); (· exact rfl))
  | with_reducible apply w_gCons
  | with_reducible apply w_gNil
  | with_reducible apply w_yes
  | ((with_reducible apply w_wipe); (· exact rfl))
  | with_reducible apply w_iEnum
  | with_reducible apply w_lc
  | with_reducible apply w_for
  | with_reducible apply w_iList
  | with_reducible apply w_iRng1
  | with_reducible apply w_iRng2
  | with_reducible apply w_lst
  | with_reducible apply w_tup
  | with_reducible apply w_call
  | with_reducible apply w_bm
  | with_reducible apply w_bm0
  | ((with_reducible apply w_tyL); (· walk_at "cw sq"))
  | ((with_reducible apply w_append); (· walk_at "cw at"); (· walk_at "cw sz"))
  | ((with_reducible apply w_lenL); (· walk_at "cw sq"))
  | ((with_reducible apply w_isi); (· walk_at "cw ty"); (· walk_at "cw kit"))
  | ((with_reducible apply w_lenT); (· walk_at "cw sq"))
  | ((with_reducible apply w_ixQL); (· walk_at "cw sq"); (· walk_at "cw ix"))
  | ((with_reducible apply w_ixQT); (· walk_at "cw sq"); (· walk_at "cw ix"))
  | ((with_reducible apply ite_dT); (· walk_at "cw yes"))
  | ((with_reducible apply ite_dF); (· walk_at "cw no"))
  | ((with_reducible apply ite_nT); (· walk_at "cw no"))
  | ((with_reducible apply ite_nF); (· walk_at "cw yes"))
  | with_reducible apply w_intB
  | with_reducible apply w_intI
  | with_reducible apply w_min2
  | ((with_reducible apply w_setL); (· walk_at "cw at"); (· walk_at "cw ixn"); (· walk_at "cw set"))
  | ((with_reducible apply w_listL); (· walk_at "cw sq"); intro lp lpn)
  | ((with_reducible apply w_new); (· walk_at "cw sz"); intro np npn)
  | ((with_reducible apply w_eqD0); (· walk_at "cw sq"); (· walk_at "cw sq"))
  | ((with_reducible apply w_neD0); (· walk_at "cw sq"); (· walk_at "cw sq"))
  | ((with_reducible apply w_neDI); (· walk_at "cw sq"); (· walk_at "cw sq"))
  | ((with_reducible apply w_eqDI); (· walk_at "cw sq"); (· walk_at "cw sq")))
local macro_rules | `(tactic| walk_at "cw") => `(tactic| repeat walk_at "cw1")
local macro_rules | `(tactic| walk_at "cw if") => `(tactic| first
  | with_reducible apply ite_d
  | with_reducible apply ite_nd
  | with_reducible apply ite_b)

local macro_rules | `(tactic| walk_at "cw attr") => `(tactic| first
  | with_reducible exact Txt.n_Dial_here (by assumption)
  | with_reducible exact Txt.n_Dial_seen (by assumption)
  | with_reducible exact Txt.n_Dial_hand (by assumption)
  | with_reducible exact Txt.n_Dial_lacks (by assumption))
local macro_rules | `(tactic| walk_at "cw lk") => `(tactic| first
  | with_reducible exact lk_here _ _ _ _
  | with_reducible exact lk_seen _ _ _ _
  | with_reducible exact lk_hand _ _ _ _
  | with_reducible exact lk_lacks _ _ _ _)
local macro_rules | `(tactic| walk_at "cw put") => `(tactic| first
  | with_reducible exact dfl_hand _ _ _ _ _
  | with_reducible exact dfl_lacks _ _ _ _ _)
local macro_rules | `(tactic| walk_at "cw dk") => `(tactic| first
  | with_reducible exact ddl_pages _ _ _ _
  | with_reducible exact ddl_marks _ _ _ _
  | with_reducible exact ddl_hand _ _ _ _
  | with_reducible exact ddl_lacks _ _ _ _)
local macro_rules | `(tactic| walk_at "cw dp") => `(tactic| first
  | with_reducible exact ddl_putH _ _ _ _ _
  | with_reducible exact ddl_putL _ _ _ _ _)
local macro_rules | `(tactic| walk_at "cw2") => `(tactic| first
  | walk_at "cw1"
  | with_reducible apply w_fld
  | ((with_reducible apply w_fldR); (· walk_at "cw at"); (· exact Txt.cl_Dial (by assumption)); (· walk_at "cw attr"); (· walk_at "cw lk"))
  | with_reducible apply w_sFld
  | ((with_reducible apply w_sFldR); (· walk_at "cw at"); (· exact Txt.cl_Dial (by assumption)); (· walk_at "cw attr"); (· exact dfl_len _ _ _ _); (· walk_at "cw put"))
  | with_reducible apply w_aug
  | ((with_reducible apply w_augR); (· walk_at "cw at"); (· exact Txt.cl_Dial (by assumption)); (· walk_at "cw attr"); (· walk_at "cw lk"))
  | with_reducible apply w_rAdd
  | ((with_reducible apply w_augS); (· walk_at "cw at"); (· exact dfl_len _ _ _ _); (· walk_at "cw put"))
  | ((with_reducible apply w_inI); (· walk_at "cw sq"))
  | ((with_reducible apply w_niI); (· walk_at "cw sq"))
  | with_reducible apply w_sl
  | with_reducible apply w_part
  | with_reducible apply w_nopart
  | with_reducible apply w_isInt
  | ((with_reducible apply w_slL); (· walk_at "cw sq"); intro slp slpn)
  | ((with_reducible apply w_cat); (· walk_at "cw at"); (· walk_at "cw at"); (· walk_at "cw sz"); intro ctp ctpn)
  | with_reducible apply w_dget
  | ((with_reducible apply w_dgetS); (· walk_at "cw at"); (· walk_at "cw dk"))
  | with_reducible apply w_dput
  | ((with_reducible apply w_dputS); (· walk_at "cw at"); (· exact ddl_len _ _ _ _); (· walk_at "cw dp"))
  | ((with_reducible apply w_rep); (· walk_at "cw at"); (· omega); (· omega); (· exact (by decide)); intro rpp rppn)
  | ((with_reducible apply w_disp); intro dpp dppn)
  | with_reducible apply w_pairs
  | with_reducible apply w_pairs0
  | with_reducible apply w_make
  | with_reducible apply w_meth)
local macro_rules | `(tactic| walk_at "cwd") => `(tactic| repeat walk_at "cw2")

local macro_rules | `(tactic| walk_at "cw3") => `(tactic| first
  | walk_at "cw2"
  | with_reducible apply w_lenSetD)
local macro_rules | `(tactic| walk_at "cws") => `(tactic| repeat walk_at "cw3")

local macro_rules | `(tactic| walk_at "cw len") => `(tactic| first
  | omega
  | (simp only [List.length_append, List.length_map, List.length_cons, List.length_nil] at *; omega))
local macro_rules | `(tactic| walk_at "cw4") => `(tactic| first
  | ((with_reducible apply w_slFrom); (· walk_at "cw sq"); intro slp slpn)
  | ((with_reducible apply w_slMid); (· walk_at "cw sq"); intro slp slpn)
  | ((with_reducible apply w_sorted); (· walk_at "cw sq"); (· walk_at "cw len"); intro srp srpn)
  | walk_at "cw3")
local macro_rules | `(tactic| walk_at "cwb") => `(tactic| repeat walk_at "cw4")

local macro_rules | `(tactic| walk_at "cw5") => `(tactic| first
  | ((with_reducible apply w_slLast); (· walk_at "cw sq"); intro slp slpn)
  | walk_at "cw4"
  | ((with_reducible apply w_dnewK); intro dkp dkpn)
  | with_reducible apply ite_some
  | with_reducible apply ite_none
  | with_reducible apply w_dIn
  | ((with_reducible apply w_dInI); (· walk_at "cw at"))
  | ((with_reducible apply w_dgetI); (· walk_at "cw at"); (· assumption))
  | ((with_reducible apply w_dputI); (· walk_at "cw at"); (· walk_at "cw sz"))
  | ((with_reducible apply w_setOf); (· walk_at "cw sq"); (· walk_at "cw len"); intro sop sopn soc socn)
  | ((with_reducible apply w_sortSet); (· walk_at "cw at"); (· walk_at "cw len"); intro ssp sspn))
local macro_rules | `(tactic| walk_at "cwp") => `(tactic| repeat walk_at "cw5")

local macro_rules | `(tactic| walk_at "cw6") => `(tactic| first
  | walk_at "cw5"
  | with_reducible apply w_iKeys
  | with_reducible apply w_iTup
  | ((with_reducible apply w_dnewT); intro dtp dtpn)
  | ((with_reducible apply w_disp1T); intro ddp ddpn)
  | ((with_reducible apply w_niT); (· walk_at "cw sq"))
  | ((with_reducible apply w_sortTI); (· walk_at "cw sq"); (· walk_at "cw len"); intro stp stpn)
  | ((with_reducible apply w_tupOf); (· walk_at "cw sq"); intro top topn)
  | with_reducible apply w_get2
  | ((with_reducible apply w_isD); (· walk_at "cw at"))
  | ((with_reducible apply w_getT); (· walk_at "cw at"); (· walk_at "cw at"))
  | ((with_reducible apply w_dgetF); (· walk_at "cw at"); (· walk_at "cw at"); (· assumption))
  | ((with_reducible apply w_dputT); (· walk_at "cw at"); (· walk_at "cw at"); (· walk_at "cw len")))
local macro_rules | `(tactic| walk_at "cwf") => `(tactic| repeat walk_at "cw6")

local macro_rules | `(tactic| walk_at "cw7") => `(tactic| first
  | walk_at "cw6"
  | ((with_reducible apply w_countB); (· walk_at "cw sq")))
local macro_rules | `(tactic| walk_at "cwk") => `(tactic| repeat walk_at "cw7")

local macro_rules | `(tactic| walk_at "cw8") => `(tactic| first
  | walk_at "cw7"
  | with_reducible apply w_iSeq
  | ((with_reducible apply w_append); (· walk_at "cw at"); (· assumption)))
local macro_rules | `(tactic| walk_at "cwj") => `(tactic| repeat walk_at "cw8")

section
variable {P : Program} {w : World} {K : PySem.W.Frag} {mg : Str → Option Value} {base : Heap} {ad : Ad}
/-! need_rooms -/
def sp_need_rooms : Sp := fun vs H Q _ => ∃ r : Int, vs = [.int r] ∧ 1 ≤ r ∧ r ≤ 8 ∧ Q .non H
theorem c_need_rooms {H : Hp} {Q : VK} {E : XK} {r : Int} (h1 : 1 ≤ r) (h2 : r ≤ 8) (q : Q .non H) : sp_need_rooms ([.int r] ++ []) H Q E := ⟨r, rfl, h1, h2, q⟩
theorem ok_need_rooms (T : Txt K mg ad) : FnOk P w K mg base CX0 1 ad.a_need_rooms ad.d_need_rooms ["rooms"] sp_need_rooms := by
  refine T.F_need_rooms.ok sc_need_rooms (fun vs H Q E h => ?_) (fun cdv A outer s H vs Q E hr h => ?_)
  · obtain ⟨r, rfl, _⟩ := h
    rfl
  obtain ⟨r, rfl, h1, h2, q⟩ := h
  refine ⟨_, (pss_one (ps_if (pt_not (pt_chain op_le op_le pe_int (pv 0) (pe_glob (v := .int 8) rfl T.m_MOST_ROOMS ⟨_, rfl⟩))) (pss_one ps_never) pss_nil)), ?_⟩
  try dsimp only [L2.cxOf, L2.Cx.nox]
  walk_at "cw"
  exact q

/-! is_page -/
def sp_is_page : Sp := fun vs H Q _ => ∃ x : Int, vs = [.int x] ∧ 0 ≤ x ∧ x < 12 ∧ Q (.bl true) H
theorem c_is_page {H : Hp} {Q : VK} {E : XK} {x : Int} (h1 : 0 ≤ x) (h2 : x < 12) (q : Q (.bl true) H) : sp_is_page ([.int x] ++ []) H Q E := ⟨x, rfl, h1, h2, q⟩
theorem ok_is_page (T : Txt K mg ad) : FnOk P w K mg base CX0 1 ad.a_is_page ad.d_is_page ["page"] sp_is_page := by
  refine T.F_is_page.ok sc_is_page (fun vs H Q E h => ?_) (fun cdv A outer s H vs Q E hr h => ?_)
  · obtain ⟨x, rfl, _⟩ := h
    rfl
  obtain ⟨x, rfl, h1, h2, q⟩ := h
  refine ⟨_, (pss_one (ps_ret (pe_chain op_le op_lt pe_int (pv 0) (pe_glob (v := .int 12) rfl T.m_MOST_PAGES ⟨_, rfl⟩)))), ?_⟩
  try dsimp only [L2.cxOf, L2.Cx.nox]
  walk_at "cw"
  rw [decide_eq_true h2]
  exact q

/-! need_row -/
/-- a row that may be handed in -/
def RowOk (ns : List Int) : Prop := ns.length ≤ 100 ∧ ∀ x ∈ ns, 0 ≤ x ∧ x < 12
def sp_need_row (K : PySem.W.Frag) : Sp := fun vs H Q _ => ∃ (a : Addr) (ns : List Int), vs = [.ref a] ∧ SqL K H a (ns.map V.int) ∧ RowOk ns ∧ ∀ H', Fr [] H H' → Q .non H'
theorem c_need_row {H : Hp} {Q : VK} {E : XK} {a : Addr} {ns : List Int} (h : SqL K H a (ns.map V.int)) (hr : RowOk ns) (q : ∀ H', Fr [] H H' → Q .non H') : sp_need_row K ([.ref a] ++ []) H Q E := ⟨a, ns, rfl, h, hr, q⟩
theorem ok_need_row (T : Txt K mg ad) : FnOk P w K mg base CX0 2 ad.a_need_row ad.d_need_row ["row"] (sp_need_row K) := by
  refine T.F_need_row.ok sc_need_row (fun vs H Q E h => ?_) (fun cdv A outer s H vs Q E hr h => ?_)
  · obtain ⟨a, ns, rfl, _⟩ := h
    rfl
  obtain ⟨a, ns, rfl, hS, ⟨hl, hp⟩, k⟩ := h
  refine ⟨_, (pss_one (ps_for PassesOwn.never rfl (kIE (K := K) rfl (pi_enum (by rfl) T.z_enumerate (pa_cons (pv 0) pa_nil))) (kTup (K := K) (n := 2) rfl (pg_tup (by rfl) (pgs_cons (pg_name (i := 1) sc_need_row.nd rfl (by first | exact Or.inl rfl | exact Or.inr rfl)) (pgs_cons (pg_name (i := 2) sc_need_row.nd rfl (by first | exact Or.inl rfl | exact Or.inr rfl)) pgs_nil)))) (pss_one (ps_if (PW.pt (pw_or (pt_cmpR op_ge (pv 1) (pe_glob (v := .int 100) rfl T.m_MOST_ASKS ⟨_, rfl⟩) (nomark _)) (pw_or1 (pt_not (pt_val (pe_call (ok_is_page T) (hr.mono (by decide)) (by rfl) T.m_is_page T.F_is_page.kp T.b_is_page .nil pass0 (pa_cons (pv 2) pa_nil))))))) (pss_one ps_never) pss_nil)))), ?_⟩
  try dsimp only [L2.cxOf, L2.Cx.nox]
  walk_at "cw"
  refine f_enum (ns.map V.int) hS (fun i σ H' => ∃ v1 v2 : Option V, σ = [some (.ref a), v1, v2] ∧ Fr [] H H') ⟨none, none, rfl, .refl⟩ (fun i σ H' _ ⟨_, _, _, f⟩ => f.seqL hS) ?_ ?_
  · rintro i x t σ H' hi ⟨v1, v2, rfl, f⟩ ht
    obtain ⟨z, hz, rfl⟩ := int_at hi
    have hzl := (List.getElem?_eq_some_iff.mp hz).1
    obtain ⟨z0, z1⟩ := hp z (List.mem_of_getElem? hz)
    walk_at "cw"
    refine c_is_page z0 z1 ?_
    walk_at "cw"
    exact ⟨_, _, rfl, f.more (Fr.new ht)⟩
  · rintro σ H' ⟨v1, v2, rfl, f⟩
    exact k H' f

/-! need_both -/
def sp_need_both (K : PySem.W.Frag) : Sp := fun vs H Q _ => ∃ (r : Int) (a : Addr) (ns : List Int), vs = [.int r, .ref a] ∧ 1 ≤ r ∧ r ≤ 8 ∧ SqL K H a (ns.map V.int) ∧ RowOk ns ∧ ∀ H', Fr [] H H' → Q .non H'
theorem c_need_both {H : Hp} {Q : VK} {E : XK} {r : Int} {a : Addr} {ns : List Int} (h1 : 1 ≤ r) (h2 : r ≤ 8) (h : SqL K H a (ns.map V.int)) (hr : RowOk ns) (q : ∀ H', Fr [] H H' → Q .non H') : sp_need_both K ([.int r, .ref a] ++ []) H Q E := ⟨r, a, ns, rfl, h1, h2, h, hr, q⟩
theorem ok_need_both (T : Txt K mg ad) : FnOk P w K mg base CX0 3 ad.a_need_both ad.d_need_both ["rooms", "row"] (sp_need_both K) := by
  refine T.F_need_both.ok sc_need_both (fun vs H Q E h => ?_) (fun cdv A outer s H vs Q E hr h => ?_)
  · obtain ⟨r, a, ns, rfl, _⟩ := h
    rfl
  obtain ⟨r, a, ns, rfl, h1, h2, hS, hR, k⟩ := h
  refine ⟨_, (pss_cons (ps_expr (pe_call (ok_need_rooms T) (hr.mono (by decide)) (by rfl) T.m_need_rooms T.F_need_rooms.kp T.b_need_rooms .nil pass0 (pa_cons (pv 0) pa_nil)))
    (pss_one (ps_expr (pe_call (ok_need_row T) (hr.mono (by decide)) (by rfl) T.m_need_row T.F_need_row.kp T.b_need_row .nil pass0 (pa_cons (pv 1) pa_nil))))), ?_⟩
  try dsimp only [L2.cxOf, L2.Cx.nox]
  walk_at "cw"
  refine c_need_rooms h1 h2 ?_
  walk_at "cw"
  refine c_need_row hS hR fun H' f => ?_
  exact k H' f

/-! spells_of -/
def sp_spells_of (K : PySem.W.Frag) : Sp := fun vs H Q _ => ∃ (a : Addr) (ns : List Int), vs = [.ref a] ∧ SqL K H a (ns.map V.int) ∧ ns.length ≤ 100 ∧
  ∀ p xs H', Fr [] H H' → H p = none → H' p = some (.lst xs) → PairsAt H H' xs (spellsM ns) → Q (.ref p) H'
theorem c_spells_of {H : Hp} {Q : VK} {E : XK} {a : Addr} {ns : List Int} (h : SqL K H a (ns.map V.int)) (hl : ns.length ≤ 100)
    (k : ∀ p xs H', Fr [] H H' → H p = none → H' p = some (.lst xs) → PairsAt H H' xs (spellsM ns) → Q (.ref p) H') : sp_spells_of K ([.ref a] ++ []) H Q E := ⟨a, ns, rfl, h, hl, k⟩
def spellsI (H0 : Hp) (a d f : Addr) (v3 v4 : Option V) (ns : List Int) (out : List (Int × Int)) : L2.St → Hp → Prop := fun σ H => ∃ (xs : List V) (kvs : List (Key × V)), σ = [some (.ref a), some (.ref d), some (.ref f), v3, v4] ∧
  Fr [] H0 H ∧ H d = some (.dK kvs) ∧ (∀ x : Int, valV kvs (.inl x) = (lastAt ns x).map fun j : Nat => V.int (j : Int)) ∧ kvs.length ≤ ns.length ∧ H f = some (.lst xs) ∧ PairsAt H0 H xs out
theorem ok_spells_of (T : Txt K mg ad) : FnOk P w K mg base CX0 1 ad.a_spells_of ad.d_spells_of ["row"] (sp_spells_of K) := by
  refine T.F_spells_of.ok sc_spells_of (fun vs H Q E h => ?_) (fun cdv A outer s H vs Q E hr h => ?_)
  · obtain ⟨a, ns, rfl, _⟩ := h
    rfl
  obtain ⟨a, ns, rfl, hS, hl, k⟩ := h
  have hu := hu_of hr
  refine ⟨_, (pss_cons (ps_set (i := 1) sc_spells_of.nd rfl (by first | exact Or.inl rfl | exact Or.inr rfl) pe_dnewK)
    (pss_cons (ps_set (i := 2) sc_spells_of.nd rfl (by first | exact Or.inl rfl | exact Or.inr rfl) (pe_lst pa_nil))
    (pss_cons (ps_for PassesOwn.never rfl (kIE (K := K) rfl (pi_enum (by rfl) T.z_enumerate (pa_cons (pv 0) pa_nil))) (kTup (K := K) (n := 2) rfl (pg_tup (by rfl) (pgs_cons (pg_name (i := 3) sc_spells_of.nd rfl (by first | exact Or.inl rfl | exact Or.inr rfl)) (pgs_cons (pg_name (i := 4) sc_spells_of.nd rfl (by first | exact Or.inl rfl | exact Or.inr rfl)) pgs_nil)))) (C8.pss_cut (ps_if (pt_cmp (pc_din hu (pv 4) (pv 1))) (pss_one (ps_expr (kBM (K := K) rfl (pe_bm PySem.F.plainAttrs_list PySem.F.slot_list_append PySem.F.type_list_append mt_append (pv 2) (pa_cons (pe_tup (pa_cons (pe_dget hu (pv 1) (pv 4) (fun _ _ => rfl)) (pa_cons (pv 3) pa_nil))) pa_nil))))) pss_nil)
    (pss_one (ps_dput hu (pv 1) (pv 4) (pv 3) rfl))))
    (pss_one (ps_ret (pv 2)))))), ?_⟩
  walk_at "cwp"
  rename_i d hd f hf
  have hd0 : H d = none := hd
  have hf0 : H f = none := upd_none hf
  have ndf : d ≠ f := ne_of_none upd_same hf
  refine f_enum (ns.map V.int) (((Fr.new hd).trans (Fr.new hf)).seqL hS) (fun i σ H' => ∃ v3 v4, spellsI H a d f v3 v4 (ns.take i) (spellsTo ns i) σ H')
    ⟨_, _, [], [], rfl, (Fr.new hd).trans (Fr.new hf), (upd_ne ndf).trans upd_same, fun x => rfl, Nat.le_refl _, upd_same, .nil⟩ (fun i σ H' _ ⟨_, _, _, _, _, f, _⟩ => f.seqL hS) ?_ ?_
  · rintro i y tt σ H' hi ⟨v3, v4, xs, kvs, rfl, F, g1, hv, hkl, g2, gp⟩ htt
    obtain ⟨x, hx, rfl⟩ := int_at hi
    have hxl := (List.getElem?_eq_some_iff.mp hx).1
    have hsl := spellsTo_len ns i
    have hxsl := gp.1
    have hgd : ns.getD i 0 = x := by rw [List.getD_eq_getElem?_getD, hx]; rfl
    rw [List.length_take] at hkl
    have ndt : d ≠ tt := ne_n htt g1
    have nft : f ≠ tt := ne_n htt g2
    have hvx := hv x
    walk_at "cwp"
    refine w_cut (spellsI H a d f (some (.int i)) (some (.int x)) (ns.take i) (spellsTo ns (i + 1))) ?_ ?_
    · rw [spellsTo_succ]
      walk_at "cwp"
      cases hla : lastAt (ns.take i) x with
      | none =>
        have hv0 : valV kvs (Sum.inl x) = none := by rw [hvx, hla]; rfl
        have hs0 : spellAt ns i = [] := by unfold spellAt; rw [hgd, hla]
        rw [hv0, hs0, List.append_nil]
        walk_at "cwp"
        exact ⟨xs, kvs, rfl, F.trans (Fr.new htt), (upd_ne ndt).trans g1, hv, by rw [List.length_take]; omega, (upd_ne nft).trans g2, gp.upN htt⟩
      | some b =>
        have hv0 : valV kvs (Sum.inl x) = some (V.int (b : Int)) := by rw [hvx, hla]; rfl
        have hs0 : spellAt ns i = [((b : Int), (i : Int))] := by unfold spellAt; rw [hgd, hla]
        rw [hv0, hs0]
        walk_at "cwp"
        rename_i t ht
        have g1' : (upd H' tt (.tup [.int i, .int x])) d = some (.dK kvs) := (upd_ne ndt).trans g1
        have g2' : (upd H' tt (.tup [.int i, .int x])) f = some (.lst xs) := (upd_ne nft).trans g2
        have nft' : f ≠ t := ne_n ht g2'
        have ndt' : d ≠ t := ne_n ht g1'
        refine ⟨_, kvs, rfl, (((F.trans (Fr.new htt)).trans (Fr.new ht)).loc hf0), (upd_ne ndf).trans ((upd_ne ndt').trans g1'), hv, by rw [List.length_take]; omega, upd_same, ?_⟩
        exact (((gp.upN htt).upN ht).upL ((upd_ne nft').trans g2')).snoc ((F.trans (Fr.new htt)).free ht) ((upd_ne (ne_s nft')).trans upd_same)
    · rintro σ H6 ⟨xs, kvs, rfl, F, g1, hv, hkl, g2, gp⟩
      rw [List.length_take] at hkl
      walk_at "cwp"
      refine ⟨_, _, xs, _, rfl, F.loc hd0, upd_same, fun z => ?_, ?_, (upd_ne (ne_s ndf)).trans g2, ?_⟩
      · rw [L2.valV_put, take_snoc hx, lastAt_snoc, hv z, List.length_take, Nat.min_eq_left (by omega)]
        by_cases hz : z = x
        · subst hz; rw [if_pos rfl, if_pos rfl]; rfl
        · rw [if_neg (fun e => hz (Sum.inl.inj e)), if_neg (fun e => hz e.symm)]
      · have := length_putK kvs (Sum.inl x) (V.int i)
        rw [List.length_take]
        omega
      · exact gp.upD g1
  · rintro σ H' ⟨v3, v4, xs, kvs, rfl, F, g1, hv, hkl, g2, gp⟩
    rw [List.length_map] at gp
    walk_at "cwp"
    exact k f xs H' F hf0 g2 gp

/-! between -/
def sp_between (K : PySem.W.Frag) : Sp := fun vs H Q _ => ∃ (a : Addr) (xs : List V) (ps : List (Int × Int)) (lo hi : Int), vs = [.ref a, .int lo, .int hi] ∧ SqL K H a xs ∧ DpAll K H xs (ps.map pairD) ∧ ps.length ≤ 100 ∧
  ∀ H', Fr [] H H' → Q (.int ((ps.filter fun e => decide (lo ≤ e.1 ∧ e.2 ≤ hi)).length : Nat)) H'
theorem c_between {H : Hp} {Q : VK} {E : XK} {a : Addr} {xs : List V} {ps : List (Int × Int)} {lo hi : Int} (h : SqL K H a xs) (hd : DpAll K H xs (ps.map pairD)) (hl : ps.length ≤ 100)
    (k : ∀ H', Fr [] H H' → Q (.int ((ps.filter fun e => decide (lo ≤ e.1 ∧ e.2 ≤ hi)).length : Nat)) H') : sp_between K ([.ref a, .int lo, .int hi] ++ []) H Q E := ⟨a, xs, ps, lo, hi, rfl, h, hd, hl, k⟩
theorem ok_between (T : Txt K mg ad) : FnOk P w K mg base CX0 1 ad.a_between ad.d_between ["spells", "low", "high"] (sp_between K) := by
  refine T.F_between.ok sc_between (fun vs H Q E h => ?_) (fun cdv A outer s H vs Q E hr h => ?_)
  · obtain ⟨a, xs, ps, lo, hi, rfl, _⟩ := h
    rfl
  obtain ⟨a, xs, ps, lo, hi, rfl, hS, hD, hl, k⟩ := h
  refine ⟨_, (pss_one (ps_ret (pe_callB (kLen K rfl) (by rfl) T.z_len (by decide +kernel) (pa_cons (pe_lc (own := [("spell", 3)]) (by rfl) sc_between.nd (kIL (K := K) rfl (pi_list (pv 0))) (blkOk_by (own := [("spell", 3)]) (N := N_between) (sc := defScope s_between) (by decide +kernel)) (fun _ _ _ _ _ => (pg_name (i := 3) sc_between.nd rfl (by first | exact Or.inl rfl | exact Or.inr rfl))) (fun _ _ _ _ _ => pts_one (PW.pt (pw_and (pt_cmpR op_le (pv 1) (pe_ix (kIxT K rfl) (pv 3) pe_int (fun _ _ => rfl)) (nomark _)) (pw_and1 (pt_cmpR op_le (pe_ix (kIxT K rfl) (pv 3) pe_int (fun _ _ => rfl)) (pv 2) (nomark _)))))) (fun _ _ _ _ _ => (pv 3))) pa_nil)))), ?_⟩
  have hxl := dpall_len hD
  rw [List.length_map] at hxl
  walk_at "cwp"
  refine l_list xs hS (fun D i acc H' => Fr [] H H' ∧ acc.length = ((ps.take i).filter fun e => decide (lo ≤ e.1 ∧ e.2 ≤ hi)).length) (fun D hD => ⟨Fr.new hD, by simp⟩) (fun D i acc H' hD h _ => h.1.seqL hS) ?_ ?_
  · rintro D i y acc H' hD' hi' ⟨F, hal⟩ hacc hla
    have hil := (List.getElem?_eq_some_iff.mp hi').1
    obtain ⟨e, he⟩ : ∃ e, ps[i]? = some e := ⟨ps[i], List.getElem?_eq_getElem (by omega)⟩
    obtain ⟨y', hy, hdp⟩ := dpall_get hD (i := i) (d := pairD e) (by rw [List.getElem?_map, he]; rfl)
    rw [hi'] at hy
    cases hy
    obtain ⟨t, rfl, ht⟩ := dp_pair hdp
    have ht' := F.seqT ht
    have ef : (ps.take (i + 1)).filter (fun e => decide (lo ≤ e.1 ∧ e.2 ≤ hi)) = (ps.take i).filter (fun e => decide (lo ≤ e.1 ∧ e.2 ≤ hi)) ++ (if lo ≤ e.1 ∧ e.2 ≤ hi then [e] else []) := by
      rw [take_snoc he, List.filter_append]
      congr 1
      by_cases h : lo ≤ e.1 ∧ e.2 ≤ hi
      · rw [if_pos h]; exact List.filter_cons_of_pos (by simpa using h)
      · rw [if_neg h]; exact List.filter_cons_of_neg (by simpa using h)
    walk_at "cwp"
    walk_at "cw if" <;> intro c1
    · walk_at "cwp"
      walk_at "cw if" <;> intro c2
      · walk_at "cwp"
        refine lc_end hacc hla (by omega) ⟨F.loc hD', ?_⟩
        rw [ef, if_pos ⟨c1, c2⟩, List.length_append, List.length_append, hal]
        rfl
      · exact ⟨acc, ⟨F, by rw [ef, if_neg (fun z => c2 z.2), List.append_nil]; exact hal⟩, hacc, by omega⟩
    · walk_at "cwp"
      exact ⟨acc, ⟨F, by rw [ef, if_neg (fun z => c1 z.1), List.append_nil]; exact hal⟩, hacc, by omega⟩
  · rintro D acc H' hD' ⟨F, hal⟩ hacc hla
    rw [hxl, List.take_length] at hal
    walk_at "cwp"
    rw [hal]
    exact k H' F

/-! least_paper -/
def sp_least_paper (K : PySem.W.Frag) : Sp := fun vs H Q _ => ∃ (n : Int) (a : Addr) (ns : List Int), vs = [.int n, .ref a] ∧ 1 ≤ n ∧ n ≤ 8 ∧ SqL K H a (ns.map V.int) ∧ ns.length ≤ 100 ∧
  ∀ p ps c H', Fr [] H H' → H p = none → H' p = some (.lst (ps.map V.int)) → Known n.toNat ns ns.length (c, ps) → Q (.ref p) H'
theorem c_least_paper {H : Hp} {Q : VK} {E : XK} {n : Int} {a : Addr} {ns : List Int} (n0 : 1 ≤ n) (n8 : n ≤ 8) (h : SqL K H a (ns.map V.int)) (hl : ns.length ≤ 100)
    (k : ∀ p ps c H', Fr [] H H' → H p = none → H' p = some (.lst (ps.map V.int)) → Known n.toNat ns ns.length (c, ps) → Q (.ref p) H') : sp_least_paper K ([.int n, .ref a] ++ []) H Q E := ⟨n, a, ns, rfl, n0, n8, h, hl, k⟩
theorem ok_least_paper (T : Txt K mg ad) : FnOk P w K mg base CX0 2 ad.a_least_paper ad.d_least_paper ["rooms", "row"] (sp_least_paper K) := by
  refine T.F_least_paper.ok sc_least_paper (fun vs H Q E h => ?_) (fun cdv A outer s H vs Q E hr h => ?_)
  · obtain ⟨n, a, ns, rfl, _⟩ := h
    rfl
  obtain ⟨n, a, ns, rfl, n0, n8, hS, hl, k⟩ := h
  refine ⟨_, (pss_cons (ps_set (i := 2) sc_least_paper.nd rfl (by first | exact Or.inl rfl | exact Or.inr rfl) (pe_call (ok_spells_of T) (hr.mono (by decide)) (by rfl) T.m_spells_of T.F_spells_of.kp T.b_spells_of .nil pass0 (pa_cons (pv 1) pa_nil)))
    (pss_cons (ps_set (i := 3) sc_least_paper.nd rfl (by first | exact Or.inl rfl | exact Or.inr rfl) (pe_lst (pa_cons (pe_tup (pa_cons pe_int (pa_cons (pe_lst pa_nil) pa_nil))) pa_nil)))
    (pss_cons (ps_for PassesOwn.never rfl (pi_range2 (by rfl) T.z_range (pa_cons pe_int (pa_cons (pe_op op_add (pe_callB (kLen K rfl) (by rfl) T.z_len (by decide +kernel) (pa_cons (pv 1) pa_nil)) pe_int) pa_nil))) (pg_name (i := 4) sc_least_paper.nd rfl (by first | exact Or.inl rfl | exact Or.inr rfl)) (pss_cons (ps_set (i := 5) sc_least_paper.nd rfl (by first | exact Or.inl rfl | exact Or.inr rfl) (pe_lst pa_nil))
    (pss_cons (ps_for PassesOwn.never rfl (pi_range1 (by rfl) T.z_range (pa_cons (pv 4) pa_nil)) (pg_name (i := 6) sc_least_paper.nd rfl (by first | exact Or.inl rfl | exact Or.inr rfl)) (pss_cons (ps_asg (pe_ix (kIxL K rfl) (pv 3) (pv 6) (fun _ _ => rfl)) (kTup (K := K) (n := 2) rfl (pg_tup (by rfl) (pgs_cons (pg_name (i := 8) sc_least_paper.nd rfl (by first | exact Or.inl rfl | exact Or.inr rfl)) (pgs_cons (pg_name (i := 9) sc_least_paper.nd rfl (by first | exact Or.inl rfl | exact Or.inr rfl)) pgs_nil)))))
    (pss_cons (ps_set (i := 7) sc_least_paper.nd rfl (by first | exact Or.inl rfl | exact Or.inr rfl) (pe_op op_mul (pe_op op_sub (pv 0) pe_int) (pe_callTy cr_int (by rfl) T.z_int (by decide +kernel) (pa_cons (pe_cmpR op_lt (pv 4) (pe_callB (kLen K rfl) (by rfl) T.z_len (by decide +kernel) (pa_cons (pv 1) pa_nil)) (nomark _)) pa_nil))))
    (pss_one (ps_expr (kBM (K := K) rfl (pe_bm PySem.F.plainAttrs_list PySem.F.slot_list_append PySem.F.type_list_append mt_append (pv 5) (pa_cons (pe_tup (pa_cons (pe_op op_add (pe_op op_add (pv 8) (pe_call (ok_between T) (hr.mono (by decide)) (by rfl) T.m_between T.F_between.kp T.b_between .nil pass0 (pa_cons (pv 2) (pa_cons (pv 6) (pa_cons (pv 4) pa_nil))))) (pv 7)) (pa_cons (pe_op op_cat (pv 9) (pe_op op_rep (pe_lst (pa_cons (pv 4) pa_nil)) (pe_callTy cr_int (by rfl) T.z_int (by decide +kernel) (pa_cons (pe_cmpR op_lt (pv 4) (pe_callB (kLen K rfl) (by rfl) T.z_len (by decide +kernel) (pa_cons (pv 1) pa_nil)) (nomark _)) pa_nil)))) pa_nil))) pa_nil))))))))
    (pss_one (ps_expr (kBM (K := K) rfl (pe_bm PySem.F.plainAttrs_list PySem.F.slot_list_append PySem.F.type_list_append mt_append (pv 3) (pa_cons (pe_callB (kMinD K rfl rfl hr.units) (by rfl) T.z_min (by decide +kernel) (pa_cons (pv 5) pa_nil)) pa_nil))))))))
    (pss_one (ps_ret (pe_ix (kIxT K rfl) (pe_ix (kIxL K rfl) (pv 3) (pe_un un_neg pe_int) (fun _ _ => rfl)) pe_int (fun _ _ => rfl))))))), ?_⟩
  walk_at "cwp"
  refine c_spells_of hS hl fun sp sxs H1 f1 hsp hsx hP => ?_
  walk_at "cwp"
  rename_i l0 hl0 t0 ht0 kk hkk
  have nlt : l0 ≠ t0 := ne_of_none upd_same ht0
  have ntk : t0 ≠ kk := ne_n hkk upd_same
  have nlk : l0 ≠ kk := ne_n hkk ((upd_ne nlt).trans upd_same)
  have F2 : Fr [] H1 (upd (upd (upd H1 l0 (.lst [])) t0 (.tup [.int 0, .ref l0])) kk (.lst [.ref t0])) := ((Fr.new hl0).trans (Fr.new ht0)).trans (Fr.new hkk)
  have gk : (upd (upd (upd H1 l0 (.lst [])) t0 (.tup [.int 0, .ref l0])) kk (.lst [.ref t0])) kk = some (.lst [.ref t0]) := upd_same
  have gt : (upd (upd (upd H1 l0 (.lst [])) t0 (.tup [.int 0, .ref l0])) kk (.lst [.ref t0])) t0 = some (.tup [.int 0, .ref l0]) := (upd_ne ntk).trans upd_same
  have gl : (upd (upd (upd H1 l0 (.lst [])) t0 (.tup [.int 0, .ref l0])) kk (.lst [.ref t0])) l0 = some (.lst ([].map V.int)) := (upd_ne nlk).trans ((upd_ne nlt).trans upd_same)
  have kk0 : H1 kk = none := upd_none (upd_none hkk)
  have t00 : H1 t0 = none := upd_none ht0
  generalize (upd (upd (upd H1 l0 (.lst [])) t0 (.tup [.int 0, .ref l0])) kk (.lst [.ref t0])) = H2 at *
  have C0 : CutsAt [kk] H1 H2 ([] ++ [.ref t0]) ([] ++ [(0, [])]) := CutsAt.nil.snoc t00 hl0 (by simpa using ntk) (by simpa using nlk) gt gl
  have hml : (ns.map V.int).length = ns.length := List.length_map _
  have hpl := hP.1
  have hspl : (spellsM ns).length ≤ 100 := by have := spellsTo_len ns ns.length; unfold spellsM; omega
  refine f_rng2 (by omega) (by omega) (by omega) (by omega) (fun i σ H' => ∃ kxs kn v4 v5 v6 v7 v8 v9, σ = [some (.int n), some (.ref a), some (.ref sp), some (.ref kk), v4, v5, v6, v7, v8, v9] ∧ Fr [] H1 H' ∧ H' kk = some (.lst kxs) ∧ CutsAt [kk] H1 H' kxs kn ∧
    kn.length = i + 1 ∧ ∀ (j : Nat) (e : Int × List Int), kn[j]? = some e → Known n.toNat ns j e) ⟨_, _, _, _, _, _, _, _, rfl, F2, gk, C0, rfl, ?_⟩ ?_ ?_
  · intro j e he
    match j, he with
    | 0, he =>
      obtain rfl := Option.some.inj he
      exact known_zero _ _
  · rintro i σ H3 hi ⟨kxs, kn, v4, v5, v6, v7, v8, v9, rfl, F3, g3, C3, hkl, hkn⟩
    have hkx := C3.1
    walk_at "cwp"
    rename_i sm hsm
    have nks : kk ≠ sm := ne_n hsm g3
    have F4 : Fr [] H1 (upd H3 sm (.lst [])) := F3.trans (Fr.new hsm)
    have g4 : (upd H3 sm (.lst [])) kk = some (.lst kxs) := (upd_ne nks).trans g3
    have s4 : (upd H3 sm (.lst [])) sm = some (.lst []) := upd_same
    have sm0 : H1 sm = none := F3.free hsm
    have C4 : CutsAt [sm, kk] H1 (upd H3 sm (.lst [])) kxs kn := (C3.add hsm).fr0 (Fr.new hsm)
    generalize upd H3 sm (.lst []) = H4 at *
    have e1 : (1 : Int) + (i : Int) = ((i + 1 : Nat) : Int) := by omega
    rw [e1]
    refine f_rng1 (by omega) (by omega) (fun j σ H' => ∃ ys v6 v7 v8 v9, σ = [some (.int n), some (.ref a), some (.ref sp), some (.ref kk), some (.int (i + 1 : Nat)), some (.ref sm), v6, v7, v8, v9] ∧ Fr [] H1 H' ∧ H' kk = some (.lst kxs) ∧ H' sm = some (.lst ys) ∧
      CutsAt [sm, kk] H1 H' kxs kn ∧ CutsAt [sm, kk] H1 H' ys (edges n.toNat ns kn (i + 1) j)) ⟨[], _, _, _, _, rfl, F4, g4, s4, C4, .nil⟩ ?_ ?_
    · rintro j σ H5 hj ⟨ys, v6, v7, v8, v9, rfl, F5, g5, s5, C5, D5⟩
      obtain ⟨e, he⟩ : ∃ e, kn[j]? = some e := ⟨kn[j], List.getElem?_eq_getElem (by omega)⟩
      obtain ⟨t, l, x1, x2, x3, x4, x5, x6, x7⟩ := C5.2 j e he
      have hat : atI kxs (j : Int) = some (.ref t) := atI_nat x1
      have hS5 := (f1.trans F5).seqL hS
      have hyl := D5.1
      rw [edges_len] at hyl
      walk_at "cwp"
      have hpo := path_ok (hkn j e he).1
      have hel : e.2.length ≤ 100 := by
        have := rising_len e.2 0 (ns.length : Int) hpo.up (fun x hx => by have := hpo.mem x hx; omega) (by omega)
        omega
      refine c_between (SqL.of (F5.get0 hsx)) (hP.fr0 F5).nwa.now hspl fun H6 f6 => ?_
      rw [show ((spellsM ns).filter fun e => decide ((j : Int) ≤ e.1 ∧ e.2 ≤ ((i + 1 : Nat) : Int))).length = btw ns j (i + 1) from rfl]
      have g6 := f6.get0 g5
      have s6 := f6.get0 s5
      have l6 := f6.get0 x7
      have hS6 := f6.seqL hS5
      walk_at "cwp"
      rename_i hl1 hhl1
      have hb : (decide (((i + 1 : Nat) : Int) < ((ns.map V.int).length : Int))) = decide (i + 1 < ns.length) := by
        by_cases h : i + 1 < ns.length
        · rw [decide_eq_true h, decide_eq_true (by omega)]
        · rw [decide_eq_false h, decide_eq_false (by omega)]
      rw [hb]
      have nll : l ≠ hl1 := ne_n hhl1 l6
      refine w_rep1 upd_same (by split <;> omega) (by split <;> omega) fun rp hrp => ?_
      have er : List.replicate (if decide (i + 1 < ns.length) = true then (1 : Int) else 0).toNat (V.int ((i + 1 : Nat) : Int)) = (if i + 1 < ns.length then [((i + 1 : Nat) : Int)] else []).map V.int := by
        by_cases h : i + 1 < ns.length
        · rw [if_pos h, if_pos (decide_eq_true h)]; rfl
        · rw [if_neg h, if_neg (by simpa using h)]; rfl
      rw [er]
      have F7 : Fr [] H6 (upd (upd H6 hl1 (.lst [V.int (i + 1 : Nat)])) rp (.lst ((if i + 1 < ns.length then [((i + 1 : Nat) : Int)] else []).map V.int))) := (Fr.new hhl1).trans (Fr.new hrp)
      have r7 : (upd (upd H6 hl1 (.lst [V.int (i + 1 : Nat)])) rp (.lst ((if i + 1 < ns.length then [((i + 1 : Nat) : Int)] else []).map V.int))) rp = some (.lst ((if i + 1 < ns.length then [((i + 1 : Nat) : Int)] else []).map V.int)) := upd_same
      generalize (upd (upd H6 hl1 (.lst [V.int (i + 1 : Nat)])) rp (.lst ((if i + 1 < ns.length then [((i + 1 : Nat) : Int)] else []).map V.int))) = H7 at *
      have hrl : ((if i + 1 < ns.length then [((i + 1 : Nat) : Int)] else []).map V.int).length ≤ 1 := by split <;> simp
      refine w_cat (F7.get0 l6) r7 (sz_le (by rw [List.length_map]; omega)) fun np hnp => ?_
      rw [← List.map_append]
      walk_at "cwp"
      rename_i tp htp
      have t8 := (upd_same (H := upd H7 np (.lst ((e.2 ++ if i + 1 < ns.length then [((i + 1 : Nat) : Int)] else []).map V.int))) (a := tp) (o := .tup [.int (e.1 + (btw ns j (i + 1) : Int) + (n - 1) * (if decide (i + 1 < ns.length) = true then 1 else 0)), .ref np]))
      have F57 := f6.trans F7
      have F8 : Fr [] H5 (upd (upd H7 np (.lst ((e.2 ++ if i + 1 < ns.length then [((i + 1 : Nat) : Int)] else []).map V.int))) tp (.tup [.int (e.1 + (btw ns j (i + 1) : Int) + (n - 1) * (if decide (i + 1 < ns.length) = true then 1 else 0)), .ref np])) := (F57.trans (Fr.new hnp)).trans (Fr.new htp)
      have nnt : np ≠ tp := ne_n htp upd_same
      have n8 : (upd (upd H7 np (.lst ((e.2 ++ if i + 1 < ns.length then [((i + 1 : Nat) : Int)] else []).map V.int))) tp (.tup [.int (e.1 + (btw ns j (i + 1) : Int) + (n - 1) * (if decide (i + 1 < ns.length) = true then 1 else 0)), .ref np])) np = some (.lst ((e.2 ++ if i + 1 < ns.length then [((i + 1 : Nat) : Int)] else []).map V.int)) := (upd_ne nnt).trans upd_same
      have np0 : H5 np = none := F57.free hnp
      have tp0 : H5 tp = none := (F57.trans (Fr.new hnp)).free htp
      generalize (upd (upd H7 np (.lst ((e.2 ++ if i + 1 < ns.length then [((i + 1 : Nat) : Int)] else []).map V.int))) tp (.tup [.int (e.1 + (btw ns j (i + 1) : Int) + (n - 1) * (if decide (i + 1 < ns.length) = true then 1 else 0)), .ref np])) = H8 at *
      have s8 := F8.get0 s5
      have g8 := F8.get0 g5
      have nA : ∀ z, H5 z = none → z ∉ [sm, kk] := fun z hz m => by
        rcases List.mem_cons.mp m with m | m
        · rw [m, s5] at hz; cases hz
        · rw [List.mem_singleton.mp m, g5] at hz; cases hz
      refine ⟨ys ++ [.ref tp], _, _, _, _, rfl, (F5.trans F8).loc sm0, (upd_ne nks).trans g8, upd_same, (C5.fr0 F8).fr (W := [sm]) (Fr.at (by simp)) (by simp), ?_⟩
      rw [edges_succ, show kn.getD j (0, []) = e from by rw [List.getD_eq_getElem?_getD, he]; rfl]
      have ee : edge n.toNat ns e j (i + 1) = (e.1 + (btw ns j (i + 1) : Int) + (n - 1) * (if decide (i + 1 < ns.length) = true then 1 else 0), e.2 ++ if i + 1 < ns.length then [((i + 1 : Nat) : Int)] else []) := by
        unfold edge
        have : (n.toNat : Int) = n := by omega
        rw [this]
        by_cases h : i + 1 < ns.length
        · rw [if_pos h, if_pos h, if_pos (decide_eq_true h), Int.mul_one]
        · rw [if_neg h, if_neg h, if_neg (by simpa using h), Int.mul_zero]
      rw [ee]
      exact ((D5.fr0 F8).snoc (F5.free tp0) (F5.free np0) (nA _ tp0) (nA _ np0) t8 n8).fr (W := [sm]) (Fr.at (by simp)) (by simp)
    · rintro σ H5 ⟨ys, v6, v7, v8, v9, rfl, F5, g5, s5, C5, D5⟩
      have e2 : ((i + 1 : Nat) : Int).toNat = i + 1 := Int.toNat_natCast _
      rw [e2] at D5
      walk_at "cwp"
      obtain ⟨k, ks, hks⟩ : ∃ k ks, edges n.toNat ns kn (i + 1) (i + 1) = k :: ks := by
        cases h : edges n.toNat ns kn (i + 1) (i + 1) with
        | nil => have := edges_len n.toNat ns kn (i + 1) (i + 1); rw [h] at this; cases this
        | cons k ks => exact ⟨k, ks, rfl⟩
      have hmin := known_min (Nat.succ_pos i) (by omega) hkl hkn hks
      rw [hks] at D5
      refine w_minC (SqL.of s5) D5 fun m v hv hm => ?_
      obtain ⟨t, l, y1, y2, y3, y4, y5, y6, y7⟩ := D5.2 m _ hm
      rw [hv] at y1
      obtain rfl := Option.some.inj y1
      refine w_nil ?_
      refine w_append g5 (sz_lt (by omega)) ?_
      walk_at "cwp"
      have hsub : ∀ z : Addr, z ∉ [sm, kk] → z ∉ [kk] := fun z hz m => hz (List.mem_cons_of_mem _ m)
      refine ⟨kxs ++ [.ref t], kn ++ [PySem.W.minOf k ks], _, _, _, _, _, _, rfl, F5.loc kk0, upd_same, (((C5.less (by simp)).snoc y2 y3 (hsub _ y4) (hsub _ y5) y6 y7).fr (W := [kk]) (Fr.at (by simp)) (by simp)), by simp [hkl], ?_⟩
      intro j e he
      rcases Nat.lt_or_ge j kn.length with lt | ge
      · rw [List.getElem?_append_left lt] at he
        exact hkn j e he
      · rw [List.getElem?_append_right ge] at he
        have hj : j - kn.length = 0 := by
          have := (List.getElem?_eq_some_iff.mp he).1
          simp at this
          omega
        rw [hj] at he
        obtain rfl := Option.some.inj he
        have : j = i + 1 := by omega
        rw [this]
        exact hmin
  · rintro σ H3 ⟨kxs, kn, v4, v5, v6, v7, v8, v9, rfl, F3, g3, C3, hkl, hkn⟩
    have hlen : kn.length = ns.length + 1 := by omega
    obtain ⟨e, he⟩ : ∃ e, kn[ns.length]? = some e := ⟨kn[ns.length], List.getElem?_eq_getElem (by omega)⟩
    obtain ⟨t, l, y1, y2, y3, y4, y5, y6, y7⟩ := C3.2 _ e he
    have hkx := C3.1
    have hlast : kxs.getLast? = some (.ref t) := by
      rw [List.getLast?_eq_getElem?]
      rw [show kxs.length - 1 = ns.length by omega]
      exact y1
    walk_at "cwp"
    refine w_ixL (SqL.of g3) (atI_neg1 hlast) ?_
    refine w_ixT (SqT.of y6) (atI_nat (j := 1) rfl) ?_
    walk_at "cwp"
    exact k l e.2 e.1 H3 (f1.trans F3) (f1.free y3) y7 (hkn _ e he)

/-! shown_by -/
def sp_shown_by (K : PySem.W.Frag) : Sp := fun vs H Q _ => ∃ (n : Int) (a b : Addr) (ns ps : List Int), vs = [.int n, .ref a, .ref b] ∧ 1 ≤ n ∧ n ≤ 8 ∧ SqL K H a (ns.map V.int) ∧ ns.length ≤ 100 ∧ SqL K H b (ps.map V.int) ∧ ps.length ≤ 100 ∧
  ∀ H', Fr [] H H' → Q (.int (shownM n ns ps)) H'
theorem c_shown_by {H : Hp} {Q : VK} {E : XK} {n : Int} {a b : Addr} {ns ps : List Int} (n0 : 1 ≤ n) (n8 : n ≤ 8) (h : SqL K H a (ns.map V.int)) (hl : ns.length ≤ 100) (hb : SqL K H b (ps.map V.int)) (hp : ps.length ≤ 100)
    (k : ∀ H', Fr [] H H' → Q (.int (shownM n ns ps)) H') : sp_shown_by K ([.int n, .ref a, .ref b] ++ []) H Q E := ⟨n, a, b, ns, ps, rfl, n0, n8, h, hl, hb, hp, k⟩
theorem ok_shown_by (T : Txt K mg ad) : FnOk P w K mg base CX0 2 ad.a_shown_by ad.d_shown_by ["rooms", "row", "places"] (sp_shown_by K) := by
  refine T.F_shown_by.ok sc_shown_by (fun vs H Q E h => ?_) (fun cdv A outer s H vs Q E hr h => ?_)
  · obtain ⟨n, a, b, ns, ps, rfl, _⟩ := h
    rfl
  obtain ⟨n, a, b, ns, ps, rfl, n0, n8, hS, hl, hb, hp, k⟩ := h
  refine ⟨_, (pss_cons (ps_setLc (i := 3) (own := [("spell", 4)]) (by rfl) sc_shown_by.nd rfl rfl (sw_true rfl rfl rfl (by decide +kernel)) (kIL (K := K) rfl (pi_list (pe_call (ok_spells_of T) (hr.mono (by decide)) (by rfl) T.m_spells_of T.F_spells_of.kp T.b_spells_of .nil pass0 (pa_cons (pv 1) pa_nil)))) (blkOk_by (own := [("spell", 4)]) (N := N_shown_by) (sc := defScope s_shown_by) (by decide +kernel)) (fun _ _ _ _ _ => (pg_name (i := 4) sc_shown_by.nd rfl (by first | exact Or.inl rfl | exact Or.inr rfl))) (fun _ _ _ _ _ => pts_one (pt_cmpR (kEqD K rfl hr.units) (pe_lc (own := [("place", 5)]) (by rfl) sc_shown_by.nd (kIL (K := K) rfl (pi_list (pv 2))) (blkOk_by (own := [("place", 5)]) (N := N_shown_by) (sc := (relS { kind := PySem.ScopeKind.function, names := [ (PySem.Str.ofString ".0", PySem.NameKind.local), (PySem.Str.ofString "spell", PySem.NameKind.cell), (PySem.Str.ofString "places", PySem.NameKind.free)], isGenerator := false, isCoroutine := false, more := [] : PySem.Scope } (defScope s_shown_by))) (by decide +kernel)) (fun _ _ _ _ _ => (pg_name (i := 5) sc_shown_by.nd rfl (by first | exact Or.inl rfl | exact Or.inr rfl))) (fun _ _ _ _ _ => pts_one (pt_chain op_lt op_lt (pe_ix (kIxT K rfl) (pv 4) pe_int (fun _ _ => rfl)) (pv 5) (pe_ix (kIxT K rfl) (pv 4) pe_int (fun _ _ => rfl)))) (fun _ _ _ _ _ => (pv 5))) (pe_lst pa_nil) (nomark _))) (fun _ _ _ _ _ => (pv 4)))
    (pss_one (ps_ret (pe_op op_sub (pe_op op_sub (pe_callB (kLen K rfl) (by rfl) T.z_len (by decide +kernel) (pa_cons (pv 1) pa_nil)) (pe_callB (kLen K rfl) (by rfl) T.z_len (by decide +kernel) (pa_cons (pv 3) pa_nil))) (pe_op op_mul (pe_op op_sub (pv 0) pe_int) (pe_callB (kLen K rfl) (by rfl) T.z_len (by decide +kernel) (pa_cons (pv 2) pa_nil))))))), ?_⟩
  walk_at "cwp"
  refine c_spells_of hS hl fun p xs H1 f1 hp0 hx hP => ?_
  walk_at "cwp"
  have hsl := spellsTo_len ns ns.length
  refine l_list xs (SqL.of hx) (fun D i acc H' => Fr [] H1 H' ∧ acc.length = (((spellsM ns).take i).filter (isFree ps)).length) (fun D hD => ⟨Fr.new hD, by simp⟩) (fun D i acc H' hD h _ => SqL.of (h.1.get0 hx)) ?_ ?_
  · rintro D i y acc H' hD hi ⟨F, hal⟩ hacc hla
    have hil := (List.getElem?_eq_some_iff.mp hi).1
    rw [hP.1] at hil
    obtain ⟨e, he⟩ : ∃ e, (spellsM ns)[i]? = some e := ⟨(spellsM ns)[i], List.getElem?_eq_getElem hil⟩
    obtain ⟨t, ht1, ht2, ht3⟩ := hP.2 i e he
    rw [hi] at ht1
    cases ht1
    have htt := F.get0 ht3
    have hb' := (f1.trans F).seqL hb
    have hsp : (spellsM ns).length ≤ 100 := by have := hsl; unfold spellsM; omega
    walk_at "cwp"
    refine l_filter ps (fun p => decide (e.1 < p ∧ p < e.2)) hb' ?_ ?_
    · intro D2 j2 y2 H2 hD2 hy2 F2 I2
      have hj2 := (List.getElem?_eq_some_iff.mp hy2).1
      have ht2' := F2.get0 htt
      walk_at "cwp"
      walk_at "cw if" <;> intro c1
      · walk_at "cwp"
        walk_at "cw if" <;> intro c2
        · walk_at "cwp"
          exact lf_yes I2 hD2 hy2 (decide_eq_true ⟨c1, c2⟩) (by omega) .refl
        · exact lf_no I2 hy2 (decide_eq_false fun z => c2 z.2) .refl
      · walk_at "cwp"
        exact lf_no I2 hy2 (decide_eq_false fun z => c1 z.1) .refl
    · intro D2 H2 hD2 F2 hD2'
      walk_at "cwp"
      rename_i em hem
      have ef : ((spellsM ns).take (i + 1)).filter (isFree ps) = ((spellsM ns).take i).filter (isFree ps) ++ (if isFree ps e = true then [e] else []) := by
        rw [take_snoc he, List.filter_append]
        congr 1
        by_cases h : isFree ps e = true
        · rw [if_pos h, List.filter_cons_of_pos h]; rfl
        · rw [if_neg h, List.filter_cons_of_neg h]; rfl
      have F5 : Fr [] H' (upd H2 em (.lst [])) := F2.trans (Fr.new hem)
      walk_at "cw if" <;> intro c1
      · walk_at "cwp"
        have hfe : isFree ps e = true := decide_eq_true c1
        refine lc_end (F5.get0 hacc) hla (by omega) ⟨(F.trans F5).loc hD, ?_⟩
        rw [ef, if_pos hfe, List.length_append, List.length_append, hal]
        rfl
      · have hfe : isFree ps e = false := decide_eq_false c1
        refine ⟨acc, ⟨F.trans F5, ?_⟩, F5.get0 hacc, by omega⟩
        rw [ef, hfe, hal]
        simp
  · rintro D acc H' hD ⟨F, hal⟩ hacc hla
    have hS' := (f1.trans F).seqL hS
    have hb' := (f1.trans F).seqL hb
    walk_at "cwp"
    rw [hP.1, List.take_length] at hal
    have z := k H' (f1.trans F)
    unfold shownM at z
    rw [List.length_map, List.length_map, hal]
    exact z

/-! spells -/
def sp_spells (K : PySem.W.Frag) : Sp := fun vs H Q _ => ∃ (a : Addr) (ns : List Int), vs = [.ref a] ∧ SqL K H a (ns.map V.int) ∧ RowOk ns ∧
  ∀ p xs H', Fr [] H H' → H p = none → H' p = some (.lst xs) → PairsAt H H' xs (spellsM ns) → Q (.ref p) H'
theorem c_spells {H : Hp} {Q : VK} {E : XK} {a : Addr} {ns : List Int} (h : SqL K H a (ns.map V.int)) (hR : RowOk ns)
    (k : ∀ p xs H', Fr [] H H' → H p = none → H' p = some (.lst xs) → PairsAt H H' xs (spellsM ns) → Q (.ref p) H') : sp_spells K ([.ref a] ++ []) H Q E := ⟨a, ns, rfl, h, hR, k⟩
theorem ok_spells (T : Txt K mg ad) : FnOk P w K mg base CX0 4 ad.a_spells ad.d_spells ["row"] (sp_spells K) := by
  refine T.F_spells.ok sc_spells (fun vs H Q E h => ?_) (fun cdv A outer s H vs Q E hr h => ?_)
  · obtain ⟨a, ns, rfl, _⟩ := h
    rfl
  obtain ⟨a, ns, rfl, hS, hR, k⟩ := h
  refine ⟨_, (pss_cons (ps_expr (pe_call (ok_need_both T) (hr.mono (by decide)) (by rfl) T.m_need_both T.F_need_both.kp T.b_need_both .nil pass0 (pa_cons pe_int (pa_cons (pv 0) pa_nil))))
    (pss_one (ps_ret (pe_call (ok_spells_of T) (hr.mono (by decide)) (by rfl) T.m_spells_of T.F_spells_of.kp T.b_spells_of .nil pass0 (pa_cons (pv 0) pa_nil))))), ?_⟩
  walk_at "cwp"
  refine c_need_both (by omega) (by omega) hS hR fun H1 f1 => ?_
  walk_at "cwp"
  refine c_spells_of (f1.seqL hS) hR.1 fun p xs H2 f2 h1 h2 h3 => ?_
  exact k p xs H2 (f1.trans f2) (f1.free h1) h2 (h3.base f1)

/-! paper -/
def sp_paper (K : PySem.W.Frag) : Sp := fun vs H Q _ => ∃ (n : Int) (a : Addr) (ns : List Int), vs = [.int n, .ref a] ∧ 1 ≤ n ∧ n ≤ 8 ∧ SqL K H a (ns.map V.int) ∧ RowOk ns ∧
  ∀ p ps H', Fr [] H H' → H p = none → H' p = some (.lst (ps.map V.int)) → PapOk ns ps → shownM n ns ps = (bestN n.toNat ns : Int) → Q (.ref p) H'
theorem c_paper {H : Hp} {Q : VK} {E : XK} {n : Int} {a : Addr} {ns : List Int} (n0 : 1 ≤ n) (n8 : n ≤ 8) (h : SqL K H a (ns.map V.int)) (hR : RowOk ns)
    (k : ∀ p ps H', Fr [] H H' → H p = none → H' p = some (.lst (ps.map V.int)) → PapOk ns ps → shownM n ns ps = (bestN n.toNat ns : Int) → Q (.ref p) H') : sp_paper K ([.int n, .ref a] ++ []) H Q E := ⟨n, a, ns, rfl, n0, n8, h, hR, k⟩
theorem ok_paper (T : Txt K mg ad) : FnOk P w K mg base CX0 4 ad.a_paper ad.d_paper ["rooms", "row"] (sp_paper K) := by
  refine T.F_paper.ok sc_paper (fun vs H Q E h => ?_) (fun cdv A outer s H vs Q E hr h => ?_)
  · obtain ⟨n, a, ns, rfl, _⟩ := h
    rfl
  obtain ⟨n, a, ns, rfl, n0, n8, hS, hR, k⟩ := h
  refine ⟨_, (pss_cons (ps_expr (pe_call (ok_need_both T) (hr.mono (by decide)) (by rfl) T.m_need_both T.F_need_both.kp T.b_need_both .nil pass0 (pa_cons (pv 0) (pa_cons (pv 1) pa_nil))))
    (pss_one (ps_ret (pe_call (ok_least_paper T) (hr.mono (by decide)) (by rfl) T.m_least_paper T.F_least_paper.kp T.b_least_paper .nil pass0 (pa_cons (pv 0) (pa_cons (pv 1) pa_nil)))))), ?_⟩
  walk_at "cwp"
  refine c_need_both n0 n8 hS hR fun H1 f1 => ?_
  walk_at "cwp"
  refine c_least_paper n0 n8 (f1.seqL hS) hR.1 fun p ps c H2 f2 hp h2 hk => ?_
  have hb := paper_best (by omega) hk
  have hn : (n.toNat : Int) = n := by omega
  rw [hn] at hb
  walk_at "cwp"
  exact k p ps H2 (f1.trans f2) (f1.free hp) h2 hb.1 hb.2.2

/-! shown -/
def sp_shown (K : PySem.W.Frag) : Sp := fun vs H Q _ => ∃ (n : Int) (a b : Addr) (ns ps : List Int), vs = [.int n, .ref a, .ref b] ∧ 1 ≤ n ∧ n ≤ 8 ∧ SqL K H a (ns.map V.int) ∧ RowOk ns ∧ SqL K H b (ps.map V.int) ∧ PapOk ns ps ∧
  ∀ H', Fr [] H H' → Q (.int (shownM n ns ps)) H'
theorem c_shown {H : Hp} {Q : VK} {E : XK} {n : Int} {a b : Addr} {ns ps : List Int} (n0 : 1 ≤ n) (n8 : n ≤ 8) (h : SqL K H a (ns.map V.int)) (hR : RowOk ns) (hb : SqL K H b (ps.map V.int)) (hp : PapOk ns ps)
    (k : ∀ H', Fr [] H H' → Q (.int (shownM n ns ps)) H') : sp_shown K ([.int n, .ref a, .ref b] ++ []) H Q E := ⟨n, a, b, ns, ps, rfl, n0, n8, h, hR, hb, hp, k⟩
theorem ok_shown (T : Txt K mg ad) : FnOk P w K mg base CX0 4 ad.a_shown ad.d_shown ["rooms", "row", "places"] (sp_shown K) := by
  refine T.F_shown.ok sc_shown (fun vs H Q E h => ?_) (fun cdv A outer s H vs Q E hr h => ?_)
  · obtain ⟨n, a, b, ns, ps, rfl, _⟩ := h
    rfl
  obtain ⟨n, a, b, ns, ps, rfl, n0, n8, hS, hR, hb, hp, k⟩ := h
  refine ⟨_, (pss_cons (ps_expr (pe_call (ok_need_both T) (hr.mono (by decide)) (by rfl) T.m_need_both T.F_need_both.kp T.b_need_both .nil pass0 (pa_cons (pv 0) (pa_cons (pv 1) pa_nil))))
    (pss_cons (ps_if (PW.pt (pw_or (pt_cmpR (kNeD K rfl hr.units) (pv 2) (pe_callB (kSortSet w rfl rfl) (by rfl) T.z_sorted (by decide +kernel) (pa_cons (pe_callTy (kSetL K w rfl rfl rfl) (by rfl) T.z_set (by decide +kernel) (pa_cons (pv 2) pa_nil)) pa_nil)) (nomark _)) (pw_or1 (pt_cmpR (kNeD K rfl hr.units) (pe_lc (own := [("place", 3)]) (by rfl) sc_shown.nd (kIL (K := K) rfl (pi_list (pv 2))) (blkOk_by (own := [("place", 3)]) (N := N_shown) (sc := defScope s_shown) (by decide +kernel)) (fun _ _ _ _ _ => (pg_name (i := 3) sc_shown.nd rfl (by first | exact Or.inl rfl | exact Or.inr rfl))) (fun _ _ _ _ _ => pts_one (pt_not (pt_chain op_le op_lt pe_int (pv 3) (pe_callB (kLen K rfl) (by rfl) T.z_len (by decide +kernel) (pa_cons (pv 1) pa_nil))))) (fun _ _ _ _ _ => (pv 3))) (pe_lst pa_nil) (nomark _))))) (pss_one ps_never) pss_nil)
    (pss_one (ps_ret (pe_call (ok_shown_by T) (hr.mono (by decide)) (by rfl) T.m_shown_by T.F_shown_by.kp T.b_shown_by .nil pass0 (pa_cons (pv 0) (pa_cons (pv 1) (pa_cons (pv 2) pa_nil)))))))), ?_⟩
  walk_at "cwp"
  refine c_need_both n0 n8 hS hR fun H1 f1 => ?_
  have hpl := hp.len hR.1
  have hb1 := f1.seqL hb
  walk_at "cwp"
  rename_i so hso sc hsc sp hsp
  have eu : ps = uniq ps := (uniq_lt hp.1).symm
  refine ite_nF eu ?_
  have F2 : Fr [] H1 (upd (upd H1 so (SetO w so (fun j => decide (j ∈ ps)) sc)) sp (.lst ((uniq ps).map V.int))) := (Fr.new hso).trans (Fr.new hsp)
  have hb2 := F2.seqL hb1
  have hS2 := (f1.trans F2).seqL hS
  generalize (upd (upd H1 so (SetO w so (fun j => decide (j ∈ ps)) sc)) sp (.lst ((uniq ps).map V.int))) = H2 at *
  walk_at "cwp"
  refine l_filter ps (fun _ => false) hb2 ?_ ?_
  · intro D i y H3 hD hy F3 I3
    have hS3 := F3.seqL hS2
    have hyb := hp.2 y (List.mem_of_getElem? hy)
    walk_at "cwp"
    refine ite_nF (by rw [List.length_map]; exact hyb.2) ?_
    exact lf_no I3 hy rfl .refl
  · intro D H3 hD F3 hD3
    have e0 : ps.filter (fun _ => false) = [] := List.filter_eq_nil_iff.mpr (by simp)
    rw [e0] at hD3
    walk_at "cwp"
    rename_i em hem
    have F4 := F3.trans (Fr.new (o := .lst []) hem)
    exact c_shown_by n0 n8 (F4.seqL hS2) hR.1 (F4.seqL hb2) hpl fun H5 f5 => k H5 (((f1.trans F2).trans F4).trans f5)

/-! next_ask -/
def sp_next_ask (K : PySem.W.Frag) : Sp := fun vs H Q _ => ∃ (a : Addr) (i : Nat) (y : Int) (ns : List Int), vs = [.ref a, .int i, .int y] ∧ SqL K H a (ns.map V.int) ∧ i ≤ ns.length ∧ ∀ H', Fr [] H H' → Q (.int ((i + (ns.drop i).idxOf y : Nat) : Int)) H'
theorem c_next_ask {H : Hp} {Q : VK} {E : XK} {a : Addr} {i : Nat} {y : Int} {ns : List Int} (h : SqL K H a (ns.map V.int)) (hi : i ≤ ns.length) (k : ∀ H', Fr [] H H' → Q (.int ((i + (ns.drop i).idxOf y : Nat) : Int)) H') :
    sp_next_ask K ([.ref a, .int i, .int y] ++ []) H Q E := ⟨a, i, y, ns, rfl, h, hi, k⟩
theorem ok_next_ask (T : Txt K mg ad) : FnOk P w K mg base CX0 1 ad.a_next_ask ad.d_next_ask ["row", "place", "page"] (sp_next_ask K) := by
  refine T.F_next_ask.ok sc_next_ask (fun vs H Q E h => ?_) (fun cdv A outer s H vs Q E hr h => ?_)
  · obtain ⟨a, i, y, ns, rfl, _⟩ := h
    rfl
  obtain ⟨a, i, y, ns, rfl, hS, hi, k⟩ := h
  refine ⟨_, (pss_one (ps_ret (pe_ifExp (pt_cmpR (kIn K rfl) (pv 2) (pe_slice (kSlL K rfl) (pv 0) (po_some (pv 1)) po_none) (by with_unfolding_all rfl)) (kBM (K := K) rfl (pe_bm PySem.F.plainAttrs_list PySem.F.slot_list_index PySem.F.type_list_index (kIndex3 K rfl) (pv 0) (pa_cons (pv 2) (pa_cons (pv 1) pa_nil)))) (pe_callB (kLen K rfl) (by rfl) T.z_len (by decide +kernel) (pa_cons (pv 0) pa_nil))))), ?_⟩
  walk_at "cwb"
  rename_i sp hsp
  have hS2 := (Fr.new (o := .lst ((ns.drop i).map V.int)) hsp).seqL hS
  walk_at "cw if" <;> intro e
  · walk_at "cwb"
    refine w_index3 hS2 e ?_
    exact k _ (Fr.new hsp)
  · walk_at "cwb"
    have e1 : (ns.map V.int).length = i + (ns.drop i).idxOf y := by
      rw [List.idxOf_eq_length e, List.length_drop, List.length_map]
      omega
    rw [e1]
    exact k _ (Fr.new hsp)

/-! farthest -/
def sp_farthest (K : PySem.W.Frag) : Sp := fun vs H Q _ => ∃ (a : Addr) (i : Nat) (b : Addr) (ns kept : List Int), vs = [.ref a, .int i, .ref b] ∧ SqL K H a (ns.map V.int) ∧ i ≤ ns.length ∧ ns.length ≤ 100 ∧ SqL K H b (kept.map V.int) ∧ kept ≠ [] ∧ kept.length ≤ 100 ∧
  ∀ H', Fr [] H H' → Q (.int (far (ns.drop i) kept)) H'
theorem c_farthest {H : Hp} {Q : VK} {E : XK} {a : Addr} {i : Nat} {b : Addr} {ns kept : List Int} (h : SqL K H a (ns.map V.int)) (hi : i ≤ ns.length) (hl : ns.length ≤ 100) (hb : SqL K H b (kept.map V.int)) (hk : kept ≠ []) (hkl : kept.length ≤ 100)
    (k : ∀ H', Fr [] H H' → Q (.int (far (ns.drop i) kept)) H') : sp_farthest K ([.ref a, .int i, .ref b] ++ []) H Q E := ⟨a, i, b, ns, kept, rfl, h, hi, hl, hb, hk, hkl, k⟩
theorem ok_farthest (T : Txt K mg ad) : FnOk P w K mg base CX0 2 ad.a_farthest ad.d_farthest ["row", "place", "kept"] (sp_farthest K) := by
  refine T.F_farthest.ok sc_farthest (fun vs H Q E h => ?_) (fun cdv A outer s H vs Q E hr h => ?_)
  · obtain ⟨a, i, b, ns, kept, rfl, _⟩ := h
    rfl
  obtain ⟨a, i, b, ns, kept, rfl, hS, hi, hl, hb, hk, hkl, k⟩ := h
  refine ⟨_, (pss_one (ps_ret (pe_ix (kIxT K rfl) (pe_callB (kMinD K rfl rfl hr.units) (by rfl) T.z_min (by decide +kernel) (pa_cons (pe_lc (own := [("page", 3)]) (by rfl) sc_farthest.nd (kIL (K := K) rfl (pi_list (pv 2))) (blkOk_by (own := [("page", 3)]) (N := N_farthest) (sc := defScope s_farthest) (by decide +kernel)) (fun _ _ _ _ _ => (pg_name (i := 3) sc_farthest.nd rfl (by first | exact Or.inl rfl | exact Or.inr rfl))) (fun _ _ _ _ _ => pts_nil) (fun _ _ _ _ _ => (pe_tup (pa_cons (pe_op op_sub pe_int (pe_call (ok_next_ask T) (hr.mono (by decide)) (by rfl) T.m_next_ask T.F_next_ask.kp T.b_next_ask .nil pass0 (pa_cons (pv 0) (pa_cons (pv 1) (pa_cons (pv 3) pa_nil))))) (pa_cons (pv 3) pa_nil))))) pa_nil)) pe_int (fun _ _ => rfl)))), ?_⟩
  walk_at "cwb"
  refine l_list (kept.map V.int) hb (fun D j acc H' => Fr [] H H' ∧ PairsAt H H' acc ((kept.take j).map fun y => (0 - ((i + (ns.drop i).idxOf y : Nat) : Int), y))) (fun D hD => ⟨Fr.new hD, .nil⟩) (fun D j acc H' hD h _ => h.1.seqL hb) ?_ ?_
  · rintro D j x acc H' hD hj ⟨F, hn⟩ hacc hla
    obtain ⟨y, hy, rfl⟩ := int_at hj
    walk_at "cwb"
    refine c_next_ask (F.seqL hS) hi fun H2 f2 => ?_
    walk_at "cwb"
    rename_i t ht
    have hDt : D ≠ t := ne_n ht (f2.get0 hacc)
    refine lc_end ((upd_ne hDt).trans (f2.get0 hacc)) hla (by have := (List.getElem?_eq_some_iff.mp hy).1; omega) ⟨((F.trans f2).trans (Fr.new ht)).loc hD, ?_⟩
    rw [take_snoc hy, List.map_append]
    refine PairsAt.snoc ?_ ((F.trans f2).free ht) ((upd_ne (ne_s hDt)).trans upd_same)
    refine (hn.fr (W := []) (f2.trans (Fr.new ht)) (by simp)).fr (W := [D]) (Fr.at (List.mem_singleton.mpr rfl)) fun w hw => ?_
    rw [List.mem_singleton.mp hw]
    exact ⟨acc, (upd_ne hDt).trans (f2.get0 hacc)⟩
  · rintro D acc H' hD ⟨F, hn⟩ hacc hla
    rw [List.length_map, List.take_length] at hn
    walk_at "cwb"
    have hf := far_spec (ns.drop i) hk
    refine w_minP (SqL.of hacc) hn.nwa.now (List.mem_map.mpr ⟨far (ns.drop i) kept, hf.1, rfl⟩) ?_ fun t ht => ?_
    · intro y hy
      obtain ⟨x, hx, rfl⟩ := List.mem_map.mp hy
      have := hf.2 x hx
      simp only
      omega
    · walk_at "cwb"
      exact k H' F

/-! gone_through -/
def sp_gone_through (K : PySem.W.Frag) : Sp := fun vs H Q _ => ∃ (n : Int) (a : Addr) (ns : List Int), vs = [.int n, .ref a] ∧ 1 ≤ n ∧ n ≤ 8 ∧ SqL K H a (ns.map V.int) ∧ ns.length ≤ 100 ∧
  ∀ t l g xs H', Fr [] H H' → H t = none → H l = none → H g = none → l ≠ g → H' t = some (.tup [.ref l, .ref g]) → H' l = some (.lst ((bst n.toNat ns ns).lacks.map V.int)) → H' g = some (.lst xs) → PairsAt H H' xs (bst n.toNat ns ns).gone → Q (.ref t) H'
theorem c_gone_through {H : Hp} {Q : VK} {E : XK} {n : Int} {a : Addr} {ns : List Int} (n0 : 1 ≤ n) (n8 : n ≤ 8) (h : SqL K H a (ns.map V.int)) (hl : ns.length ≤ 100)
    (k : ∀ t l g xs H', Fr [] H H' → H t = none → H l = none → H g = none → l ≠ g → H' t = some (.tup [.ref l, .ref g]) → H' l = some (.lst ((bst n.toNat ns ns).lacks.map V.int)) → H' g = some (.lst xs) → PairsAt H H' xs (bst n.toNat ns ns).gone → Q (.ref t) H') :
    sp_gone_through K ([.int n, .ref a] ++ []) H Q E := ⟨n, a, ns, rfl, n0, n8, h, hl, k⟩
def goneI (H0 : Hp) (n : Int) (a kp l g : Addr) (v5 v6 : Option V) (kept lacks : List Int) (gone : List (Int × Int)) : L2.St → Hp → Prop := fun σ H => ∃ (xs : List V), σ = [some (.int n), some (.ref a), some (.ref kp), some (.ref l), some (.ref g), v5, v6] ∧
  Fr [] H0 H ∧ H kp = some (.lst (kept.map V.int)) ∧ H l = some (.lst (lacks.map V.int)) ∧ H g = some (.lst xs) ∧ PairsAt H0 H xs gone
theorem goneI.gl {H0 H : Hp} {n : Int} {a kp l g : Addr} {v5 v6 : Option V} {kept lacks : List Int} {gone : List (Int × Int)} {σ : L2.St} (h : goneI H0 n a kp l g v5 v6 kept lacks gone σ H) : True := trivial
theorem ok_gone_through (T : Txt K mg ad) : FnOk P w K mg base CX0 3 ad.a_gone_through ad.d_gone_through ["rooms", "row"] (sp_gone_through K) := by
  refine T.F_gone_through.ok sc_gone_through (fun vs H Q E h => ?_) (fun cdv A outer s H vs Q E hr h => ?_)
  · obtain ⟨n, a, ns, rfl, _⟩ := h
    rfl
  obtain ⟨n, a, ns, rfl, n0, n8, hS, hl, k⟩ := h
  refine ⟨_, (pss_cons (ps_set (i := 2) sc_gone_through.nd rfl (by first | exact Or.inl rfl | exact Or.inr rfl) (pe_lst pa_nil))
    (pss_cons (ps_set (i := 3) sc_gone_through.nd rfl (by first | exact Or.inl rfl | exact Or.inr rfl) (pe_lst pa_nil))
    (pss_cons (ps_set (i := 4) sc_gone_through.nd rfl (by first | exact Or.inl rfl | exact Or.inr rfl) (pe_lst pa_nil))
    (pss_cons (ps_for PassesOwn.never rfl (kIE (K := K) rfl (pi_enum (by rfl) T.z_enumerate (pa_cons (pv 1) pa_nil))) (kTup (K := K) (n := 2) rfl (pg_tup (by rfl) (pgs_cons (pg_name (i := 5) sc_gone_through.nd rfl (by first | exact Or.inl rfl | exact Or.inr rfl)) (pgs_cons (pg_name (i := 6) sc_gone_through.nd rfl (by first | exact Or.inl rfl | exact Or.inr rfl)) pgs_nil)))) (pss_one (ps_if (pt_cmpR (kNi K rfl) (pv 6) (pv 2) (by with_unfolding_all rfl)) (pss_cons (ps_expr (kBM (K := K) rfl (pe_bm PySem.F.plainAttrs_list PySem.F.slot_list_append PySem.F.type_list_append mt_append (pv 3) (pa_cons (pv 5) pa_nil))))
    (C8.pss_cut (ps_if (pt_cmpR op_eq (pe_callB (kLen K rfl) (by rfl) T.z_len (by decide +kernel) (pa_cons (pv 2) pa_nil)) (pv 0) (nomark _)) (pss_cons (ps_expr (kBM (K := K) rfl (pe_bm PySem.F.plainAttrs_list PySem.F.slot_list_append PySem.F.type_list_append mt_append (pv 4) (pa_cons (pe_tup (pa_cons (pv 5) (pa_cons (pe_call (ok_farthest T) (hr.mono (by decide)) (by rfl) T.m_farthest T.F_farthest.kp T.b_farthest .nil pass0 (pa_cons (pv 1) (pa_cons (pv 5) (pa_cons (pv 2) pa_nil)))) pa_nil))) pa_nil))))
    (pss_one (ps_expr (kBM (K := K) rfl (pe_bm PySem.F.plainAttrs_list PySem.F.slot_list_remove PySem.F.type_list_remove mt_remove (pv 2) (pa_cons (pe_ix (kIxT K rfl) (pe_ix (kIxL K rfl) (pv 4) (pe_un un_neg pe_int) (fun _ _ => rfl)) pe_int (fun _ _ => rfl)) pa_nil)))))) pss_nil)
    (pss_one (ps_expr (kBM (K := K) rfl (pe_bm PySem.F.plainAttrs_list PySem.F.slot_list_append PySem.F.type_list_append mt_append (pv 2) (pa_cons (pv 6) pa_nil))))))) pss_nil)))
    (pss_one (ps_ret (pe_tup (pa_cons (pv 3) (pa_cons (pv 4) pa_nil))))))))), ?_⟩
  walk_at "cwb"
  rename_i kp hkp l hl' g hg
  have hk0 : H kp = none := hkp
  have hl0 : H l = none := upd_none hl'
  have hg0 : H g = none := upd_none (upd_none hg)
  have nkl : kp ≠ l := ne_of_none upd_same hl'
  have nlg : l ≠ g := ne_n hg upd_same
  have nkg : kp ≠ g := ne_n hg ((upd_ne nkl).trans upd_same)
  refine f_enum (ns.map V.int) ((((Fr.new hkp).trans (Fr.new hl')).trans (Fr.new hg)).seqL hS) (fun i σ H' => ∃ v5 v6, goneI H n a kp l g v5 v6 (bst n.toNat ns (ns.take i)).kept (bst n.toNat ns (ns.take i)).lacks (bst n.toNat ns (ns.take i)).gone σ H')
    ⟨_, _, [], rfl, ((Fr.new hkp).trans (Fr.new hl')).trans (Fr.new hg), (upd_ne nkg).trans ((upd_ne nkl).trans upd_same), (upd_ne nlg).trans upd_same, upd_same, .nil⟩ (fun i σ H' _ ⟨_, _, _, _, f, _⟩ => f.seqL hS) ?_ ?_
  · rintro i y tt σ H' hi ⟨v5, v6, xs, rfl, F, g1, g2, g3, gp⟩ htt
    obtain ⟨x, hx, rfl⟩ := int_at hi
    have hxl := (List.getElem?_eq_some_iff.mp hx).1
    obtain ⟨b1, b2, b3, b4, b5, b6⟩ := bst_ok (rooms := n.toNat) (by omega) ns (ns.take i)
    have bn : (bst n.toNat ns (ns.take i)).n = i := by rw [b1, List.length_take]; omega
    have hxsl := gp.1
    rw [List.length_take] at b5 b6
    rw [take_snoc hx, bst_snoc]
    generalize bst n.toNat ns (ns.take i) = s at *
    walk_at "cwb"
    walk_at "cw if" <;> intro e
    · walk_at "cwb"
      have nkt : kp ≠ tt := ne_n htt g1
      have nlt : l ≠ tt := ne_n htt g2
      have ngt : g ≠ tt := ne_n htt g3
      generalize hE : upd (upd H' tt (.tup [.int i, .int x])) l (.lst (s.lacks.map V.int ++ [V.int i])) = H5
      have F5 : Fr [] H H5 := hE ▸ (F.trans (Fr.new htt)).loc hl0
      have k1 : H5 kp = some (.lst (s.kept.map V.int)) := hE ▸ (upd_ne nkl).trans ((upd_ne nkt).trans g1)
      have k2 : H5 l = some (.lst ((s.lacks ++ [(i : Int)]).map V.int)) := by rw [← hE, List.map_append]; exact upd_same
      have k3 : H5 g = some (.lst xs) := hE ▸ (upd_ne (ne_s nlg)).trans ((upd_ne ngt).trans g3)
      have kp5 : PairsAt H H5 xs s.gone := hE ▸ (gp.upN htt).upL ((upd_ne nlt).trans g2)
      clear hE
      by_cases e2 : s.kept.length = n.toNat
      · have es : bstep n.toNat ns s x = ⟨s.kept.erase (far (ns.drop s.n) s.kept) ++ [x], s.lacks ++ [(s.n : Int)], s.gone ++ [((s.n : Int), far (ns.drop s.n) s.kept)], s.n + 1⟩ := (if_neg e).trans (if_pos e2)
        rw [es, bn]
        have hne : s.kept ≠ [] := fun z => by rw [z] at e2; simp at e2; omega
        have hf := far_spec (ns.drop i) hne
        refine w_cut (goneI H n a kp l g (some (.int i)) (some (.int x)) (s.kept.erase (far (ns.drop i) s.kept)) (s.lacks ++ [(i : Int)]) (s.gone ++ [((i : Int), far (ns.drop i) s.kept)])) ?_ ?_
        · have hS5 := F5.seqL hS
          walk_at "cwb"
          refine ite_dT (by rw [List.length_map]; omega) ?_
          walk_at "cwb"
          refine c_farthest hS5 (by omega) hl (SqL.of k1) hne (by omega) fun H6 f6 => ?_
          have k1 := f6.get0 k1
          have k2 := f6.get0 k2
          have k3 := f6.get0 k3
          have kp6 := kp5.fr0 f6
          walk_at "cwb"
          rename_i t ht
          have nkt' : kp ≠ t := ne_n ht k1
          have ngt' : g ≠ t := ne_n ht k3
          have nlt' : l ≠ t := ne_n ht k2
          refine w_ixL (SqL.of upd_same) (atI_neg1 List.getLast?_concat) ?_
          walk_at "cwb"
          refine w_remI ((upd_ne nkg).trans ((upd_ne nkt').trans k1)) hf.1 ?_
          walk_at "cwb"
          have kpt : PairsAt H (upd (upd H6 t (.tup [.int i, .int (far (ns.drop i) s.kept)])) g (.lst (xs ++ [.ref t]))) (xs ++ [.ref t]) (s.gone ++ [((i : Int), far (ns.drop i) s.kept)]) :=
            ((kp6.upN ht).upL ((upd_ne ngt').trans k3)).snoc ((F5.trans f6).free ht) ((upd_ne (ne_s ngt')).trans upd_same)
          exact ⟨_, rfl, (((F5.trans f6).trans (Fr.new ht)).loc hg0).loc hk0, upd_same, (upd_ne (ne_s nkl)).trans ((upd_ne nlg).trans ((upd_ne nlt').trans k2)), (upd_ne (ne_s nkg)).trans upd_same,
            kpt.upL ((upd_ne nkg).trans ((upd_ne nkt').trans k1))⟩
        · rintro σ H6 ⟨xs, rfl, F, g1, g2, g3, gp⟩
          have hle : (s.kept.erase (far (ns.drop i) s.kept)).length ≤ 8 := by rw [List.length_erase_of_mem hf.1]; omega
          walk_at "cwb"
          refine ⟨_, _, xs, rfl, F.loc hk0, by rw [List.map_append]; exact upd_same, (upd_ne (ne_s nkl)).trans g2, (upd_ne (ne_s nkg)).trans g3, gp.upL g1⟩
      · have es : bstep n.toNat ns s x = ⟨s.kept ++ [x], s.lacks ++ [(s.n : Int)], s.gone, s.n + 1⟩ := (if_neg e).trans (if_neg e2)
        rw [es, bn]
        refine w_cut (goneI H n a kp l g (some (.int i)) (some (.int x)) s.kept (s.lacks ++ [(i : Int)]) s.gone) ?_ ?_
        · walk_at "cwb"
          refine ite_dF (by rw [List.length_map]; omega) ?_
          walk_at "cwb"
          exact ⟨xs, rfl, F5, k1, k2, k3, kp5⟩
        · rintro σ H6 ⟨xs, rfl, F, g1, g2, g3, gp⟩
          walk_at "cwb"
          refine ⟨_, _, xs, rfl, F.loc hk0, by rw [List.map_append]; exact upd_same, (upd_ne (ne_s nkl)).trans g2, (upd_ne (ne_s nkg)).trans g3, gp.upL g1⟩
    · walk_at "cwb"
      have es : bstep n.toNat ns s x = ⟨s.kept, s.lacks, s.gone, s.n + 1⟩ := if_pos (Classical.not_not.mp e)
      rw [es]
      exact ⟨_, _, xs, rfl, F.trans (Fr.new htt), (upd_ne (ne_n htt g1)).trans g1, (upd_ne (ne_n htt g2)).trans g2, (upd_ne (ne_n htt g3)).trans g3, gp.upN htt⟩
  · rintro σ H' ⟨v5, v6, xs, rfl, F, g1, g2, g3, gp⟩
    rw [List.length_map, List.take_length] at g1 g2 gp
    walk_at "cwb"
    rename_i t ht
    exact k t l g xs _ (F.trans (Fr.new ht)) (F.free ht) hl0 hg0 nlg upd_same ((upd_ne (ne_n ht g2)).trans g2) ((upd_ne (ne_n ht g3)).trans g3) (gp.upN ht)

/-! best -/
def sp_best (K : PySem.W.Frag) : Sp := fun vs H Q _ => ∃ (n : Int) (a : Addr) (ns : List Int), vs = [.int n, .ref a] ∧ 1 ≤ n ∧ n ≤ 8 ∧ SqL K H a (ns.map V.int) ∧ RowOk ns ∧
  ∀ t l g xs H', Fr [] H H' → H t = none → H l = none → H g = none → l ≠ g → H' t = some (.tup [.ref l, .ref g]) → H' l = some (.lst ((bst n.toNat ns ns).lacks.map V.int)) → H' g = some (.lst xs) → PairsAt H H' xs (bst n.toNat ns ns).gone → Q (.ref t) H'
theorem c_best {H : Hp} {Q : VK} {E : XK} {n : Int} {a : Addr} {ns : List Int} (n0 : 1 ≤ n) (n8 : n ≤ 8) (h : SqL K H a (ns.map V.int)) (hR : RowOk ns)
    (k : ∀ t l g xs H', Fr [] H H' → H t = none → H l = none → H g = none → l ≠ g → H' t = some (.tup [.ref l, .ref g]) → H' l = some (.lst ((bst n.toNat ns ns).lacks.map V.int)) → H' g = some (.lst xs) → PairsAt H H' xs (bst n.toNat ns ns).gone → Q (.ref t) H') :
    sp_best K ([.int n, .ref a] ++ []) H Q E := ⟨n, a, ns, rfl, n0, n8, h, hR, k⟩
theorem ok_best (T : Txt K mg ad) : FnOk P w K mg base CX0 4 ad.a_best ad.d_best ["rooms", "row"] (sp_best K) := by
  refine T.F_best.ok sc_best (fun vs H Q E h => ?_) (fun cdv A outer s H vs Q E hr h => ?_)
  · obtain ⟨n, a, ns, rfl, _⟩ := h
    rfl
  obtain ⟨n, a, ns, rfl, n0, n8, hS, hR, k⟩ := h
  refine ⟨_, (pss_cons (ps_expr (pe_call (ok_need_both T) (hr.mono (by decide)) (by rfl) T.m_need_both T.F_need_both.kp T.b_need_both .nil pass0 (pa_cons (pv 0) (pa_cons (pv 1) pa_nil))))
    (pss_one (ps_ret (pe_call (ok_gone_through T) (hr.mono (by decide)) (by rfl) T.m_gone_through T.F_gone_through.kp T.b_gone_through .nil pass0 (pa_cons (pv 0) (pa_cons (pv 1) pa_nil)))))), ?_⟩
  walk_at "cwb"
  refine c_need_both n0 n8 hS hR fun H1 f1 => ?_
  walk_at "cwb"
  refine c_gone_through n0 n8 (f1.seqL hS) hR.1 fun t l g xs H2 f2 h1 h2 h3 hn h4 h5 h6 h7 => ?_
  exact k t l g xs H2 (f1.trans f2) (f1.free h1) (f1.free h2) (f1.free h3) hn h4 h5 h6 (h7.base f1)

/-! Dial.__init__ -/
def sp_Dial_init (C : Addr) : Sp := fun vs H Q _ => ∃ (p dx : Addr) (n : Int), vs = [.ref p, .int n] ∧ H p = some (.ins C dx []) ∧ 1 ≤ n ∧ n ≤ 8 ∧
  ∀ a b H', Fr [p] H H' → H a = none → H b = none → a ≠ b → DialAt C H' p a b (Dl.new n.toNat) → Q .non H'
theorem ok_Dial_init (T : Txt K mg ad) : FnOk P w K mg base CX0 2 ad.a_Dial_init ad.d_Dial_init ["self", "rooms"] (sp_Dial_init ad.C_Dial) := by
  refine T.F_Dial_init.ok sc_Dial_init (fun vs H Q E h => ?_) (fun cdv A outer s H vs Q E hr h => ?_)
  · obtain ⟨p, dx, n, rfl, _⟩ := h
    rfl
  obtain ⟨p, dx, n, rfl, hp, n0, n8, k⟩ := h
  refine ⟨_, (pss_cons (ps_expr (pe_call (ok_need_rooms T) (hr.mono (by decide)) (by rfl) T.m_need_rooms T.F_need_rooms.kp T.b_need_rooms .nil pass0 (pa_cons (pv 1) pa_nil)))
    (pss_cons (ps_fld (pv 0) (pe_lc (own := [("room", 2)]) (by rfl) sc_Dial_init.nd (pi_range1 (by rfl) T.z_range (pa_cons (pv 1) pa_nil)) (blkOk_by (own := [("room", 2)]) (N := N_Dial_init) (sc := defScope s_Dial_init) (by decide +kernel)) (fun _ _ _ _ _ => (pg_name (i := 2) sc_Dial_init.nd rfl (by first | exact Or.inl rfl | exact Or.inr rfl))) (fun _ _ _ _ _ => pts_nil) (fun _ _ _ _ _ => pe_non)) rfl)
    (pss_cons (ps_fld (pv 0) (pe_lc (own := [("room", 2)]) (by rfl) sc_Dial_init.nd (pi_range1 (by rfl) T.z_range (pa_cons (pv 1) pa_nil)) (blkOk_by (own := [("room", 2)]) (N := N_Dial_init) (sc := defScope s_Dial_init) (by decide +kernel)) (fun _ _ _ _ _ => (pg_name (i := 2) sc_Dial_init.nd rfl (by first | exact Or.inl rfl | exact Or.inr rfl))) (fun _ _ _ _ _ => pts_nil) (fun _ _ _ _ _ => pe_bl)) rfl)
    (pss_cons (ps_fld (pv 0) pe_int rfl)
    (pss_one (ps_fld (pv 0) pe_int rfl)))))), ?_⟩
  try dsimp only [L2.cxOf, L2.Cx.nox]
  walk_at "cwd"
  refine c_need_rooms n0 n8 ?_
  walk_at "cwd"
  refine l_rng1 (j := n) (by omega) (by omega) (fun D i acc H' => Fr [] H H' ∧ acc = List.replicate i V.non) (fun D hD => ⟨Fr.new hD, rfl⟩) ?_ ?_
  · rintro D i acc H' hD hi ⟨f, rfl⟩ hacc hl
    walk_at "cwd"
    exact lc_end hacc (by simp) (by omega) ⟨f.comp (W1 := [D]) (Fr.at (by simp)) (by simp [hD]), by rw [List.replicate_succ']⟩
  rintro a acc H1 ha ⟨f1, rfl⟩ h1 _
  walk_at "cwd"
  refine w_sFldR (f1.get0 hp) T.cl_Dial T.n_Dial_here (by decide) rfl ?_
  walk_at "cwd"
  generalize hE : upd H1 p (.ins ad.C_Dial dx (putF "here" (.ref a) [])) = H2
  have hp1 := f1.get0 hp
  have F2 : Fr [p] H1 H2 := hE ▸ Fr.at (by simp)
  have nap : a ≠ p := fun e => by rw [e, hp] at ha; cases ha
  have h2 : H2 p = some (.ins ad.C_Dial dx (putF "here" (.ref a) [])) := hE ▸ upd_same
  have h2a : H2 a = some (.lst (List.replicate n.toNat V.non)) := F2.get h1 (by simp [nap])
  clear hE
  refine l_rng1 (j := n) (by omega) (by omega) (fun D i acc H' => Fr [] H2 H' ∧ acc = List.replicate i (V.bl false)) (fun D hD => ⟨Fr.new hD, rfl⟩) ?_ ?_
  · rintro D i acc H' hD hi ⟨f, rfl⟩ hacc hl
    walk_at "cwd"
    exact lc_end hacc (by simp) (by omega) ⟨f.comp (W1 := [D]) (Fr.at (by simp)) (by simp [hD]), by rw [List.replicate_succ']⟩
  rintro b acc H3 hb ⟨f3, rfl⟩ h3 _
  walk_at "cwd"
  have nbp : b ≠ p := ne_s (ne_of_none h2 hb)
  have nab : a ≠ b := ne_of_none h2a hb
  refine w_sFldR (f3.get0 h2) T.cl_Dial T.n_Dial_seen (by simp [putF]) rfl ?_
  walk_at "cwd"
  refine w_sFldR upd_same T.cl_Dial T.n_Dial_hand (by simp [putF, str_hs]) rfl ?_
  walk_at "cwd"
  refine w_sFldR upd_same T.cl_Dial T.n_Dial_lacks (by simp [putF, str_hs, str_hh, str_sh]) (dfl_made a b 0 0) ?_
  rw [upd_upd, upd_upd]
  have F : Fr [p] H H3 := (f1.of0.trans F2).more f3
  refine k a b _ (F.trans (Fr.at (by simp))) ha (f1.free (F2.free hb)) nab ⟨⟨dx, upd_same⟩, ?_, ?_⟩
  · rw [upd_ne nap, f3.get0 h2a]; simp [Dl.new, oV]
  · rw [upd_ne nbp, h3]; simp [Dl.new]

/-! Dial.ask -/
def sp_Dial_ask (C : Addr) : Sp := fun vs H Q _ => ∃ (p a b : Addr) (d : Dl) (n : Nat) (x : Int), vs = [.ref p, .int x] ∧ DialAt C H p a b d ∧ d.Wf n ∧ p ≠ a ∧ p ≠ b ∧ a ≠ b ∧ 0 ≤ x ∧ x < 12 ∧
  ∀ t q H', Fr [p, a, b] H H' → DialAt C H' p a b (d.ask x).1 → H t = none → H q = none → H' t = some (.tup (toldV (d.ask x).2 q)) → H' q = some (.lst (natsV (d.ask x).2.passed)) → Q (.ref t) H'
theorem ok_Dial_ask (T : Txt K mg ad) : FnOk P w K mg base CX0 2 ad.a_Dial_ask ad.d_Dial_ask ["self", "page"] (sp_Dial_ask ad.C_Dial) := by
  refine T.F_Dial_ask.ok sc_Dial_ask (fun vs H Q E h => ?_) (fun cdv A outer s H vs Q E hr h => ?_)
  · obtain ⟨p, a, b, d, n, x, rfl, _⟩ := h
    rfl
  obtain ⟨p, a, b, d, n, x, rfl, hD, hW, npa, npb, nab, x0, x1, k⟩ := h
  obtain ⟨⟨dx, h1⟩, h2, h3⟩ := id hD
  obtain ⟨n0, n8, hl, sl, hd, mk⟩ := id hW
  have hml : (d.here.map oV).length = n := by rw [List.length_map]; exact hl
  refine ⟨_, (pss_cons (ps_if (pt_not (pt_val (pe_call (ok_is_page T) (hr.mono (by decide)) (by rfl) T.m_is_page T.F_is_page.kp T.b_is_page .nil pass0 (pa_cons (pv 1) pa_nil)))) (pss_one ps_never) pss_nil)
    (pss_cons (ps_if (pt_cmpR (kIn K rfl) (pv 1) (kFld (K := K) rfl (pe_fld (pv 0) rfl)) (by with_unfolding_all rfl)) (pss_cons (ps_asg pe_bl (pg_sub (kFld (K := K) rfl (pe_fld (pv 0) rfl)) (kBM (K := K) rfl (pe_bm PySem.F.plainAttrs_list PySem.F.slot_list_index PySem.F.type_list_index (kIndex K rfl) (kFld (K := K) rfl (pe_fld (pv 0) rfl)) (pa_cons (pv 1) pa_nil))) set_list))
    (pss_one (ps_ret (pe_tup (pa_cons pe_bl (pa_cons pe_non (pa_cons (pe_lst pa_nil) pa_nil))))))) pss_nil)
    (pss_cons (ps_set (i := 2) sc_Dial_ask.nd rfl (by first | exact Or.inl rfl | exact Or.inr rfl) (pe_lst pa_nil))
    (C8.pss_cut (ps_while PassesOwn.never (PW.pt (pw_and (pt_cmpR op_notN1 (pe_ix (kIxL K rfl) (kFld (K := K) rfl (pe_fld (pv 0) rfl)) (kFld (K := K) rfl (pe_fld (pv 0) rfl)) (fun _ _ => rfl)) pe_non (nomark _)) (pw_and1 (pt_val (pe_ix (kIxL K rfl) (kFld (K := K) rfl (pe_fld (pv 0) rfl)) (kFld (K := K) rfl (pe_fld (pv 0) rfl)) (fun _ _ => rfl)))))) (pss_cons (ps_asg pe_bl (pg_sub (kFld (K := K) rfl (pe_fld (pv 0) rfl)) (kFld (K := K) rfl (pe_fld (pv 0) rfl)) set_list))
    (pss_cons (ps_expr (kBM (K := K) rfl (pe_bm PySem.F.plainAttrs_list PySem.F.slot_list_append PySem.F.type_list_append mt_append (pv 2) (pa_cons (kFld (K := K) rfl (pe_fld (pv 0) rfl)) pa_nil))))
    (pss_one (ps_fld (pv 0) (pe_op op_mod (pe_op op_add (kFld (K := K) rfl (pe_fld (pv 0) rfl)) pe_int) (pe_callB (kLen K rfl) (by rfl) T.z_len (by decide +kernel) (pa_cons (kFld (K := K) rfl (pe_fld (pv 0) rfl)) pa_nil))) rfl)))))
    (pss_cons (ps_set (i := 3) sc_Dial_ask.nd rfl (by first | exact Or.inl rfl | exact Or.inr rfl) (pe_ix (kIxL K rfl) (kFld (K := K) rfl (pe_fld (pv 0) rfl)) (kFld (K := K) rfl (pe_fld (pv 0) rfl)) (fun _ _ => rfl)))
    (pss_cons (ps_asg (pv 1) (pg_sub (kFld (K := K) rfl (pe_fld (pv 0) rfl)) (kFld (K := K) rfl (pe_fld (pv 0) rfl)) set_list))
    (pss_cons (ps_asg pe_bl (pg_sub (kFld (K := K) rfl (pe_fld (pv 0) rfl)) (kFld (K := K) rfl (pe_fld (pv 0) rfl)) set_list))
    (pss_cons (ps_fld (pv 0) (pe_op op_mod (pe_op op_add (kFld (K := K) rfl (pe_fld (pv 0) rfl)) pe_int) (pe_callB (kLen K rfl) (by rfl) T.z_len (by decide +kernel) (pa_cons (kFld (K := K) rfl (pe_fld (pv 0) rfl)) pa_nil))) rfl)
    (pss_cons (ps_fldaug (pv 0) pe_int in_add)
    (pss_one (ps_ret (pe_tup (pa_cons pe_bl (pa_cons (pv 3) (pa_cons (pv 2) pa_nil))))))))))))))), ?_⟩
  try dsimp only [L2.cxOf, L2.Cx.nox]
  walk_at "cwd"
  refine c_is_page x0 x1 ?_
  walk_at "cwd"
  refine w_inL (SqL.of h2) rfl (flat_oV _) (in_oV x d.here) ?_
  walk_at "cwd"
  walk_at "cw if" <;> intro e
  · walk_at "cwd"
    refine w_index (SqL.of h2) e ?_
    have hj := List.idxOf_lt_length_iff.mpr e
    refine w_setL h3 (ixN_nat (by rw [List.length_map]; omega)) rfl ?_
    walk_at "cwd"
    rename_i q hq t ht
    have ea : d.ask x = ({ d with seen := d.seen.set (d.here.idxOf (some x)) true }, ⟨false, none, []⟩) := by unfold Dl.ask; rw [if_pos e]
    rw [ea] at k
    have hq0 : H q = none := upd_none hq
    have ht0 : H t = none := upd_none (upd_none ht)
    have ntq : q ≠ t := ne_of_none upd_same ht
    have nq : ∀ c o, H c = some o → c ≠ q := fun c o h => ne_of_none h hq0
    have nt : ∀ c o, H c = some o → c ≠ t := fun c o h => ne_of_none h ht0
    refine k t q _ (((Fr.at (by simp)).trans (Fr.new hq)).trans (Fr.new ht)) ⟨⟨dx, ?_⟩, ?_, ?_⟩ ht0 hq0 upd_same ?_
    · rw [upd_ne (nt p _ h1), upd_ne (nq p _ h1), upd_ne npb]; exact h1
    · rw [upd_ne (nt a _ h2), upd_ne (nq a _ h2), upd_ne nab]; exact h2
    · rw [upd_ne (nt b _ h3), upd_ne (nq b _ h3), upd_same, List.map_set]
    · rw [upd_ne ntq]; exact upd_same
  · walk_at "cwd"
    rename_i q hq
    have npq : p ≠ q := ne_of_none h1 hq
    have naq : a ≠ q := ne_of_none h2 hq
    have nbq : b ≠ q := ne_of_none h3 hq
    refine w_cut (fun σ H' => ∃ v, σ = [some (.ref p), some (.int x), some (.ref q), v] ∧ Fr [p, a, b] H H' ∧ H' p = some (.ins ad.C_Dial dx (dfl a b d.spin.2.1 d.lacks)) ∧ H' a = some (.lst (d.here.map oV)) ∧
      H' b = some (.lst (d.spin.1.map V.bl)) ∧ H' q = some (.lst (natsV d.spin.2.2))) ?_ ?_
    · refine f_while (fun m σ H' => ∃ (sc : List Bool) (hc : Nat) (pc : List Nat), m = sc.count true ∧ σ = [some (.ref p), some (.int x), some (.ref q), none] ∧ Fr [p, a, b] H H' ∧
        H' p = some (.ins ad.C_Dial dx (dfl a b hc d.lacks)) ∧ H' a = some (.lst (d.here.map oV)) ∧ H' b = some (.lst (sc.map V.bl)) ∧ H' q = some (.lst (natsV pc)) ∧ sc.length = n ∧ hc < n ∧ pc.length + sc.count true ≤ 8 ∧
        (∀ i : Nat, sc[i]? = some true → d.seen[i]? = some true) ∧ ((Cw.spin n (sc.count true) sc hc).1, (Cw.spin n (sc.count true) sc hc).2.1, pc ++ (Cw.spin n (sc.count true) sc hc).2.2) = d.spin)
        (d.seen.count true) ⟨d.seen, d.hand, [], rfl, rfl, Fr.new hq, ?_, ?_, ?_, upd_same, sl, hd, ?_, fun _ h => h, ?_⟩ ?_
      · rw [upd_ne npq]; exact h1
      · rw [upd_ne naq]; exact h2
      · rw [upd_ne nbq]; exact h3
      · have := List.count_le_length (a := true) (l := d.seen)
        simp
        omega
      · unfold Dl.spin
        rw [hl]
        simp
      rintro m σ H1 ⟨sc, hc, pc, rfl, rfl, F, g1, g2, g3, g4, cl, ch, cz, cs, ce⟩
      have hat : atI (d.here.map oV) (hc : Int) = some (oV d.here[hc]) := atI_nat (by rw [List.getElem?_map, List.getElem?_eq_getElem (by omega)]; rfl)
      have sat : atI (sc.map V.bl) (hc : Int) = some (.bl sc[hc]) := atI_nat (by rw [List.getElem?_map, List.getElem?_eq_getElem (by omega)]; rfl)
      have gs : sc[hc]? = some sc[hc] := List.getElem?_eq_getElem (by omega)
      -- the hand stops
      have fin : ¬ sc[hc]? = some true → ∃ v, [some (V.ref p), some (.int x), some (.ref q), none] = [some (.ref p), some (.int x), some (.ref q), v] ∧ Fr [p, a, b] H H1 ∧ H1 p = some (.ins ad.C_Dial dx (dfl a b d.spin.2.1 d.lacks)) ∧ H1 a = some (.lst (d.here.map oV)) ∧
          H1 b = some (.lst (d.spin.1.map V.bl)) ∧ H1 q = some (.lst (natsV d.spin.2.2)) := fun z => by
        rw [spin_stop z] at ce
        rw [← ce]
        exact ⟨none, rfl, F, g1, g2, g3, by simpa using g4⟩
      walk_at "cwd"
      walk_at "cw if" <;> intro e1
      · walk_at "cwd"
        walk_at "cw if" <;> intro e2
        · rw [e2] at gs
          walk_at "cwd"
          refine w_turn ?_
          have co := count_off gs
          have go := spin_go (n := n) gs
          walk_at "cwd"
          refine w_setL g3 (ixN_nat (by rw [List.length_map]; omega)) List.map_set.symm ?_
          have nqb : q ≠ b := ne_s nbq
          have nqp : q ≠ p := ne_s npq
          walk_at "cwd"
          refine w_append (xs := natsV pc) (by walk_at "cw at") (sz_lt (by simp [natsV]; omega)) ?_
          walk_at "cwd"
          refine ⟨p, _, dx, _, rfl, (by walk_at "cw at"), T.cl_Dial, T.n_Dial_hand, dfl_len _ _ _ _, ?_⟩
          have em : ((hc : Int) + 1) % (n : Int) = (((hc + 1) % n : Nat) : Int) := by rw [Int.natCast_emod, Int.natCast_add]; rfl
          rw [hml, dfl_hand, em]
          rw [go] at ce
          refine ⟨(sc.set hc false).count true, by omega, sc.set hc false, (hc + 1) % n, pc ++ [hc], rfl, rfl, ?_, upd_same, ?_, ?_, ?_, by simp [cl], Nat.mod_lt _ n0, by simp; omega, fun i hi => ?_, ?_⟩
          · exact ((F.trans (Fr.at (by simp))).comp (W1 := [q]) (Fr.at (by simp)) (by simp [hq])).trans (Fr.at (by simp))
          · rw [upd_ne (ne_s npa), upd_ne naq, upd_ne nab]; exact g2
          · rw [upd_ne (ne_s npb), upd_ne nbq, upd_same]
          · rw [upd_ne nqp, upd_same]; simp [natsV]
          · by_cases hi' : i = hc
            · rw [hi', List.getElem?_set_self (by omega)] at hi; cases hi
            · rw [List.getElem?_set_ne (fun z => hi' z.symm)] at hi; exact cs i hi
          · rw [← ce]; simp
        · walk_at "cwd"
          exact fin (by rw [gs, e2]; simp)
      · walk_at "cwd"
        refine fin fun z => ?_
        obtain ⟨y, hy⟩ := mk hc (cs hc z)
        rw [List.getElem?_eq_getElem (by omega)] at hy
        rw [Option.some.inj hy] at e1
        cases e1
    · rintro σ H1 ⟨v, rfl, F, g1, g2, g3, g4⟩
      have hf := spin_facts n0 (d.seen.count true) d.seen d.hand (Nat.le_refl _) sl hd
      have es : d.spin = Cw.spin n (d.seen.count true) d.seen d.hand := by unfold Dl.spin; rw [hl]
      rw [← es] at hf
      obtain ⟨f1, f2, f3, f4⟩ := hf
      have hat : atI (d.here.map oV) (d.spin.2.1 : Int) = some (oV (d.here[d.spin.2.1]?).join) := atI_nat (by rw [List.getElem?_map, List.getElem?_eq_getElem (by omega)]; rfl)
      walk_at "cwd"
      refine w_setL g2 (ixN_nat (by rw [List.length_map]; omega)) (show (d.here.map oV).set d.spin.2.1 (oV (some x)) = _ from List.map_set.symm) ?_
      walk_at "cwd"
      refine w_setL (xs := d.spin.1.map V.bl) (by walk_at "cw at") (ixN_nat (by rw [List.length_map]; omega)) List.map_set.symm ?_
      walk_at "cwd"
      have hml2 : ((d.here.set d.spin.2.1 (some x)).map oV).length = n := by rw [List.length_map, List.length_set]; exact hl
      rw [hml2]
      walk_at "cwd"
      rename_i t ht
      have em : ((d.spin.2.1 : Int) + 1) % (n : Int) = (((d.spin.2.1 + 1) % d.here.length : Nat) : Int) := by rw [hl, Int.natCast_emod, Int.natCast_add]; rfl
      have ea : d.ask x = (⟨d.here.set d.spin.2.1 (some x), d.spin.1.set d.spin.2.1 true, (d.spin.2.1 + 1) % d.here.length, d.lacks + 1⟩, ⟨true, (d.here[d.spin.2.1]?).join, d.spin.2.2⟩) := by unfold Dl.ask; rw [if_neg e]
      rw [ea] at k
      have ht1 : H1 t = none := upd_none (upd_none (upd_none (upd_none ht)))
      have ntp : p ≠ t := ne_of_none g1 ht1
      have nta : a ≠ t := ne_of_none g2 ht1
      have ntb : b ≠ t := ne_of_none g3 ht1
      have ntq : q ≠ t := ne_of_none g4 ht1
      refine k t q _ (((((F.trans (Fr.at (by simp))).trans (Fr.at (by simp))).trans (Fr.at (by simp))).trans (Fr.at (by simp))).trans (Fr.new ht)) ⟨⟨dx, ?_⟩, ?_, ?_⟩ (F.free ht1) hq upd_same ?_
      · rw [upd_ne ntp, upd_same, em]; rfl
      · rw [upd_ne nta, upd_ne (ne_s npa), upd_ne (ne_s npa), upd_ne nab, upd_same]
      · rw [upd_ne ntb, upd_ne (ne_s npb), upd_ne (ne_s npb), upd_same]
      · rw [upd_ne ntq, upd_ne (ne_s npq), upd_ne (ne_s npq), upd_ne (ne_s nbq), upd_ne (ne_s naq)]; exact g4

/-! Dial.pages -/
def sp_Dial_pages (C : Addr) : Sp := fun vs H Q _ => ∃ (p a b : Addr) (d : Dl), vs = [.ref p] ∧ DialAt C H p a b d ∧ ∀ l H', Fr [] H H' → H l = none → H' l = some (.lst (d.here.map oV)) → Q (.ref l) H'
theorem ok_Dial_pages (T : Txt K mg ad) : FnOk P w K mg base CX0 1 ad.a_Dial_pages ad.d_Dial_pages ["self"] (sp_Dial_pages ad.C_Dial) := by
  refine T.F_Dial_pages.ok sc_Dial_pages (fun vs H Q E h => ?_) (fun cdv A outer s H vs Q E hr h => ?_)
  · obtain ⟨p, a, b, d, rfl, _⟩ := h
    rfl
  obtain ⟨p, a, b, d, rfl, ⟨⟨dx, h1⟩, h2, h3⟩, k⟩ := h
  refine ⟨_, (pss_one (ps_ret (pe_callTy (kList K rfl) (by rfl) T.z_list (by decide +kernel) (pa_cons (kFld (K := K) rfl (pe_fld (pv 0) rfl)) pa_nil)))), ?_⟩
  walk_at "cwd"
  rename_i l hl
  exact k l _ (Fr.new hl) hl upd_same

/-! Dial.looked -/
def sp_Dial_looked (C : Addr) : Sp := fun vs H Q _ => ∃ (p a b : Addr) (d : Dl), vs = [.ref p] ∧ DialAt C H p a b d ∧ ∀ l H', Fr [] H H' → H l = none → H' l = some (.lst (d.seen.map V.bl)) → Q (.ref l) H'
theorem ok_Dial_looked (T : Txt K mg ad) : FnOk P w K mg base CX0 1 ad.a_Dial_looked ad.d_Dial_looked ["self"] (sp_Dial_looked ad.C_Dial) := by
  refine T.F_Dial_looked.ok sc_Dial_looked (fun vs H Q E h => ?_) (fun cdv A outer s H vs Q E hr h => ?_)
  · obtain ⟨p, a, b, d, rfl, _⟩ := h
    rfl
  obtain ⟨p, a, b, d, rfl, ⟨⟨dx, h1⟩, h2, h3⟩, k⟩ := h
  refine ⟨_, (pss_one (ps_ret (pe_callTy (kList K rfl) (by rfl) T.z_list (by decide +kernel) (pa_cons (kFld (K := K) rfl (pe_fld (pv 0) rfl)) pa_nil)))), ?_⟩
  walk_at "cwd"
  rename_i l hl
  exact k l _ (Fr.new hl) hl upd_same

/-! Dial.points -/
def sp_Dial_points (C : Addr) : Sp := fun vs H Q _ => ∃ (p a b : Addr) (d : Dl), vs = [.ref p] ∧ DialAt C H p a b d ∧ Q (.int (d.hand : Nat)) H
theorem ok_Dial_points (T : Txt K mg ad) : FnOk P w K mg base CX0 1 ad.a_Dial_points ad.d_Dial_points ["self"] (sp_Dial_points ad.C_Dial) := by
  refine T.F_Dial_points.ok sc_Dial_points (fun vs H Q E h => ?_) (fun cdv A outer s H vs Q E hr h => ?_)
  · obtain ⟨p, a, b, d, rfl, _⟩ := h
    rfl
  obtain ⟨p, a, b, d, rfl, ⟨⟨dx, h1⟩, h2, h3⟩, k⟩ := h
  refine ⟨_, (pss_one (ps_ret (kFld (K := K) rfl (pe_fld (pv 0) rfl)))), ?_⟩
  walk_at "cwd"
  exact k

/-! Dial.lacked -/
def sp_Dial_lacked (C : Addr) : Sp := fun vs H Q _ => ∃ (p a b : Addr) (d : Dl), vs = [.ref p] ∧ DialAt C H p a b d ∧ Q (.int (d.lacks : Nat)) H
theorem ok_Dial_lacked (T : Txt K mg ad) : FnOk P w K mg base CX0 1 ad.a_Dial_lacked ad.d_Dial_lacked ["self"] (sp_Dial_lacked ad.C_Dial) := by
  refine T.F_Dial_lacked.ok sc_Dial_lacked (fun vs H Q E h => ?_) (fun cdv A outer s H vs Q E hr h => ?_)
  · obtain ⟨p, a, b, d, rfl, _⟩ := h
    rfl
  obtain ⟨p, a, b, d, rfl, ⟨⟨dx, h1⟩, h2, h3⟩, k⟩ := h
  refine ⟨_, (pss_one (ps_ret (kFld (K := K) rfl (pe_fld (pv 0) rfl)))), ?_⟩
  walk_at "cwd"
  exact k

/-! round_told -/
def sp_round_told (K : PySem.W.Frag) : Sp := fun vs H Q _ => ∃ (n : Int) (a : Addr) (ns : List Int), vs = [.int n, .ref a] ∧ 1 ≤ n ∧ n ≤ 8 ∧ SqL K H a (ns.map V.int) ∧ RowOk ns ∧
  ∀ p F H', Fr [] H H' → Own H H' (.ref p) (.list ((askAll (Dl.new n.toNat) ns).map tlD)) F → Q (.ref p) H'
theorem c_round_told {H : Hp} {Q : VK} {E : XK} {n : Int} {a : Addr} {ns : List Int} (n0 : 1 ≤ n) (n8 : n ≤ 8) (h : SqL K H a (ns.map V.int)) (hR : RowOk ns)
    (k : ∀ p F H', Fr [] H H' → Own H H' (.ref p) (.list ((askAll (Dl.new n.toNat) ns).map tlD)) F → Q (.ref p) H') : sp_round_told K ([.int n, .ref a] ++ []) H Q E := ⟨n, a, ns, rfl, n0, n8, h, hR, k⟩
theorem ok_round_told (T : Txt K mg ad) : FnOk P w K mg base CX0 4 ad.a_round_told ad.d_round_told ["rooms", "row"] (sp_round_told K) := by
  refine T.F_round_told.ok sc_round_told (fun vs H Q E h => ?_) (fun cdv A outer s H vs Q E hr h => ?_)
  · obtain ⟨n, a, ns, rfl, _⟩ := h
    rfl
  obtain ⟨n, a, ns, rfl, n0, n8, hS, ⟨hz, hp⟩, k⟩ := h
  refine ⟨_, (pss_cons (ps_set (i := 2) sc_round_told.nd rfl (by first | exact Or.inl rfl | exact Or.inr rfl) (pe_make T.mk_Dial (ok_Dial_init T) (hr.mono (by decide)) (by rfl) T.m_Dial T.b_Dial_init .nil pass0 (pa_cons (pv 0) pa_nil)))
    (pss_one (ps_ret (pe_lc (own := [("page", 3)]) (by rfl) sc_round_told.nd (kIL (K := K) rfl (pi_list (pv 1))) (blkOk_by (own := [("page", 3)]) (N := N_round_told) (sc := defScope s_round_told) (by decide +kernel)) (fun _ _ _ _ _ => (pg_name (i := 3) sc_round_told.nd rfl (by first | exact Or.inl rfl | exact Or.inr rfl))) (fun _ _ _ _ _ => pts_nil) (fun _ _ _ _ _ => (pe_meth (pv 2) T.cl_Dial T.mt_Dial_ask (ok_Dial_ask T) (hr.mono (by decide)) T.b_Dial_ask .nil pass0 (pa_cons (pv 3) pa_nil))))))), ?_⟩
  try dsimp only [L2.cxOf, L2.Cx.nox]
  walk_at "cwd"
  intro x dx hx hdx ndx
  refine ⟨x, dx, n, rfl, upd_same, n0, n8, fun u v H1 f1 hu hv nuv D1 => ⟨rfl, ?_⟩⟩
  have f0 : Fr [] H (upd (upd H dx (.own x)) x (.ins ad.C_Dial dx [])) := (Fr.new hdx).trans (Fr.new ((upd_ne (ne_s ndx)).trans hx))
  have F1 : Fr [] H H1 := f0.comp f1 (by simp [hx])
  have nxu : x ≠ u := ne_of_none upd_same hu
  have nxv : x ≠ v := ne_of_none upd_same hv
  obtain ⟨⟨dx1, g1⟩, g2, g3⟩ := id D1
  have hu0 : H u = none := f0.free hu
  have hv0 : H v = none := f0.free hv
  walk_at "cwd"
  refine l_list (ns.map V.int) (F1.seqL hS) (fun D i acc H' => Fr [] H H' ∧ Fr [x, u, v, D] (upd H1 D (.lst [])) H' ∧ DialAt ad.C_Dial H' x u v (endAll (Dl.new n.toNat) (ns.take i)) ∧ ∃ F, OwnAll (upd H1 D (.lst [])) H' acc ((askAll (Dl.new n.toNat) (ns.take i)).map tlD) F)
    (fun D hD => ⟨F1.more (Fr.new hD), .refl, D1.keep0 (Fr.new hD), [], .nil⟩) (fun D i acc H' hD h _ => h.1.seqL hS) ?_ ?_
  · rintro D i y acc H' hD hi ⟨F, F2, hd, G, hn⟩ hacc hl
    obtain ⟨z, hz', rfl⟩ := int_at hi
    have hzl := (List.getElem?_eq_some_iff.mp hz').1
    obtain ⟨z0, z1⟩ := hp z (List.mem_of_getElem? hz')
    have W := endAll_wf (Dl.new n.toNat) (ns.take i) (Dl.Wf.new (n := n.toNat) (by omega) (by omega))
    obtain ⟨⟨dx2, k1⟩, k2, k3⟩ := id hd
    walk_at "cwd"
    refine w_methR k1 (lk_no _ _ _ _ (by decide +kernel) (by decide +kernel) (by decide +kernel) (by decide +kernel)) ?_
    walk_at "cwd"
    refine ⟨x, u, v, _, n.toNat, z, rfl, hd, W, nxu, nxv, nuv, z0, z1, fun t q H4 f4 D4 ht hq e1 e2 => ?_⟩
    have nD : D ∉ [x, u, v] := by
      simp only [List.mem_cons, List.not_mem_nil, or_false, not_or]
      exact ⟨fun e => ne_of_none g1 hD e.symm, fun e => ne_of_none g2 hD e.symm, fun e => ne_of_none g3 hD e.symm⟩
    have tk : ∀ w ∈ [x, u, v], upd H1 D (.lst []) w ≠ none := by
      intro w hw
      simp only [List.mem_cons, List.not_mem_nil, or_false] at hw
      rcases hw with rfl | rfl | rfl
      · exact ne_of_some ((upd_ne (ne_of_none g1 hD)).trans g1)
      · exact ne_of_some ((upd_ne (ne_of_none g2 hD)).trans g2)
      · exact ne_of_some ((upd_ne (ne_of_none g3 hD)).trans g3)
    have tD : upd H1 D (.lst []) D ≠ none := ne_of_some upd_same
    have ht1 := F2.free ht
    have hq1 := F2.free hq
    refine lc_end (f4.get hacc nD) hl (by omega) ⟨?_, ?_, ?_, ?_⟩
    · refine Fr.loc (F.comp f4 fun w m => ?_) (F1.free hD)
      simp only [List.mem_cons, List.not_mem_nil, or_false] at m
      rcases m with rfl | rfl | rfl
      · exact .inr hx
      · exact .inr hu0
      · exact .inr hv0
    · refine (F2.trans (f4.mono (W' := [x, u, v, D]) fun w m => ?_)).trans (Fr.at (by simp))
      simp only [List.mem_cons, List.not_mem_nil, or_false] at m ⊢
      rcases m with h | h | h <;> simp [h]
    · rw [take_snoc hz', endAll_app]
      exact D4.keep (W := [D]) (Fr.at (by simp)) (by simp; exact fun e => nD (by simp [e])) (by simp; exact fun e => nD (by simp [e])) (by simp; exact fun e => nD (by simp [e]))
    · rw [take_snoc hz', askAll_app, List.map_append]
      have hn4 := hn.step (W := [x, u, v]) tk f4
      refine ⟨G ++ [q], OwnAll.step (W := [D]) (by simpa using tD) (Fr.at (by simp)) (hn4.snoc (.tl _ ht1 hq1 e1 e2) fun y hy hyG => ?_)⟩
      rw [List.mem_singleton.mp hy] at hyG
      obtain ⟨_, ys, hys⟩ := hn.mem q hyG
      rw [hys] at hq
      cases hq
  · rintro D acc H' hD ⟨F, F2, hd, G, hn⟩ hacc hl
    rw [List.length_map, List.take_length] at hn
    refine k D (D :: G) H' F (.lst (F1.free hD) hacc ((hn.base (Fr.new hD : Fr [] H1 _)).base F1) fun m => ?_)
    have := (hn.mem D m).1
    rw [upd_same] at this
    cases this

/-! told -/
def sp_told (K : PySem.W.Frag) : Sp := fun vs H Q _ => ∃ (n : Int) (a : Addr) (ns : List Int), vs = [.int n, .ref a] ∧ 1 ≤ n ∧ n ≤ 8 ∧ SqL K H a (ns.map V.int) ∧ RowOk ns ∧
  ∀ p F H', Fr [] H H' → Own H H' (.ref p) (.list ((askAll (Dl.new n.toNat) ns).map tlD)) F → Q (.ref p) H'
theorem c_told {H : Hp} {Q : VK} {E : XK} {n : Int} {a : Addr} {ns : List Int} (n0 : 1 ≤ n) (n8 : n ≤ 8) (h : SqL K H a (ns.map V.int)) (hR : RowOk ns)
    (k : ∀ p F H', Fr [] H H' → Own H H' (.ref p) (.list ((askAll (Dl.new n.toNat) ns).map tlD)) F → Q (.ref p) H') : sp_told K ([.int n, .ref a] ++ []) H Q E := ⟨n, a, ns, rfl, n0, n8, h, hR, k⟩
theorem ok_told (T : Txt K mg ad) : FnOk P w K mg base CX0 5 ad.a_told ad.d_told ["rooms", "row"] (sp_told K) := by
  refine T.F_told.ok sc_told (fun vs H Q E h => ?_) (fun cdv A outer s H vs Q E hr h => ?_)
  · obtain ⟨n, a, ns, rfl, _⟩ := h
    rfl
  obtain ⟨n, a, ns, rfl, n0, n8, hS, hR, k⟩ := h
  refine ⟨_, (pss_cons (ps_expr (pe_call (ok_need_both T) (hr.mono (by decide)) (by rfl) T.m_need_both T.F_need_both.kp T.b_need_both .nil pass0 (pa_cons (pv 0) (pa_cons (pv 1) pa_nil))))
    (pss_one (ps_ret (pe_call (ok_round_told T) (hr.mono (by decide)) (by rfl) T.m_round_told T.F_round_told.kp T.b_round_told .nil pass0 (pa_cons (pv 0) (pa_cons (pv 1) pa_nil)))))), ?_⟩
  walk_at "cwd"
  refine c_need_both n0 n8 hS hR fun H1 f1 => ?_
  walk_at "cwd"
  refine c_round_told n0 n8 (f1.seqL hS) hR fun p F H2 f2 hO => ?_
  exact k p F H2 (f1.trans f2) (hO.base f1)

/-! need_rule -/
/-- the rules' names -/
def IsRule (z : Str) : Prop := z = Str.ofString "hand" ∨ z = Str.ofString "unseen" ∨ z = Str.ofString "first"
theorem rule_ne1 : ¬ (Str.ofString "unseen" = Str.ofString "hand") := by decide +kernel
theorem rule_ne2 : ¬ (Str.ofString "first" = Str.ofString "hand") := by decide +kernel
theorem rule_ne3 : ¬ (Str.ofString "first" = Str.ofString "unseen") := by decide +kernel
def sp_need_rule : Sp := fun vs H Q _ => ∃ z : Str, vs = [.str z] ∧ IsRule z ∧ Q .non H
theorem c_need_rule {H : Hp} {Q : VK} {E : XK} {z : Str} (h : IsRule z) (q : Q .non H) : sp_need_rule ([.str z] ++ []) H Q E := ⟨z, rfl, h, q⟩
theorem ok_need_rule (T : Txt K mg ad) : FnOk P w K mg base CX0 1 ad.a_need_rule ad.d_need_rule ["rule"] sp_need_rule := by
  refine T.F_need_rule.ok sc_need_rule (fun vs H Q E h => ?_) (fun cdv A outer s H vs Q E hr h => ?_)
  · obtain ⟨z, rfl, _⟩ := h
    rfl
  obtain ⟨z, rfl, hz, q⟩ := h
  refine ⟨_, (pss_one (ps_if (pt_cmpR (kNi K rfl) (pv 0) (pe_glob (v := .ref ad.a_RULES) rfl T.m_RULES rfl) (by with_unfolding_all rfl)) (pss_one ps_never) pss_nil)), ?_⟩
  try dsimp only [L2.cxOf, L2.Cx.nox]
  obtain ⟨xs, hx, hT⟩ := T.k_RULES
  walk_at "cw"
  refine ⟨ad.a_RULES, xs, rfl, .inr (hT H), rfl, by rw [hx]; rfl, ?_⟩
  have e : inV (.str z) xs = true := by
    rw [hx]
    rcases hz with rfl | rfl | rfl <;> simp [inV, eqV]
  rw [if_pos rfl, e]
  walk_at "cw"
  exact q

/-! by_row -/
def sp_by_row (K : PySem.W.Frag) : Sp := fun vs H Q _ => ∃ (n : Int) (a : Addr) (z : Str) (ns : List Int), vs = [.int n, .ref a, .str z] ∧ 1 ≤ n ∧ n ≤ 8 ∧ SqL K H a (ns.map V.int) ∧ ns.length ≤ 100 ∧
  ∀ p H', Fr [] H H' → H p = none → H' p = some (.lst ((keepAll n.toNat (decide (z = Str.ofString "unseen")) [] ns).map V.bl)) → Q (.ref p) H'
theorem c_by_row {H : Hp} {Q : VK} {E : XK} {n : Int} {a : Addr} {z : Str} {ns : List Int} (n0 : 1 ≤ n) (n8 : n ≤ 8) (h : SqL K H a (ns.map V.int)) (hz : ns.length ≤ 100)
    (k : ∀ p H', Fr [] H H' → H p = none → H' p = some (.lst ((keepAll n.toNat (decide (z = Str.ofString "unseen")) [] ns).map V.bl)) → Q (.ref p) H') : sp_by_row K ([.int n, .ref a, .str z] ++ []) H Q E := ⟨n, a, z, ns, rfl, n0, n8, h, hz, k⟩
def byRow_mid (H0 : Hp) (n : Int) (a : Addr) (z : Str) (f : Addr) (x : Int) (bs : List Bool) (kept : List Int) : L2.St → Hp → Prop := fun σ H => ∃ kp, σ = [some (.int n), some (.ref a), some (.str z), some (.ref kp), some (.ref f), some (.int x)] ∧
  Fr [] H0 H ∧ H0 kp = none ∧ kp ≠ f ∧ H kp = some (.lst (kept.map V.int)) ∧ H f = some (.lst (bs.map V.bl))
theorem ok_by_row (T : Txt K mg ad) : FnOk P w K mg base CX0 1 ad.a_by_row ad.d_by_row ["rooms", "row", "rule"] (sp_by_row K) := by
  refine T.F_by_row.ok sc_by_row (fun vs H Q E h => ?_) (fun cdv A outer s H vs Q E hr h => ?_)
  · obtain ⟨n, a, z, ns, rfl, _⟩ := h
    rfl
  obtain ⟨n, a, z, ns, rfl, n0, n8, hS, hz, k⟩ := h
  refine ⟨_, (pss_cons (ps_set (i := 3) sc_by_row.nd rfl (by first | exact Or.inl rfl | exact Or.inr rfl) (pe_lst pa_nil))
    (pss_cons (ps_set (i := 4) sc_by_row.nd rfl (by first | exact Or.inl rfl | exact Or.inr rfl) (pe_lst pa_nil))
    (pss_cons (ps_for PassesOwn.never rfl (kIL (K := K) rfl (pi_list (pv 1))) (pg_name (i := 5) sc_by_row.nd rfl (by first | exact Or.inl rfl | exact Or.inr rfl)) (pss_cons (ps_expr (kBM (K := K) rfl (pe_bm PySem.F.plainAttrs_list PySem.F.slot_list_append PySem.F.type_list_append mt_append (pv 4) (pa_cons (pe_cmpR (kNi K rfl) (pv 5) (pv 3) (by with_unfolding_all rfl)) pa_nil))))
    (C8.pss_cut (ps_if (PW.pt (pw_and (pt_cmpR (kIn K rfl) (pv 5) (pv 3) (by with_unfolding_all rfl)) (pw_and1 (pt_cmpR op_eq (pv 2) (pe_glob (v := .str (Str.ofString "unseen")) rfl T.m_UNSEEN ⟨_, rfl⟩) (nomark _))))) (pss_cons (ps_expr (kBM (K := K) rfl (pe_bm PySem.F.plainAttrs_list PySem.F.slot_list_remove PySem.F.type_list_remove mt_remove (pv 3) (pa_cons (pv 5) pa_nil))))
    (pss_one (ps_expr (kBM (K := K) rfl (pe_bm PySem.F.plainAttrs_list PySem.F.slot_list_append PySem.F.type_list_append mt_append (pv 3) (pa_cons (pv 5) pa_nil)))))) pss_nil)
    (pss_one (ps_if (pt_cmpR (kNi K rfl) (pv 5) (pv 3) (by with_unfolding_all rfl)) (pss_one (ps_set (i := 3) sc_by_row.nd rfl (by first | exact Or.inl rfl | exact Or.inr rfl) (pe_slice (kSlL K rfl) (pe_op op_cat (pv 3) (pe_lst (pa_cons (pv 5) pa_nil))) (po_some (pe_un un_neg (pv 0))) po_none))) pss_nil)))))
    (pss_one (ps_ret (pv 4)))))), ?_⟩
  try dsimp only [L2.cxOf, L2.Cx.nox]
  walk_at "cwd"
  rename_i kp hkp f hf
  have hf0 : H f = none := upd_none hf
  have nkf : kp ≠ f := ne_of_none upd_same hf
  refine f_list (ns.map V.int) (fun i σ H' => ∃ (kp : Addr) (v : Option V), σ = [some (.int n), some (.ref a), some (.str z), some (.ref kp), some (.ref f), v] ∧ Fr [] H H' ∧ H kp = none ∧ kp ≠ f ∧
    H' kp = some (.lst ((keepEnd n.toNat (decide (z = Str.ofString "unseen")) [] (ns.take i)).map V.int)) ∧ H' f = some (.lst ((keepAll n.toNat (decide (z = Str.ofString "unseen")) [] (ns.take i)).map V.bl)))
    ⟨kp, none, rfl, (Fr.new hkp).trans (Fr.new hf), hkp, nkf, (upd_ne nkf).trans upd_same, upd_same⟩ (fun i σ H' _ ⟨_, _, _, f, _⟩ => f.seqL hS) ?_ ?_
  · rintro i y σ H' hi ⟨kp, v, rfl, F, hkp, nkf, h1, h2⟩
    obtain ⟨x, hx, rfl⟩ := int_at hi
    have hxl := (List.getElem?_eq_some_iff.mp hx).1
    have hk := keepEnd_ok (rooms := n.toNat) (by omega) (decide (z = Str.ofString "unseen")) [] (ns.take i) ⟨List.nodup_nil, Nat.zero_le _⟩
    have hbl : (keepAll n.toNat (decide (z = Str.ofString "unseen")) [] (ns.take i)).length = i := by rw [keepAll_len, List.length_take]; omega
    have est : keepEnd n.toNat (decide (z = Str.ofString "unseen")) [] (ns.take (i + 1)) = keepS n.toNat (decide (z = Str.ofString "unseen")) (keepEnd n.toNat (decide (z = Str.ofString "unseen")) [] (ns.take i)) x := by
      rw [take_snoc hx, keepEnd_app]; rfl
    have ebs : keepAll n.toNat (decide (z = Str.ofString "unseen")) [] (ns.take (i + 1)) = keepAll n.toNat (decide (z = Str.ofString "unseen")) [] (ns.take i) ++ [decide (x ∉ keepEnd n.toNat (decide (z = Str.ofString "unseen")) [] (ns.take i))] := by
      rw [take_snoc hx, keepAll_app]; rfl
    rw [est, ebs]
    generalize keepEnd n.toNat (decide (z = Str.ofString "unseen")) [] (ns.take i) = kept at *
    generalize keepAll n.toNat (decide (z = Str.ofString "unseen")) [] (ns.take i) = bs at *
    obtain ⟨nd, le⟩ := hk
    walk_at "cwd"
    refine w_cut (byRow_mid H n a z f x (bs ++ [decide (x ∉ kept)]) (if x ∈ kept then keepS n.toNat (decide (z = Str.ofString "unseen")) kept x else kept)) ?_ ?_
    · walk_at "cwd"
      walk_at "cw if" <;> intro e
      · walk_at "cwd"
        walk_at "cw if" <;> intro e2
        · walk_at "cwd"
          refine w_remI (by walk_at "cw at") e ?_
          have hle := List.length_erase_of_mem e
          walk_at "cwd"
          rw [upd_upd]
          refine ⟨kp, rfl, (F.loc hf0).loc hkp, hkp, nkf, upd_same.trans ?_, (upd_ne (ne_s nkf)).trans (upd_same.trans (by simp))⟩
          rw [if_pos e]
          unfold keepS
          rw [if_pos e, decide_eq_true e2]
          simp
        · walk_at "cwd"
          refine ⟨kp, rfl, F.loc hf0, hkp, nkf, (upd_ne nkf).trans (h1.trans ?_), upd_same.trans (by simp)⟩
          rw [if_pos e]
          unfold keepS
          rw [if_pos e, decide_eq_false e2]
          simp
      · walk_at "cwd"
        exact ⟨kp, rfl, F.loc hf0, hkp, nkf, (upd_ne nkf).trans (h1.trans (by rw [if_neg e])), upd_same.trans (by simp)⟩
    rintro σ H2 ⟨kq, rfl, F2, hkq, nkq, g1, g2⟩
    by_cases e : x ∈ kept
    · rw [if_pos e] at g1
      have e' : x ∈ keepS n.toNat (decide (z = Str.ofString "unseen")) kept x := by
        unfold keepS
        rw [if_pos e]
        split
        · simp
        · exact e
      walk_at "cwd"
      refine ite_dF (fun q => q e') ?_
      walk_at "cwd"
      exact ⟨kq, _, rfl, F2, hkq, nkq, g1, g2⟩
    · rw [if_neg e] at g1
      walk_at "cwd"
      rename_i p1 hp1 p2 hp2 p3 hp3
      have hp3' : H2 p3 = none := upd_none (upd_none hp3)
      refine ⟨p3, _, rfl, ((F2.more (Fr.new hp1)).more (Fr.new hp2)).more (Fr.new hp3), F2.free hp3', fun q => ne_of_none g2 hp3' q.symm, upd_same.trans ?_, ?_⟩
      · rw [cut_last _ (by omega)]
        have el : kept.map V.int ++ [V.int x] = (kept ++ [x]).map V.int := by simp
        rw [el, ← List.map_drop, List.length_map]
        unfold keepS
        rw [if_neg e]
        congr 3
        rw [List.length_append, List.drop_append_of_le_length]
        · congr 2
          simp
          split <;> omega
        · simp
          omega
      · rw [upd_ne (ne_of_none g2 hp3'), upd_ne (ne_of_none g2 (upd_none hp2)), upd_ne (ne_of_none g2 hp1)]
        exact g2
  · rintro σ H' ⟨kp, v, rfl, F, hkp, nkf, h1, h2⟩
    rw [List.length_map, List.take_length] at h2
    walk_at "cwd"
    exact k f H' F hf0 h2

/-! all_lacking -/
def sp_all_lacking (K : PySem.W.Frag) : Sp := fun vs H Q _ => ∃ (n : Int) (a : Addr) (z : Str) (ns : List Int), vs = [.int n, .ref a, .str z] ∧ 1 ≤ n ∧ n ≤ 8 ∧ SqL K H a (ns.map V.int) ∧ RowOk ns ∧
  ∀ p H', Fr [] H H' → H p = none → H' p = some (.lst ((lackB n.toNat z ns).map V.bl)) → Q (.ref p) H'
theorem c_all_lacking {H : Hp} {Q : VK} {E : XK} {n : Int} {a : Addr} {z : Str} {ns : List Int} (n0 : 1 ≤ n) (n8 : n ≤ 8) (h : SqL K H a (ns.map V.int)) (hR : RowOk ns)
    (k : ∀ p H', Fr [] H H' → H p = none → H' p = some (.lst ((lackB n.toNat z ns).map V.bl)) → Q (.ref p) H') : sp_all_lacking K ([.int n, .ref a, .str z] ++ []) H Q E := ⟨n, a, z, ns, rfl, n0, n8, h, hR, k⟩
theorem ok_all_lacking (T : Txt K mg ad) : FnOk P w K mg base CX0 5 ad.a_all_lacking ad.d_all_lacking ["rooms", "row", "rule"] (sp_all_lacking K) := by
  refine T.F_all_lacking.ok sc_all_lacking (fun vs H Q E h => ?_) (fun cdv A outer s H vs Q E hr h => ?_)
  · obtain ⟨n, a, z, ns, rfl, _⟩ := h
    rfl
  obtain ⟨n, a, z, ns, rfl, n0, n8, hS, hR, k⟩ := h
  unfold lackB at k
  refine ⟨_, (pss_cons (ps_if (pt_cmpR op_eq (pv 2) (pe_glob (v := .str (Str.ofString "hand")) rfl T.m_HAND ⟨_, rfl⟩) (nomark _)) (pss_one (ps_ret (pe_lc (own := [("one", 3)]) (by rfl) sc_all_lacking.nd (kIL (K := K) rfl (pi_list (pe_call (ok_round_told T) (hr.mono (by decide)) (by rfl) T.m_round_told T.F_round_told.kp T.b_round_told .nil pass0 (pa_cons (pv 0) (pa_cons (pv 1) pa_nil))))) (blkOk_by (own := [("one", 3)]) (N := N_all_lacking) (sc := defScope s_all_lacking) (by decide +kernel)) (fun _ _ _ _ _ => (pg_name (i := 3) sc_all_lacking.nd rfl (by first | exact Or.inl rfl | exact Or.inr rfl))) (fun _ _ _ _ _ => pts_nil) (fun _ _ _ _ _ => (pe_ix (kIxT K rfl) (pv 3) pe_int (fun _ _ => rfl)))))) pss_nil)
    (pss_one (ps_ret (pe_call (ok_by_row T) (hr.mono (by decide)) (by rfl) T.m_by_row T.F_by_row.kp T.b_by_row .nil pass0 (pa_cons (pv 0) (pa_cons (pv 1) (pa_cons (pv 2) pa_nil))))))), ?_⟩
  try dsimp only [L2.cxOf, L2.Cx.nox]
  walk_at "cwd"
  walk_at "cw if" <;> intro e
  · rw [if_pos e] at k
    walk_at "cwd"
    refine c_round_told n0 n8 hS hR fun p G H1 f1 hO => ?_
    obtain ⟨xs, G', _, hp, hx, hn0, _⟩ := own_list hO
    have hn := hn0.nwa (K := K)
    walk_at "cwd"
    have hlen := dpall_len hn.now
    refine l_list xs (SqL.of hx) (fun D i acc H' => Fr [] H1 H' ∧ acc = (((askAll (Dl.new n.toNat) ns).map Tl.lack).take i).map V.bl) (fun D hD => ⟨Fr.new hD, rfl⟩) (fun D i acc H' hD h _ => h.1.seqL (SqL.of hx)) ?_ ?_
    · rintro D i y acc H' hD hi ⟨F, rfl⟩ hacc hl
      have hil := (List.getElem?_eq_some_iff.mp hi).1
      rw [hlen, List.length_map] at hil
      have hd : ((askAll (Dl.new n.toNat) ns).map tlD)[i]? = some (tlD (askAll (Dl.new n.toNat) ns)[i]) := by rw [List.getElem?_map, List.getElem?_eq_getElem hil]; rfl
      obtain ⟨y', hy, hdp⟩ := dpall_get hn.now hd
      rw [hi] at hy
      cases hy
      have hdp' := F.dp _ _ hdp
      unfold tlD at hdp'
      cases hdp' with
      | @tup t zs _ hsq hza =>
      cases hza with
      | @cons v1 vr _ _ hv1 hvr =>
      cases hv1
      have hb : ((askAll (Dl.new n.toNat) ns).map Tl.lack)[i]? = some (askAll (Dl.new n.toNat) ns)[i].lack := by rw [List.getElem?_map, List.getElem?_eq_getElem hil]; rfl
      walk_at "cwd"
      have hr100 := hR.1
      rw [askAll_len] at hil
      exact lc_end hacc hl (by omega) ⟨F.loc hD, by rw [take_snoc hb, List.map_append]; rfl⟩
    · rintro D acc H' hD ⟨F, rfl⟩ hacc hl
      rw [List.take_of_length_le (by rw [hlen, List.length_map, List.length_map]; omega)] at hacc
      exact k D H' (f1.trans F) (f1.free hD) hacc
  · rw [if_neg e] at k
    walk_at "cwd"
    exact c_by_row n0 n8 hS hR.1 k

/-! lacking -/
def sp_lacking (K : PySem.W.Frag) : Sp := fun vs H Q _ => ∃ (n : Int) (a : Addr) (z : Str) (ns : List Int), vs = [.int n, .ref a, .str z] ∧ 1 ≤ n ∧ n ≤ 8 ∧ IsRule z ∧ SqL K H a (ns.map V.int) ∧ RowOk ns ∧
  ∀ p H', Fr [] H H' → H p = none → H' p = some (.lst ((places (lackB n.toNat z ns)).map V.int)) → Q (.ref p) H'
theorem c_lacking {H : Hp} {Q : VK} {E : XK} {n : Int} {a : Addr} {z : Str} {ns : List Int} (n0 : 1 ≤ n) (n8 : n ≤ 8) (hz : IsRule z) (h : SqL K H a (ns.map V.int)) (hR : RowOk ns)
    (k : ∀ p H', Fr [] H H' → H p = none → H' p = some (.lst ((places (lackB n.toNat z ns)).map V.int)) → Q (.ref p) H') : sp_lacking K ([.int n, .ref a, .str z] ++ []) H Q E := ⟨n, a, z, ns, rfl, n0, n8, hz, h, hR, k⟩
theorem ok_lacking (T : Txt K mg ad) : FnOk P w K mg base CX0 6 ad.a_lacking ad.d_lacking ["rooms", "row", "rule"] (sp_lacking K) := by
  refine T.F_lacking.ok sc_lacking (fun vs H Q E h => ?_) (fun cdv A outer s H vs Q E hr h => ?_)
  · obtain ⟨n, a, z, ns, rfl, _⟩ := h
    rfl
  obtain ⟨n, a, z, ns, rfl, n0, n8, hz, hS, hR, k⟩ := h
  refine ⟨_, (pss_cons (ps_expr (pe_call (ok_need_both T) (hr.mono (by decide)) (by rfl) T.m_need_both T.F_need_both.kp T.b_need_both .nil pass0 (pa_cons (pv 0) (pa_cons (pv 1) pa_nil))))
    (pss_cons (ps_expr (pe_call (ok_need_rule T) (hr.mono (by decide)) (by rfl) T.m_need_rule T.F_need_rule.kp T.b_need_rule .nil pass0 (pa_cons (pv 2) pa_nil)))
    (pss_one (ps_ret (pe_lc (own := [("place", 3), ("one", 4)]) (by rfl) sc_lacking.nd (kIE (K := K) rfl (pi_enum (by rfl) T.z_enumerate (pa_cons (pe_call (ok_all_lacking T) (hr.mono (by decide)) (by rfl) T.m_all_lacking T.F_all_lacking.kp T.b_all_lacking .nil pass0 (pa_cons (pv 0) (pa_cons (pv 1) (pa_cons (pv 2) pa_nil)))) pa_nil))) (blkOk_by (own := [("place", 3), ("one", 4)]) (N := N_lacking) (sc := defScope s_lacking) (by decide +kernel)) (fun _ _ _ _ _ => (kTup (K := K) (n := 2) rfl (pg_tup (by rfl) (pgs_cons (pg_name (i := 3) sc_lacking.nd rfl (by first | exact Or.inl rfl | exact Or.inr rfl)) (pgs_cons (pg_name (i := 4) sc_lacking.nd rfl (by first | exact Or.inl rfl | exact Or.inr rfl)) pgs_nil))))) (fun _ _ _ _ _ => pts_one (pt_val (pv 4))) (fun _ _ _ _ _ => (pv 3))))))), ?_⟩
  try dsimp only [L2.cxOf, L2.Cx.nox]
  walk_at "cwd"
  refine c_need_both n0 n8 hS hR fun H1 f1 => ?_
  walk_at "cwd"
  refine c_need_rule hz ?_
  walk_at "cwd"
  refine c_all_lacking n0 n8 (f1.seqL hS) hR fun p H2 f2 hp hx => ?_
  walk_at "cwd"
  have hbl := lackB_len n.toNat z ns
  generalize lackB n.toNat z ns = bs at *
  refine l_enum (bs.map V.bl) (SqL.of hx) (fun D i acc H' => Fr [] H2 H' ∧ acc = (places (bs.take i)).map V.int) (fun D hD => ⟨Fr.new hD, rfl⟩) (fun D i acc H' hD h _ => h.1.seqL (SqL.of hx)) ?_ ?_
  · rintro D i y t acc H' hD hi ⟨F, rfl⟩ hacc hl ht
    rw [List.getElem?_map] at hi
    obtain ⟨b, hb, rfl⟩ := Option.map_eq_some_iff.mp hi
    have hil := (List.getElem?_eq_some_iff.mp hb).1
    have hr100 := hR.1
    have hti : (bs.take i).length = i := by rw [List.length_take]; omega
    have eb : places (bs.take (i + 1)) = places (bs.take i) ++ (if b then [(i : Int)] else []) := by rw [take_snoc hb, places_snoc, hti]
    have nDt : D ≠ t := ne_of_none hacc ht
    walk_at "cwd"
    walk_at "cw if" <;> intro e
    · walk_at "cwd"
      exact lc_end ((upd_ne nDt).trans hacc) hl (by omega) ⟨(F.more (Fr.new ht)).loc hD, by rw [eb, if_pos e, List.map_append]; rfl⟩
    · walk_at "cwd"
      exact ⟨_, ⟨F.more (Fr.new ht), by rw [eb, e]; simp⟩, (upd_ne nDt).trans hacc, by omega⟩
  · rintro D acc H' hD ⟨F, rfl⟩ hacc hl
    rw [List.length_map, List.take_length] at hacc
    exact k D H' ((f1.trans f2).trans F) (f1.free (f2.free hD)) hacc

/-! all_stretches -/
def sp_all_stretches (K : PySem.W.Frag) : Sp := fun vs H Q _ => ∃ (n : Int) (a : Addr) (ns : List Int), vs = [.int n, .ref a] ∧ 1 ≤ n ∧ n ≤ 8 ∧ SqL K H a (ns.map V.int) ∧ ns.length ≤ 100 ∧
  ∀ p xs H', Fr [] H H' → H p = none → H' p = some (.lst xs) → PairsAt H H' xs (parts n.toNat ns) → Q (.ref p) H'
theorem c_all_stretches {H : Hp} {Q : VK} {E : XK} {n : Int} {a : Addr} {ns : List Int} (n0 : 1 ≤ n) (n8 : n ≤ 8) (h : SqL K H a (ns.map V.int)) (hl : ns.length ≤ 100)
    (k : ∀ p xs H', Fr [] H H' → H p = none → H' p = some (.lst xs) → PairsAt H H' xs (parts n.toNat ns) → Q (.ref p) H') : sp_all_stretches K ([.int n, .ref a] ++ []) H Q E := ⟨n, a, ns, rfl, n0, n8, h, hl, k⟩
/-- what is found ahead of a turn -/
def strAt (n : Nat) (ns : List Int) (i : Nat) : List (Int × Int) × Int := if i < ns.length then ((cst n (ns.take (i + 1))).out, ((cst n (ns.take (i + 1))).b : Int)) else (parts n ns, (ns.length : Int))
theorem ok_all_stretches (T : Txt K mg ad) : FnOk P w K mg base CX0 1 ad.a_all_stretches ad.d_all_stretches ["rooms", "row"] (sp_all_stretches K) := by
  refine T.F_all_stretches.ok sc_all_stretches (fun vs H Q E h => ?_) (fun cdv A outer s H vs Q E hr h => ?_)
  · obtain ⟨n, a, ns, rfl, _⟩ := h
    rfl
  obtain ⟨n, a, ns, rfl, n0, n8, hS, hl, k⟩ := h
  refine ⟨_, (pss_cons (ps_set (i := 2) sc_all_stretches.nd rfl (by first | exact Or.inl rfl | exact Or.inr rfl) (pe_lst pa_nil))
    (pss_cons (ps_set (i := 3) sc_all_stretches.nd rfl (by first | exact Or.inl rfl | exact Or.inr rfl) pe_int)
    (pss_cons (ps_for PassesOwn.never rfl (pi_range2 (by rfl) T.z_range (pa_cons pe_int (pa_cons (pe_op op_add (pe_callB (kLen K rfl) (by rfl) T.z_len (by decide +kernel) (pa_cons (pv 1) pa_nil)) pe_int) pa_nil))) (pg_name (i := 4) sc_all_stretches.nd rfl (by first | exact Or.inl rfl | exact Or.inr rfl)) (pss_one (ps_if (PW.pt (pw_or (pt_cmpR op_eq (pv 4) (pe_callB (kLen K rfl) (by rfl) T.z_len (by decide +kernel) (pa_cons (pv 1) pa_nil)) (nomark _)) (pw_or1 (pt_cmpR op_gt (pe_lenSetD (K := K) rfl (by rfl) T.z_len (by rfl) T.z_set (pe_slice (kSlL K rfl) (pv 1) (po_some (pv 3)) (po_some (pe_op op_add (pv 4) pe_int)))) (pv 0) (nomark _))))) (pss_cons (ps_expr (kBM (K := K) rfl (pe_bm PySem.F.plainAttrs_list PySem.F.slot_list_append PySem.F.type_list_append mt_append (pv 2) (pa_cons (pe_tup (pa_cons (pv 3) (pa_cons (pv 4) pa_nil))) pa_nil))))
    (pss_one (ps_set (i := 3) sc_all_stretches.nd rfl (by first | exact Or.inl rfl | exact Or.inr rfl) (pv 4)))) pss_nil)))
    (pss_one (ps_ret (pv 2)))))), ?_⟩
  walk_at "cws"
  rename_i f hf
  have hml : (ns.map V.int).length = ns.length := List.length_map _
  generalize hE : upd H f (.lst []) = H1
  have F1 : Fr [] H H1 := hE ▸ Fr.new hf
  have h1 : H1 f = some (.lst []) := hE ▸ upd_same
  clear hE
  have tk : ∀ w ∈ [f], H1 w ≠ none := by simp [h1]
  refine f_rng2 (lo := 1) (hi := ((ns.map V.int).length : Int) + 1) (by decide) (by decide) (by omega) (by omega) (fun i σ H' => ∃ (v : Option V) (xs : List V), σ = [some (.int n), some (.ref a), some (.ref f), some (.int (strAt n.toNat ns i).2), v] ∧ Fr [] H H' ∧ Fr [f] H1 H' ∧
    H' f = some (.lst xs) ∧ xs.length ≤ i ∧ PairsAt H1 H' xs (strAt n.toNat ns i).1) ⟨none, [], ?_, F1, .refl, h1, Nat.le_refl _, ?_⟩ ?_ ?_
  · unfold strAt
    split
    · rename_i hp
      have : (cst n.toNat (ns.take (0 + 1))).b = 0 := by
        cases ns with
        | nil => simp at hp
        | cons x r =>
          have e : cst n.toNat ((x :: r).take (0 + 1)) = cstep n.toNat ⟨[], 0, [], 0⟩ x := rfl
          rw [e]
          unfold cstep
          split <;> rfl
      rw [this]; rfl
    · rename_i hp
      have : ns = [] := List.eq_nil_of_length_eq_zero (by omega)
      subst this
      rfl
  · unfold strAt
    split
    · rename_i hp
      have : (cst n.toNat (ns.take (0 + 1))).out = [] := by
        cases ns with
        | nil => simp at hp
        | cons x r =>
          have e : cst n.toNat ((x :: r).take (0 + 1)) = cstep n.toNat ⟨[], 0, [], 0⟩ x := rfl
          rw [e]
          unfold cstep
          rw [if_neg (by simp [firsts]; omega)]
      rw [this]; exact .nil
    · rename_i hp
      have : ns = [] := List.eq_nil_of_length_eq_zero (by omega)
      subst this
      exact .nil
  · rintro i σ H2 hi ⟨v, xs, rfl, F, F2, g1, gl, gn⟩
    have hil : i < ns.length := by omega
    have hsq := F.seqL hS
    have eS : strAt n.toNat ns i = ((cst n.toNat (ns.take (i + 1))).out, ((cst n.toNat (ns.take (i + 1))).b : Int)) := if_pos hil
    rw [eS] at gn ⊢
    have hok := cst_ok (rooms := n.toNat) (by omega) (ns.take (i + 1))
    obtain ⟨c1, c2, c3, c4, c5, c6, c7⟩ := hok
    -- a stretch is told
    have app : ∀ H2 : Hp, Fr [] H H2 → Fr [f] H1 H2 → H2 f = some (.lst xs) → PairsAt H1 H2 xs (cst n.toNat (ns.take (i + 1))).out → ∀ p, H2 p = none → ∀ (v' : Option V) (q : Int) (nb : Int) (out' : List (Int × Int)), q = 1 + (i : Int) → strAt n.toNat ns (i + 1) = (out', nb) → out' = (cst n.toNat (ns.take (i + 1))).out ++ [(((cst n.toNat (ns.take (i + 1))).b : Int), q)] →
        ∃ (v : Option V) (ys : List V), [some (V.int n), some (.ref a), some (.ref f), some (.int nb), v'] = [some (.int n), some (.ref a), some (.ref f), some (.int (strAt n.toNat ns (i + 1)).2), v] ∧
          Fr [] H (upd (upd H2 p (.tup [.int (cst n.toNat (ns.take (i + 1))).b, .int q])) f (.lst (xs ++ [.ref p]))) ∧ Fr [f] H1 (upd (upd H2 p (.tup [.int (cst n.toNat (ns.take (i + 1))).b, .int q])) f (.lst (xs ++ [.ref p]))) ∧
          (upd (upd H2 p (.tup [.int (cst n.toNat (ns.take (i + 1))).b, .int q])) f (.lst (xs ++ [.ref p]))) f = some (.lst ys) ∧ ys.length ≤ i + 1 ∧ PairsAt H1 (upd (upd H2 p (.tup [.int (cst n.toNat (ns.take (i + 1))).b, .int q])) f (.lst (xs ++ [.ref p]))) ys (strAt n.toNat ns (i + 1)).1 := by
      intro H2 F F2 g1 gn p hp v' q nb out' hq e1 e2
      have npf : p ≠ f := ne_s (ne_of_none g1 hp)
      rw [e1]
      refine ⟨v', xs ++ [.ref p], rfl, (F.more (Fr.new hp)).loc hf, (F2.trans (Fr.new hp)).trans (Fr.at (by simp)), upd_same, by simp; omega, ?_⟩
      show PairsAt H1 _ _ out'
      rw [e2]
      exact PairsAt.step (W := [f]) (PairsAt.snoc (gn.step (W := []) (by simp) (Fr.new hp)) (F2.free hp) upd_same) tk (Fr.at (by simp))
    have ht100 : ((ns.take (i + 2)).drop (cst n.toNat (ns.take (i + 1))).b).length ≤ 4000 := by simp; omega
    walk_at "cws"
    walk_at "cw if" <;> intro e
    · walk_at "cws"
      rename_i p hp
      have hne : ns ≠ [] := by intro z; subst z; simp at hil
      have htk : ns.take (i + 1) = ns := List.take_of_length_le (by omega)
      refine app H2 F F2 g1 gn p hp _ (1 + (i : Int)) (1 + (i : Int)) (parts n.toNat ns) rfl ?_ ?_
      · unfold strAt
        rw [if_neg (by omega)]
        rw [show (ns.length : Int) = 1 + (i : Int) by omega]
      · unfold parts
        rw [if_neg hne, htk, show (ns.length : Int) = 1 + (i : Int) by omega]
    · have hi2 : i + 1 < ns.length := by omega
      obtain ⟨x, hx⟩ : ∃ x, ns[i + 1]? = some x := ⟨ns[i + 1], List.getElem?_eq_getElem hi2⟩
      have e2 : ns.take (i + 2) = ns.take (i + 1) ++ [x] := take_snoc hx
      have eT : strAt n.toNat ns (i + 1) = ((cst n.toNat (ns.take (i + 2))).out, ((cst n.toNat (ns.take (i + 2))).b : Int)) := if_pos hi2
      have cl : (ns.take (i + 1)).length = i + 1 := by rw [List.length_take]; omega
      rw [cl] at c1
      have eseg : (ns.take (i + 2)).drop (cst n.toNat (ns.take (i + 1))).b = (cst n.toNat (ns.take (i + 1))).seg ++ [x] := by
        rw [e2, List.drop_append_of_le_length (by omega), c3]
      walk_at "cws"
      rename_i p hp
      refine ⟨p, (ns.take (i + 2)).drop (cst n.toNat (ns.take (i + 1))).b, rfl, SqL.of (upd_same.trans ?_), ht100, ?_⟩
      · rw [show 1 + (i : Int) + 1 = ((i + 2 : Nat) : Int) by omega]
        show some (HO.lst (cutV _ (some (((cst n.toNat (ns.take (i + 1))).b : Nat) : Int)) _)) = _
        rw [cut_ints]
      rw [eseg]
      have ov := over_rooms (rooms := n.toNat) (x := x) c4
      have hnn : ((n.toNat : Nat) : Int) = n := by omega
      rw [hnn] at ov
      walk_at "cws"
      have npf : f ≠ p := ne_of_none g1 hp
      have F' := F.more (Fr.new hp (o := .lst (cutV (ns.map V.int) (some ((cst n.toNat (ns.take (i + 1))).b : Int)) (some (1 + (i : Int) + 1)))))
      walk_at "cw if" <;> intro e3
      · have o := ov.mp e3
        have est : cst n.toNat (ns.take (i + 2)) = ⟨(cst n.toNat (ns.take (i + 1))).out ++ [(((cst n.toNat (ns.take (i + 1))).b : Int), ((cst n.toNat (ns.take (i + 1))).n : Int))], (cst n.toNat (ns.take (i + 1))).n, [x], (cst n.toNat (ns.take (i + 1))).n + 1⟩ := by
          rw [e2, cst_snoc]
          unfold cstep
          rw [if_pos o]
        walk_at "cws"
        rename_i p3 hp3
        refine app _ F' (F2.trans (Fr.new hp)) ((upd_ne npf).trans g1) (gn.step (W := []) (by simp) (Fr.new hp)) p3 hp3 _ (1 + (i : Int)) (1 + (i : Int)) (cst n.toNat (ns.take (i + 2))).out rfl ?_ ?_
        · rw [eT, est, c1]
          show (_, (((i + 1 : Nat) : Int))) = _
          rw [show ((i + 1 : Nat) : Int) = 1 + (i : Int) by omega]
        · rw [est, c1]
          show _ ++ [(_, (((i + 1 : Nat) : Int)))] = _
          rw [show ((i + 1 : Nat) : Int) = 1 + (i : Int) by omega]
      · have o := fun z => e3 (ov.mpr z)
        have est : cst n.toNat (ns.take (i + 2)) = ⟨(cst n.toNat (ns.take (i + 1))).out, (cst n.toNat (ns.take (i + 1))).b, (cst n.toNat (ns.take (i + 1))).seg ++ [x], (cst n.toNat (ns.take (i + 1))).n + 1⟩ := by
          rw [e2, cst_snoc]
          unfold cstep
          rw [if_neg o]
        walk_at "cws"
        rw [eT, est]
        exact ⟨_, xs, rfl, F', F2.trans (Fr.new hp), (upd_ne npf).trans g1, by omega, gn.step (W := []) (by simp) (Fr.new hp)⟩
  · rintro σ H2 ⟨v, xs, rfl, F, F2, g1, gl, gn⟩
    have eS : strAt n.toNat ns (((ns.map V.int).length : Int) + 1 - 1).toNat = (parts n.toNat ns, (ns.length : Int)) := if_neg (by omega)
    rw [eS] at gn ⊢
    walk_at "cws"
    exact k f xs H2 F hf g1 (gn.base F1)

/-! stretches -/
def sp_stretches (K : PySem.W.Frag) : Sp := fun vs H Q _ => ∃ (n : Int) (a : Addr) (ns : List Int), vs = [.int n, .ref a] ∧ 1 ≤ n ∧ n ≤ 8 ∧ SqL K H a (ns.map V.int) ∧ RowOk ns ∧
  ∀ p xs H', Fr [] H H' → H p = none → H' p = some (.lst xs) → PairsAt H H' xs (parts n.toNat ns) → Q (.ref p) H'
theorem c_stretches {H : Hp} {Q : VK} {E : XK} {n : Int} {a : Addr} {ns : List Int} (n0 : 1 ≤ n) (n8 : n ≤ 8) (h : SqL K H a (ns.map V.int)) (hR : RowOk ns)
    (k : ∀ p xs H', Fr [] H H' → H p = none → H' p = some (.lst xs) → PairsAt H H' xs (parts n.toNat ns) → Q (.ref p) H') : sp_stretches K ([.int n, .ref a] ++ []) H Q E := ⟨n, a, ns, rfl, n0, n8, h, hR, k⟩
theorem ok_stretches (T : Txt K mg ad) : FnOk P w K mg base CX0 4 ad.a_stretches ad.d_stretches ["rooms", "row"] (sp_stretches K) := by
  refine T.F_stretches.ok sc_stretches (fun vs H Q E h => ?_) (fun cdv A outer s H vs Q E hr h => ?_)
  · obtain ⟨n, a, ns, rfl, _⟩ := h
    rfl
  obtain ⟨n, a, ns, rfl, n0, n8, hS, hR, k⟩ := h
  refine ⟨_, (pss_cons (ps_expr (pe_call (ok_need_both T) (hr.mono (by decide)) (by rfl) T.m_need_both T.F_need_both.kp T.b_need_both .nil pass0 (pa_cons (pv 0) (pa_cons (pv 1) pa_nil))))
    (pss_one (ps_ret (pe_call (ok_all_stretches T) (hr.mono (by decide)) (by rfl) T.m_all_stretches T.F_all_stretches.kp T.b_all_stretches .nil pass0 (pa_cons (pv 0) (pa_cons (pv 1) pa_nil)))))), ?_⟩
  walk_at "cws"
  refine c_need_both n0 n8 hS hR fun H1 f1 => ?_
  walk_at "cws"
  refine c_all_stretches n0 n8 (f1.seqL hS) hR.1 fun p xs H2 f2 hp hx hn => ?_
  exact k p xs H2 (f1.trans f2) (f1.free hp) hx (hn.base f1)

/-! lacking_in -/
def sp_lacking_in (K : PySem.W.Frag) : Sp := fun vs H Q _ => ∃ (n : Int) (a : Addr) (z : Str) (ns : List Int), vs = [.int n, .ref a, .str z] ∧ 1 ≤ n ∧ n ≤ 8 ∧ IsRule z ∧ SqL K H a (ns.map V.int) ∧ RowOk ns ∧
  ∀ p H', Fr [] H H' → H p = none → H' p = some (.lst ((counts (lackB n.toNat z ns) (parts n.toNat ns)).map V.int)) → Q (.ref p) H'
theorem c_lacking_in {H : Hp} {Q : VK} {E : XK} {n : Int} {a : Addr} {z : Str} {ns : List Int} (n0 : 1 ≤ n) (n8 : n ≤ 8) (hz : IsRule z) (h : SqL K H a (ns.map V.int)) (hR : RowOk ns)
    (k : ∀ p H', Fr [] H H' → H p = none → H' p = some (.lst ((counts (lackB n.toNat z ns) (parts n.toNat ns)).map V.int)) → Q (.ref p) H') : sp_lacking_in K ([.int n, .ref a, .str z] ++ []) H Q E := ⟨n, a, z, ns, rfl, n0, n8, hz, h, hR, k⟩
theorem ok_lacking_in (T : Txt K mg ad) : FnOk P w K mg base CX0 6 ad.a_lacking_in ad.d_lacking_in ["rooms", "row", "rule"] (sp_lacking_in K) := by
  refine T.F_lacking_in.ok sc_lacking_in (fun vs H Q E h => ?_) (fun cdv A outer s H vs Q E hr h => ?_)
  · obtain ⟨n, a, z, ns, rfl, _⟩ := h
    rfl
  obtain ⟨n, a, z, ns, rfl, n0, n8, hz, hS, hR, k⟩ := h
  refine ⟨_, (pss_cons (ps_expr (pe_call (ok_need_both T) (hr.mono (by decide)) (by rfl) T.m_need_both T.F_need_both.kp T.b_need_both .nil pass0 (pa_cons (pv 0) (pa_cons (pv 1) pa_nil))))
    (pss_cons (ps_expr (pe_call (ok_need_rule T) (hr.mono (by decide)) (by rfl) T.m_need_rule T.F_need_rule.kp T.b_need_rule .nil pass0 (pa_cons (pv 2) pa_nil)))
    (pss_cons (ps_set (i := 3) sc_lacking_in.nd rfl (by first | exact Or.inl rfl | exact Or.inr rfl) (pe_call (ok_all_lacking T) (hr.mono (by decide)) (by rfl) T.m_all_lacking T.F_all_lacking.kp T.b_all_lacking .nil pass0 (pa_cons (pv 0) (pa_cons (pv 1) (pa_cons (pv 2) pa_nil)))))
    (pss_one (ps_ret (pe_lc (own := [("begin", 4), ("end", 5)]) (by rfl) sc_lacking_in.nd (kIL (K := K) rfl (pi_list (pe_call (ok_all_stretches T) (hr.mono (by decide)) (by rfl) T.m_all_stretches T.F_all_stretches.kp T.b_all_stretches .nil pass0 (pa_cons (pv 0) (pa_cons (pv 1) pa_nil))))) (blkOk_by (own := [("begin", 4), ("end", 5)]) (N := N_lacking_in) (sc := defScope s_lacking_in) (by decide +kernel)) (fun _ _ _ _ _ => (kTup (K := K) (n := 2) rfl (pg_tup (by rfl) (pgs_cons (pg_name (i := 4) sc_lacking_in.nd rfl (by first | exact Or.inl rfl | exact Or.inr rfl)) (pgs_cons (pg_name (i := 5) sc_lacking_in.nd rfl (by first | exact Or.inl rfl | exact Or.inr rfl)) pgs_nil))))) (fun _ _ _ _ _ => pts_nil) (fun _ _ _ _ _ => (pe_callB (kLen K rfl) (by rfl) T.z_len (by decide +kernel) (pa_cons (pe_lc (own := [("place", 6)]) (by rfl) sc_lacking_in.nd (pi_range2 (by rfl) T.z_range (pa_cons (pv 4) (pa_cons (pv 5) pa_nil))) (blkOk_by (own := [("place", 6)]) (N := N_lacking_in) (sc := (relS { kind := PySem.ScopeKind.function, names := [ (PySem.Str.ofString ".0", PySem.NameKind.local), (PySem.Str.ofString "begin", PySem.NameKind.local), (PySem.Str.ofString "end", PySem.NameKind.local), (PySem.Str.ofString "len", PySem.NameKind.globalImplicit), (PySem.Str.ofString "range", PySem.NameKind.globalImplicit), (PySem.Str.ofString "lacks", PySem.NameKind.free)], isGenerator := false, isCoroutine := false, more := [] : PySem.Scope } (defScope s_lacking_in))) (by decide +kernel)) (fun _ _ _ _ _ => (pg_name (i := 6) sc_lacking_in.nd rfl (by first | exact Or.inl rfl | exact Or.inr rfl))) (fun _ _ _ _ _ => pts_one (pt_val (pe_ix (kIxL K rfl) (pv 3) (pv 6) (fun _ _ => rfl)))) (fun _ _ _ _ _ => (pv 6))) pa_nil))))))))), ?_⟩
  walk_at "cws"
  refine c_need_both n0 n8 hS hR fun H1 f1 => ?_
  walk_at "cws"
  refine c_need_rule hz ?_
  walk_at "cws"
  refine c_all_lacking n0 n8 (f1.seqL hS) hR fun p H2 f2 hp hx => ?_
  walk_at "cws"
  refine c_all_stretches n0 n8 ((f1.trans f2).seqL hS) hR.1 fun p2 xs H3 f3 hp2 hx2 hn0 => ?_
  have hn := hn0.nwa (K := K)
  have hlen := dpall_len hn.now
  rw [List.length_map] at hlen
  have hpl := parts_len (rooms := n.toNat) (by omega) ns
  have hpm := parts_mem (rooms := n.toNat) (by omega) ns
  have hbl := lackB_len n.toNat z ns
  have hr100 := hR.1
  have hx3 := f3.get0 hx
  generalize lackB n.toNat z ns = bs at *
  generalize parts n.toNat ns = ps at *
  walk_at "cws"
  refine l_list xs (SqL.of hx2) (fun D i acc H' => Fr [] H3 H' ∧ acc = (counts bs (ps.take i)).map V.int) (fun D hD => ⟨Fr.new hD, rfl⟩) (fun D i acc H' hD h _ => SqL.of (h.1.get0 hx2)) ?_ ?_
  · rintro D i y acc H' hD hi ⟨F, rfl⟩ hacc hl
    have hil := (List.getElem?_eq_some_iff.mp hi).1
    obtain ⟨⟨b, e⟩, he⟩ : ∃ e, ps[i]? = some e := ⟨ps[i], List.getElem?_eq_getElem (by omega)⟩
    obtain ⟨b0, be, en⟩ := hpm _ (List.mem_of_getElem? he)
    obtain ⟨y', hy, hdp⟩ := dpall_get hn.now (i := i) (d := pairD (b, e)) (by rw [List.getElem?_map, he]; rfl)
    rw [hi] at hy
    cases hy
    obtain ⟨t, rfl, ht⟩ := dp_pair hdp
    have ht' := F.seqT ht
    obtain ⟨b', rfl⟩ : ∃ b' : Nat, b = (b' : Int) := ⟨b.toNat, by omega⟩
    obtain ⟨e', rfl⟩ : ∃ e' : Nat, e = (e' : Int) := ⟨e.toNat, by omega⟩
    have be' : (b' : Int) < e' := be
    have en' : (e' : Int) ≤ ns.length := en
    walk_at "cws"
    refine l_rng2 (lo := (b' : Int)) (hi := (e' : Int)) (by omega) (by omega) (by omega) (by omega) (fun D2 j acc2 H2' => Fr [] H' H2' ∧ acc2 = (cntL bs b' (b' + j)).map V.int) (fun D2 hD2 => ⟨Fr.new hD2, by rw [Nat.add_zero, cntL_start]; rfl⟩) ?_ ?_
    · rintro D2 j acc2 H4 hD2 hj ⟨F4, rfl⟩ hacc2 hl2
      have hjl : b' + j < bs.length := by omega
      have hv : bs[b' + j]? = some bs[b' + j] := List.getElem?_eq_getElem hjl
      have hat : atI (bs.map V.bl) ((b' : Int) + (j : Int)) = some (.bl bs[b' + j]) := by
        rw [show (b' : Int) + (j : Int) = ((b' + j : Nat) : Int) by omega]
        exact atI_nat (by rw [List.getElem?_map, hv]; rfl)
      have es : cntL bs b' (b' + (j + 1)) = _ := cntL_succ (b := b') (e := b' + j) (by omega) hv
      have hx4 := (F.trans F4).get0 hx3
      walk_at "cws"
      walk_at "cw if" <;> intro e2
      · walk_at "cws"
        exact lc_end hacc2 hl2 (by omega) ⟨F4.loc hD2, by rw [es, if_pos e2, List.map_append]; rfl⟩
      · exact ⟨_, ⟨F4, by rw [es, e2]; simp⟩, hacc2, by omega⟩
    · rintro D2 acc2 H4 hD2 ⟨F4, rfl⟩ hacc2 hl2
      rw [show b' + (((e' : Int) - (b' : Int)).toNat) = e' by omega] at hacc2
      walk_at "cws"
      refine lc_end (F4.get0 hacc) hl (by omega) ⟨(F.trans F4).loc hD, ?_⟩
      rw [take_snoc he]
      unfold counts
      rw [List.map_append, List.map_append, List.length_map]
      rfl
  · rintro D acc H' hD ⟨F, rfl⟩ hacc hl
    rw [hlen, List.take_length] at hacc
    exact k D H' (((f1.trans f2).trans f3).trans F) (f1.free (f2.free (f3.free hD))) hacc

/-! all_rows -/
def sp_all_rows (K : PySem.W.Frag) : Sp := fun vs H Q _ => ∃ p n : Nat, vs = [.int p, .int n] ∧ 1 ≤ p ∧ p ≤ 12 ∧ n ≤ 100 ∧ p ^ n ≤ 5000 ∧
  ∀ q xs H', Fr [] H H' → H q = none → H' q = some (.lst xs) → RowsAt [q] H H' xs (rowsM p n) → Q (.ref q) H'
theorem c_all_rows {H : Hp} {Q : VK} {E : XK} {p n : Nat} (p1 : 1 ≤ p) (p12 : p ≤ 12) (hn : n ≤ 100) (hf : p ^ n ≤ 5000)
    (k : ∀ q xs H', Fr [] H H' → H q = none → H' q = some (.lst xs) → RowsAt [q] H H' xs (rowsM p n) → Q (.ref q) H') : sp_all_rows K ([.int p, .int n] ++ []) H Q E := ⟨p, n, rfl, p1, p12, hn, hf, k⟩
theorem ok_all_rows (T : Txt K mg ad) : FnOk P w K mg base CX0 1 ad.a_all_rows ad.d_all_rows ["pages", "long"] (sp_all_rows K) := by
  refine T.F_all_rows.ok sc_all_rows (fun vs H Q E h => ?_) (fun cdv A outer s H vs Q E hr h => ?_)
  · obtain ⟨p, n, rfl, _⟩ := h
    rfl
  obtain ⟨p, n, rfl, p1, p12, hn, hf, k⟩ := h
  refine ⟨_, (pss_cons (ps_set (i := 2) sc_all_rows.nd rfl (by first | exact Or.inl rfl | exact Or.inr rfl) (pe_lst (pa_cons (pe_lst pa_nil) pa_nil)))
    (pss_cons (ps_for PassesOwn.never rfl (pi_range1 (by rfl) T.z_range (pa_cons (pv 1) pa_nil)) (pg_name (i := 3) sc_all_rows.nd rfl (by first | exact Or.inl rfl | exact Or.inr rfl)) (pss_cons (ps_set (i := 4) sc_all_rows.nd rfl (by first | exact Or.inl rfl | exact Or.inr rfl) (pe_lst pa_nil))
    (pss_cons (ps_for PassesOwn.never rfl (kIL (K := K) rfl (pi_list (pv 2))) (pg_name (i := 5) sc_all_rows.nd rfl (by first | exact Or.inl rfl | exact Or.inr rfl)) (pss_one (ps_expr (kBM (K := K) rfl (pe_bm PySem.F.plainAttrs_list PySem.F.slot_list_extend PySem.F.type_list_extend mt_extend (pv 4) (pa_cons (pe_lc (own := [("page", 6)]) (by rfl) sc_all_rows.nd (pi_range1 (by rfl) T.z_range (pa_cons (pv 0) pa_nil)) (blkOk_by (own := [("page", 6)]) (N := N_all_rows) (sc := defScope s_all_rows) (by decide +kernel)) (fun _ _ _ _ _ => (pg_name (i := 6) sc_all_rows.nd rfl (by first | exact Or.inl rfl | exact Or.inr rfl))) (fun _ _ _ _ _ => pts_nil) (fun _ _ _ _ _ => (pe_op op_cat (pv 5) (pe_lst (pa_cons (pv 6) pa_nil))))) pa_nil))))))
    (pss_one (ps_set (i := 2) sc_all_rows.nd rfl (by first | exact Or.inl rfl | exact Or.inr rfl) (pv 4))))))
    (pss_one (ps_ret (pv 2))))), ?_⟩
  walk_at "cwk"
  rename_i el hel fl hfl
  have nef : el ≠ fl := ne_n hfl upd_same
  refine f_rng1 (by omega) (by omega) (fun i σ H' => ∃ fl xs v3 v4 v5, σ = [some (.int p), some (.int n), some (.ref fl), v3, v4, v5, none] ∧ Fr [] H H' ∧ H fl = none ∧ H' fl = some (.lst xs) ∧ RowsAt [fl] H H' xs (rowsM p i))
    ⟨fl, _, _, _, _, rfl, (Fr.new hel).trans (Fr.new hfl), upd_none hfl, upd_same, .one hel (by simpa using nef) ((upd_ne nef).trans upd_same)⟩ ?_ ?_
  · rintro i σ H2 hi ⟨fl, xs, v3, v4, v5, rfl, F2, hfl0, gf, hR⟩
    have hi' : i < n := by omega
    have hlen := rowsM_len p i
    have hpw := pow_fits p1 (show i ≤ n by omega) hf
    have hpw2 := pow_fits p1 (show i + 1 ≤ n by omega) hf
    have hrm := fun r hr => rowsM_mem (p := p) i r hr
    have hflat := flat_len (p := p) (rowsM p i)
    have hpow : p ^ (i + 1) = p ^ i * p := Nat.pow_succ p i
    have exi : rowsM p (i + 1) = (rowsM p i).flatMap (nextR p) := rfl
    rw [exi]
    generalize rowsM p i = rs at *
    walk_at "cwk"
    rename_i lg hlg
    have nfl : fl ≠ lg := ne_n hlg gf
    have F3 : Fr [] H (upd H2 lg (.lst [])) := F2.trans (Fr.new hlg)
    have gf3 : (upd H2 lg (.lst [])) fl = some (.lst xs) := (upd_ne nfl).trans gf
    have gl3 : (upd H2 lg (.lst [])) lg = some (.lst []) := upd_same
    have lg0 : H lg = none := F2.free hlg
    have hR3 : RowsAt [lg, fl] H (upd H2 lg (.lst [])) xs rs := (hR.add hlg).fr0 (Fr.new hlg)
    generalize (upd H2 lg (.lst [])) = H3 at *
    have hxr := hR.1
    refine f_list xs (fun j σ H' => ∃ v5 ys, σ = [some (.int p), some (.int n), some (.ref fl), some (.int i), some (.ref lg), v5, none] ∧ Fr [] H H' ∧ Fr [lg] H3 H' ∧ H' lg = some (.lst ys) ∧ RowsAt [lg] H H' ys ((rs.take j).flatMap (nextR p)))
      ⟨_, [], rfl, F3, .refl, gl3, .nil⟩ (fun j σ H' _ ⟨_, _, _, _, f, _⟩ => SqL.of (f.get gf3 (by simpa using nfl))) ?_ ?_
    · rintro j y σ H4 hj ⟨v5, ys, rfl, F4, F34, gl4, hY⟩
      have hjl := (List.getElem?_eq_some_iff.mp hj).1
      obtain ⟨r, hr⟩ : ∃ r, rs[j]? = some r := ⟨rs[j], List.getElem?_eq_getElem (by omega)⟩
      obtain ⟨l, hl1, hl2, hl3, hl4⟩ := hR3.2 j r hr
      rw [hj] at hl1
      obtain rfl := Option.some.inj hl1
      have gr4 := F34.get hl4 (by simp at hl3 ⊢; exact hl3.1)
      have hrl := (hrm r (List.mem_of_getElem? hr)).1
      have hyl := hY.1
      rw [flat_len, List.length_take] at hyl
      have hbound : min j rs.length * p ≤ 5000 := Nat.le_trans (Nat.mul_le_mul_right p (Nat.min_le_right j rs.length)) (by rw [hlen, ← hpow]; exact hpw2)
      walk_at "cwk"
      refine l_rng1 (j := (p : Int)) (by omega) (by omega) (fun D q acc H' => Fr [] H4 H' ∧ RowsAt [D, lg] H4 H' acc ((List.range q).map fun u : Nat => r ++ [(u : Int)])) (fun D hD => ⟨Fr.new hD, .nil⟩) ?_ ?_
      · rintro D q acc H5 hD hq ⟨F5, hA⟩ hacc hla
        have gr5 := F5.get0 gr4
        walk_at "cwk"
        rename_i pl hpl nl hnl
        have F6 : Fr [] H5 (upd (upd H5 pl (.lst [V.int q])) nl (.lst (r.map V.int ++ [V.int q]))) := (Fr.new hpl).trans (Fr.new hnl)
        have hDn : D ≠ nl := ne_n (upd_none hnl) hacc
        have hgn : lg ≠ nl := ne_n (upd_none hnl) (F5.get0 gl4)
        refine lc_end (F6.get0 hacc) hla (by omega) ⟨(F5.trans F6).loc hD, ?_⟩
        rw [List.range_succ, List.map_append]
        refine ((hA.fr0 F6).snoc (F5.free (upd_none hnl)) (by simp; exact ⟨ne_s hDn, ne_s hgn⟩) ?_).fr (W := [D]) (Fr.at (by simp)) (by simp)
        rw [upd_same, List.map_append]
        rfl
      · rintro D acc H5 hD ⟨F5, hA⟩ hacc hla
        have ep : ((p : Int)).toNat = p := Int.toNat_natCast p
        rw [ep] at hA hla
        have hA' : RowsAt [D, lg] H4 H5 acc (nextR p r) := hA
        have nDl : lg ≠ D := ne_n hD gl4
        walk_at "cwk"
        refine ⟨lg, D, ys, acc, rfl, rfl, F5.get0 gl4, hacc, sz_le (by omega), ?_⟩
        walk_at "cwk"
        have etk : (rs.take (j + 1)).flatMap (nextR p) = (rs.take j).flatMap (nextR p) ++ nextR p r := by rw [take_snoc hr, List.flatMap_append]; simp
        refine ⟨_, ys ++ acc, rfl, (F4.trans F5).loc lg0, (F34.more F5).trans (Fr.at (by simp)), upd_same, ?_⟩
        rw [etk]
        exact ((hY.fr0 F5).append ((hA'.less (by simp)).base F4)).fr (W := [lg]) (Fr.at (by simp)) (by simp)
    · rintro σ H4 ⟨v5, ys, rfl, F4, F34, gl4, hY⟩
      rw [List.take_of_length_le (by omega)] at hY
      walk_at "cwk"
      exact ⟨lg, ys, _, _, _, rfl, F4, lg0, gl4, hY⟩
  · rintro σ H2 ⟨fl, xs, v3, v4, v5, rfl, F2, hfl0, gf, hR⟩
    rw [Int.toNat_natCast] at hR
    walk_at "cwk"
    exact k fl xs H2 F2 hfl0 gf hR

/-! more_of -/
def sp_more_of (K : PySem.W.Frag) : Sp := fun vs H Q _ => ∃ (n : Int) (a : Addr) (z : Str) (ns : List Int), vs = [.int n, .ref a, .str z] ∧ 1 ≤ n ∧ n ≤ 8 ∧ SqL K H a (ns.map V.int) ∧ RowOk ns ∧ ∀ H', Fr [] H H' → Q (.int (moreM n.toNat z ns)) H'
theorem c_more_of {H : Hp} {Q : VK} {E : XK} {n : Int} {a : Addr} {z : Str} {ns : List Int} (n0 : 1 ≤ n) (n8 : n ≤ 8) (h : SqL K H a (ns.map V.int)) (hR : RowOk ns) (k : ∀ H', Fr [] H H' → Q (.int (moreM n.toNat z ns)) H') :
    sp_more_of K ([.int n, .ref a, .str z] ++ []) H Q E := ⟨n, a, z, ns, rfl, n0, n8, h, hR, k⟩
theorem ok_more_of (T : Txt K mg ad) : FnOk P w K mg base CX0 6 ad.a_more_of ad.d_more_of ["rooms", "row", "rule"] (sp_more_of K) := by
  refine T.F_more_of.ok sc_more_of (fun vs H Q E h => ?_) (fun cdv A outer s H vs Q E hr h => ?_)
  · obtain ⟨n, a, z, ns, rfl, _⟩ := h
    rfl
  obtain ⟨n, a, z, ns, rfl, n0, n8, hS, hR, k⟩ := h
  refine ⟨_, (pss_one (ps_ret (pe_op op_sub (kBM (K := K) rfl (pe_bm PySem.F.plainAttrs_list PySem.F.slot_list_count PySem.F.type_list_count (kCountB K rfl) (pe_call (ok_all_lacking T) (hr.mono (by decide)) (by rfl) T.m_all_lacking T.F_all_lacking.kp T.b_all_lacking .nil pass0 (pa_cons (pv 0) (pa_cons (pv 1) (pa_cons (pv 2) pa_nil)))) (pa_cons pe_bl pa_nil))) (pe_callB (kLen K rfl) (by rfl) T.z_len (by decide +kernel) (pa_cons (pe_ix (kIxT K rfl) (pe_call (ok_gone_through T) (hr.mono (by decide)) (by rfl) T.m_gone_through T.F_gone_through.kp T.b_gone_through .nil pass0 (pa_cons (pv 0) (pa_cons (pv 1) pa_nil))) pe_int (fun _ _ => rfl)) pa_nil))))), ?_⟩
  walk_at "cwk"
  refine c_all_lacking n0 n8 hS hR fun p H1 f1 hp h1 => ?_
  walk_at "cwk"
  refine c_gone_through n0 n8 (f1.seqL hS) hR.1 fun t l g xs H2 f2 ht hl hg nlg h2t h2l h2g hP => ?_
  walk_at "cwk"
  have e : ((((lackB n.toNat z ns).filter id).length : Nat) : Int) - ((((bst n.toNat ns ns).lacks.map V.int).length : Nat) : Int) = moreM n.toNat z ns := by
    unfold moreM places
    rw [placesFrom_cnt, List.length_map]
    rfl
  rw [e]
  exact k H2 (f1.trans f2)

/-! need_size -/
def sp_need_size (K : PySem.W.Frag) : Sp := fun vs H Q _ => ∃ p n : Nat, vs = [.int p, .int n] ∧ 1 ≤ p ∧ p ≤ 12 ∧ n ≤ 100 ∧ p ^ n ≤ 5000 ∧ Q .non H
theorem c_need_size {H : Hp} {Q : VK} {E : XK} {p n : Nat} (p1 : 1 ≤ p) (p12 : p ≤ 12) (hn : n ≤ 100) (hf : p ^ n ≤ 5000) (k : Q .non H) : sp_need_size K ([.int p, .int n] ++ []) H Q E := ⟨p, n, rfl, p1, p12, hn, hf, k⟩
theorem ok_need_size (T : Txt K mg ad) : FnOk P w K mg base CX0 1 ad.a_need_size ad.d_need_size ["pages", "long"] (sp_need_size K) := by
  refine T.F_need_size.ok sc_need_size (fun vs H Q E h => ?_) (fun cdv A outer s H vs Q E hr h => ?_)
  · obtain ⟨p, n, rfl, _⟩ := h
    rfl
  obtain ⟨p, n, rfl, p1, p12, hn, hf, k⟩ := h
  refine ⟨_, (pss_cons (ps_if (PW.pt (pw_or (pt_not (pt_chain op_le op_le pe_int (pv 0) (pe_glob (v := .int 12) rfl T.m_MOST_PAGES ⟨_, rfl⟩))) (pw_or1 (pt_cmpR op_lt (pv 1) pe_int (nomark _))))) (pss_one ps_never) pss_nil)
    (pss_cons (ps_set (i := 2) sc_need_size.nd rfl (by first | exact Or.inl rfl | exact Or.inr rfl) pe_int)
    (pss_cons (ps_for PassesOwn.never rfl (pi_range1 (by rfl) T.z_range (pa_cons (pe_callB (cr_min2 rfl) (by rfl) T.z_min (by decide +kernel) (pa_cons (pv 1) (pa_cons (pe_glob (v := .int 5000) rfl T.m_MOST_ROWS ⟨_, rfl⟩) pa_nil))) pa_nil)) (pg_name (i := 3) sc_need_size.nd rfl (by first | exact Or.inl rfl | exact Or.inr rfl)) (pss_cons (ps_set (i := 2) sc_need_size.nd rfl (by first | exact Or.inl rfl | exact Or.inr rfl) (pe_op op_mul (pv 2) (pv 0)))
    (pss_one (ps_if (pt_cmpR op_gt (pv 2) (pe_glob (v := .int 5000) rfl T.m_MOST_ROWS ⟨_, rfl⟩) (nomark _)) (pss_one ps_never) pss_nil))))
    (pss_one (ps_if (pt_cmpR op_gt (pv 1) (pe_glob (v := .int 5000) rfl T.m_MOST_ROWS ⟨_, rfl⟩) (nomark _)) (pss_one ps_never) pss_nil))))), ?_⟩
  walk_at "cwk"
  have en : (if (5000 : Int) < (n : Int) then (5000 : Int) else (n : Int)) = (n : Int) := if_neg (by omega)
  rw [en]
  have hpw : ∀ i, i ≤ n → p ^ i ≤ 5000 := fun i hi => pow_fits p1 hi hf
  refine f_rng1 (by omega) (by omega) (fun i σ H' => ∃ v3, σ = [some (.int p), some (.int n), some (.int ((p ^ i : Nat) : Int)), v3] ∧ H' = H) ⟨_, rfl, rfl⟩ ?_ ?_
  · rintro i σ H' hi ⟨v3, rfl, rfl⟩
    have h1 := hpw i (by omega)
    have h2 := hpw (i + 1) (by omega)
    have e2 : ((p ^ i : Nat) : Int) * (p : Int) = ((p ^ (i + 1) : Nat) : Int) := by rw [Nat.pow_succ, Int.natCast_mul]
    generalize p ^ i = a at *
    generalize p ^ (i + 1) = b at *
    walk_at "cwk"
    rw [e2]
    walk_at "cwk"
    exact ⟨_, rfl, rfl⟩
  · rintro σ H' ⟨v3, rfl, rfl⟩
    walk_at "cwk"
    exact k

/-! worst -/
def SizeOk (p n : Nat) : Prop := 1 ≤ p ∧ p ≤ 12 ∧ n ≤ 100 ∧ p ^ n ≤ 5000
theorem rows_ok {p n : Nat} (hS : SizeOk p n) {r : List Int} (h : r ∈ rowsM p n) : RowOk r := by
  obtain ⟨h1, h2⟩ := rowsM_mem n r h
  obtain ⟨a, b, c, d⟩ := hS
  exact ⟨by omega, fun x hx => by have := h2 x hx; omega⟩
def sp_worst (K : PySem.W.Frag) : Sp := fun vs H Q _ => ∃ (n : Int) (p m : Nat) (z : Str), vs = [.int n, .int p, .int m, .str z] ∧ 1 ≤ n ∧ n ≤ 8 ∧ SizeOk p m ∧ IsRule z ∧
  ∀ t l r H', Fr [] H H' → H t = none → H l = none → H' t = some (.tup [.int (moreM n.toNat z r), .ref l]) → H' l = some (.lst (r.map V.int)) → r ∈ rowsM p m → worstM n.toNat z (rowsM p m) = (moreM n.toNat z r, some r) → Q (.ref t) H'
theorem c_worst {H : Hp} {Q : VK} {E : XK} {n : Int} {p m : Nat} {z : Str} (n0 : 1 ≤ n) (n8 : n ≤ 8) (hS : SizeOk p m) (hz : IsRule z)
    (k : ∀ t l r H', Fr [] H H' → H t = none → H l = none → H' t = some (.tup [.int (moreM n.toNat z r), .ref l]) → H' l = some (.lst (r.map V.int)) → r ∈ rowsM p m → worstM n.toNat z (rowsM p m) = (moreM n.toNat z r, some r) → Q (.ref t) H') :
    sp_worst K ([.int n, .int p, .int m, .str z] ++ []) H Q E := ⟨n, p, m, z, rfl, n0, n8, hS, hz, k⟩
def oRef (H : Hp) (H' : Hp) : Option (List Int) → V → Prop
  | none, v => v = .non
  | some r, v => ∃ l, v = .ref l ∧ H l = none ∧ H' l = some (.lst (r.map V.int))
theorem oRef.fr {H H' H2 : Hp} {o : Option (List Int)} {v : V} (h : oRef H H' o v) (f : Fr [] H' H2) : oRef H H2 o v := by
  cases o with
  | none => exact h
  | some r =>
    obtain ⟨l, h1, h2, h3⟩ := h
    exact ⟨l, h1, h2, f.get0 h3⟩
theorem ok_worst (T : Txt K mg ad) : FnOk P w K mg base CX0 7 ad.a_worst ad.d_worst ["rooms", "pages", "long", "rule"] (sp_worst K) := by
  refine T.F_worst.ok sc_worst (fun vs H Q E h => ?_) (fun cdv A outer s H vs Q E hr h => ?_)
  · obtain ⟨n, p, m, z, rfl, _⟩ := h
    rfl
  obtain ⟨n, p, m, z, rfl, n0, n8, hS, hz, k⟩ := h
  obtain ⟨p1, p12, m100, hf⟩ := id hS
  refine ⟨_, (pss_cons (ps_expr (pe_call (ok_need_rooms T) (hr.mono (by decide)) (by rfl) T.m_need_rooms T.F_need_rooms.kp T.b_need_rooms .nil pass0 (pa_cons (pv 0) pa_nil)))
    (pss_cons (ps_expr (pe_call (ok_need_size T) (hr.mono (by decide)) (by rfl) T.m_need_size T.F_need_size.kp T.b_need_size .nil pass0 (pa_cons (pv 1) (pa_cons (pv 2) pa_nil))))
    (pss_cons (ps_expr (pe_call (ok_need_rule T) (hr.mono (by decide)) (by rfl) T.m_need_rule T.F_need_rule.kp T.b_need_rule .nil pass0 (pa_cons (pv 3) pa_nil)))
    (pss_cons (ps_set (i := 4) sc_worst.nd rfl (by first | exact Or.inl rfl | exact Or.inr rfl) (pe_un un_neg pe_int))
    (pss_cons (ps_set (i := 5) sc_worst.nd rfl (by first | exact Or.inl rfl | exact Or.inr rfl) pe_non)
    (pss_cons (ps_for PassesOwn.never rfl (kIL (K := K) rfl (pi_list (pe_call (ok_all_rows T) (hr.mono (by decide)) (by rfl) T.m_all_rows T.F_all_rows.kp T.b_all_rows .nil pass0 (pa_cons (pv 1) (pa_cons (pv 2) pa_nil))))) (pg_name (i := 6) sc_worst.nd rfl (by first | exact Or.inl rfl | exact Or.inr rfl)) (pss_cons (ps_set (i := 7) sc_worst.nd rfl (by first | exact Or.inl rfl | exact Or.inr rfl) (pe_call (ok_more_of T) (hr.mono (by decide)) (by rfl) T.m_more_of T.F_more_of.kp T.b_more_of .nil pass0 (pa_cons (pv 0) (pa_cons (pv 6) (pa_cons (pv 3) pa_nil)))))
    (pss_one (ps_if (pt_cmpR op_gt (pv 7) (pv 4) (nomark _)) (pss_cons (ps_set (i := 4) sc_worst.nd rfl (by first | exact Or.inl rfl | exact Or.inr rfl) (pv 7))
    (pss_one (ps_set (i := 5) sc_worst.nd rfl (by first | exact Or.inl rfl | exact Or.inr rfl) (pv 6)))) pss_nil))))
    (pss_one (ps_ret (pe_tup (pa_cons (pv 4) (pa_cons (pv 5) pa_nil))))))))))), ?_⟩
  have r0 : 0 < n.toNat := by omega
  have r8 : n.toNat ≤ 8 := by omega
  walk_at "cwk"
  refine ⟨n, rfl, n0, n8, ?_⟩
  walk_at "cwk"
  refine c_need_size p1 p12 m100 hf ?_
  walk_at "cwk"
  refine c_need_rule hz ?_
  walk_at "cwk"
  refine c_all_rows p1 p12 m100 hf fun q xs H1 f1 hq h1 hR => ?_
  walk_at "cwk"
  have hxr := hR.1
  have hrl := rowsM_len p m
  have hne : rowsM p m ≠ [] := fun e => by
    rw [e] at hrl
    have : 0 < p ^ m := Nat.pow_pos (by omega)
    simp at hrl
    omega
  refine f_list xs (fun i σ H' => ∃ v6 v7 fv, σ = [some (.int n), some (.int p), some (.int m), some (.str z), some (.int (worstM n.toNat z ((rowsM p m).take i)).1), some fv, v6, v7] ∧ Fr [] H1 H' ∧ oRef H H' (worstM n.toNat z ((rowsM p m).take i)).2 fv) ⟨_, _, .non, rfl, .refl, rfl⟩ (fun i σ H' _ ⟨_, _, _, _, f, _⟩ => SqL.of (f.get0 h1)) ?_ ?_
  · rintro i y σ H2 hi ⟨v6, v7, fv, rfl, F2, ho⟩
    have hil := (List.getElem?_eq_some_iff.mp hi).1
    obtain ⟨r, hr⟩ : ∃ r, (rowsM p m)[i]? = some r := ⟨(rowsM p m)[i], List.getElem?_eq_getElem (by omega)⟩
    obtain ⟨l, hl1, hl2, hl3, hl4⟩ := hR.2 i r hr
    rw [hi] at hl1
    obtain rfl := Option.some.inj hl1
    have es : worstM n.toNat z ((rowsM p m).take (i + 1)) = worstStep n.toNat z (worstM n.toNat z ((rowsM p m).take i)) r := by
      unfold worstM
      rw [take_snoc hr, List.foldl_append]
      rfl
    rw [es]
    generalize worstM n.toNat z ((rowsM p m).take i) = b at *
    walk_at "cwk"
    refine c_more_of n0 n8 (SqL.of (F2.get0 hl4)) (rows_ok hS (List.mem_of_getElem? hr)) fun H3 f3 => ?_
    walk_at "cwk"
    walk_at "cw if" <;> intro c
    · walk_at "cwk"
      unfold worstStep
      rw [if_pos c]
      exact ⟨_, _, _, rfl, F2.trans f3, l, rfl, hl2, (F2.trans f3).get0 hl4⟩
    · walk_at "cwk"
      unfold worstStep
      rw [if_neg c]
      exact ⟨_, _, fv, rfl, F2.trans f3, ho.fr f3⟩
  · rintro σ H2 ⟨v6, v7, fv, rfl, F2, ho⟩
    rw [List.take_of_length_le (by omega)] at ho ⊢
    obtain ⟨r, hrm, hw⟩ := (worstM_some r0 r8 z (rowsM p m)).resolve_left fun h => hne h.1
    rw [hw] at ho ⊢
    obtain ⟨l, rfl, l0, hl⟩ := ho
    walk_at "cwk"
    rename_i t ht
    exact k t l r _ ((f1.trans F2).trans (Fr.new ht)) ((f1.trans F2).free ht) l0 upd_same ((upd_ne (ne_n ht hl)).trans hl) hrm hw

/-! _law_begun -/
def sp_l_begun (K : PySem.W.Frag) : Sp := fun vs H Q _ => ∃ (a : Addr) (ns : List Int), vs = [.ref a] ∧ SqL K H a (ns.map V.int) ∧ ns.length ≤ 63 ∧
  ∀ b q H', Fr [] H H' → H b = none → H q = none → Box H' b q → Q (.ref b) H'
theorem ok_l_begun (T : Txt K mg ad) : FnOk P w K mg base CX0 1 ad.a_l_begun ad.d_l_begun ["_law_script"] (sp_l_begun K) := by
  refine T.F_l_begun.ok sc_l_begun (fun vs H Q E h => ?_) (fun cdv A outer s H vs Q E hr h => ?_)
  · obtain ⟨a, ns, rfl, _⟩ := h
    rfl
  obtain ⟨a, ns, rfl, hS, hl, k⟩ := h
  refine ⟨_, (pss_cons (ps_set (i := 1) sc_l_begun.nd rfl (by first | exact Or.inl rfl | exact Or.inr rfl) pe_int)
    (pss_cons (ps_for PassesOwn.never rfl (kIL (K := K) rfl (pi_list (pv 0))) (pg_name (i := 2) sc_l_begun.nd rfl (by first | exact Or.inl rfl | exact Or.inr rfl)) (pss_one (ps_set (i := 1) sc_l_begun.nd rfl (by first | exact Or.inl rfl | exact Or.inr rfl) (pe_op op_mod (pe_op op_add (pe_op op_add (pe_op op_mul (pv 1) pe_int) (pe_op op_mul (pv 2) pe_int)) pe_int) pe_int))))
    (pss_one (ps_ret (pe_lst (pa_cons (pe_callTy (kList K rfl) (by rfl) T.z_list (by decide +kernel) (pa_cons (pv 0) pa_nil)) (pa_cons (pe_op op_mul (pv 1) (pe_callTy cr_int (by rfl) T.z_int (by decide +kernel) (pa_cons (pe_cmpR op_gt (pe_callB (kLen K rfl) (by rfl) T.z_len (by decide +kernel) (pa_cons (pv 0) pa_nil)) pe_int (nomark _)) pa_nil))) pa_nil))))))), ?_⟩
  try dsimp only [L2.cxOf, L2.Cx.nox]
  walk_at "cw"
  refine f_list (ns.map V.int) (fun i σ H' => ∃ (st : Int) (v : Option V), σ = [some (.ref a), some (.int st), v] ∧ H' = H ∧ 0 ≤ st ∧ st < 2147483647) ⟨0, none, rfl, rfl, by decide, by decide⟩ (fun i σ H' _ ⟨_, _, _, e, _⟩ => by rw [e]; exact hS) ?_ ?_
  · rintro i x σ H' hi ⟨st, v, rfl, rfl, h0, h1⟩
    obtain ⟨z, hz, rfl⟩ := int_at hi
    walk_at "cw"
    exact ⟨_, _, rfl, rfl, by omega, by omega⟩
  · rintro σ H' ⟨st, v, rfl, rfl, h0, h1⟩
    walk_at "cw"
    rename_i p hp c hc
    have hc0 : H' c = none := upd_none hc
    refine k c p _ ((Fr.new hp).more (Fr.new hc)) hc0 hp ⟨_, ns, upd_same, ?_, ?_, ?_, hl⟩
    · rw [upd_ne (ne_of_none upd_same hc), upd_same]
    all_goals split <;> omega

/-! _law_take -/
def sp_l_take : Sp := fun vs H Q _ => ∃ (b q : Addr) (n : Int), vs = [.ref b, .int n] ∧ Box H b q ∧ 0 < n ∧ n < 1073741824 ∧
  ∀ (r : Int) H', Fr [b, q] H H' → Box H' b q → 0 ≤ r → r < n → Q (.int r) H'
theorem ok_l_take (T : Txt K mg ad) : FnOk P w K mg base CX0 1 ad.a_l_take ad.d_l_take ["_law_box", "_law_many"] sp_l_take := by
  refine T.F_l_take.ok sc_l_take (fun vs H Q E h => ?_) (fun cdv A outer s H vs Q E hr h => ?_)
  · obtain ⟨b, q, n, rfl, _⟩ := h
    rfl
  obtain ⟨b, q, n, rfl, hB, n0, n1, k⟩ := h
  have nbq := hB.ne
  obtain ⟨z, ms, hb, hq, z0, z1, hl⟩ := hB
  refine ⟨_, (pss_cons (ps_if (pt_cmpR (kEqD K rfl hr.units) (pe_ix (kIxL K rfl) (pv 0) pe_int (fun _ _ => rfl)) (pe_lst pa_nil) (nomark _)) (pss_cons (ps_asg (pe_op op_mod (pe_op op_mul (pe_ix (kIxL K rfl) (pv 0) pe_int (fun _ _ => rfl)) pe_int) pe_int) (pg_sub (pv 0) pe_int set_list))
    (pss_one (ps_ret (pe_op op_mod (pe_op op_fdiv (pe_ix (kIxL K rfl) (pv 0) pe_int (fun _ _ => rfl)) pe_int) (pv 1))))) pss_nil)
    (pss_cons (ps_set (i := 2) sc_l_take.nd rfl (by first | exact Or.inl rfl | exact Or.inr rfl) (pe_ix (kIxL K rfl) (pe_ix (kIxL K rfl) (pv 0) pe_int (fun _ _ => rfl)) pe_int (fun _ _ => rfl)))
    (pss_cons (ps_asg (pe_op op_fdiv (pv 2) (pv 1)) (pg_sub (pe_ix (kIxL K rfl) (pv 0) pe_int (fun _ _ => rfl)) pe_int set_list))
    (pss_cons (ps_if (PW.pt (pw_or (pt_cmpR op_eq (pe_ix (kIxL K rfl) (pe_ix (kIxL K rfl) (pv 0) pe_int (fun _ _ => rfl)) pe_int (fun _ _ => rfl)) pe_int (nomark _)) (pw_or1 (pt_cmpR op_eq (pe_ix (kIxL K rfl) (pe_ix (kIxL K rfl) (pv 0) pe_int (fun _ _ => rfl)) pe_int (fun _ _ => rfl)) (pe_un un_neg pe_int) (nomark _))))) (pss_one (ps_expr (kBM (K := K) rfl (pe_bm PySem.F.plainAttrs_list PySem.F.slot_list_pop PySem.F.type_list_pop mt_popAt (pe_ix (kIxL K rfl) (pv 0) pe_int (fun _ _ => rfl)) (pa_cons pe_int pa_nil))))) pss_nil)
    (pss_one (ps_ret (pe_op op_mod (pv 2) (pv 1)))))))), ?_⟩
  try dsimp only [L2.cxOf, L2.Cx.nox]
  walk_at "cw"
  rename_i p hp
  walk_at "cw if" <;> intro e
  · subst e
    walk_at "cw"
    refine k _ _ ?_ ?_ (mod_in n0).1 (mod_in n0).2
    · exact (Fr.new hp).trans (Fr.at (by simp))
    · exact ⟨_, [], upd_same, by walk_at "cw at", by omega, by omega, by simp⟩
  · obtain ⟨m, r, rfl⟩ : ∃ m r, ms = m :: r := by
      cases ms with
      | nil => exact absurd rfl e
      | cons m r => exact ⟨m, r, rfl⟩
    simp only [List.map_cons] at hq
    simp only [List.length_cons] at hl
    walk_at "cw"
    have fin : ∀ xs : List Int, xs.length ≤ 63 → Q (V.int (m % n)) (upd (upd H p (HO.lst [])) q (HO.lst (xs.map V.int))) := fun xs hx => by
      refine k _ _ ?_ ?_ (mod_in n0).1 (mod_in n0).2
      · exact (Fr.new hp).trans (Fr.at (by simp))
      · exact ⟨z, xs, by walk_at "cw at", upd_same, z0, z1, hx⟩
    walk_at "cw if" <;> intro e1
    · walk_at "cw"
      rw [upd_upd]
      exact fin r (by omega)
    · walk_at "cw"
      walk_at "cw if" <;> intro e2
      · walk_at "cw"
        rw [upd_upd]
        exact fin r (by omega)
      · walk_at "cw"
        exact fin (m / n :: r) (by simp only [List.length_cons]; omega)
theorem c_take {H : Hp} {Q : VK} {E : XK} {b q : Addr} {n : Int} (hB : Box H b q) (n0 : 0 < n) (n1 : n < 1073741824) (k : ∀ (r : Int) H', Fr [b, q] H H' → Box H' b q → 0 ≤ r → r < n → Q (.int r) H') : sp_l_take ([.ref b, .int n] ++ []) H Q E := ⟨b, q, n, rfl, hB, n0, n1, k⟩

/-! _law_row -/
def sp_l_row : Sp := fun vs H Q _ => ∃ (b q : Addr) (n : Int), vs = [.ref b, .int n] ∧ Box H b q ∧ 0 ≤ n ∧ n ≤ 100 ∧
  ∀ (p : Addr) (ns : List Int) H', Fr [b, q] H H' → Box H' b q → H p = none → H' p = some (.lst (ns.map V.int)) → (ns.length : Int) ≤ n → (∀ x ∈ ns, 0 ≤ x ∧ x < 12) → Q (.ref p) H'
theorem c_row {H : Hp} {Q : VK} {E : XK} {b q : Addr} {n : Int} (hB : Box H b q) (n0 : 0 ≤ n) (n1 : n ≤ 100)
    (k : ∀ (p : Addr) (ns : List Int) H', Fr [b, q] H H' → Box H' b q → H p = none → H' p = some (.lst (ns.map V.int)) → (ns.length : Int) ≤ n → (∀ x ∈ ns, 0 ≤ x ∧ x < 12) → Q (.ref p) H') : sp_l_row ([.ref b, .int n] ++ []) H Q E := ⟨b, q, n, rfl, hB, n0, n1, k⟩
def row_mid (H0 : Hp) (b q p : Addr) (n pg way : Int) (t : V) (ns : List Int) : L2.St → Hp → Prop := fun σ H => ∃ z : Int, 0 ≤ z ∧ z < 12 ∧ σ = [some (.ref b), some (.int n), some (.int pg), some (.ref p), some (.int way), some t, some (.int z)] ∧
  Fr [b, q] H0 H ∧ Box H b q ∧ H p = some (.lst (ns.map V.int))
theorem ok_l_row (T : Txt K mg ad) : FnOk P w K mg base CX0 2 ad.a_l_row ad.d_l_row ["_law_box", "_law_most"] sp_l_row := by
  refine T.F_l_row.ok sc_l_row (fun vs H Q E h => ?_) (fun cdv A outer s H vs Q E hr h => ?_)
  · obtain ⟨b, q, n, rfl, _⟩ := h
    rfl
  obtain ⟨b, q, n, rfl, hB, n0, n1, k⟩ := h
  refine ⟨_, (pss_cons (ps_set (i := 2) sc_l_row.nd rfl (by first | exact Or.inl rfl | exact Or.inr rfl) (pe_op op_add pe_int (pe_call (ok_l_take T) (hr.mono (by decide)) (by rfl) T.m_l_take T.F_l_take.kp T.b_l_take .nil pass0 (pa_cons (pv 0) (pa_cons (pe_ix (kIxL K rfl) (pe_lst (pa_cons pe_int (pa_cons pe_int (pa_cons pe_int pa_nil)))) (pe_call (ok_l_take T) (hr.mono (by decide)) (by rfl) T.m_l_take T.F_l_take.kp T.b_l_take .nil pass0 (pa_cons (pv 0) (pa_cons pe_int pa_nil))) (fun _ _ => rfl)) pa_nil)))))
    (pss_cons (ps_set (i := 3) sc_l_row.nd rfl (by first | exact Or.inl rfl | exact Or.inr rfl) (pe_lst pa_nil))
    (pss_cons (ps_set (i := 4) sc_l_row.nd rfl (by first | exact Or.inl rfl | exact Or.inr rfl) (pe_call (ok_l_take T) (hr.mono (by decide)) (by rfl) T.m_l_take T.F_l_take.kp T.b_l_take .nil pass0 (pa_cons (pv 0) (pa_cons pe_int pa_nil))))
    (pss_cons (ps_for PassesOwn.never rfl (pi_range1 (by rfl) T.z_range (pa_cons (pe_call (ok_l_take T) (hr.mono (by decide)) (by rfl) T.m_l_take T.F_l_take.kp T.b_l_take .nil pass0 (pa_cons (pv 0) (pa_cons (pe_op op_add (pv 1) pe_int) pa_nil))) pa_nil)) (pg_name (i := 5) sc_l_row.nd rfl (by first | exact Or.inl rfl | exact Or.inr rfl)) (pss_cons (ps_set (i := 6) sc_l_row.nd rfl (by first | exact Or.inl rfl | exact Or.inr rfl) (pe_call (ok_l_take T) (hr.mono (by decide)) (by rfl) T.m_l_take T.F_l_take.kp T.b_l_take .nil pass0 (pa_cons (pv 0) (pa_cons (pv 2) pa_nil))))
    (C8.pss_cut (ps_if (PW.pt (pw_and (pt_cmpR op_eq (pv 4) pe_int (nomark _)) (pw_and (pt_cmpR (kNeD K rfl hr.units) (pv 3) (pe_lst pa_nil) (nomark _)) (pw_and1 (pt_cmpR op_gt (pe_call (ok_l_take T) (hr.mono (by decide)) (by rfl) T.m_l_take T.F_l_take.kp T.b_l_take .nil pass0 (pa_cons (pv 0) (pa_cons pe_int pa_nil))) pe_int (nomark _)))))) (pss_one (ps_set (i := 6) sc_l_row.nd rfl (by first | exact Or.inl rfl | exact Or.inr rfl) (pe_ix (kIxL K rfl) (pv 3) (pe_op op_sub (pe_op op_sub (pe_callB (kLen K rfl) (by rfl) T.z_len (by decide +kernel) (pa_cons (pv 3) pa_nil)) pe_int) (pe_call (ok_l_take T) (hr.mono (by decide)) (by rfl) T.m_l_take T.F_l_take.kp T.b_l_take .nil pass0 (pa_cons (pv 0) (pa_cons (pe_callB (cr_min2 rfl) (by rfl) T.z_min (by decide +kernel) (pa_cons pe_int (pa_cons (pe_callB (kLen K rfl) (by rfl) T.z_len (by decide +kernel) (pa_cons (pv 3) pa_nil)) pa_nil))) pa_nil)))) (fun _ _ => rfl)))) pss_nil)
    (C8.pss_cut (ps_if (PW.pt (pw_and (pt_cmpR op_eq (pv 4) pe_int (nomark _)) (pw_and1 (pt_cmpR op_gt (pe_call (ok_l_take T) (hr.mono (by decide)) (by rfl) T.m_l_take T.F_l_take.kp T.b_l_take .nil pass0 (pa_cons (pv 0) (pa_cons pe_int pa_nil))) pe_int (nomark _))))) (pss_one (ps_set (i := 6) sc_l_row.nd rfl (by first | exact Or.inl rfl | exact Or.inr rfl) (pe_op op_mod (pv 5) (pv 2)))) pss_nil)
    (C8.pss_cut (ps_if (PW.pt (pw_and (pt_cmpR op_eq (pv 4) pe_int (nomark _)) (pw_and (pt_cmpR (kNeD K rfl hr.units) (pv 3) (pe_lst pa_nil) (nomark _)) (pw_and1 (pt_cmpR op_gt (pe_call (ok_l_take T) (hr.mono (by decide)) (by rfl) T.m_l_take T.F_l_take.kp T.b_l_take .nil pass0 (pa_cons (pv 0) (pa_cons pe_int pa_nil))) pe_int (nomark _)))))) (pss_one (ps_set (i := 6) sc_l_row.nd rfl (by first | exact Or.inl rfl | exact Or.inr rfl) (pe_op op_mod (pe_op op_add (pe_op op_add (pe_ix (kIxL K rfl) (pv 3) (pe_un un_neg pe_int) (fun _ _ => rfl)) pe_int) (pe_call (ok_l_take T) (hr.mono (by decide)) (by rfl) T.m_l_take T.F_l_take.kp T.b_l_take .nil pass0 (pa_cons (pv 0) (pa_cons pe_int pa_nil)))) (pv 2)))) pss_nil)
    (pss_one (ps_expr (kBM (K := K) rfl (pe_bm PySem.F.plainAttrs_list PySem.F.slot_list_append PySem.F.type_list_append mt_append (pv 3) (pa_cons (pv 6) pa_nil))))))))))
    (pss_one (ps_ret (pv 3))))))), ?_⟩
  try dsimp only [L2.cxOf, L2.Cx.nox]
  walk_at "cw"
  rename_i p1 hp1
  refine c_take (hB.keep0 (Fr.new hp1)) (by omega) (by omega) fun r H1 f1 B1 r0 r1 => ?_
  have h1 : H1 p1 = some (.lst (([4, 6, 12] : List Int).map V.int)) := f1.get upd_same (hB.free hp1)
  obtain ⟨v, hv, hm⟩ := ints_at (ns := [4, 6, 12]) r0 (by simpa using r1)
  have v0 : 0 < v ∧ v ≤ 12 := by
    simp at hm
    omega
  walk_at "cw"
  refine c_take B1 (by omega) (by omega) fun pg0 H2 f2 B2 pg1 pg2 => ?_
  walk_at "cw"
  rename_i p hp
  have F2 : Fr [b, q] H H2 := ((Fr.new hp1).trans f1).trans f2
  have hp0 : H p = none := F2.free hp
  have np : p ∉ [b, q] := B2.free hp
  refine c_take (B2.keep0 (Fr.new hp)) (by omega) (by omega) fun way H4 f4 B4 w0 w1 => ?_
  have h4 : H4 p = some (.lst (([] : List Int).map V.int)) := f4.get upd_same np
  have F4 : Fr [b, q] H H4 := (F2.trans (Fr.new hp)).trans f4
  walk_at "cw"
  refine c_take B4 (by omega) (by omega) fun m H5 f5 B5 m0 m1 => ?_
  have h5 := f5.get h4 np
  have F5 := F4.trans f5
  walk_at "cw"
  refine f_rng1 (by omega) m0 (fun i σ H' => ∃ (ns : List Int) (v5 v6 : Option V), σ = [some (.ref b), some (.int n), some (.int (1 + pg0)), some (.ref p), some (.int way), v5, v6] ∧ Fr [b, q] H H' ∧ Box H' b q ∧ H' p = some (.lst (ns.map V.int)) ∧ ns.length = i ∧ ∀ x ∈ ns, 0 ≤ x ∧ x < 12)
    ⟨[], none, none, rfl, F5, B5, h5, rfl, by simp⟩ ?_ ?_
  · rintro i σ H' hi ⟨ns, v5, v6, rfl, F, B, hP, hl, hm⟩
    walk_at "cw"
    refine c_take B (by omega) (by omega) fun z H6 f6 B6 z0 z1 => ?_
    have F6 := F.trans f6
    have h6 := f6.get hP np
    walk_at "cw"
    refine w_cut (row_mid H b q p n (1 + pg0) way (.int (i : Int)) ns) ?_ ?_
    · walk_at "cw"
      walk_at "cw if" <;> intro e1
      · walk_at "cw"
        walk_at "cw if" <;> intro e2
        · walk_at "cw"
          rename_i p7 hp7
          have np7 : p ≠ p7 := ne_of_none h6 hp7
          refine c_take (B6.keep0 (Fr.new hp7)) (by omega) (by omega) fun z2 H7 f7 B7 z20 z21 => ?_
          have h7 : H7 p = some (.lst (ns.map V.int)) := f7.get ((upd_ne np7).trans h6) np
          have F7 := (F6.trans (Fr.new hp7)).trans f7
          walk_at "cw"
          walk_at "cw if" <;> intro e3
          · walk_at "cw"
            simp only [List.length_map]
            have hlen : 0 < ns.length := List.length_pos_iff.mpr e2
            refine c_take B7 (by split <;> omega) (by split <;> omega) fun z3 H8 f8 B8 z30 z31 => ?_
            have h8 := f8.get h7 np
            have zz : z3 < (ns.length : Int) := by
              split at z31 <;> omega
            obtain ⟨v, hv, hvm⟩ := ints_at (ns := ns) (r := (ns.length : Int) - 1 - z3) (by omega) (by omega)
            walk_at "cw"
            exact ⟨v, (hm v hvm).1, (hm v hvm).2, rfl, F7.trans f8, B8, h8⟩
          · walk_at "cw"
            exact ⟨z, z0, by omega, rfl, F7, B7, h7⟩
        · walk_at "cw"
          rename_i p7 hp7
          exact ⟨z, z0, by omega, rfl, F6.trans (Fr.new hp7), B6.keep0 (Fr.new hp7), (upd_ne (ne_of_none h6 hp7)).trans h6⟩
      · walk_at "cw"
        exact ⟨z, z0, by omega, rfl, F6, B6, h6⟩
    rintro σ H7 ⟨z', z0', z1', rfl, F7, B7, h7⟩
    refine w_cut (row_mid H b q p n (1 + pg0) way (.int (i : Int)) ns) ?_ ?_
    · walk_at "cw"
      walk_at "cw if" <;> intro e1
      · walk_at "cw"
        refine c_take B7 (by omega) (by omega) fun z2 H8 f8 B8 z20 z21 => ?_
        have h8 := f8.get h7 np
        have F8 := F7.trans f8
        walk_at "cw"
        walk_at "cw if" <;> intro e3
        · walk_at "cw"
          have m1 := mod_in (z := (i : Int)) (n := 1 + pg0) (by omega)
          exact ⟨_, m1.1, by omega, rfl, F8, B8, h8⟩
        · walk_at "cw"
          exact ⟨z', z0', z1', rfl, F8, B8, h8⟩
      · walk_at "cw"
        exact ⟨z', z0', z1', rfl, F7, B7, h7⟩
    rintro σ H8 ⟨z'', z0'', z1'', rfl, F8, B8, h8⟩
    refine w_cut (row_mid H b q p n (1 + pg0) way (.int (i : Int)) ns) ?_ ?_
    · walk_at "cw"
      walk_at "cw if" <;> intro e1
      · walk_at "cw"
        walk_at "cw if" <;> intro e2
        · walk_at "cw"
          rename_i p7 hp7
          have np7 : p ≠ p7 := ne_of_none h8 hp7
          refine c_take (B8.keep0 (Fr.new hp7)) (by omega) (by omega) fun z2 H9 f9 B9 z20 z21 => ?_
          have h9 : H9 p = some (.lst (ns.map V.int)) := f9.get ((upd_ne np7).trans h8) np
          have F9 := (F8.trans (Fr.new hp7)).trans f9
          walk_at "cw"
          walk_at "cw if" <;> intro e3
          · obtain ⟨v, hv, hvm⟩ := ints_last e2
            walk_at "cw"
            refine c_take B9 (by omega) (by omega) fun z3 H10 f10 B10 z30 z31 => ?_
            walk_at "cw"
            have m1 := mod_in (z := v + 1 + z3) (n := 1 + pg0) (by omega)
            exact ⟨_, m1.1, by omega, rfl, F9.trans f10, B10, f10.get h9 np⟩
          · walk_at "cw"
            exact ⟨z'', z0'', z1'', rfl, F9, B9, h9⟩
        · walk_at "cw"
          rename_i p7 hp7
          exact ⟨z'', z0'', z1'', rfl, F8.trans (Fr.new hp7), B8.keep0 (Fr.new hp7), (upd_ne (ne_of_none h8 hp7)).trans h8⟩
      · walk_at "cw"
        exact ⟨z'', z0'', z1'', rfl, F8, B8, h8⟩
    rintro σ H9 ⟨y, y0, y1, rfl, F9, B9, h9⟩
    walk_at "cw"
    refine ⟨ns ++ [y], _, _, rfl, F9.loc hp0, B9.keep (W := [p]) (Fr.at (by simp)) ?_ ?_, upd_same.trans (by rw [List.map_append]; rfl), by simp [hl], ?_⟩
    · exact fun m => np (by simp at m; simp [m])
    · exact fun m => np (by simp at m; simp [m])
    · intro x hx
      rcases List.mem_append.mp hx with h | h
      · exact hm x h
      · simp at h
        subst h
        exact ⟨y0, y1⟩
  · rintro σ H' ⟨ns, v5, v6, rfl, F, B, hP, hl, hm⟩
    walk_at "cw"
    exact k p ns H' F B hp0 hP (by omega) hm

/-! _law_told -/
def CaseAt (K : PySem.W.Frag) (H : Hp) (c : Addr) (n : Int) (z : Str) (row : List Int) : Prop := ∃ a, SqT K H c [.int n, .ref a, .str z] ∧ SqL K H a (row.map V.int)
theorem CaseAt.fr {K : PySem.W.Frag} {H H' : Hp} {c : Addr} {n : Int} {z : Str} {row : List Int} (h : CaseAt K H c n z row) (f : Fr [] H H') : CaseAt K H' c n z row := by
  obtain ⟨a, h1, h2⟩ := h
  exact ⟨a, f.seqT h1, f.seqL h2⟩
def sp_l_told (K : PySem.W.Frag) : Sp := fun vs H Q _ => ∃ (c : Addr) (n : Int) (z : Str) (row : List Int), vs = [.ref c] ∧ CaseAt K H c n z row ∧ 1 ≤ n ∧ n ≤ 8 ∧ IsRule z ∧ RowOk row ∧
  ∀ v F H', Fr [] H H' → Own H H' v (toldD n.toNat z row) F → Q v H'
theorem c_l_told {H : Hp} {Q : VK} {E : XK} {c : Addr} {n : Int} {z : Str} {row : List Int} (h : CaseAt K H c n z row) (n0 : 1 ≤ n) (n8 : n ≤ 8) (hz : IsRule z) (hR : RowOk row)
    (k : ∀ v F H', Fr [] H H' → Own H H' v (toldD n.toNat z row) F → Q v H') : sp_l_told K ([.ref c] ++ []) H Q E := ⟨c, n, z, row, rfl, h, n0, n8, hz, hR, k⟩
theorem ok_l_told (T : Txt K mg ad) : FnOk P w K mg base CX0 8 ad.a_l_told ad.d_l_told ["_law_case"] (sp_l_told K) := by
  refine T.F_l_told.ok sc_l_told (fun vs H Q E h => ?_) (fun cdv A outer s H vs Q E hr h => ?_)
  · obtain ⟨c, n, z, row, rfl, _⟩ := h
    rfl
  obtain ⟨c, n, z, row, rfl, ⟨a, hc, hS⟩, n0, n8, hz, hR, k⟩ := h
  refine ⟨_, (pss_cons (ps_asg (pv 0) (kTup (K := K) (n := 3) rfl (pg_tup (by rfl) (pgs_cons (pg_name (i := 4) sc_l_told.nd rfl (by first | exact Or.inl rfl | exact Or.inr rfl)) (pgs_cons (pg_name (i := 5) sc_l_told.nd rfl (by first | exact Or.inl rfl | exact Or.inr rfl)) (pgs_cons (pg_name (i := 6) sc_l_told.nd rfl (by first | exact Or.inl rfl | exact Or.inr rfl)) pgs_nil))))))
    (pss_cons (ps_set (i := 1) sc_l_told.nd rfl (by first | exact Or.inl rfl | exact Or.inr rfl) (pe_make T.mk_Dial (ok_Dial_init T) (hr.mono (by decide)) (by rfl) T.m_Dial T.b_Dial_init .nil pass0 (pa_cons (pv 4) pa_nil)))
    (pss_cons (ps_for PassesOwn.never rfl (kIL (K := K) rfl (pi_list (pe_slice (kSlL K rfl) (pv 5) po_none (po_some pe_int)))) (pg_name (i := 2) sc_l_told.nd rfl (by first | exact Or.inl rfl | exact Or.inr rfl)) (pss_one (ps_expr (pe_meth (pv 1) T.cl_Dial T.mt_Dial_ask (ok_Dial_ask T) (hr.mono (by decide)) T.b_Dial_ask .nil pass0 (pa_cons (pv 2) pa_nil)))))
    (pss_cons (ps_set (i := 3) sc_l_told.nd rfl (by first | exact Or.inl rfl | exact Or.inr rfl) (pe_lst (pa_cons (pe_call (ok_told T) (hr.mono (by decide)) (by rfl) T.m_told T.F_told.kp T.b_told .nil pass0 (pa_cons (pv 4) (pa_cons (pv 5) pa_nil))) (pa_cons (pe_call (ok_lacking T) (hr.mono (by decide)) (by rfl) T.m_lacking T.F_lacking.kp T.b_lacking .nil pass0 (pa_cons (pv 4) (pa_cons (pv 5) (pa_cons (pv 6) pa_nil)))) (pa_cons (pe_call (ok_best T) (hr.mono (by decide)) (by rfl) T.m_best T.F_best.kp T.b_best .nil pass0 (pa_cons (pv 4) (pa_cons (pv 5) pa_nil))) (pa_cons (pe_call (ok_spells T) (hr.mono (by decide)) (by rfl) T.m_spells T.F_spells.kp T.b_spells .nil pass0 (pa_cons (pv 5) pa_nil)) (pa_cons (pe_call (ok_stretches T) (hr.mono (by decide)) (by rfl) T.m_stretches T.F_stretches.kp T.b_stretches .nil pass0 (pa_cons (pv 4) (pa_cons (pv 5) pa_nil))) pa_nil)))))))
    (pss_cons (ps_set (i := 3) sc_l_told.nd rfl (by first | exact Or.inl rfl | exact Or.inr rfl) (pe_op op_cat (pv 3) (pe_lst (pa_cons (pe_call (ok_lacking_in T) (hr.mono (by decide)) (by rfl) T.m_lacking_in T.F_lacking_in.kp T.b_lacking_in .nil pass0 (pa_cons (pv 4) (pa_cons (pv 5) (pa_cons (pv 6) pa_nil)))) (pa_cons (pe_call (ok_worst T) (hr.mono (by decide)) (by rfl) T.m_worst T.F_worst.kp T.b_worst .nil pass0 (pa_cons (pv 4) (pa_cons pe_int (pa_cons pe_int (pa_cons (pv 6) pa_nil))))) (pa_cons (pe_meth0 (pv 1) T.cl_Dial T.mt_Dial_pages (ok_Dial_pages T) (hr.mono (by decide)) T.b_Dial_pages .nil pass0) (pa_cons (pe_meth0 (pv 1) T.cl_Dial T.mt_Dial_looked (ok_Dial_looked T) (hr.mono (by decide)) T.b_Dial_looked .nil pass0) pa_nil)))))))
    (pss_one (ps_ret (pe_op op_cat (pv 3) (pe_lst (pa_cons (pe_call (ok_shown T) (hr.mono (by decide)) (by rfl) T.m_shown T.F_shown.kp T.b_shown .nil pass0 (pa_cons (pv 4) (pa_cons (pv 5) (pa_cons (pe_call (ok_paper T) (hr.mono (by decide)) (by rfl) T.m_paper T.F_paper.kp T.b_paper .nil pass0 (pa_cons (pv 4) (pa_cons (pv 5) pa_nil))) pa_nil)))) (pa_cons (pe_meth0 (pv 1) T.cl_Dial T.mt_Dial_points (ok_Dial_points T) (hr.mono (by decide)) T.b_Dial_points .nil pass0) (pa_cons (pe_meth0 (pv 1) T.cl_Dial T.mt_Dial_lacked (ok_Dial_lacked T) (hr.mono (by decide)) T.b_Dial_lacked .nil pass0) pa_nil)))))))))))), ?_⟩
  have r0 : 0 < n.toNat := by omega
  have r8 : n.toNat ≤ 8 := by omega
  have hnn : (n.toNat : Int) = n := by omega
  walk_at "cwj"
  intro x dx hx hdx ndx
  refine ⟨x, dx, n, rfl, upd_same, n0, n8, fun u v H1 f1 hu hv nuv D1 => ⟨rfl, ?_⟩⟩
  have f0 : Fr [] H (upd (upd H dx (.own x)) x (.ins ad.C_Dial dx [])) := (Fr.new hdx).trans (Fr.new ((upd_ne (ne_s ndx)).trans hx))
  have F1 : Fr [] H H1 := f0.comp f1 (by simp [hx])
  have nxu : x ≠ u := ne_of_none upd_same hu
  have nxv : x ≠ v := ne_of_none upd_same hv
  have hu0 : H u = none := f0.free hu
  have hv0 : H v = none := f0.free hv
  walk_at "cwj"
  rename_i sl hsl
  have ec : cutV (row.map V.int) none (some 9) = (row.take 9).map V.int := by
    have := cut_to (row.map V.int) 9
    rw [← List.map_take] at this
    exact this
  rw [ec]
  have hsl0 := F1.free hsl
  obtain ⟨⟨dx1, gx1⟩, gu1, gv1⟩ := id D1
  refine f_list ((row.take 9).map V.int) (fun i σ H' => ∃ v2, σ = [some (.ref c), some (.ref x), v2, none, some (.int n), some (.ref a), some (.str z)] ∧ Fr [] H H' ∧ Fr [x, u, v] (upd H1 sl (.lst ((row.take 9).map V.int))) H' ∧ DialAt ad.C_Dial H' x u v (endAll (Dl.new n.toNat) ((row.take 9).take i)))
    ⟨_, rfl, F1.trans (Fr.new hsl), .refl, D1.keep0 (Fr.new hsl)⟩ (fun i σ H' _ ⟨_, _, _, f, _⟩ => SqL.of (f.get upd_same (by simp; exact ⟨ne_n' hsl gx1, ne_n' hsl gu1, ne_n' hsl gv1⟩))) ?_ ?_
  · rintro i y σ H2 hi ⟨v2, rfl, F2, F12, D2⟩
    obtain ⟨z', hz', rfl⟩ := int_at hi
    have hmem : z' ∈ row := List.mem_of_mem_take (List.mem_of_getElem? hz')
    obtain ⟨z0, z1⟩ := hR.2 z' hmem
    have W := endAll_wf (Dl.new n.toNat) ((row.take 9).take i) (Dl.Wf.new r0 r8)
    obtain ⟨⟨dx2, k1⟩, k2, k3⟩ := id D2
    walk_at "cwj"
    refine w_methR k1 (lk_no _ _ _ _ (by decide +kernel) (by decide +kernel) (by decide +kernel) (by decide +kernel)) ?_
    walk_at "cwj"
    refine ⟨x, u, v, _, n.toNat, z', rfl, D2, W, nxu, nxv, nuv, z0, z1, fun t q H4 f4 D4 ht hq e1 e2 => ?_⟩
    refine ⟨_, rfl, F2.comp f4 (fun w m => ?_), F12.trans f4, ?_⟩
    · simp only [List.mem_cons, List.not_mem_nil, or_false] at m
      rcases m with rfl | rfl | rfl
      · exact .inr hx
      · exact .inr hu0
      · exact .inr hv0
    · rw [take_snoc hz', endAll_app]
      exact D4
  · rintro σ H2 ⟨v2, rfl, F2, F12, D2⟩
    have ed : (row.take 9).take ((row.take 9).map V.int).length = row.take 9 := by rw [List.length_map, List.take_length]
    rw [ed] at D2
    have Wd := endAll_wf (Dl.new n.toNat) (row.take 9) (Dl.Wf.new r0 r8)
    generalize hd : endAll (Dl.new n.toNat) (row.take 9) = d at *
    have hS2 := F2.seqL hS
    walk_at "cwj"
    refine c_told n0 n8 hS2 hR fun p1 G1 H3 f3 o1 => ?_
    walk_at "cwj"
    refine c_lacking n0 n8 hz (f3.seqL hS2) hR fun p2 H4 f4 hp2 h2 => ?_
    walk_at "cwj"
    refine c_best n0 n8 ((f3.trans f4).seqL hS2) hR fun t3 l3 g3 gx3 H5 f5 ht3 hl3 hg3 nlg h3t h3l h3g hP3 => ?_
    walk_at "cwj"
    refine c_spells (((f3.trans f4).trans f5).seqL hS2) hR fun p4 x4 H6 f6 hp4 h4 hP4 => ?_
    walk_at "cwj"
    have f26 := ((f3.trans f4).trans f5).trans f6
    refine c_stretches n0 n8 (f26.seqL hS2) hR fun p5 x5 H7 f7 hp5 h5 hP5 => ?_
    have f27 := f26.trans f7
    have A1 : OwnAll H2 H3 ([] ++ [.ref p1]) ([] ++ [.list ((askAll (Dl.new n.toNat) row).map tlD)]) ([] ++ G1) := OwnAll.nil.grow .refl f3 o1
    have A2 := A1.grow f3 f4 (.lints hp2 h2)
    have A3 := A2.grow (f3.trans f4) f5 (.tup ht3 h3t (.cons (.lints hl3 h3l) (.cons (F := [g3]) (G := []) (.lst hg3 h3g hP3.own (by simp)) .nil (by simp)) (by simpa using nlg)))
    have A4 := A3.grow ((f3.trans f4).trans f5) f6 (.lst hp4 h4 hP4.own (by simp))
    have A5 := A4.grow f26 f7 (.lst hp5 h5 hP5.own (by simp))
    walk_at "cwj"
    rename_i q1 hq1
    have f28 := f27.trans (Fr.new (o := .lst [.ref p1, .ref p2, .ref t3, .ref p4, .ref p5]) hq1)
    have A5' := A5.fr0 (Fr.new (o := .lst [.ref p1, .ref p2, .ref t3, .ref p4, .ref p5]) hq1)
    have gq1 : (upd H7 q1 (.lst [.ref p1, .ref p2, .ref t3, .ref p4, .ref p5])) q1 = some (.lst [.ref p1, .ref p2, .ref t3, .ref p4, .ref p5]) := upd_same
    generalize (upd H7 q1 (.lst [.ref p1, .ref p2, .ref t3, .ref p4, .ref p5])) = H8 at *
    refine c_lacking_in n0 n8 hz (f28.seqL hS2) hR fun p6 H9 f9 hp6 h6 => ?_
    have A6 := A5'.grow f28 f9 (.lints hp6 h6)
    walk_at "cwj"
    refine c_worst (p := 2) (m := 4) n0 n8 ⟨by decide, by decide, by decide, by decide⟩ hz fun t7 l7 r7 H10 f10 ht7 hl7 h7t h7l hr7 hw7 => ?_
    have ew : wrow n.toNat z = r7 := by unfold wrow; rw [hw7]; rfl
    have A7 := A6.grow (f28.trans f9) f10 (.tup ht7 h7t (.cons (F := []) (G := [l7]) (.int _) (.cons (F := [l7]) (G := []) (.lints hl7 h7l) .nil (by simp)) (by simp)))
    have f210 := (f28.trans f9).trans f10
    have D10 := D2.keep0 f210
    obtain ⟨⟨dx3, gd3⟩, _, _⟩ := id D10
    walk_at "cwj"
    refine w_methR gd3 (lk_no _ _ _ _ (by decide +kernel) (by decide +kernel) (by decide +kernel) (by decide +kernel)) ?_
    refine ⟨x, u, v, d, rfl, D10, fun p8 H11 f11 hp8 h8 => ?_⟩
    have A8 := A7.grow f210 f11 (.lst (F := []) hp8 h8 (.os _) (by simp))
    have D11 := D10.keep0 f11
    walk_at "cwj"
    refine w_methR (f11.get0 gd3) (lk_no _ _ _ _ (by decide +kernel) (by decide +kernel) (by decide +kernel) (by decide +kernel)) ?_
    refine ⟨x, u, v, d, rfl, D11, fun p9 H12 f12 hp9 h9 => ?_⟩
    have A9 := A8.grow (f210.trans f11) f12 (.lst (F := []) hp9 h9 (.bls _) (by simp))
    have D12 := D11.keep0 f12
    have f212 := (f210.trans f11).trans f12
    have gq12 := (((f9.trans f10).trans f11).trans f12).get0 gq1
    walk_at "cwj"
    rename_i q2 hq2 q3 hq3
    have f13 : Fr [] H12 (upd (upd H12 q2 (.lst [.ref p6, .ref t7, .ref p8, .ref p9])) q3 (.lst ([.ref p1, .ref p2, .ref t3, .ref p4, .ref p5] ++ [.ref p6, .ref t7, .ref p8, .ref p9]))) := (Fr.new hq2).trans (Fr.new hq3)
    have gq3 : (upd (upd H12 q2 (.lst [.ref p6, .ref t7, .ref p8, .ref p9])) q3 (.lst ([.ref p1, .ref p2, .ref t3, .ref p4, .ref p5] ++ [.ref p6, .ref t7, .ref p8, .ref p9]))) q3 = some (.lst ([.ref p1, .ref p2, .ref t3, .ref p4, .ref p5] ++ [.ref p6, .ref t7, .ref p8, .ref p9])) := upd_same
    generalize (upd (upd H12 q2 (.lst [.ref p6, .ref t7, .ref p8, .ref p9])) q3 (.lst ([.ref p1, .ref p2, .ref t3, .ref p4, .ref p5] ++ [.ref p6, .ref t7, .ref p8, .ref p9]))) = H13 at *
    have f213 := f212.trans f13
    refine c_paper n0 n8 (f213.seqL hS2) hR fun pp ps H14 f14 hpp h14 hpap hsh => ?_
    walk_at "cwj"
    refine c_shown n0 n8 ((f213.trans f14).seqL hS2) hR (SqL.of h14) hpap fun H15 f15 => ?_
    rw [hsh]
    have f215 := (f213.trans f14).trans f15
    have D15 := ((D12.keep0 f13).keep0 f14).keep0 f15
    obtain ⟨⟨dx4, gd4⟩, _, _⟩ := id D15
    walk_at "cwj"
    refine w_methR gd4 (lk_no _ _ _ _ (by decide +kernel) (by decide +kernel) (by decide +kernel) (by decide +kernel)) ?_
    refine ⟨x, u, v, d, rfl, D15, ?_⟩
    walk_at "cwj"
    refine w_methR gd4 (lk_no _ _ _ _ (by decide +kernel) (by decide +kernel) (by decide +kernel) (by decide +kernel)) ?_
    refine ⟨x, u, v, d, rfl, D15, ?_⟩
    have gq15 := (f14.trans f15).get0 gq3
    refine w_new (sz_le (by show 3 ≤ 100000; decide)) fun q4 hq4 => ?_
    have f16 : Fr [] H15 (upd H15 q4 (.lst [.int (bestN n.toNat row : Int), .int (d.hand : Nat), .int (d.lacks : Nat)])) := Fr.new hq4
    refine w_cat (f16.get0 gq15) upd_same (sz_le (by show 12 ≤ 100000; decide)) fun q5 hq5 => ?_
    have f17 := f16.trans (Fr.new (o := .lst (([.ref p1, .ref p2, .ref t3, .ref p4, .ref p5] ++ [.ref p6, .ref t7, .ref p8, .ref p9]) ++ [.int (bestN n.toNat row : Int), .int (d.hand : Nat), .int (d.lacks : Nat)])) hq5)
    have f217 := f215.trans f17
    have A10 := ((A9.fr0 (((f13.trans f14).trans f15).trans f17)).snoc (.int (bestN n.toNat row : Int)) (by simp)).snoc (.int ((d.hand : Nat) : Int)) (by simp) |>.snoc (.int ((d.lacks : Nat) : Int)) (by simp)
    have A11 := A10.base F2
    have hq50 : H q5 = none := F2.free ((f215.trans f16).free hq5)
    have nq5 := fun (m : q5 ∈ _) => (A9.fr0 (((f13.trans f14).trans f15).trans f16)).mem q5 m
    have own := Own.lst hq50 (H := upd (upd H15 q4 (.lst [.int (bestN n.toNat row : Int), .int (d.hand : Nat), .int (d.lacks : Nat)])) q5 (.lst (([.ref p1, .ref p2, .ref t3, .ref p4, .ref p5] ++ [.ref p6, .ref t7, .ref p8, .ref p9]) ++ [.int (bestN n.toNat row : Int), .int (d.hand : Nat), .int (d.lacks : Nat)]))) upd_same A11 (fun m => by
      obtain ⟨_, ys, e⟩ := nq5 (by simpa using m)
      rw [hq5] at e
      cases e)
    unfold toldD at k
    rw [hd, ew] at k
    exact k (.ref q5) _ _ (F2.trans f217) own

/-! _law_kept -/
def sp_l_kept (K : PySem.W.Frag) (k : Nat) : Sp := fun vs H Q _ => ∃ (H0 : Hp) (x : V) (d : PyData) (F : List Addr), vs = [x] ∧ Own H0 H x d F ∧ fits k d ∧ ∀ v G H', Fr [] H H' → Own H H' v d G → Q v H'
theorem c_kept {H H0 : Hp} {Q : VK} {E : XK} {k : Nat} {x : V} {d : PyData} {F : List Addr} (h1 : Own H0 H x d F) (h3 : fits k d) (q : ∀ v G H', Fr [] H H' → Own H H' v d G → Q v H') : sp_l_kept K k ([x] ++ []) H Q E := ⟨H0, x, d, F, rfl, h1, h3, q⟩
theorem kept_body (T : Txt K mg ad) (k : Nat) (spJ : Sp) (GJ : FnOk P w K mg base CX0 k ad.a_l_kept ad.d_l_kept ["_law_found"] spJ)
    (hk : ∀ ds, fits k (.list ds) ∨ fits k (.tuple ds) → ∃ j, k = j + 1 ∧ spJ = sp_l_kept K j) : FnOk P w K mg base CX0 (k + 1) ad.a_l_kept ad.d_l_kept ["_law_found"] (sp_l_kept K k) := by
    refine T.F_l_kept.ok sc_l_kept (fun vs H Q E h => ?_) (fun cdv A outer s H vs Q E hr h => ?_)
    · obtain ⟨H0, x, d, F, rfl, _⟩ := h
      rfl
    obtain ⟨H0, x, d, F, rfl, h1, h3, q⟩ := h
    refine ⟨_, (pss_cons (ps_if (pt_val (pe_callB (kIsiT K rfl) (by rfl) T.z_isinstance (by decide +kernel) (pa_cons (pv 0) (pa_cons (pe_tup (pa_cons (pe_bltn (v := .ty "list") (by rfl) T.z_list (by decide +kernel) rfl) (pa_cons (pe_bltn (v := .ty "tuple") (by rfl) T.z_tuple (by decide +kernel) rfl) pa_nil))) pa_nil)))) (pss_cons (ps_setLc (i := 1) (own := [("_law_one", 2)]) (by rfl) sc_l_kept.nd rfl rfl (sw_true rfl rfl rfl (by decide +kernel)) (kISeq (K := K) rfl (pi_seq (pv 0))) (blkOk_by (own := [("_law_one", 2)]) (N := N_l_kept) (sc := defScope s_l_kept) (by decide +kernel)) (fun _ _ _ _ _ => (pg_name (i := 2) sc_l_kept.nd rfl (by first | exact Or.inl rfl | exact Or.inr rfl))) (fun _ _ _ _ _ => pts_nil) (fun _ _ _ _ _ => (pe_call GJ (hr.mono (Nat.le_refl _)) (by rfl) T.m_l_kept T.F_l_kept.kp T.b_l_kept .nil pass0 (pa_cons (pv 2) pa_nil))))
    (pss_one (ps_ret (pe_ifExp (pt_val (pe_callB (kIsi K rfl) (by rfl) T.z_isinstance (by decide +kernel) (pa_cons (pv 0) (pa_cons (pe_bltn (v := .ty "tuple") (by rfl) T.z_tuple (by decide +kernel) rfl) pa_nil)))) (pe_callTy (kTupOf K rfl) (by rfl) T.z_tuple (by decide +kernel) (pa_cons (pv 1) pa_nil)) (pv 1))))) pss_nil)
    (pss_one (ps_ret (pv 0)))), ?_⟩
    have kk := kit2 (K := K)
    cases h1 with
    | non =>
      walk_at "cwj"
      rename_i tp htp
      refine w_isi2 upd_same (.base .non) kk.1 ?_
      walk_at "cwj"
      exact q _ _ _ (Fr.new htp) (.non)
    | bl b =>
      walk_at "cwj"
      rename_i tp htp
      refine w_isi2 upd_same (.base (.bl b)) kk.2.1 ?_
      walk_at "cwj"
      exact q _ _ _ (Fr.new htp) (.bl b)
    | int i =>
      walk_at "cwj"
      rename_i tp htp
      refine w_isi2 upd_same (.base (.int i)) kk.2.2.1 ?_
      walk_at "cwj"
      exact q _ _ _ (Fr.new htp) (.int i)
    | @lst a xs ds F' h0 h1 h2 hn =>
      obtain ⟨j, rfl, rfl⟩ := hk ds (.inl h3)
      obtain ⟨hz, hf⟩ := h3
      walk_at "cwj"
      rename_i tp htp
      refine w_isi2 upd_same (ty_L (sq_new (SqL.of h1) htp)) kk.2.2.2.1 ?_
      have F1 : Fr [] H (upd H tp (.tup [.ty "list", .ty "tuple"])) := Fr.new htp
      generalize (upd H tp (.tup [.ty "list", .ty "tuple"])) = H1 at *
      have g1 := F1.get0 h1
      have O1 := h2.fr0 F1
      have hxl := h2.len
      walk_at "cwj"
      refine ⟨a, rfl, .inl ⟨⟨xs, SqL.of g1⟩, l_lst xs (SqL.of g1) (fun D i acc H' => Fr [] H1 H' ∧ Fr [D] (upd H1 D (.lst [])) H' ∧ ∃ G, OwnAll (upd H1 D (.lst [])) H' acc (ds.take i) G) (fun D hD => ⟨Fr.new hD, .refl, [], .nil⟩) (fun D i acc H' hD h _ => SqL.of (h.1.get0 g1)) ?_ ?_⟩⟩
      · rintro D i x acc H2 hD hi ⟨F2, F3, G, hG⟩ hacc hla
        have hil := (List.getElem?_eq_some_iff.mp hi).1
        obtain ⟨d, hd⟩ : ∃ d, ds[i]? = some d := ⟨ds[i], List.getElem?_eq_getElem (by omega)⟩
        obtain ⟨x', Gx, hx', ox⟩ := (O1.fr0 F2).get hd
        rw [hi] at hx'
        obtain rfl := Option.some.inj hx'
        walk_at "cwj"
        refine c_kept ox (hf d (List.mem_of_getElem? hd)) fun v G' H4 f4 hv => ?_
        refine ⟨acc, f4.get0 hacc, sz_fit (by omega), acc ++ [v], ⟨(F2.trans f4).loc hD, (F3.more f4).trans (Fr.at (by simp)), G ++ G', ?_⟩, upd_same, by simp; omega⟩
        rw [take_snoc hd]
        exact (hG.growW F3 f4 hv).step (W := [D]) (by simp [upd_same]) (Fr.at (by simp))
      · rintro D acc H2 hD ⟨F2, F3, G, hG⟩ hacc hla
        rw [List.take_of_length_le (by omega)] at hG
        have nDG : D ∉ G := fun m => by
          have := (hG.mem D m).1
          rw [upd_same] at this
          cases this
        have hG' := (hG.base (Fr.new hD : Fr [] H1 _)).base F1
        have g2 := F2.get0 g1
        walk_at "cwj"
        exact q (.ref D) (D :: G) H2 (F1.trans F2) (.lst (F1.free hD) hacc hG' nDG)
    | @tup a xs ds F' h0 h1 h2  =>
      obtain ⟨j, rfl, rfl⟩ := hk ds (.inr h3)
      obtain ⟨hz, hf⟩ := h3
      walk_at "cwj"
      rename_i tp htp
      refine w_isi2 upd_same (ty_T (st_new (SqT.of h1) htp)) kk.2.2.2.2 ?_
      have F1 : Fr [] H (upd H tp (.tup [.ty "list", .ty "tuple"])) := Fr.new htp
      generalize (upd H tp (.tup [.ty "list", .ty "tuple"])) = H1 at *
      have g1 := F1.get0 h1
      have O1 := h2.fr0 F1
      have hxl := h2.len
      walk_at "cwj"
      refine ⟨a, rfl, .inr ⟨⟨xs, SqT.of g1⟩, l_tpl xs (SqT.of g1) (fun D i acc H' => Fr [] H1 H' ∧ Fr [D] (upd H1 D (.lst [])) H' ∧ ∃ G, OwnAll (upd H1 D (.lst [])) H' acc (ds.take i) G) (fun D hD => ⟨Fr.new hD, .refl, [], .nil⟩) (fun D i acc H' hD h _ => SqT.of (h.1.get0 g1)) ?_ ?_⟩⟩
      · rintro D i x acc H2 hD hi ⟨F2, F3, G, hG⟩ hacc hla
        have hil := (List.getElem?_eq_some_iff.mp hi).1
        obtain ⟨d, hd⟩ : ∃ d, ds[i]? = some d := ⟨ds[i], List.getElem?_eq_getElem (by omega)⟩
        obtain ⟨x', Gx, hx', ox⟩ := (O1.fr0 F2).get hd
        rw [hi] at hx'
        obtain rfl := Option.some.inj hx'
        walk_at "cwj"
        refine c_kept ox (hf d (List.mem_of_getElem? hd)) fun v G' H4 f4 hv => ?_
        refine ⟨acc, f4.get0 hacc, sz_fit (by omega), acc ++ [v], ⟨(F2.trans f4).loc hD, (F3.more f4).trans (Fr.at (by simp)), G ++ G', ?_⟩, upd_same, by simp; omega⟩
        rw [take_snoc hd]
        exact (hG.growW F3 f4 hv).step (W := [D]) (by simp [upd_same]) (Fr.at (by simp))
      · rintro D acc H2 hD ⟨F2, F3, G, hG⟩ hacc hla
        rw [List.take_of_length_le (by omega)] at hG
        have nDG : D ∉ G := fun m => by
          have := (hG.mem D m).1
          rw [upd_same] at this
          cases this
        have hG' := (hG.base (Fr.new hD : Fr [] H1 _)).base F1
        have g2 := F2.get0 g1
        walk_at "cwj"
        rename_i tq htq
        exact q (.ref tq) G _ ((F1.trans F2).trans (Fr.new htq)) (.tup ((F1.trans F2).free htq) upd_same (hG'.fr0 (Fr.new htq)))
theorem kept_at (T : Txt K mg ad) : ∀ k : Nat, FnOk P w K mg base CX0 (k + 1) ad.a_l_kept ad.d_l_kept ["_law_found"] (sp_l_kept K k)
  | 0 => kept_body T 0 (fun _ _ _ _ => False) ⟨fun _ _ _ _ h => h.elim, fun _ _ _ _ _ _ _ _ _ _ _ _ _ h => h.elim⟩ (fun ds h => by rcases h with h | h <;> exact h.elim)
  | k + 1 => kept_body T (k + 1) (sp_l_kept K k) (kept_at T k) (fun _ _ => ⟨k, rfl, rfl⟩)
theorem ok_l_kept (T : Txt K mg ad) : FnOk P w K mg base CX0 6 ad.a_l_kept ad.d_l_kept ["_law_found"] (sp_l_kept K 5) := kept_at T 5

/-! _law_spoil -/
def sp_l_spoil (K : PySem.W.Frag) (k : Nat) : Sp := fun vs H Q _ => ∃ (H0 : Hp) (x : V) (d : PyData) (F : List Addr), vs = [x] ∧ Own H0 H x d F ∧ fits k d ∧ ∀ H', Fr F H H' → Q .non H'
theorem c_spoil {H H0 : Hp} {Q : VK} {E : XK} {k : Nat} {x : V} {d : PyData} {F : List Addr} (h1 : Own H0 H x d F) (h3 : fits k d) (q : ∀ H', Fr F H H' → Q .non H') : sp_l_spoil K k ([x] ++ []) H Q E := ⟨H0, x, d, F, rfl, h1, h3, q⟩
theorem spoil_body (T : Txt K mg ad) (k : Nat) (spJ : Sp) (GJ : FnOk P w K mg base CX0 k ad.a_l_spoil ad.d_l_spoil ["_law_found"] spJ)
    (hk : ∀ ds, fits k (.list ds) ∨ fits k (.tuple ds) → ∃ j, k = j + 1 ∧ spJ = sp_l_spoil K j) : FnOk P w K mg base CX0 (k + 1) ad.a_l_spoil ad.d_l_spoil ["_law_found"] (sp_l_spoil K k) := by
    refine T.F_l_spoil.ok sc_l_spoil (fun vs H Q E h => ?_) (fun cdv A outer s H vs Q E hr h => ?_)
    · obtain ⟨H0, x, d, F, rfl, _⟩ := h
      rfl
    obtain ⟨H0, x, d, F, rfl, h1, h3, q⟩ := h
    refine ⟨_, (C8.pss_cut (ps_if (pt_val (pe_callB (kIsiT K rfl) (by rfl) T.z_isinstance (by decide +kernel) (pa_cons (pv 0) (pa_cons (pe_tup (pa_cons (pe_bltn (v := .ty "list") (by rfl) T.z_list (by decide +kernel) rfl) (pa_cons (pe_bltn (v := .ty "tuple") (by rfl) T.z_tuple (by decide +kernel) rfl) pa_nil))) pa_nil)))) (pss_one (ps_for PassesOwn.never rfl (kISeq (K := K) rfl (pi_seq (pv 0))) (pg_name (i := 1) sc_l_spoil.nd rfl (by first | exact Or.inl rfl | exact Or.inr rfl)) (pss_one (ps_expr (pe_call GJ (hr.mono (Nat.le_refl _)) (by rfl) T.m_l_spoil T.F_l_spoil.kp T.b_l_spoil .nil pass0 (pa_cons (pv 1) pa_nil)))))) pss_nil)
    (pss_one (ps_if (pt_val (pe_callB (kIsi K rfl) (by rfl) T.z_isinstance (by decide +kernel) (pa_cons (pv 0) (pa_cons (pe_bltn (v := .ty "list") (by rfl) T.z_list (by decide +kernel) rfl) pa_nil)))) (pss_one (ps_expr (kBM (K := K) rfl (pe_bm PySem.F.plainAttrs_list PySem.F.slot_list_append PySem.F.type_list_append mt_append (pv 0) (pa_cons pe_int pa_nil))))) pss_nil))), ?_⟩
    have kk := kit2 (K := K)
    cases h1 with
    | non =>
      walk_at "cwj"
      refine w_cut (fun σ H' => σ = [some (.non), none] ∧ Fr [] H H') ?_ ?_
      · walk_at "cwj"
        rename_i tp htp
        refine w_isi2 upd_same (.base .non) kk.1 ?_
        walk_at "cwj"
        exact ⟨rfl, Fr.new htp⟩
      · rintro σ H1 ⟨rfl, F1⟩
        walk_at "cwj"
        exact q _ F1
    | bl b =>
      walk_at "cwj"
      refine w_cut (fun σ H' => σ = [some (.bl b), none] ∧ Fr [] H H') ?_ ?_
      · walk_at "cwj"
        rename_i tp htp
        refine w_isi2 upd_same (.base (.bl b)) kk.2.1 ?_
        walk_at "cwj"
        exact ⟨rfl, Fr.new htp⟩
      · rintro σ H1 ⟨rfl, F1⟩
        walk_at "cwj"
        exact q _ F1
    | int i =>
      walk_at "cwj"
      refine w_cut (fun σ H' => σ = [some (.int i), none] ∧ Fr [] H H') ?_ ?_
      · walk_at "cwj"
        rename_i tp htp
        refine w_isi2 upd_same (.base (.int i)) kk.2.2.1 ?_
        walk_at "cwj"
        exact ⟨rfl, Fr.new htp⟩
      · rintro σ H1 ⟨rfl, F1⟩
        walk_at "cwj"
        exact q _ F1
    | @lst a xs ds F' h0 h1 h2 hn =>
      obtain ⟨j, rfl, rfl⟩ := hk ds (.inl h3)
      obtain ⟨hz, hf⟩ := h3
      have hxl := h2.len
      walk_at "cwj"
      refine w_cut (fun σ H' => ∃ v, σ = [some (.ref a), v] ∧ Fr F' H H') ?_ ?_
      · walk_at "cwj"
        rename_i tp htp
        refine w_isi2 upd_same (ty_L (sq_new (SqL.of h1) htp)) kk.2.2.2.1 ?_
        have F1 : Fr [] H (upd H tp (.tup [.ty "list", .ty "tuple"])) := Fr.new htp
        generalize (upd H tp (.tup [.ty "list", .ty "tuple"])) = H1 at *
        have g1 := F1.get0 h1
        have O1 := h2.fr0 F1
        walk_at "cwj"
        have haF : ∀ H', Fr F' H1 H' → H' a = some (.lst xs) := fun H' f => f.get g1 hn
        refine ⟨a, rfl, .inl ⟨⟨xs, SqL.of g1⟩, f_lst xs (fun i σ H' => ∃ v G, σ = [some (.ref a), v] ∧ Fr F' H1 H' ∧ OwnAll H0 H' (xs.drop i) (ds.drop i) G ∧ ∀ x ∈ G, x ∈ F') ⟨_, _, rfl, .refl, O1, fun x m => m⟩ (fun i σ H' _ ⟨_, _, _, f, _⟩ => SqL.of (haF H' f)) ?_ ?_⟩⟩
        · rintro i x σ H2 hi ⟨v, G, rfl, F2, hO, hG⟩
          have hil := (List.getElem?_eq_some_iff.mp hi).1
          have ex : xs.drop i = x :: xs.drop (i + 1) := by
            rw [List.drop_eq_getElem_cons hil]
            rw [List.getElem?_eq_getElem hil] at hi
            rw [Option.some.inj hi]
          have ed : ds.drop i = ds[i]'(by omega) :: ds.drop (i + 1) := List.drop_eq_getElem_cons (by omega)
          have hfd := hf _ (List.getElem_mem (l := ds) (n := i) (by omega))
          rw [ex, ed] at hO
          generalize ds[i]'(by omega) = d at *
          cases hO with
          | @cons _ _ _ _ Fx Gx ox ot hdis =>
            walk_at "cwj"
            refine c_spoil ox hfd fun H3 f3 => ?_
            walk_at "cwj"
            refine ⟨_, Gx, rfl, F2.trans (f3.mono fun w m => hG w (List.mem_append_left _ m)), ot.keep f3 (fun w m => (ox.mem w m).2) hdis, fun w m => hG w (List.mem_append_right _ m)⟩
        · rintro σ H2 ⟨v, G, rfl, F2, hO, hG⟩
          exact ⟨v, rfl, F1.of0.trans F2⟩
      · rintro σ H1 ⟨v, rfl, F1⟩
        have g1 := F1.get h1 hn
        have hsz : xs.length < sizeLine := sz_fit (by omega)
        walk_at "cwj"
        refine q _ ((F1.mono fun w m => List.mem_cons_of_mem _ m).trans (Fr.at (by simp)))
    | @tup a xs ds F' h0 h1 h2  =>
      obtain ⟨j, rfl, rfl⟩ := hk ds (.inr h3)
      obtain ⟨hz, hf⟩ := h3
      have hxl := h2.len
      walk_at "cwj"
      refine w_cut (fun σ H' => ∃ v, σ = [some (.ref a), v] ∧ Fr F H H') ?_ ?_
      · walk_at "cwj"
        rename_i tp htp
        refine w_isi2 upd_same (ty_T (st_new (SqT.of h1) htp)) kk.2.2.2.2 ?_
        have F1 : Fr [] H (upd H tp (.tup [.ty "list", .ty "tuple"])) := Fr.new htp
        generalize (upd H tp (.tup [.ty "list", .ty "tuple"])) = H1 at *
        have g1 := F1.get0 h1
        have O1 := h2.fr0 F1
        walk_at "cwj"
        have haF : ∀ H', Fr F H1 H' → H' a = some (.tup xs) := fun H' f => f.get g1 (fun m => by obtain ⟨_, ys, e⟩ := O1.mem a m; rw [g1] at e; cases e)
        refine ⟨a, rfl, .inr ⟨⟨xs, SqT.of g1⟩, f_tup xs (fun i σ H' => ∃ v G, σ = [some (.ref a), v] ∧ Fr F H1 H' ∧ OwnAll H0 H' (xs.drop i) (ds.drop i) G ∧ ∀ x ∈ G, x ∈ F) ⟨_, _, rfl, .refl, O1, fun x m => m⟩ (fun i σ H' _ ⟨_, _, _, f, _⟩ => SqT.of (haF H' f)) ?_ ?_⟩⟩
        · rintro i x σ H2 hi ⟨v, G, rfl, F2, hO, hG⟩
          have hil := (List.getElem?_eq_some_iff.mp hi).1
          have ex : xs.drop i = x :: xs.drop (i + 1) := by
            rw [List.drop_eq_getElem_cons hil]
            rw [List.getElem?_eq_getElem hil] at hi
            rw [Option.some.inj hi]
          have ed : ds.drop i = ds[i]'(by omega) :: ds.drop (i + 1) := List.drop_eq_getElem_cons (by omega)
          have hfd := hf _ (List.getElem_mem (l := ds) (n := i) (by omega))
          rw [ex, ed] at hO
          generalize ds[i]'(by omega) = d at *
          cases hO with
          | @cons _ _ _ _ Fx Gx ox ot hdis =>
            walk_at "cwj"
            refine c_spoil ox hfd fun H3 f3 => ?_
            walk_at "cwj"
            refine ⟨_, Gx, rfl, F2.trans (f3.mono fun w m => hG w (List.mem_append_left _ m)), ot.keep f3 (fun w m => (ox.mem w m).2) hdis, fun w m => hG w (List.mem_append_right _ m)⟩
        · rintro σ H2 ⟨v, G, rfl, F2, hO, hG⟩
          exact ⟨v, rfl, F1.of0.trans F2⟩
      · rintro σ H1 ⟨v, rfl, F1⟩
        have g1 := F1.get h1 (fun m => by obtain ⟨_, ys, e⟩ := h2.mem a m; rw [h1] at e; cases e)
        walk_at "cwj"
        exact q _ F1
theorem spoil_at (T : Txt K mg ad) : ∀ k : Nat, FnOk P w K mg base CX0 (k + 1) ad.a_l_spoil ad.d_l_spoil ["_law_found"] (sp_l_spoil K k)
  | 0 => spoil_body T 0 (fun _ _ _ _ => False) ⟨fun _ _ _ _ h => h.elim, fun _ _ _ _ _ _ _ _ _ _ _ _ _ h => h.elim⟩ (fun ds h => by rcases h with h | h <;> exact h.elim)
  | k + 1 => spoil_body T (k + 1) (sp_l_spoil K k) (spoil_at T k) (fun _ _ => ⟨k, rfl, rfl⟩)
theorem ok_l_spoil (T : Txt K mg ad) : FnOk P w K mg base CX0 6 ad.a_l_spoil ad.d_l_spoil ["_law_found"] (sp_l_spoil K 5) := spoil_at T 5

/-! law -/
def CasesAt (A : List Addr) (H' : Hp) (xs : List V) (cs : List (Int × Str × List Int)) : Prop := xs.length = cs.length ∧ ∀ (i : Nat) (e : Int × Str × List Int), cs[i]? = some e → ∃ c a, xs[i]? = some (.ref c) ∧ c ∉ A ∧ a ∉ A ∧ H' c = some (.tup [.int e.1, .ref a, .str e.2.1]) ∧ H' a = some (.lst (e.2.2.map V.int)) ∧
  1 ≤ e.1 ∧ e.1 ≤ 8 ∧ IsRule e.2.1 ∧ RowOk e.2.2
theorem CasesAt.nil {A : List Addr} {H' : Hp} : CasesAt A H' [] [] := ⟨rfl, fun i e h => by simp at h⟩
theorem CasesAt.fr {A W : List Addr} {H' H2 : Hp} {xs : List V} {cs : List (Int × Str × List Int)} (h : CasesAt A H' xs cs) (f : Fr W H' H2) (hw : ∀ w ∈ W, w ∈ A) : CasesAt A H2 xs cs := ⟨h.1, fun i e he => by
  obtain ⟨c, a, h1, h2, h3, h4, h5, h6⟩ := h.2 i e he
  exact ⟨c, a, h1, h2, h3, f.get h4 (fun m => h2 (hw _ m)), f.get h5 (fun m => h3 (hw _ m)), h6⟩⟩
theorem CasesAt.snoc {A : List Addr} {H' : Hp} {xs : List V} {cs : List (Int × Str × List Int)} {c a : Addr} {n : Int} {z : Str} {row : List Int} (h : CasesAt A H' xs cs) (hc : c ∉ A) (ha : a ∉ A) (h1 : H' c = some (.tup [.int n, .ref a, .str z])) (h2 : H' a = some (.lst (row.map V.int))) (n0 : 1 ≤ n) (n8 : n ≤ 8) (hz : IsRule z) (hR : RowOk row) :
    CasesAt A H' (xs ++ [.ref c]) (cs ++ [(n, z, row)]) := ⟨by simp [h.1], fun i e he => by
  rcases Nat.lt_or_ge i cs.length with lt | ge
  · rw [List.getElem?_append_left lt] at he
    rw [List.getElem?_append_left (by rw [h.1]; exact lt)]
    exact h.2 i e he
  · rw [List.getElem?_append_right ge] at he
    have hi : i - cs.length = 0 := by
      have := (List.getElem?_eq_some_iff.mp he).1
      simp at this
      omega
    rw [hi] at he
    obtain rfl := Option.some.inj he
    exact ⟨c, a, by rw [List.getElem?_append_right (by rw [h.1]; exact ge), h.1, hi]; rfl, hc, ha, h1, h2, n0, n8, hz, hR⟩⟩
abbrev caseD (e : Int × Str × List Int) : PyData := toldD e.1.toNat e.2.1 e.2.2
/-- two that are told, two that are kept, all apart, and none of A -/
def KS (Hc H' : Hp) (A : List Addr) (v0 v1 k0 k1 : V) (d0 d1 : PyData) : Prop := ∃ F0 F1 G0 G1, Own Hc H' v0 d0 F0 ∧ Own Hc H' v1 d1 F1 ∧ Own Hc H' k0 d0 G0 ∧ Own Hc H' k1 d1 G1 ∧ (∀ x ∈ F0, x ∉ F1) ∧ (∀ x ∈ F0 ++ F1, x ∉ G0 ++ G1) ∧ ∀ x ∈ F0 ++ F1 ++ (G0 ++ G1), x ∉ A
def KR (Hc H' : Hp) (A : List Addr) (v1 k0 k1 : V) (d0 d1 : PyData) : Prop := ∃ F1 G0 G1, Own Hc H' v1 d1 F1 ∧ Own Hc H' k0 d0 G0 ∧ Own Hc H' k1 d1 G1 ∧ (∀ x ∈ F1, x ∉ G0 ++ G1) ∧ ∀ x ∈ F1 ++ (G0 ++ G1), x ∉ A
theorem KS.swap {Hc H' : Hp} {A : List Addr} {v0 v1 k0 k1 : V} {d0 d1 : PyData} (h : KS Hc H' A v0 v1 k0 k1 d0 d1) : KS Hc H' A v1 v0 k1 k0 d1 d0 := by
  obtain ⟨F0, F1, G0, G1, a, b, c, d, e, f, g⟩ := h
  refine ⟨F1, F0, G1, G0, b, a, d, c, fun x hx hy => e x hy hx, fun x hx hy => f x (by simp at hx ⊢; exact hx.symm) (by simp at hy ⊢; exact hy.symm), fun x hx => g x (by simp at hx ⊢; rcases hx with h | h | h | h <;> simp [h])⟩
theorem KS.spoil {Hc H' : Hp} {A : List Addr} {v0 v1 k0 k1 : V} {d0 d1 : PyData} (h : KS Hc H' A v0 v1 k0 k1 d0 d1) : ∃ F, Own Hc H' v0 d0 F ∧ (∀ w ∈ F, w ∉ A) ∧ ∀ H1, Fr F H' H1 → KR Hc H1 A v1 k0 k1 d0 d1 := by
  obtain ⟨F0, F1, G0, G1, a, b, c, d, e, f, g⟩ := h
  refine ⟨F0, a, fun w hw => g w (by simp [hw]), fun H1 fr => ⟨F1, G0, G1, b.keep fr (fun w m => (a.mem w m).2) e, c.keep fr (fun w m => (a.mem w m).2) (fun w m z => f w (by simp [m]) (by simp [z])), d.keep fr (fun w m => (a.mem w m).2) (fun w m z => f w (by simp [m]) (by simp [z])), fun x hx => f x (by simp [hx]), fun x hx => g x (by simp at hx ⊢; rcases hx with h | h | h <;> simp [h])⟩⟩
theorem KR.told {Hc H1 H2 : Hp} {A F : List Addr} {v v1 k0 k1 : V} {d0 d1 : PyData} (h : KR Hc H1 A v1 k0 k1 d0 d1) (hA : ∀ a ∈ A, ∃ ys, H1 a = some (.lst ys)) (fc : Fr [] Hc H1) (f : Fr [] H1 H2) (o : Own H1 H2 v d0 F) : KS Hc H2 A v v1 k0 k1 d0 d1 := by
  obtain ⟨F1, G0, G1, b, c, d, e, g⟩ := h
  have out : ∀ x ∈ F, ∀ ys, H1 x ≠ some (.lst ys) := fun x hx ys z => by rw [(o.mem x hx).1] at z; cases z
  refine ⟨F, F1, G0, G1, o.base fc, b.fr0 f, c.fr0 f, d.fr0 f, fun x hx hy => ?_, fun x hx hy => ?_, fun x hx => ?_⟩
  · obtain ⟨_, ys, z⟩ := b.mem x hy
    exact out x hx ys z
  · rcases List.mem_append.mp hx with hx | hx
    · rcases List.mem_append.mp hy with hy | hy
      · obtain ⟨_, ys, z⟩ := c.mem x hy
        exact out x hx ys z
      · obtain ⟨_, ys, z⟩ := d.mem x hy
        exact out x hx ys z
    · exact e x hx hy
  · rw [List.append_assoc] at hx
    rcases List.mem_append.mp hx with hx | hx
    · intro m
      obtain ⟨ys, z⟩ := hA x m
      exact out x hx ys z
    · exact g x hx
theorem KS.set {Hc H2 : Hp} {A : List Addr} {v0 v1 k0 k1 : V} {d0 d1 : PyData} {a : Addr} {ys zs : List V} (h : KS Hc H2 A v0 v1 k0 k1 d0 d1) (ha : a ∈ A) (hl : H2 a = some (.lst ys)) : KS Hc (upd H2 a (.lst zs)) A v0 v1 k0 k1 d0 d1 := by
  obtain ⟨F0, F1, G0, G1, b, c, d, e, f, g, i⟩ := h
  have fr : Fr [a] H2 (upd H2 a (.lst zs)) := Fr.at (by simp)
  have hL : ∀ w ∈ [a], ∃ ys, H2 w = some (.lst ys) := fun w m => by rw [List.mem_singleton.mp m]; exact ⟨ys, hl⟩
  refine ⟨F0, F1, G0, G1, b.keep fr hL fun w m z => ?_, c.keep fr hL fun w m z => ?_, d.keep fr hL fun w m z => ?_, e.keep fr hL fun w m z => ?_, f, g, i⟩
  all_goals (rw [List.mem_singleton.mp m] at z; exact i a (by simp [z]) ha)
theorem KS.fr0 {Hc H2 H3 : Hp} {A : List Addr} {v0 v1 k0 k1 : V} {d0 d1 : PyData} (h : KS Hc H2 A v0 v1 k0 k1 d0 d1) (fr : Fr [] H2 H3) : KS Hc H3 A v0 v1 k0 k1 d0 d1 := by
  obtain ⟨F0, F1, G0, G1, b, c, d, e, f⟩ := h
  exact ⟨F0, F1, G0, G1, b.fr0 fr, c.fr0 fr, d.fr0 fr, e.fr0 fr, f⟩
theorem own_two {H0 H : Hp} {vs : List V} {d0 d1 : PyData} {F : List Addr} (h : OwnAll H0 H vs [d0, d1] F) : ∃ v0 v1 F0 F1, vs = [v0, v1] ∧ Own H0 H v0 d0 F0 ∧ Own H0 H v1 d1 F1 ∧ (∀ x ∈ F0, x ∉ F1) ∧ F = F0 ++ F1 := by
  cases h with
  | cons h1 t hd =>
    cases t with
    | @cons _ _ _ _ F1 G h2 t2 hd2 =>
      cases t2
      exact ⟨_, _, _, _, rfl, h1, h2, fun x hx z => hd x hx (List.mem_append_left _ z), by rw [List.append_nil]⟩
def sp_l_law (K : PySem.W.Frag) : Sp := fun vs H Q _ => ∃ (a : Addr) (ns : List Int), vs = [.ref a] ∧ SqL K H a (ns.map V.int) ∧ ns.length ≤ 63 ∧ ∀ H', Q (.bl true) H'
theorem ok_l_law (T : Txt K mg ad) : FnOk P w K mg base CX0 9 ad.a_l_law ad.d_l_law ["_law_script"] (sp_l_law K) := by
  refine T.F_l_law.ok sc_l_law (fun vs H Q E h => ?_) (fun cdv A outer s H vs Q E hr h => ?_)
  · obtain ⟨a, ns, rfl, _⟩ := h
    rfl
  obtain ⟨a, ns, rfl, hS, hl, k⟩ := h
  refine ⟨_, (pss_cons (ps_set (i := 1) sc_l_law.nd rfl (by first | exact Or.inl rfl | exact Or.inr rfl) (pe_call (ok_l_begun T) (hr.mono (by decide)) (by rfl) T.m_l_begun T.F_l_begun.kp T.b_l_begun .nil pass0 (pa_cons (pv 0) pa_nil)))
    (pss_cons (ps_set (i := 2) sc_l_law.nd rfl (by first | exact Or.inl rfl | exact Or.inr rfl) (pe_lst pa_nil))
    (pss_cons (ps_for PassesOwn.never rfl (pi_range1 (by rfl) T.z_range (pa_cons pe_int pa_nil)) (pg_name (i := 3) sc_l_law.nd rfl (by first | exact Or.inl rfl | exact Or.inr rfl)) (pss_cons (ps_set (i := 7) sc_l_law.nd rfl (by first | exact Or.inl rfl | exact Or.inr rfl) (pe_ix (kIxL K rfl) (pe_lst (pa_cons pe_str (pa_cons pe_str (pa_cons pe_str pa_nil)))) (pe_call (ok_l_take T) (hr.mono (by decide)) (by rfl) T.m_l_take T.F_l_take.kp T.b_l_take .nil pass0 (pa_cons (pv 1) (pa_cons pe_int pa_nil))) (fun _ _ => rfl)))
    (pss_one (ps_expr (kBM (K := K) rfl (pe_bm PySem.F.plainAttrs_list PySem.F.slot_list_append PySem.F.type_list_append mt_append (pv 2) (pa_cons (pe_tup (pa_cons (pe_op op_add pe_int (pe_call (ok_l_take T) (hr.mono (by decide)) (by rfl) T.m_l_take T.F_l_take.kp T.b_l_take .nil pass0 (pa_cons (pv 1) (pa_cons pe_int pa_nil)))) (pa_cons (pe_call (ok_l_row T) (hr.mono (by decide)) (by rfl) T.m_l_row T.F_l_row.kp T.b_l_row .nil pass0 (pa_cons (pv 1) (pa_cons pe_int pa_nil))) (pa_cons (pv 7) pa_nil)))) pa_nil)))))))
    (pss_cons (ps_setLc (i := 4) (own := [("_law_case", 10)]) (by rfl) sc_l_law.nd rfl rfl (sw_true rfl rfl rfl (by decide +kernel)) (kIL (K := K) rfl (pi_list (pv 2))) (blkOk_by (own := [("_law_case", 10)]) (N := N_l_law) (sc := defScope s_l_law) (by decide +kernel)) (fun _ _ _ _ _ => (pg_name (i := 10) sc_l_law.nd rfl (by first | exact Or.inl rfl | exact Or.inr rfl))) (fun _ _ _ _ _ => pts_nil) (fun _ _ _ _ _ => (pe_call (ok_l_told T) (hr.mono (by decide)) (by rfl) T.m_l_told T.F_l_told.kp T.b_l_told .nil pass0 (pa_cons (pv 10) pa_nil))))
    (pss_cons (ps_setLc (i := 5) (own := [("_law_one", 11)]) (by rfl) sc_l_law.nd rfl rfl (sw_true rfl rfl rfl (by decide +kernel)) (kIL (K := K) rfl (pi_list (pv 4))) (blkOk_by (own := [("_law_one", 11)]) (N := N_l_law) (sc := defScope s_l_law) (by decide +kernel)) (fun _ _ _ _ _ => (pg_name (i := 11) sc_l_law.nd rfl (by first | exact Or.inl rfl | exact Or.inr rfl))) (fun _ _ _ _ _ => pts_nil) (fun _ _ _ _ _ => (pe_call (ok_l_kept T) (hr.mono (by decide)) (by rfl) T.m_l_kept T.F_l_kept.kp T.b_l_kept .nil pass0 (pa_cons (pv 11) pa_nil))))
    (pss_cons (ps_for PassesOwn.never rfl (kIL (K := K) rfl (pi_list (pe_lst (pa_cons pe_int (pa_cons pe_int (pa_cons pe_int pa_nil)))))) (pg_name (i := 6) sc_l_law.nd rfl (by first | exact Or.inl rfl | exact Or.inr rfl)) (pss_cons (ps_expr (pe_call (ok_l_spoil T) (hr.mono (by decide)) (by rfl) T.m_l_spoil T.F_l_spoil.kp T.b_l_spoil .nil pass0 (pa_cons (pe_ix (kIxL K rfl) (pv 4) (pv 6) (fun _ _ => rfl)) pa_nil)))
    (pss_cons (ps_asg (pe_call (ok_l_told T) (hr.mono (by decide)) (by rfl) T.m_l_told T.F_l_told.kp T.b_l_told .nil pass0 (pa_cons (pe_ix (kIxL K rfl) (pv 2) (pv 6) (fun _ _ => rfl)) pa_nil)) (pg_sub (pv 4) (pv 6) set_list))
    (pss_one (ps_if (pt_cmpR (kNeD K rfl hr.units) (pe_ix (kIxL K rfl) (pv 4) (pv 6) (fun _ _ => rfl)) (pe_ix (kIxL K rfl) (pv 5) (pv 6) (fun _ _ => rfl)) (nomark _)) (pss_one (ps_ret pe_bl)) pss_nil)))))
    (pss_cons (ps_asg (pe_ix (kIxL K rfl) (pv 2) pe_int (fun _ _ => rfl)) (kTup (K := K) (n := 3) rfl (pg_tup (by rfl) (pgs_cons (pg_name (i := 8) sc_l_law.nd rfl (by first | exact Or.inl rfl | exact Or.inr rfl)) (pgs_cons (pg_name (i := 9) sc_l_law.nd rfl (by first | exact Or.inl rfl | exact Or.inr rfl)) (pgs_cons (pg_name (i := 7) sc_l_law.nd rfl (by first | exact Or.inl rfl | exact Or.inr rfl)) pgs_nil))))))
    (pss_one (ps_ret (pe_cmpR (kEqD K rfl hr.units) (pe_call (ok_l_told T) (hr.mono (by decide)) (by rfl) T.m_l_told T.F_l_told.kp T.b_l_told .nil pass0 (pa_cons (pe_tup (pa_cons (pv 8) (pa_cons (pe_callTy (kList K rfl) (by rfl) T.z_list (by decide +kernel) (pa_cons (pv 9) pa_nil)) (pa_cons (pv 7) pa_nil)))) pa_nil)) (pe_ix (kIxL K rfl) (pv 5) pe_int (fun _ _ => rfl)) (nomark _))))))))))), ?_⟩
  walk_at "cwj"
  refine ⟨a, ns, rfl, hS, hl, fun b q H1 f1 hb hq B1 => ?_⟩
  walk_at "cwj"
  rename_i cl hcl
  have ncl : cl ∉ [b, q] := B1.nin hcl
  have B2 := B1.keep0 (Fr.new (o := .lst []) hcl)
  have gc2 : (upd H1 cl (.lst [])) cl = some (.lst []) := upd_same
  generalize upd H1 cl (.lst []) = H2 at *
  refine f_rng1 (j := 2) (by decide) (by decide) (fun i σ H' => ∃ v3 v7 xs cs, σ = [some (.ref a), some (.ref b), some (.ref cl), v3, none, none, none, v7, none, none, none, none] ∧ Box H' b q ∧ H' cl = some (.lst xs) ∧ cs.length = i ∧ CasesAt [b, q, cl] H' xs cs) ⟨_, _, [], [], rfl, B2, gc2, rfl, .nil⟩ ?_ ?_
  · rintro i σ H3 hi ⟨v3, v7, xs, cs, rfl, B3, gc3, hcs, hC⟩
    have hxl := hC.1
    walk_at "cwj"
    rename_i pz hpz
    have F4 : Fr [] H3 (upd H3 pz (.lst [V.str (Str.ofString "hand"), V.str (Str.ofString "unseen"), V.str (Str.ofString "first")])) := Fr.new hpz
    refine c_take (B3.keep0 F4) (by omega) (by omega) fun r2 H4 f4 B4 r20 r21 => ?_
    have gz : H4 pz = some (.lst [V.str (Str.ofString "hand"), V.str (Str.ofString "unseen"), V.str (Str.ofString "first")]) := f4.get upd_same (B3.nin hpz)
    obtain ⟨z, hz, hat⟩ : ∃ z, IsRule z ∧ atI [V.str (Str.ofString "hand"), V.str (Str.ofString "unseen"), V.str (Str.ofString "first")] r2 = some (.str z) := by
      obtain h | h | h : r2 = 0 ∨ r2 = 1 ∨ r2 = 2 := by omega
      · subst h; exact ⟨_, .inl rfl, rfl⟩
      · subst h; exact ⟨_, .inr (.inl rfl), rfl⟩
      · subst h; exact ⟨_, .inr (.inr rfl), rfl⟩
    have gc4 := (F4.of0.trans f4).get gc3 ncl
    walk_at "cwj"
    refine c_take B4 (by omega) (by omega) fun r H5 f5 B5 r0 r1 => ?_
    walk_at "cwj"
    refine c_row B5 (by omega) (by omega) fun p row H6 f6 B6 hp h6 hl6 hm => ?_
    have hR : RowOk row := ⟨by omega, hm⟩
    have F36 : Fr [b, q] H3 H6 := ((F4.of0.trans f4).trans f5).trans f6
    have gc6 := F36.get gc3 ncl
    have hC6 := hC.fr F36 (by simp)
    have ncp : p ∉ [b, q, cl] := by
      have h1 := B5.nin hp
      simp at h1 ⊢
      exact ⟨h1.1, h1.2, ne_n' hp (((F4.of0.trans f4).trans f5).get gc3 ncl)⟩
    walk_at "cwj"
    rename_i ct hct
    have nct : ct ∉ [b, q, cl] := by
      have h1 := B6.nin hct
      simp at h1 ⊢
      exact ⟨h1.1, h1.2, ne_n' hct gc6⟩
    have F7 : Fr [] H6 (upd H6 ct (.tup [.int (1 + r), .ref p, .str z])) := Fr.new hct
    have hcl2 : cl ≠ ct := ne_n hct gc6
    refine ⟨_, _, xs ++ [.ref ct], cs ++ [((1 + r), z, row)], rfl, (B6.keep0 F7).up ncl, upd_same, by simp [hcs], ?_⟩
    refine CasesAt.fr (W := [cl]) ?_ (Fr.at (by simp)) (by simp)
    exact (hC6.fr F7 (by simp)).snoc nct ncp upd_same (F7.get0 h6) (by omega) (by omega) hz hR
  · rintro σ Hc ⟨v3, v7, xs, cs, rfl, Bc, gcc, hcs, hC⟩
    have hcs2 : cs.length = 2 := hcs
    obtain ⟨e0, e1, rfl⟩ : ∃ e0 e1, cs = [e0, e1] := by
      match cs, hcs2 with
      | [e0, e1], _ => exact ⟨e0, e1, rfl⟩
    obtain ⟨c0, a0, x0, _, _, gc0, ga0, n00, n08, hz0, hR0⟩ := hC.2 0 e0 rfl
    obtain ⟨c1, a1, x1, _, _, gc1, ga1, n10, n18, hz1, hR1⟩ := hC.2 1 e1 rfl
    have hxl := hC.1
    obtain rfl : xs = [.ref c0, .ref c1] := by
      match xs, hxl, x0, x1 with
      | [y0, y1], _, x0, x1 => rw [Option.some.inj x0, Option.some.inj x1]
    have case0 : CaseAt K Hc c0 e0.1 e0.2.1 e0.2.2 := ⟨a0, SqT.of gc0, SqL.of ga0⟩
    have case1 : CaseAt K Hc c1 e1.1 e1.2.1 e1.2.2 := ⟨a1, SqT.of gc1, SqL.of ga1⟩
    have ft0 : fits 5 (caseD e0) := told_fits (by omega) (by omega) hR0.1
    have ft1 : fits 5 (caseD e1) := told_fits (by omega) (by omega) hR1.1
    have fts : ∀ (i : Nat) d, [caseD e0, caseD e1][i]? = some d → fits 5 d := fun i d h => by
      match i, h with
      | 0, h => rw [← Option.some.inj h]; exact ft0
      | 1, h => rw [← Option.some.inj h]; exact ft1
    walk_at "cwj"
    refine l_list [.ref c0, .ref c1] (SqL.of gcc) (fun D i acc H' => Fr [] Hc H' ∧ Fr [D] (upd Hc D (.lst [])) H' ∧ ∃ G, OwnAll (upd Hc D (.lst [])) H' acc ([caseD e0, caseD e1].take i) G) (fun D hD => ⟨Fr.new hD, .refl, [], .nil⟩) (fun D i acc H' hD h _ => SqL.of (h.1.get0 gcc)) ?_ ?_
    · rintro D i x acc H3 hD hi ⟨F3, F3', G, hG⟩ hacc hla
      obtain ⟨c, e, hx, hd, hca, n0, n8, hz, hR⟩ : ∃ (c : Addr) (e : Int × Str × List Int), x = .ref c ∧ [caseD e0, caseD e1][i]? = some (caseD e) ∧ CaseAt K Hc c e.1 e.2.1 e.2.2 ∧ 1 ≤ e.1 ∧ e.1 ≤ 8 ∧ IsRule e.2.1 ∧ RowOk e.2.2 := by
        match i, hi with
        | 0, hi => exact ⟨c0, e0, (Option.some.inj hi).symm, rfl, case0, n00, n08, hz0, hR0⟩
        | 1, hi => exact ⟨c1, e1, (Option.some.inj hi).symm, rfl, case1, n10, n18, hz1, hR1⟩
        | i + 2, hi => simp at hi
      subst hx
      have hil := (List.getElem?_eq_some_iff.mp hi).1
      simp at hil
      walk_at "cwj"
      refine c_l_told (hca.fr F3) n0 n8 hz hR fun v G' H4 f4 ho => ?_
      refine ⟨acc, f4.get0 hacc, sz_lt (by omega), acc ++ [v], ⟨(F3.trans f4).loc hD, (F3'.more f4).trans (Fr.at (by simp)), G ++ G', ?_⟩, upd_same, by simp; omega⟩
      rw [take_snoc hd]
      exact (hG.growW F3' f4 ho).step (W := [D]) (by simp [upd_same]) (Fr.at (by simp))
    · rintro el acc H3 hel ⟨F3, F3', G, hG⟩ hacc hla
      have eT : [caseD e0, caseD e1].take ([V.ref c0, V.ref c1] : List V).length = [caseD e0, caseD e1] := rfl
      rw [eT] at hG
      have nelG : el ∉ G := fun m => by
        have := (hG.mem el m).1
        rw [upd_same] at this
        cases this
      have oE := hG.base (Fr.new hel : Fr [] Hc _)
      have hal := oE.len
      walk_at "cwj"
      refine l_list acc (SqL.of hacc) (fun D i acc2 H' => Fr [] H3 H' ∧ Fr [D] (upd H3 D (.lst [])) H' ∧ ∃ G, OwnAll (upd H3 D (.lst [])) H' acc2 ([caseD e0, caseD e1].take i) G) (fun D hD => ⟨Fr.new hD, .refl, [], .nil⟩) (fun D i acc2 H' hD h _ => SqL.of (h.1.get0 hacc)) ?_ ?_
      · rintro D i x acc2 H4 hD hi ⟨F4, F4', G2, hG2⟩ hacc2 hla2
        have hil := (List.getElem?_eq_some_iff.mp hi).1
        obtain ⟨d, hd⟩ : ∃ d, [caseD e0, caseD e1][i]? = some d := ⟨_, List.getElem?_eq_getElem (by rw [← hal]; exact hil)⟩
        obtain ⟨x', Gx, hx', ox⟩ := (oE.fr0 F4).get hd
        rw [hi] at hx'
        obtain rfl := Option.some.inj hx'
        have hil2 : i < 2 := by rw [hal] at hil; exact hil
        walk_at "cwj"
        refine c_kept (K := K) (E := E0) ox (fts i d hd) fun v G' H5 f5 hv => ?_
        refine ⟨acc2, f5.get0 hacc2, sz_lt (by omega), acc2 ++ [v], ⟨(F4.trans f5).loc hD, (F4'.more f5).trans (Fr.at (by simp)), G2 ++ G', ?_⟩, upd_same, by simp; omega⟩
        rw [take_snoc hd]
        exact (hG2.growW F4' f5 hv).step (W := [D]) (by simp [upd_same]) (Fr.at (by simp))
      · rintro kl acc2 H4 hkl ⟨F4, F4', G2, hG2⟩ hacc2 hla2
        have eT2 : [caseD e0, caseD e1].take acc.length = [caseD e0, caseD e1] := by rw [hal]; rfl
        rw [eT2] at hG2
        have nklG : kl ∉ G2 := fun m => by
          have := (hG2.mem kl m).1
          rw [upd_same] at this
          cases this
        have oK := hG2.base (Fr.new hkl : Fr [] H3 _)
        have oE4 := oE.fr0 F4
        have gel4 := F4.get0 hacc
        walk_at "cwj"
        rename_i k3 hk3
        obtain ⟨v0, v1, F0, F1, rfl, o0, o1, hd01, eG⟩ := own_two oE4
        obtain ⟨k0, k1, G0, G1, rfl, p0, p1, _, eG2⟩ := own_two oK
        have F5 : Fr [] H4 (upd H4 k3 (.lst [.int 0, .int 1, .int 0])) := Fr.new hk3
        have gk35 : (upd H4 k3 (.lst [.int 0, .int 1, .int 0])) k3 = some (.lst [.int 0, .int 1, .int 0]) := upd_same
        have gel5 := F5.get0 gel4
        have gkl5 := F5.get0 hacc2
        have ks : KS Hc H4 [el, kl, k3] v0 v1 k0 k1 (caseD e0) (caseD e1) := by
          refine ⟨F0, F1, G0, G1, o0, o1, p0.base F3, p1.base F3, hd01, fun x hx hy => ?_, fun x hx m => ?_⟩
          · rw [← eG] at hx
            rw [← eG2] at hy
            obtain ⟨_, ys, z⟩ := oE.mem x hx
            rw [(oK.mem x hy).1] at z
            cases z
          · rcases List.mem_append.mp hx with hx | hx
            · rw [← eG] at hx
              obtain ⟨_, ys, z⟩ := oE.mem x hx
              simp only [List.mem_cons, List.not_mem_nil, or_false] at m
              rcases m with rfl | rfl | rfl
              · exact nelG hx
              · rw [hkl] at z; cases z
              · rw [F4.get0 z] at hk3; cases hk3
            · rw [← eG2] at hx
              obtain ⟨z0, ys, z⟩ := oK.mem x hx
              simp only [List.mem_cons, List.not_mem_nil, or_false] at m
              rcases m with rfl | rfl | rfl
              · rw [hacc] at z0; cases z0
              · exact nklG hx
              · rw [hk3] at z; cases z
        have ks5 := ks.fr0 F5
        have Fc5 := (F3.trans F4).trans F5
        have nkl : kl ≠ el := ne_n' hkl hacc
        have nk3 : k3 ≠ el := ne_n' hk3 gel4
        have nkl' := ne_s nkl
        generalize (upd H4 k3 (.lst [.int 0, .int 1, .int 0])) = H5 at *
        refine f_list _ (fun i σ H' => ∃ v6 v0 v1, σ = [some (.ref a), some (.ref b), some (.ref cl), v3, some (.ref el), some (.ref kl), v6, v7, none, none, none, none] ∧ Fr [] Hc H' ∧ KS Hc H' [el, kl, k3] v0 v1 k0 k1 (caseD e0) (caseD e1) ∧ H' el = some (.lst [v0, v1]) ∧ H' kl = some (.lst [k0, k1]) ∧ H' k3 = some (.lst [.int 0, .int 1, .int 0]))
          ⟨_, v0, v1, rfl, Fc5, ks5, gel5, gkl5, gk35⟩ (fun i σ H' _ ⟨_, _, _, _, _, _, _, _, g⟩ => SqL.of g) ?_ ?_
        · rintro i x σ H6 hi ⟨v6, v0, v1, rfl, Fc6, hKS, gel, gkl, gk3⟩
          obtain hx | hx : x = .int 0 ∨ x = .int 1 := by
            match i, hi with
            | 0, hi => exact .inl (Option.some.inj hi).symm
            | 1, hi => exact .inr (Option.some.inj hi).symm
            | 2, hi => exact .inl (Option.some.inj hi).symm
            | i + 3, hi => simp at hi
          · subst hx
            obtain ⟨F, oj, hFA, hsp⟩ := hKS.spoil
            walk_at "cwj"
            refine c_spoil (K := K) (E := E0) oj ft0 fun H7 f7 => ?_
            have kr := hsp H7 f7
            have gel7 := f7.get gel (fun m => hFA el m (by simp))
            have gkl7 := f7.get gkl (fun m => hFA kl m (by simp))
            have gk37 := f7.get gk3 (fun m => hFA k3 m (by simp))
            have Fc7 := Fc6.comp f7 (fun w m => .inr (oj.mem w m).1)
            have gcl7 := Fc7.get0 gcc
            walk_at "cwj"
            refine c_l_told (case0.fr Fc7) n00 n08 hz0 hR0 fun v G' H8 f8 ho => ?_
            have ks8 := kr.told (fun w m => by
              simp only [List.mem_cons, List.not_mem_nil, or_false] at m
              rcases m with rfl | rfl | rfl
              · exact ⟨_, gel7⟩
              · exact ⟨_, gkl7⟩
              · exact ⟨_, gk37⟩) Fc7 f8 ho
            have gel8 := f8.get0 gel7
            have gkl8 := f8.get0 gkl7
            have gk38 := f8.get0 gk37
            have ks9 := ks8.set (a := el) (zs := [v, v1]) (by simp) gel8
            walk_at "cwj"
            have dv : Dp K (upd H8 el (.lst [v, v1])) v (caseD e0) := by
              obtain ⟨_, _, _, _, x1, _⟩ := ks9
              exact x1.dp
            have dk : Dp K (upd H8 el (.lst [v, v1])) k0 (caseD e0) := by
              obtain ⟨_, _, _, _, _, _, x3, _⟩ := ks9
              exact x3.dp
            refine w_neSame (caseD e0) dv dk (told_lay _ _ _) ft0 (by decide) ?_
            walk_at "cwj"
            exact ⟨_, _, _, rfl, (Fc7.trans f8).loc hel, ks9, upd_same, (upd_ne nkl).trans gkl8, (upd_ne nk3).trans gk38⟩
          · subst hx
            obtain ⟨F, oj, hFA, hsp⟩ := hKS.swap.spoil
            walk_at "cwj"
            refine c_spoil (K := K) (E := E0) oj ft1 fun H7 f7 => ?_
            have kr := hsp H7 f7
            have gel7 := f7.get gel (fun m => hFA el m (by simp))
            have gkl7 := f7.get gkl (fun m => hFA kl m (by simp))
            have gk37 := f7.get gk3 (fun m => hFA k3 m (by simp))
            have Fc7 := Fc6.comp f7 (fun w m => .inr (oj.mem w m).1)
            have gcl7 := Fc7.get0 gcc
            walk_at "cwj"
            refine c_l_told (case1.fr Fc7) n10 n18 hz1 hR1 fun v G' H8 f8 ho => ?_
            have ks8 := kr.told (fun w m => by
              simp only [List.mem_cons, List.not_mem_nil, or_false] at m
              rcases m with rfl | rfl | rfl
              · exact ⟨_, gel7⟩
              · exact ⟨_, gkl7⟩
              · exact ⟨_, gk37⟩) Fc7 f8 ho
            have gel8 := f8.get0 gel7
            have gkl8 := f8.get0 gkl7
            have gk38 := f8.get0 gk37
            have ks9 := ks8.set (a := el) (zs := [v0, v]) (by simp) gel8
            walk_at "cwj"
            have dv : Dp K (upd H8 el (.lst [v0, v])) v (caseD e1) := by
              obtain ⟨_, _, _, _, x1, _⟩ := ks9
              exact x1.dp
            have dk : Dp K (upd H8 el (.lst [v0, v])) k1 (caseD e1) := by
              obtain ⟨_, _, _, _, _, _, x3, _⟩ := ks9
              exact x3.dp
            refine w_neSame (caseD e1) dv dk (told_lay _ _ _) ft1 (by decide) ?_
            walk_at "cwj"
            exact ⟨_, _, _, rfl, (Fc7.trans f8).loc hel, ks9.swap, upd_same, (upd_ne nkl).trans gkl8, (upd_ne nk3).trans gk38⟩
        · rintro σ H6 ⟨v6, v0, v1, rfl, Fc6, hKS, gel, gkl, gk3⟩
          have gcl6 := Fc6.get0 gcc
          have gc06 := Fc6.get0 gc0
          have ga06 := Fc6.get0 ga0
          walk_at "cwj"
          rename_i lr hlr ct hct
          have F7 : Fr [] H6 (upd (upd H6 lr (.lst (e0.2.2.map V.int))) ct (.tup [.int e0.1, .ref lr, .str e0.2.1])) := (Fr.new hlr).trans (Fr.new hct)
          have cc : CaseAt K (upd (upd H6 lr (.lst (e0.2.2.map V.int))) ct (.tup [.int e0.1, .ref lr, .str e0.2.1])) ct e0.1 e0.2.1 e0.2.2 := ⟨lr, SqT.of upd_same, SqL.of ((upd_ne (ne_n hct upd_same)).trans upd_same)⟩
          generalize (upd (upd H6 lr (.lst (e0.2.2.map V.int))) ct (.tup [.int e0.1, .ref lr, .str e0.2.1])) = H7 at *
          refine c_l_told cc n00 n08 hz0 hR0 fun v G' H8 f8 ho => ?_
          have gkl8 := (F7.trans f8).get0 gkl
          have ks8 := (hKS.fr0 F7).fr0 f8
          walk_at "cwj"
          have dk : Dp K H8 k0 (caseD e0) := by
            obtain ⟨_, _, _, _, _, _, x3, _⟩ := ks8
            exact x3.dp
          exact w_eqSame (caseD e0) ho.dp dk (told_lay _ _ _) ft0 (by decide) (k H8)

end
/-! what the top has left -/
theorem all_mk {l : PySem.W.OpenLaw} {w : World} {K : PySem.W.Frag} {h : Heap} {mg : Str → Option Value} {fa f_need_rooms f_is_page f_need_row f_need_both f_spells_of f_between f_least_paper f_shown_by f_spells f_paper f_shown f_next_ask f_farthest f_gone_through f_best f_Dial_init f_Dial_ask f_Dial_pages f_Dial_looked f_Dial_points f_Dial_lacked f_round_told f_told f_need_rule f_by_row f_all_lacking f_lacking f_all_stretches f_stretches f_lacking_in f_all_rows f_more_of f_need_size f_worst f_l_begun f_l_take f_l_row f_l_told f_l_kept f_l_spoil f_l_law C_Dial A_RULES : Addr} (X : K.In h) (G : h.Ns mainGlobals mg) (hfa : mg "law" = some (.ref fa))
    {od_need_rooms an_need_rooms : Option Addr} {sl_need_rooms : Array (Option Value)} {oc_need_rooms kV_need_rooms dc_need_rooms pm_need_rooms cd_need_rooms ct_need_rooms : Value}
    {od_is_page an_is_page : Option Addr} {sl_is_page : Array (Option Value)} {oc_is_page kV_is_page dc_is_page pm_is_page cd_is_page ct_is_page : Value}
    {od_need_row an_need_row : Option Addr} {sl_need_row : Array (Option Value)} {oc_need_row kV_need_row dc_need_row pm_need_row cd_need_row ct_need_row : Value}
    {od_need_both an_need_both : Option Addr} {sl_need_both : Array (Option Value)} {oc_need_both kV_need_both dc_need_both pm_need_both cd_need_both ct_need_both : Value}
    {od_spells_of an_spells_of : Option Addr} {sl_spells_of : Array (Option Value)} {oc_spells_of kV_spells_of dc_spells_of pm_spells_of cd_spells_of ct_spells_of : Value}
    {od_between an_between : Option Addr} {sl_between : Array (Option Value)} {oc_between kV_between dc_between pm_between cd_between ct_between : Value}
    {od_least_paper an_least_paper : Option Addr} {sl_least_paper : Array (Option Value)} {oc_least_paper kV_least_paper dc_least_paper pm_least_paper cd_least_paper ct_least_paper : Value}
    {od_shown_by an_shown_by : Option Addr} {sl_shown_by : Array (Option Value)} {oc_shown_by kV_shown_by dc_shown_by pm_shown_by cd_shown_by ct_shown_by : Value}
    {od_spells an_spells : Option Addr} {sl_spells : Array (Option Value)} {oc_spells kV_spells dc_spells pm_spells cd_spells ct_spells : Value}
    {od_paper an_paper : Option Addr} {sl_paper : Array (Option Value)} {oc_paper kV_paper dc_paper pm_paper cd_paper ct_paper : Value}
    {od_shown an_shown : Option Addr} {sl_shown : Array (Option Value)} {oc_shown kV_shown dc_shown pm_shown cd_shown ct_shown : Value}
    {od_next_ask an_next_ask : Option Addr} {sl_next_ask : Array (Option Value)} {oc_next_ask kV_next_ask dc_next_ask pm_next_ask cd_next_ask ct_next_ask : Value}
    {od_farthest an_farthest : Option Addr} {sl_farthest : Array (Option Value)} {oc_farthest kV_farthest dc_farthest pm_farthest cd_farthest ct_farthest : Value}
    {od_gone_through an_gone_through : Option Addr} {sl_gone_through : Array (Option Value)} {oc_gone_through kV_gone_through dc_gone_through pm_gone_through cd_gone_through ct_gone_through : Value}
    {od_best an_best : Option Addr} {sl_best : Array (Option Value)} {oc_best kV_best dc_best pm_best cd_best ct_best : Value}
    {od_Dial_init an_Dial_init : Option Addr} {sl_Dial_init : Array (Option Value)} {oc_Dial_init kV_Dial_init dc_Dial_init pm_Dial_init cd_Dial_init ct_Dial_init : Value}
    {od_Dial_ask an_Dial_ask : Option Addr} {sl_Dial_ask : Array (Option Value)} {oc_Dial_ask kV_Dial_ask dc_Dial_ask pm_Dial_ask cd_Dial_ask ct_Dial_ask : Value}
    {od_Dial_pages an_Dial_pages : Option Addr} {sl_Dial_pages : Array (Option Value)} {oc_Dial_pages kV_Dial_pages dc_Dial_pages pm_Dial_pages cd_Dial_pages ct_Dial_pages : Value}
    {od_Dial_looked an_Dial_looked : Option Addr} {sl_Dial_looked : Array (Option Value)} {oc_Dial_looked kV_Dial_looked dc_Dial_looked pm_Dial_looked cd_Dial_looked ct_Dial_looked : Value}
    {od_Dial_points an_Dial_points : Option Addr} {sl_Dial_points : Array (Option Value)} {oc_Dial_points kV_Dial_points dc_Dial_points pm_Dial_points cd_Dial_points ct_Dial_points : Value}
    {od_Dial_lacked an_Dial_lacked : Option Addr} {sl_Dial_lacked : Array (Option Value)} {oc_Dial_lacked kV_Dial_lacked dc_Dial_lacked pm_Dial_lacked cd_Dial_lacked ct_Dial_lacked : Value}
    {od_round_told an_round_told : Option Addr} {sl_round_told : Array (Option Value)} {oc_round_told kV_round_told dc_round_told pm_round_told cd_round_told ct_round_told : Value}
    {od_told an_told : Option Addr} {sl_told : Array (Option Value)} {oc_told kV_told dc_told pm_told cd_told ct_told : Value}
    {od_need_rule an_need_rule : Option Addr} {sl_need_rule : Array (Option Value)} {oc_need_rule kV_need_rule dc_need_rule pm_need_rule cd_need_rule ct_need_rule : Value}
    {od_by_row an_by_row : Option Addr} {sl_by_row : Array (Option Value)} {oc_by_row kV_by_row dc_by_row pm_by_row cd_by_row ct_by_row : Value}
    {od_all_lacking an_all_lacking : Option Addr} {sl_all_lacking : Array (Option Value)} {oc_all_lacking kV_all_lacking dc_all_lacking pm_all_lacking cd_all_lacking ct_all_lacking : Value}
    {od_lacking an_lacking : Option Addr} {sl_lacking : Array (Option Value)} {oc_lacking kV_lacking dc_lacking pm_lacking cd_lacking ct_lacking : Value}
    {od_all_stretches an_all_stretches : Option Addr} {sl_all_stretches : Array (Option Value)} {oc_all_stretches kV_all_stretches dc_all_stretches pm_all_stretches cd_all_stretches ct_all_stretches : Value}
    {od_stretches an_stretches : Option Addr} {sl_stretches : Array (Option Value)} {oc_stretches kV_stretches dc_stretches pm_stretches cd_stretches ct_stretches : Value}
    {od_lacking_in an_lacking_in : Option Addr} {sl_lacking_in : Array (Option Value)} {oc_lacking_in kV_lacking_in dc_lacking_in pm_lacking_in cd_lacking_in ct_lacking_in : Value}
    {od_all_rows an_all_rows : Option Addr} {sl_all_rows : Array (Option Value)} {oc_all_rows kV_all_rows dc_all_rows pm_all_rows cd_all_rows ct_all_rows : Value}
    {od_more_of an_more_of : Option Addr} {sl_more_of : Array (Option Value)} {oc_more_of kV_more_of dc_more_of pm_more_of cd_more_of ct_more_of : Value}
    {od_need_size an_need_size : Option Addr} {sl_need_size : Array (Option Value)} {oc_need_size kV_need_size dc_need_size pm_need_size cd_need_size ct_need_size : Value}
    {od_worst an_worst : Option Addr} {sl_worst : Array (Option Value)} {oc_worst kV_worst dc_worst pm_worst cd_worst ct_worst : Value}
    {od_l_begun an_l_begun : Option Addr} {sl_l_begun : Array (Option Value)} {oc_l_begun kV_l_begun dc_l_begun pm_l_begun cd_l_begun ct_l_begun : Value}
    {od_l_take an_l_take : Option Addr} {sl_l_take : Array (Option Value)} {oc_l_take kV_l_take dc_l_take pm_l_take cd_l_take ct_l_take : Value}
    {od_l_row an_l_row : Option Addr} {sl_l_row : Array (Option Value)} {oc_l_row kV_l_row dc_l_row pm_l_row cd_l_row ct_l_row : Value}
    {od_l_told an_l_told : Option Addr} {sl_l_told : Array (Option Value)} {oc_l_told kV_l_told dc_l_told pm_l_told cd_l_told ct_l_told : Value}
    {od_l_kept an_l_kept : Option Addr} {sl_l_kept : Array (Option Value)} {oc_l_kept kV_l_kept dc_l_kept pm_l_kept cd_l_kept ct_l_kept : Value}
    {od_l_spoil an_l_spoil : Option Addr} {sl_l_spoil : Array (Option Value)} {oc_l_spoil kV_l_spoil dc_l_spoil pm_l_spoil cd_l_spoil ct_l_spoil : Value}
    {od_l_law an_l_law : Option Addr} {sl_l_law : Array (Option Value)} {oc_l_law kV_l_law dc_l_law pm_l_law cd_l_law ct_l_law : Value}
    {t_MOST_ROOMS : Tok}
    {t_MOST_PAGES : Tok}
    {t_MOST_ASKS : Tok}
    {t_HAND : Tok}
    {t_UNSEEN : Tok}
    {od_RULES : Option Addr} {n_RULES : Nat} {sl_RULES : Array (Option Value)} {t0_RULES : Tok} {t1_RULES : Tok} {t2_RULES : Tok}
    {t_MOST_ROWS : Tok}
    (aC_Dial : PySem.W.nsIn K mainGlobals "Dial" = some (some (.ref C_Dial)))
    (a_need_rooms : PySem.W.nsIn K mainGlobals "need_rooms" = some (some (.ref f_need_rooms)))
    (l_need_rooms : K.lookup f_need_rooms = some ⟨oc_need_rooms, od_need_rooms, .func (PySem.W.fnOf "need_rooms" "need_rooms" (defArgs s_need_rooms) (defBody s_need_rooms) (defScope s_need_rooms) .none kV_need_rooms dc_need_rooms pm_need_rooms an_need_rooms cd_need_rooms ct_need_rooms), sl_need_rooms⟩)
    (c_need_rooms : PySem.W.codeIn K cd_need_rooms "need_rooms" = true)
    (k_need_rooms : PySem.W.keepIn K (.ref f_need_rooms) = true)
    (a_is_page : PySem.W.nsIn K mainGlobals "is_page" = some (some (.ref f_is_page)))
    (l_is_page : K.lookup f_is_page = some ⟨oc_is_page, od_is_page, .func (PySem.W.fnOf "is_page" "is_page" (defArgs s_is_page) (defBody s_is_page) (defScope s_is_page) .none kV_is_page dc_is_page pm_is_page an_is_page cd_is_page ct_is_page), sl_is_page⟩)
    (c_is_page : PySem.W.codeIn K cd_is_page "is_page" = true)
    (k_is_page : PySem.W.keepIn K (.ref f_is_page) = true)
    (a_need_row : PySem.W.nsIn K mainGlobals "need_row" = some (some (.ref f_need_row)))
    (l_need_row : K.lookup f_need_row = some ⟨oc_need_row, od_need_row, .func (PySem.W.fnOf "need_row" "need_row" (defArgs s_need_row) (defBody s_need_row) (defScope s_need_row) .none kV_need_row dc_need_row pm_need_row an_need_row cd_need_row ct_need_row), sl_need_row⟩)
    (c_need_row : PySem.W.codeIn K cd_need_row "need_row" = true)
    (k_need_row : PySem.W.keepIn K (.ref f_need_row) = true)
    (a_need_both : PySem.W.nsIn K mainGlobals "need_both" = some (some (.ref f_need_both)))
    (l_need_both : K.lookup f_need_both = some ⟨oc_need_both, od_need_both, .func (PySem.W.fnOf "need_both" "need_both" (defArgs s_need_both) (defBody s_need_both) (defScope s_need_both) .none kV_need_both dc_need_both pm_need_both an_need_both cd_need_both ct_need_both), sl_need_both⟩)
    (c_need_both : PySem.W.codeIn K cd_need_both "need_both" = true)
    (k_need_both : PySem.W.keepIn K (.ref f_need_both) = true)
    (a_spells_of : PySem.W.nsIn K mainGlobals "spells_of" = some (some (.ref f_spells_of)))
    (l_spells_of : K.lookup f_spells_of = some ⟨oc_spells_of, od_spells_of, .func (PySem.W.fnOf "spells_of" "spells_of" (defArgs s_spells_of) (defBody s_spells_of) (defScope s_spells_of) .none kV_spells_of dc_spells_of pm_spells_of an_spells_of cd_spells_of ct_spells_of), sl_spells_of⟩)
    (c_spells_of : PySem.W.codeIn K cd_spells_of "spells_of" = true)
    (k_spells_of : PySem.W.keepIn K (.ref f_spells_of) = true)
    (a_between : PySem.W.nsIn K mainGlobals "between" = some (some (.ref f_between)))
    (l_between : K.lookup f_between = some ⟨oc_between, od_between, .func (PySem.W.fnOf "between" "between" (defArgs s_between) (defBody s_between) (defScope s_between) .none kV_between dc_between pm_between an_between cd_between ct_between), sl_between⟩)
    (c_between : PySem.W.codeIn K cd_between "between" = true)
    (k_between : PySem.W.keepIn K (.ref f_between) = true)
    (a_least_paper : PySem.W.nsIn K mainGlobals "least_paper" = some (some (.ref f_least_paper)))
    (l_least_paper : K.lookup f_least_paper = some ⟨oc_least_paper, od_least_paper, .func (PySem.W.fnOf "least_paper" "least_paper" (defArgs s_least_paper) (defBody s_least_paper) (defScope s_least_paper) .none kV_least_paper dc_least_paper pm_least_paper an_least_paper cd_least_paper ct_least_paper), sl_least_paper⟩)
    (c_least_paper : PySem.W.codeIn K cd_least_paper "least_paper" = true)
    (k_least_paper : PySem.W.keepIn K (.ref f_least_paper) = true)
    (a_shown_by : PySem.W.nsIn K mainGlobals "shown_by" = some (some (.ref f_shown_by)))
    (l_shown_by : K.lookup f_shown_by = some ⟨oc_shown_by, od_shown_by, .func (PySem.W.fnOf "shown_by" "shown_by" (defArgs s_shown_by) (defBody s_shown_by) (defScope s_shown_by) .none kV_shown_by dc_shown_by pm_shown_by an_shown_by cd_shown_by ct_shown_by), sl_shown_by⟩)
    (c_shown_by : PySem.W.codeIn K cd_shown_by "shown_by" = true)
    (k_shown_by : PySem.W.keepIn K (.ref f_shown_by) = true)
    (a_spells : PySem.W.nsIn K mainGlobals "spells" = some (some (.ref f_spells)))
    (l_spells : K.lookup f_spells = some ⟨oc_spells, od_spells, .func (PySem.W.fnOf "spells" "spells" (defArgs s_spells) (defBody s_spells) (defScope s_spells) .none kV_spells dc_spells pm_spells an_spells cd_spells ct_spells), sl_spells⟩)
    (c_spells : PySem.W.codeIn K cd_spells "spells" = true)
    (k_spells : PySem.W.keepIn K (.ref f_spells) = true)
    (a_paper : PySem.W.nsIn K mainGlobals "paper" = some (some (.ref f_paper)))
    (l_paper : K.lookup f_paper = some ⟨oc_paper, od_paper, .func (PySem.W.fnOf "paper" "paper" (defArgs s_paper) (defBody s_paper) (defScope s_paper) .none kV_paper dc_paper pm_paper an_paper cd_paper ct_paper), sl_paper⟩)
    (c_paper : PySem.W.codeIn K cd_paper "paper" = true)
    (k_paper : PySem.W.keepIn K (.ref f_paper) = true)
    (a_shown : PySem.W.nsIn K mainGlobals "shown" = some (some (.ref f_shown)))
    (l_shown : K.lookup f_shown = some ⟨oc_shown, od_shown, .func (PySem.W.fnOf "shown" "shown" (defArgs s_shown) (defBody s_shown) (defScope s_shown) .none kV_shown dc_shown pm_shown an_shown cd_shown ct_shown), sl_shown⟩)
    (c_shown : PySem.W.codeIn K cd_shown "shown" = true)
    (k_shown : PySem.W.keepIn K (.ref f_shown) = true)
    (a_next_ask : PySem.W.nsIn K mainGlobals "next_ask" = some (some (.ref f_next_ask)))
    (l_next_ask : K.lookup f_next_ask = some ⟨oc_next_ask, od_next_ask, .func (PySem.W.fnOf "next_ask" "next_ask" (defArgs s_next_ask) (defBody s_next_ask) (defScope s_next_ask) .none kV_next_ask dc_next_ask pm_next_ask an_next_ask cd_next_ask ct_next_ask), sl_next_ask⟩)
    (c_next_ask : PySem.W.codeIn K cd_next_ask "next_ask" = true)
    (k_next_ask : PySem.W.keepIn K (.ref f_next_ask) = true)
    (a_farthest : PySem.W.nsIn K mainGlobals "farthest" = some (some (.ref f_farthest)))
    (l_farthest : K.lookup f_farthest = some ⟨oc_farthest, od_farthest, .func (PySem.W.fnOf "farthest" "farthest" (defArgs s_farthest) (defBody s_farthest) (defScope s_farthest) .none kV_farthest dc_farthest pm_farthest an_farthest cd_farthest ct_farthest), sl_farthest⟩)
    (c_farthest : PySem.W.codeIn K cd_farthest "farthest" = true)
    (k_farthest : PySem.W.keepIn K (.ref f_farthest) = true)
    (a_gone_through : PySem.W.nsIn K mainGlobals "gone_through" = some (some (.ref f_gone_through)))
    (l_gone_through : K.lookup f_gone_through = some ⟨oc_gone_through, od_gone_through, .func (PySem.W.fnOf "gone_through" "gone_through" (defArgs s_gone_through) (defBody s_gone_through) (defScope s_gone_through) .none kV_gone_through dc_gone_through pm_gone_through an_gone_through cd_gone_through ct_gone_through), sl_gone_through⟩)
    (c_gone_through : PySem.W.codeIn K cd_gone_through "gone_through" = true)
    (k_gone_through : PySem.W.keepIn K (.ref f_gone_through) = true)
    (a_best : PySem.W.nsIn K mainGlobals "best" = some (some (.ref f_best)))
    (l_best : K.lookup f_best = some ⟨oc_best, od_best, .func (PySem.W.fnOf "best" "best" (defArgs s_best) (defBody s_best) (defScope s_best) .none kV_best dc_best pm_best an_best cd_best ct_best), sl_best⟩)
    (c_best : PySem.W.codeIn K cd_best "best" = true)
    (k_best : PySem.W.keepIn K (.ref f_best) = true)
    (a_Dial_init : PySem.W.findIn K (.ref C_Dial) "__init__" = some (some (.ref f_Dial_init)))
    (i_Dial_init : PySem.W.isFn K (.ref f_Dial_init) = true)
    (l_Dial_init : K.lookup f_Dial_init = some ⟨oc_Dial_init, od_Dial_init, .func (PySem.W.fnOf "__init__" "Dial.__init__" (defArgs s_Dial_init) (defBody s_Dial_init) (defScope s_Dial_init) .none kV_Dial_init dc_Dial_init pm_Dial_init an_Dial_init cd_Dial_init ct_Dial_init), sl_Dial_init⟩)
    (c_Dial_init : PySem.W.codeIn K cd_Dial_init "Dial.__init__" = true)
    (k_Dial_init : PySem.W.keepIn K (.ref f_Dial_init) = true)
    (a_Dial_ask : PySem.W.findIn K (.ref C_Dial) "ask" = some (some (.ref f_Dial_ask)))
    (i_Dial_ask : PySem.W.isFn K (.ref f_Dial_ask) = true)
    (l_Dial_ask : K.lookup f_Dial_ask = some ⟨oc_Dial_ask, od_Dial_ask, .func (PySem.W.fnOf "ask" "Dial.ask" (defArgs s_Dial_ask) (defBody s_Dial_ask) (defScope s_Dial_ask) .none kV_Dial_ask dc_Dial_ask pm_Dial_ask an_Dial_ask cd_Dial_ask ct_Dial_ask), sl_Dial_ask⟩)
    (c_Dial_ask : PySem.W.codeIn K cd_Dial_ask "Dial.ask" = true)
    (k_Dial_ask : PySem.W.keepIn K (.ref f_Dial_ask) = true)
    (a_Dial_pages : PySem.W.findIn K (.ref C_Dial) "pages" = some (some (.ref f_Dial_pages)))
    (i_Dial_pages : PySem.W.isFn K (.ref f_Dial_pages) = true)
    (l_Dial_pages : K.lookup f_Dial_pages = some ⟨oc_Dial_pages, od_Dial_pages, .func (PySem.W.fnOf "pages" "Dial.pages" (defArgs s_Dial_pages) (defBody s_Dial_pages) (defScope s_Dial_pages) .none kV_Dial_pages dc_Dial_pages pm_Dial_pages an_Dial_pages cd_Dial_pages ct_Dial_pages), sl_Dial_pages⟩)
    (c_Dial_pages : PySem.W.codeIn K cd_Dial_pages "Dial.pages" = true)
    (k_Dial_pages : PySem.W.keepIn K (.ref f_Dial_pages) = true)
    (a_Dial_looked : PySem.W.findIn K (.ref C_Dial) "looked" = some (some (.ref f_Dial_looked)))
    (i_Dial_looked : PySem.W.isFn K (.ref f_Dial_looked) = true)
    (l_Dial_looked : K.lookup f_Dial_looked = some ⟨oc_Dial_looked, od_Dial_looked, .func (PySem.W.fnOf "looked" "Dial.looked" (defArgs s_Dial_looked) (defBody s_Dial_looked) (defScope s_Dial_looked) .none kV_Dial_looked dc_Dial_looked pm_Dial_looked an_Dial_looked cd_Dial_looked ct_Dial_looked), sl_Dial_looked⟩)
    (c_Dial_looked : PySem.W.codeIn K cd_Dial_looked "Dial.looked" = true)
    (k_Dial_looked : PySem.W.keepIn K (.ref f_Dial_looked) = true)
    (a_Dial_points : PySem.W.findIn K (.ref C_Dial) "points" = some (some (.ref f_Dial_points)))
    (i_Dial_points : PySem.W.isFn K (.ref f_Dial_points) = true)
    (l_Dial_points : K.lookup f_Dial_points = some ⟨oc_Dial_points, od_Dial_points, .func (PySem.W.fnOf "points" "Dial.points" (defArgs s_Dial_points) (defBody s_Dial_points) (defScope s_Dial_points) .none kV_Dial_points dc_Dial_points pm_Dial_points an_Dial_points cd_Dial_points ct_Dial_points), sl_Dial_points⟩)
    (c_Dial_points : PySem.W.codeIn K cd_Dial_points "Dial.points" = true)
    (k_Dial_points : PySem.W.keepIn K (.ref f_Dial_points) = true)
    (a_Dial_lacked : PySem.W.findIn K (.ref C_Dial) "lacked" = some (some (.ref f_Dial_lacked)))
    (i_Dial_lacked : PySem.W.isFn K (.ref f_Dial_lacked) = true)
    (l_Dial_lacked : K.lookup f_Dial_lacked = some ⟨oc_Dial_lacked, od_Dial_lacked, .func (PySem.W.fnOf "lacked" "Dial.lacked" (defArgs s_Dial_lacked) (defBody s_Dial_lacked) (defScope s_Dial_lacked) .none kV_Dial_lacked dc_Dial_lacked pm_Dial_lacked an_Dial_lacked cd_Dial_lacked ct_Dial_lacked), sl_Dial_lacked⟩)
    (c_Dial_lacked : PySem.W.codeIn K cd_Dial_lacked "Dial.lacked" = true)
    (k_Dial_lacked : PySem.W.keepIn K (.ref f_Dial_lacked) = true)
    (a_round_told : PySem.W.nsIn K mainGlobals "round_told" = some (some (.ref f_round_told)))
    (l_round_told : K.lookup f_round_told = some ⟨oc_round_told, od_round_told, .func (PySem.W.fnOf "round_told" "round_told" (defArgs s_round_told) (defBody s_round_told) (defScope s_round_told) .none kV_round_told dc_round_told pm_round_told an_round_told cd_round_told ct_round_told), sl_round_told⟩)
    (c_round_told : PySem.W.codeIn K cd_round_told "round_told" = true)
    (k_round_told : PySem.W.keepIn K (.ref f_round_told) = true)
    (a_told : PySem.W.nsIn K mainGlobals "told" = some (some (.ref f_told)))
    (l_told : K.lookup f_told = some ⟨oc_told, od_told, .func (PySem.W.fnOf "told" "told" (defArgs s_told) (defBody s_told) (defScope s_told) .none kV_told dc_told pm_told an_told cd_told ct_told), sl_told⟩)
    (c_told : PySem.W.codeIn K cd_told "told" = true)
    (k_told : PySem.W.keepIn K (.ref f_told) = true)
    (a_need_rule : PySem.W.nsIn K mainGlobals "need_rule" = some (some (.ref f_need_rule)))
    (l_need_rule : K.lookup f_need_rule = some ⟨oc_need_rule, od_need_rule, .func (PySem.W.fnOf "need_rule" "need_rule" (defArgs s_need_rule) (defBody s_need_rule) (defScope s_need_rule) .none kV_need_rule dc_need_rule pm_need_rule an_need_rule cd_need_rule ct_need_rule), sl_need_rule⟩)
    (c_need_rule : PySem.W.codeIn K cd_need_rule "need_rule" = true)
    (k_need_rule : PySem.W.keepIn K (.ref f_need_rule) = true)
    (a_by_row : PySem.W.nsIn K mainGlobals "by_row" = some (some (.ref f_by_row)))
    (l_by_row : K.lookup f_by_row = some ⟨oc_by_row, od_by_row, .func (PySem.W.fnOf "by_row" "by_row" (defArgs s_by_row) (defBody s_by_row) (defScope s_by_row) .none kV_by_row dc_by_row pm_by_row an_by_row cd_by_row ct_by_row), sl_by_row⟩)
    (c_by_row : PySem.W.codeIn K cd_by_row "by_row" = true)
    (k_by_row : PySem.W.keepIn K (.ref f_by_row) = true)
    (a_all_lacking : PySem.W.nsIn K mainGlobals "all_lacking" = some (some (.ref f_all_lacking)))
    (l_all_lacking : K.lookup f_all_lacking = some ⟨oc_all_lacking, od_all_lacking, .func (PySem.W.fnOf "all_lacking" "all_lacking" (defArgs s_all_lacking) (defBody s_all_lacking) (defScope s_all_lacking) .none kV_all_lacking dc_all_lacking pm_all_lacking an_all_lacking cd_all_lacking ct_all_lacking), sl_all_lacking⟩)
    (c_all_lacking : PySem.W.codeIn K cd_all_lacking "all_lacking" = true)
    (k_all_lacking : PySem.W.keepIn K (.ref f_all_lacking) = true)
    (a_lacking : PySem.W.nsIn K mainGlobals "lacking" = some (some (.ref f_lacking)))
    (l_lacking : K.lookup f_lacking = some ⟨oc_lacking, od_lacking, .func (PySem.W.fnOf "lacking" "lacking" (defArgs s_lacking) (defBody s_lacking) (defScope s_lacking) .none kV_lacking dc_lacking pm_lacking an_lacking cd_lacking ct_lacking), sl_lacking⟩)
    (c_lacking : PySem.W.codeIn K cd_lacking "lacking" = true)
    (k_lacking : PySem.W.keepIn K (.ref f_lacking) = true)
    (a_all_stretches : PySem.W.nsIn K mainGlobals "all_stretches" = some (some (.ref f_all_stretches)))
    (l_all_stretches : K.lookup f_all_stretches = some ⟨oc_all_stretches, od_all_stretches, .func (PySem.W.fnOf "all_stretches" "all_stretches" (defArgs s_all_stretches) (defBody s_all_stretches) (defScope s_all_stretches) .none kV_all_stretches dc_all_stretches pm_all_stretches an_all_stretches cd_all_stretches ct_all_stretches), sl_all_stretches⟩)
    (c_all_stretches : PySem.W.codeIn K cd_all_stretches "all_stretches" = true)
    (k_all_stretches : PySem.W.keepIn K (.ref f_all_stretches) = true)
    (a_stretches : PySem.W.nsIn K mainGlobals "stretches" = some (some (.ref f_stretches)))
    (l_stretches : K.lookup f_stretches = some ⟨oc_stretches, od_stretches, .func (PySem.W.fnOf "stretches" "stretches" (defArgs s_stretches) (defBody s_stretches) (defScope s_stretches) .none kV_stretches dc_stretches pm_stretches an_stretches cd_stretches ct_stretches), sl_stretches⟩)
    (c_stretches : PySem.W.codeIn K cd_stretches "stretches" = true)
    (k_stretches : PySem.W.keepIn K (.ref f_stretches) = true)
    (a_lacking_in : PySem.W.nsIn K mainGlobals "lacking_in" = some (some (.ref f_lacking_in)))
    (l_lacking_in : K.lookup f_lacking_in = some ⟨oc_lacking_in, od_lacking_in, .func (PySem.W.fnOf "lacking_in" "lacking_in" (defArgs s_lacking_in) (defBody s_lacking_in) (defScope s_lacking_in) .none kV_lacking_in dc_lacking_in pm_lacking_in an_lacking_in cd_lacking_in ct_lacking_in), sl_lacking_in⟩)
    (c_lacking_in : PySem.W.codeIn K cd_lacking_in "lacking_in" = true)
    (k_lacking_in : PySem.W.keepIn K (.ref f_lacking_in) = true)
    (a_all_rows : PySem.W.nsIn K mainGlobals "all_rows" = some (some (.ref f_all_rows)))
    (l_all_rows : K.lookup f_all_rows = some ⟨oc_all_rows, od_all_rows, .func (PySem.W.fnOf "all_rows" "all_rows" (defArgs s_all_rows) (defBody s_all_rows) (defScope s_all_rows) .none kV_all_rows dc_all_rows pm_all_rows an_all_rows cd_all_rows ct_all_rows), sl_all_rows⟩)
    (c_all_rows : PySem.W.codeIn K cd_all_rows "all_rows" = true)
    (k_all_rows : PySem.W.keepIn K (.ref f_all_rows) = true)
    (a_more_of : PySem.W.nsIn K mainGlobals "more_of" = some (some (.ref f_more_of)))
    (l_more_of : K.lookup f_more_of = some ⟨oc_more_of, od_more_of, .func (PySem.W.fnOf "more_of" "more_of" (defArgs s_more_of) (defBody s_more_of) (defScope s_more_of) .none kV_more_of dc_more_of pm_more_of an_more_of cd_more_of ct_more_of), sl_more_of⟩)
    (c_more_of : PySem.W.codeIn K cd_more_of "more_of" = true)
    (k_more_of : PySem.W.keepIn K (.ref f_more_of) = true)
    (a_need_size : PySem.W.nsIn K mainGlobals "need_size" = some (some (.ref f_need_size)))
    (l_need_size : K.lookup f_need_size = some ⟨oc_need_size, od_need_size, .func (PySem.W.fnOf "need_size" "need_size" (defArgs s_need_size) (defBody s_need_size) (defScope s_need_size) .none kV_need_size dc_need_size pm_need_size an_need_size cd_need_size ct_need_size), sl_need_size⟩)
    (c_need_size : PySem.W.codeIn K cd_need_size "need_size" = true)
    (k_need_size : PySem.W.keepIn K (.ref f_need_size) = true)
    (a_worst : PySem.W.nsIn K mainGlobals "worst" = some (some (.ref f_worst)))
    (l_worst : K.lookup f_worst = some ⟨oc_worst, od_worst, .func (PySem.W.fnOf "worst" "worst" (defArgs s_worst) (defBody s_worst) (defScope s_worst) .none kV_worst dc_worst pm_worst an_worst cd_worst ct_worst), sl_worst⟩)
    (c_worst : PySem.W.codeIn K cd_worst "worst" = true)
    (k_worst : PySem.W.keepIn K (.ref f_worst) = true)
    (a_l_begun : PySem.W.nsIn K mainGlobals "_law_begun" = some (some (.ref f_l_begun)))
    (l_l_begun : K.lookup f_l_begun = some ⟨oc_l_begun, od_l_begun, .func (PySem.W.fnOf "_law_begun" "_law_begun" (defArgs s_l_begun) (defBody s_l_begun) (defScope s_l_begun) .none kV_l_begun dc_l_begun pm_l_begun an_l_begun cd_l_begun ct_l_begun), sl_l_begun⟩)
    (c_l_begun : PySem.W.codeIn K cd_l_begun "_law_begun" = true)
    (k_l_begun : PySem.W.keepIn K (.ref f_l_begun) = true)
    (a_l_take : PySem.W.nsIn K mainGlobals "_law_take" = some (some (.ref f_l_take)))
    (l_l_take : K.lookup f_l_take = some ⟨oc_l_take, od_l_take, .func (PySem.W.fnOf "_law_take" "_law_take" (defArgs s_l_take) (defBody s_l_take) (defScope s_l_take) .none kV_l_take dc_l_take pm_l_take an_l_take cd_l_take ct_l_take), sl_l_take⟩)
    (c_l_take : PySem.W.codeIn K cd_l_take "_law_take" = true)
    (k_l_take : PySem.W.keepIn K (.ref f_l_take) = true)
    (a_l_row : PySem.W.nsIn K mainGlobals "_law_row" = some (some (.ref f_l_row)))
    (l_l_row : K.lookup f_l_row = some ⟨oc_l_row, od_l_row, .func (PySem.W.fnOf "_law_row" "_law_row" (defArgs s_l_row) (defBody s_l_row) (defScope s_l_row) .none kV_l_row dc_l_row pm_l_row an_l_row cd_l_row ct_l_row), sl_l_row⟩)
    (c_l_row : PySem.W.codeIn K cd_l_row "_law_row" = true)
    (k_l_row : PySem.W.keepIn K (.ref f_l_row) = true)
    (a_l_told : PySem.W.nsIn K mainGlobals "_law_told" = some (some (.ref f_l_told)))
    (l_l_told : K.lookup f_l_told = some ⟨oc_l_told, od_l_told, .func (PySem.W.fnOf "_law_told" "_law_told" (defArgs s_l_told) (defBody s_l_told) (defScope s_l_told) .none kV_l_told dc_l_told pm_l_told an_l_told cd_l_told ct_l_told), sl_l_told⟩)
    (c_l_told : PySem.W.codeIn K cd_l_told "_law_told" = true)
    (k_l_told : PySem.W.keepIn K (.ref f_l_told) = true)
    (a_l_kept : PySem.W.nsIn K mainGlobals "_law_kept" = some (some (.ref f_l_kept)))
    (l_l_kept : K.lookup f_l_kept = some ⟨oc_l_kept, od_l_kept, .func (PySem.W.fnOf "_law_kept" "_law_kept" (defArgs s_l_kept) (defBody s_l_kept) (defScope s_l_kept) .none kV_l_kept dc_l_kept pm_l_kept an_l_kept cd_l_kept ct_l_kept), sl_l_kept⟩)
    (c_l_kept : PySem.W.codeIn K cd_l_kept "_law_kept" = true)
    (k_l_kept : PySem.W.keepIn K (.ref f_l_kept) = true)
    (a_l_spoil : PySem.W.nsIn K mainGlobals "_law_spoil" = some (some (.ref f_l_spoil)))
    (l_l_spoil : K.lookup f_l_spoil = some ⟨oc_l_spoil, od_l_spoil, .func (PySem.W.fnOf "_law_spoil" "_law_spoil" (defArgs s_l_spoil) (defBody s_l_spoil) (defScope s_l_spoil) .none kV_l_spoil dc_l_spoil pm_l_spoil an_l_spoil cd_l_spoil ct_l_spoil), sl_l_spoil⟩)
    (c_l_spoil : PySem.W.codeIn K cd_l_spoil "_law_spoil" = true)
    (k_l_spoil : PySem.W.keepIn K (.ref f_l_spoil) = true)
    (a_l_law : PySem.W.nsIn K mainGlobals "law" = some (some (.ref f_l_law)))
    (l_l_law : K.lookup f_l_law = some ⟨oc_l_law, od_l_law, .func (PySem.W.fnOf "law" "law" (defArgs s_l_law) (defBody s_l_law) (defScope s_l_law) .none kV_l_law dc_l_law pm_l_law an_l_law cd_l_law ct_l_law), sl_l_law⟩)
    (c_l_law : PySem.W.codeIn K cd_l_law "law" = true)
    (k_l_law : PySem.W.keepIn K (.ref f_l_law) = true)
    (pg_Dial : PySem.W.plainGet K C_Dial Str.empty = true)
    (hd_Dial : PySem.W.hasDictIn K C_Dial = true)
    (po_Dial : PySem.W.plainOver K C_Dial = true)
    (sa_Dial : PySem.W.findIn K (.ref C_Dial) "__setattr__" = some (some (.builtin "object.__setattr__")))
    (mk_Dial : PySem.W.makesIn K C_Dial = true)
    (kc_Dial : PySem.W.keepIn K (.ref C_Dial) = true)
    (n_Dial_here : PySem.W.findIn K (.ref C_Dial) "here" = some none)
    (n_Dial_seen : PySem.W.findIn K (.ref C_Dial) "seen" = some none)
    (n_Dial_hand : PySem.W.findIn K (.ref C_Dial) "hand" = some none)
    (n_Dial_lacks : PySem.W.findIn K (.ref C_Dial) "lacks" = some none)
    (v_MOST_ROOMS : PySem.W.nsIn K mainGlobals "MOST_ROOMS" = some (some (.int 8 t_MOST_ROOMS)))
    (v_MOST_PAGES : PySem.W.nsIn K mainGlobals "MOST_PAGES" = some (some (.int 12 t_MOST_PAGES)))
    (v_MOST_ASKS : PySem.W.nsIn K mainGlobals "MOST_ASKS" = some (some (.int 100 t_MOST_ASKS)))
    (v_HAND : PySem.W.nsIn K mainGlobals "HAND" = some (some (.str (Str.ofString "hand") t_HAND)))
    (v_UNSEEN : PySem.W.nsIn K mainGlobals "UNSEEN" = some (some (.str (Str.ofString "unseen") t_UNSEEN)))
    (v_RULES : PySem.W.nsIn K mainGlobals "RULES" = some (some (.ref A_RULES)))
    (l_RULES : K.lookup A_RULES = some ⟨.type "tuple", od_RULES, .seq #[.str (Str.ofString "hand") t0_RULES, .str (Str.ofString "unseen") t1_RULES, .str (Str.ofString "first") t2_RULES] n_RULES, sl_RULES⟩)
    (v_MOST_ROWS : PySem.W.nsIn K mainGlobals "MOST_ROWS" = some (some (.int 5000 t_MOST_ROWS)))
    (z_len : PySem.W.nsIn K mainGlobals "len" = some none)
    (z_int : PySem.W.nsIn K mainGlobals "int" = some none)
    (z_min : PySem.W.nsIn K mainGlobals "min" = some none)
    (z_list : PySem.W.nsIn K mainGlobals "list" = some none)
    (z_sorted : PySem.W.nsIn K mainGlobals "sorted" = some none)
    (z_set : PySem.W.nsIn K mainGlobals "set" = some none)
    (z_tuple : PySem.W.nsIn K mainGlobals "tuple" = some none)
    (z_isinstance : PySem.W.nsIn K mainGlobals "isinstance" = some none)
    (z_range : PySem.W.nsIn K mainGlobals "range" = some none)
    (z_enumerate : PySem.W.nsIn K mainGlobals "enumerate" = some none) :
    ∃ fd : FuncData, (∀ (s : Shared) (v : Value), BindsTo s fd ⟨[v], []⟩ [("_law_script", v)]) ∧ ∀ base : Heap, K.In base → base.Ns mainGlobals mg → FnOk l.prog w K mg base CX0 9 fa fd ["_law_script"] (sp_l_law K) := by
  have e := hfa.symm.trans (PySem.W.mg_of X G a_l_law)
  cases e
  have F_need_rooms := fun_mk (st := s_need_rooms) l_need_rooms c_need_rooms k_need_rooms
  have b_need_rooms := F_need_rooms.binds (ps := ["rooms"]) fun _ _ _ _ _ _ us hl => match us, hl with | [_], _ => rfl
  have F_is_page := fun_mk (st := s_is_page) l_is_page c_is_page k_is_page
  have b_is_page := F_is_page.binds (ps := ["page"]) fun _ _ _ _ _ _ us hl => match us, hl with | [_], _ => rfl
  have F_need_row := fun_mk (st := s_need_row) l_need_row c_need_row k_need_row
  have b_need_row := F_need_row.binds (ps := ["row"]) fun _ _ _ _ _ _ us hl => match us, hl with | [_], _ => rfl
  have F_need_both := fun_mk (st := s_need_both) l_need_both c_need_both k_need_both
  have b_need_both := F_need_both.binds (ps := ["rooms", "row"]) fun _ _ _ _ _ _ us hl => match us, hl with | [_, _], _ => rfl
  have F_spells_of := fun_mk (st := s_spells_of) l_spells_of c_spells_of k_spells_of
  have b_spells_of := F_spells_of.binds (ps := ["row"]) fun _ _ _ _ _ _ us hl => match us, hl with | [_], _ => rfl
  have F_between := fun_mk (st := s_between) l_between c_between k_between
  have b_between := F_between.binds (ps := ["spells", "low", "high"]) fun _ _ _ _ _ _ us hl => match us, hl with | [_, _, _], _ => rfl
  have F_least_paper := fun_mk (st := s_least_paper) l_least_paper c_least_paper k_least_paper
  have b_least_paper := F_least_paper.binds (ps := ["rooms", "row"]) fun _ _ _ _ _ _ us hl => match us, hl with | [_, _], _ => rfl
  have F_shown_by := fun_mk (st := s_shown_by) l_shown_by c_shown_by k_shown_by
  have b_shown_by := F_shown_by.binds (ps := ["rooms", "row", "places"]) fun _ _ _ _ _ _ us hl => match us, hl with | [_, _, _], _ => rfl
  have F_spells := fun_mk (st := s_spells) l_spells c_spells k_spells
  have b_spells := F_spells.binds (ps := ["row"]) fun _ _ _ _ _ _ us hl => match us, hl with | [_], _ => rfl
  have F_paper := fun_mk (st := s_paper) l_paper c_paper k_paper
  have b_paper := F_paper.binds (ps := ["rooms", "row"]) fun _ _ _ _ _ _ us hl => match us, hl with | [_, _], _ => rfl
  have F_shown := fun_mk (st := s_shown) l_shown c_shown k_shown
  have b_shown := F_shown.binds (ps := ["rooms", "row", "places"]) fun _ _ _ _ _ _ us hl => match us, hl with | [_, _, _], _ => rfl
  have F_next_ask := fun_mk (st := s_next_ask) l_next_ask c_next_ask k_next_ask
  have b_next_ask := F_next_ask.binds (ps := ["row", "place", "page"]) fun _ _ _ _ _ _ us hl => match us, hl with | [_, _, _], _ => rfl
  have F_farthest := fun_mk (st := s_farthest) l_farthest c_farthest k_farthest
  have b_farthest := F_farthest.binds (ps := ["row", "place", "kept"]) fun _ _ _ _ _ _ us hl => match us, hl with | [_, _, _], _ => rfl
  have F_gone_through := fun_mk (st := s_gone_through) l_gone_through c_gone_through k_gone_through
  have b_gone_through := F_gone_through.binds (ps := ["rooms", "row"]) fun _ _ _ _ _ _ us hl => match us, hl with | [_, _], _ => rfl
  have F_best := fun_mk (st := s_best) l_best c_best k_best
  have b_best := F_best.binds (ps := ["rooms", "row"]) fun _ _ _ _ _ _ us hl => match us, hl with | [_, _], _ => rfl
  have F_Dial_init := fun_mk (st := s_Dial_init) l_Dial_init c_Dial_init k_Dial_init
  have b_Dial_init := F_Dial_init.binds (ps := ["self", "rooms"]) fun _ _ _ _ _ _ us hl => match us, hl with | [_, _], _ => rfl
  have F_Dial_ask := fun_mk (st := s_Dial_ask) l_Dial_ask c_Dial_ask k_Dial_ask
  have b_Dial_ask := F_Dial_ask.binds (ps := ["self", "page"]) fun _ _ _ _ _ _ us hl => match us, hl with | [_, _], _ => rfl
  have F_Dial_pages := fun_mk (st := s_Dial_pages) l_Dial_pages c_Dial_pages k_Dial_pages
  have b_Dial_pages := F_Dial_pages.binds (ps := ["self"]) fun _ _ _ _ _ _ us hl => match us, hl with | [_], _ => rfl
  have F_Dial_looked := fun_mk (st := s_Dial_looked) l_Dial_looked c_Dial_looked k_Dial_looked
  have b_Dial_looked := F_Dial_looked.binds (ps := ["self"]) fun _ _ _ _ _ _ us hl => match us, hl with | [_], _ => rfl
  have F_Dial_points := fun_mk (st := s_Dial_points) l_Dial_points c_Dial_points k_Dial_points
  have b_Dial_points := F_Dial_points.binds (ps := ["self"]) fun _ _ _ _ _ _ us hl => match us, hl with | [_], _ => rfl
  have F_Dial_lacked := fun_mk (st := s_Dial_lacked) l_Dial_lacked c_Dial_lacked k_Dial_lacked
  have b_Dial_lacked := F_Dial_lacked.binds (ps := ["self"]) fun _ _ _ _ _ _ us hl => match us, hl with | [_], _ => rfl
  have F_round_told := fun_mk (st := s_round_told) l_round_told c_round_told k_round_told
  have b_round_told := F_round_told.binds (ps := ["rooms", "row"]) fun _ _ _ _ _ _ us hl => match us, hl with | [_, _], _ => rfl
  have F_told := fun_mk (st := s_told) l_told c_told k_told
  have b_told := F_told.binds (ps := ["rooms", "row"]) fun _ _ _ _ _ _ us hl => match us, hl with | [_, _], _ => rfl
  have F_need_rule := fun_mk (st := s_need_rule) l_need_rule c_need_rule k_need_rule
  have b_need_rule := F_need_rule.binds (ps := ["rule"]) fun _ _ _ _ _ _ us hl => match us, hl with | [_], _ => rfl
  have F_by_row := fun_mk (st := s_by_row) l_by_row c_by_row k_by_row
  have b_by_row := F_by_row.binds (ps := ["rooms", "row", "rule"]) fun _ _ _ _ _ _ us hl => match us, hl with | [_, _, _], _ => rfl
  have F_all_lacking := fun_mk (st := s_all_lacking) l_all_lacking c_all_lacking k_all_lacking
  have b_all_lacking := F_all_lacking.binds (ps := ["rooms", "row", "rule"]) fun _ _ _ _ _ _ us hl => match us, hl with | [_, _, _], _ => rfl
  have F_lacking := fun_mk (st := s_lacking) l_lacking c_lacking k_lacking
  have b_lacking := F_lacking.binds (ps := ["rooms", "row", "rule"]) fun _ _ _ _ _ _ us hl => match us, hl with | [_, _, _], _ => rfl
  have F_all_stretches := fun_mk (st := s_all_stretches) l_all_stretches c_all_stretches k_all_stretches
  have b_all_stretches := F_all_stretches.binds (ps := ["rooms", "row"]) fun _ _ _ _ _ _ us hl => match us, hl with | [_, _], _ => rfl
  have F_stretches := fun_mk (st := s_stretches) l_stretches c_stretches k_stretches
  have b_stretches := F_stretches.binds (ps := ["rooms", "row"]) fun _ _ _ _ _ _ us hl => match us, hl with | [_, _], _ => rfl
  have F_lacking_in := fun_mk (st := s_lacking_in) l_lacking_in c_lacking_in k_lacking_in
  have b_lacking_in := F_lacking_in.binds (ps := ["rooms", "row", "rule"]) fun _ _ _ _ _ _ us hl => match us, hl with | [_, _, _], _ => rfl
  have F_all_rows := fun_mk (st := s_all_rows) l_all_rows c_all_rows k_all_rows
  have b_all_rows := F_all_rows.binds (ps := ["pages", "long"]) fun _ _ _ _ _ _ us hl => match us, hl with | [_, _], _ => rfl
  have F_more_of := fun_mk (st := s_more_of) l_more_of c_more_of k_more_of
  have b_more_of := F_more_of.binds (ps := ["rooms", "row", "rule"]) fun _ _ _ _ _ _ us hl => match us, hl with | [_, _, _], _ => rfl
  have F_need_size := fun_mk (st := s_need_size) l_need_size c_need_size k_need_size
  have b_need_size := F_need_size.binds (ps := ["pages", "long"]) fun _ _ _ _ _ _ us hl => match us, hl with | [_, _], _ => rfl
  have F_worst := fun_mk (st := s_worst) l_worst c_worst k_worst
  have b_worst := F_worst.binds (ps := ["rooms", "pages", "long", "rule"]) fun _ _ _ _ _ _ us hl => match us, hl with | [_, _, _, _], _ => rfl
  have F_l_begun := fun_mk (st := s_l_begun) l_l_begun c_l_begun k_l_begun
  have b_l_begun := F_l_begun.binds (ps := ["_law_script"]) fun _ _ _ _ _ _ us hl => match us, hl with | [_], _ => rfl
  have F_l_take := fun_mk (st := s_l_take) l_l_take c_l_take k_l_take
  have b_l_take := F_l_take.binds (ps := ["_law_box", "_law_many"]) fun _ _ _ _ _ _ us hl => match us, hl with | [_, _], _ => rfl
  have F_l_row := fun_mk (st := s_l_row) l_l_row c_l_row k_l_row
  have b_l_row := F_l_row.binds (ps := ["_law_box", "_law_most"]) fun _ _ _ _ _ _ us hl => match us, hl with | [_, _], _ => rfl
  have F_l_told := fun_mk (st := s_l_told) l_l_told c_l_told k_l_told
  have b_l_told := F_l_told.binds (ps := ["_law_case"]) fun _ _ _ _ _ _ us hl => match us, hl with | [_], _ => rfl
  have F_l_kept := fun_mk (st := s_l_kept) l_l_kept c_l_kept k_l_kept
  have b_l_kept := F_l_kept.binds (ps := ["_law_found"]) fun _ _ _ _ _ _ us hl => match us, hl with | [_], _ => rfl
  have F_l_spoil := fun_mk (st := s_l_spoil) l_l_spoil c_l_spoil k_l_spoil
  have b_l_spoil := F_l_spoil.binds (ps := ["_law_found"]) fun _ _ _ _ _ _ us hl => match us, hl with | [_], _ => rfl
  have F_l_law := fun_mk (st := s_l_law) l_l_law c_l_law k_l_law
  have b_l_law := F_l_law.binds (ps := ["_law_script"]) fun _ _ _ _ _ _ us hl => match us, hl with | [_], _ => rfl
  have T : Txt K mg (⟨f_need_rooms, (PySem.W.fnOf "need_rooms" "need_rooms" (defArgs s_need_rooms) (defBody s_need_rooms) (defScope s_need_rooms) .none kV_need_rooms dc_need_rooms pm_need_rooms an_need_rooms cd_need_rooms ct_need_rooms), f_is_page, (PySem.W.fnOf "is_page" "is_page" (defArgs s_is_page) (defBody s_is_page) (defScope s_is_page) .none kV_is_page dc_is_page pm_is_page an_is_page cd_is_page ct_is_page), f_need_row, (PySem.W.fnOf "need_row" "need_row" (defArgs s_need_row) (defBody s_need_row) (defScope s_need_row) .none kV_need_row dc_need_row pm_need_row an_need_row cd_need_row ct_need_row), f_need_both, (PySem.W.fnOf "need_both" "need_both" (defArgs s_need_both) (defBody s_need_both) (defScope s_need_both) .none kV_need_both dc_need_both pm_need_both an_need_both cd_need_both ct_need_both), f_spells_of, (PySem.W.fnOf "spells_of" "spells_of" (defArgs s_spells_of) (defBody s_spells_of) (defScope s_spells_of) .none kV_spells_of dc_spells_of pm_spells_of an_spells_of cd_spells_of ct_spells_of), f_between, (PySem.W.fnOf "between" "between" (defArgs s_between) (defBody s_between) (defScope s_between) .none kV_between dc_between pm_between an_between cd_between ct_between), f_least_paper, (PySem.W.fnOf "least_paper" "least_paper" (defArgs s_least_paper) (defBody s_least_paper) (defScope s_least_paper) .none kV_least_paper dc_least_paper pm_least_paper an_least_paper cd_least_paper ct_least_paper), f_shown_by, (PySem.W.fnOf "shown_by" "shown_by" (defArgs s_shown_by) (defBody s_shown_by) (defScope s_shown_by) .none kV_shown_by dc_shown_by pm_shown_by an_shown_by cd_shown_by ct_shown_by), f_spells, (PySem.W.fnOf "spells" "spells" (defArgs s_spells) (defBody s_spells) (defScope s_spells) .none kV_spells dc_spells pm_spells an_spells cd_spells ct_spells), f_paper, (PySem.W.fnOf "paper" "paper" (defArgs s_paper) (defBody s_paper) (defScope s_paper) .none kV_paper dc_paper pm_paper an_paper cd_paper ct_paper), f_shown, (PySem.W.fnOf "shown" "shown" (defArgs s_shown) (defBody s_shown) (defScope s_shown) .none kV_shown dc_shown pm_shown an_shown cd_shown ct_shown), f_next_ask, (PySem.W.fnOf "next_ask" "next_ask" (defArgs s_next_ask) (defBody s_next_ask) (defScope s_next_ask) .none kV_next_ask dc_next_ask pm_next_ask an_next_ask cd_next_ask ct_next_ask), f_farthest, (PySem.W.fnOf "farthest" "farthest" (defArgs s_farthest) (defBody s_farthest) (defScope s_farthest) .none kV_farthest dc_farthest pm_farthest an_farthest cd_farthest ct_farthest), f_gone_through, (PySem.W.fnOf "gone_through" "gone_through" (defArgs s_gone_through) (defBody s_gone_through) (defScope s_gone_through) .none kV_gone_through dc_gone_through pm_gone_through an_gone_through cd_gone_through ct_gone_through), f_best, (PySem.W.fnOf "best" "best" (defArgs s_best) (defBody s_best) (defScope s_best) .none kV_best dc_best pm_best an_best cd_best ct_best), f_Dial_init, (PySem.W.fnOf "__init__" "Dial.__init__" (defArgs s_Dial_init) (defBody s_Dial_init) (defScope s_Dial_init) .none kV_Dial_init dc_Dial_init pm_Dial_init an_Dial_init cd_Dial_init ct_Dial_init), f_Dial_ask, (PySem.W.fnOf "ask" "Dial.ask" (defArgs s_Dial_ask) (defBody s_Dial_ask) (defScope s_Dial_ask) .none kV_Dial_ask dc_Dial_ask pm_Dial_ask an_Dial_ask cd_Dial_ask ct_Dial_ask), f_Dial_pages, (PySem.W.fnOf "pages" "Dial.pages" (defArgs s_Dial_pages) (defBody s_Dial_pages) (defScope s_Dial_pages) .none kV_Dial_pages dc_Dial_pages pm_Dial_pages an_Dial_pages cd_Dial_pages ct_Dial_pages), f_Dial_looked, (PySem.W.fnOf "looked" "Dial.looked" (defArgs s_Dial_looked) (defBody s_Dial_looked) (defScope s_Dial_looked) .none kV_Dial_looked dc_Dial_looked pm_Dial_looked an_Dial_looked cd_Dial_looked ct_Dial_looked), f_Dial_points, (PySem.W.fnOf "points" "Dial.points" (defArgs s_Dial_points) (defBody s_Dial_points) (defScope s_Dial_points) .none kV_Dial_points dc_Dial_points pm_Dial_points an_Dial_points cd_Dial_points ct_Dial_points), f_Dial_lacked, (PySem.W.fnOf "lacked" "Dial.lacked" (defArgs s_Dial_lacked) (defBody s_Dial_lacked) (defScope s_Dial_lacked) .none kV_Dial_lacked dc_Dial_lacked pm_Dial_lacked an_Dial_lacked cd_Dial_lacked ct_Dial_lacked), f_round_told, (PySem.W.fnOf "round_told" "round_told" (defArgs s_round_told) (defBody s_round_told) (defScope s_round_told) .none kV_round_told dc_round_told pm_round_told an_round_told cd_round_told ct_round_told), f_told, (PySem.W.fnOf "told" "told" (defArgs s_told) (defBody s_told) (defScope s_told) .none kV_told dc_told pm_told an_told cd_told ct_told), f_need_rule, (PySem.W.fnOf "need_rule" "need_rule" (defArgs s_need_rule) (defBody s_need_rule) (defScope s_need_rule) .none kV_need_rule dc_need_rule pm_need_rule an_need_rule cd_need_rule ct_need_rule), f_by_row, (PySem.W.fnOf "by_row" "by_row" (defArgs s_by_row) (defBody s_by_row) (defScope s_by_row) .none kV_by_row dc_by_row pm_by_row an_by_row cd_by_row ct_by_row), f_all_lacking, (PySem.W.fnOf "all_lacking" "all_lacking" (defArgs s_all_lacking) (defBody s_all_lacking) (defScope s_all_lacking) .none kV_all_lacking dc_all_lacking pm_all_lacking an_all_lacking cd_all_lacking ct_all_lacking), f_lacking, (PySem.W.fnOf "lacking" "lacking" (defArgs s_lacking) (defBody s_lacking) (defScope s_lacking) .none kV_lacking dc_lacking pm_lacking an_lacking cd_lacking ct_lacking), f_all_stretches, (PySem.W.fnOf "all_stretches" "all_stretches" (defArgs s_all_stretches) (defBody s_all_stretches) (defScope s_all_stretches) .none kV_all_stretches dc_all_stretches pm_all_stretches an_all_stretches cd_all_stretches ct_all_stretches), f_stretches, (PySem.W.fnOf "stretches" "stretches" (defArgs s_stretches) (defBody s_stretches) (defScope s_stretches) .none kV_stretches dc_stretches pm_stretches an_stretches cd_stretches ct_stretches), f_lacking_in, (PySem.W.fnOf "lacking_in" "lacking_in" (defArgs s_lacking_in) (defBody s_lacking_in) (defScope s_lacking_in) .none kV_lacking_in dc_lacking_in pm_lacking_in an_lacking_in cd_lacking_in ct_lacking_in), f_all_rows, (PySem.W.fnOf "all_rows" "all_rows" (defArgs s_all_rows) (defBody s_all_rows) (defScope s_all_rows) .none kV_all_rows dc_all_rows pm_all_rows an_all_rows cd_all_rows ct_all_rows), f_more_of, (PySem.W.fnOf "more_of" "more_of" (defArgs s_more_of) (defBody s_more_of) (defScope s_more_of) .none kV_more_of dc_more_of pm_more_of an_more_of cd_more_of ct_more_of), f_need_size, (PySem.W.fnOf "need_size" "need_size" (defArgs s_need_size) (defBody s_need_size) (defScope s_need_size) .none kV_need_size dc_need_size pm_need_size an_need_size cd_need_size ct_need_size), f_worst, (PySem.W.fnOf "worst" "worst" (defArgs s_worst) (defBody s_worst) (defScope s_worst) .none kV_worst dc_worst pm_worst an_worst cd_worst ct_worst), f_l_begun, (PySem.W.fnOf "_law_begun" "_law_begun" (defArgs s_l_begun) (defBody s_l_begun) (defScope s_l_begun) .none kV_l_begun dc_l_begun pm_l_begun an_l_begun cd_l_begun ct_l_begun), f_l_take, (PySem.W.fnOf "_law_take" "_law_take" (defArgs s_l_take) (defBody s_l_take) (defScope s_l_take) .none kV_l_take dc_l_take pm_l_take an_l_take cd_l_take ct_l_take), f_l_row, (PySem.W.fnOf "_law_row" "_law_row" (defArgs s_l_row) (defBody s_l_row) (defScope s_l_row) .none kV_l_row dc_l_row pm_l_row an_l_row cd_l_row ct_l_row), f_l_told, (PySem.W.fnOf "_law_told" "_law_told" (defArgs s_l_told) (defBody s_l_told) (defScope s_l_told) .none kV_l_told dc_l_told pm_l_told an_l_told cd_l_told ct_l_told), f_l_kept, (PySem.W.fnOf "_law_kept" "_law_kept" (defArgs s_l_kept) (defBody s_l_kept) (defScope s_l_kept) .none kV_l_kept dc_l_kept pm_l_kept an_l_kept cd_l_kept ct_l_kept), f_l_spoil, (PySem.W.fnOf "_law_spoil" "_law_spoil" (defArgs s_l_spoil) (defBody s_l_spoil) (defScope s_l_spoil) .none kV_l_spoil dc_l_spoil pm_l_spoil an_l_spoil cd_l_spoil ct_l_spoil), fa, (PySem.W.fnOf "law" "law" (defArgs s_l_law) (defBody s_l_law) (defScope s_l_law) .none kV_l_law dc_l_law pm_l_law an_l_law cd_l_law ct_l_law), t_MOST_ROOMS, t_MOST_PAGES, t_MOST_ASKS, t_HAND, t_UNSEEN, A_RULES, t_MOST_ROWS, C_Dial⟩ : Ad) := by
    constructor
    · exact F_need_rooms
    · exact b_need_rooms
    · exact PySem.W.mg_of X G a_need_rooms
    · exact F_is_page
    · exact b_is_page
    · exact PySem.W.mg_of X G a_is_page
    · exact F_need_row
    · exact b_need_row
    · exact PySem.W.mg_of X G a_need_row
    · exact F_need_both
    · exact b_need_both
    · exact PySem.W.mg_of X G a_need_both
    · exact F_spells_of
    · exact b_spells_of
    · exact PySem.W.mg_of X G a_spells_of
    · exact F_between
    · exact b_between
    · exact PySem.W.mg_of X G a_between
    · exact F_least_paper
    · exact b_least_paper
    · exact PySem.W.mg_of X G a_least_paper
    · exact F_shown_by
    · exact b_shown_by
    · exact PySem.W.mg_of X G a_shown_by
    · exact F_spells
    · exact b_spells
    · exact PySem.W.mg_of X G a_spells
    · exact F_paper
    · exact b_paper
    · exact PySem.W.mg_of X G a_paper
    · exact F_shown
    · exact b_shown
    · exact PySem.W.mg_of X G a_shown
    · exact F_next_ask
    · exact b_next_ask
    · exact PySem.W.mg_of X G a_next_ask
    · exact F_farthest
    · exact b_farthest
    · exact PySem.W.mg_of X G a_farthest
    · exact F_gone_through
    · exact b_gone_through
    · exact PySem.W.mg_of X G a_gone_through
    · exact F_best
    · exact b_best
    · exact PySem.W.mg_of X G a_best
    · exact F_Dial_init
    · exact b_Dial_init
    · exact ⟨mk_Dial, a_Dial_init, i_Dial_init, kc_Dial⟩
    · exact F_Dial_ask
    · exact b_Dial_ask
    · exact ⟨a_Dial_ask, i_Dial_ask, k_Dial_ask⟩
    · exact F_Dial_pages
    · exact b_Dial_pages
    · exact ⟨a_Dial_pages, i_Dial_pages, k_Dial_pages⟩
    · exact F_Dial_looked
    · exact b_Dial_looked
    · exact ⟨a_Dial_looked, i_Dial_looked, k_Dial_looked⟩
    · exact F_Dial_points
    · exact b_Dial_points
    · exact ⟨a_Dial_points, i_Dial_points, k_Dial_points⟩
    · exact F_Dial_lacked
    · exact b_Dial_lacked
    · exact ⟨a_Dial_lacked, i_Dial_lacked, k_Dial_lacked⟩
    · exact F_round_told
    · exact b_round_told
    · exact PySem.W.mg_of X G a_round_told
    · exact F_told
    · exact b_told
    · exact PySem.W.mg_of X G a_told
    · exact F_need_rule
    · exact b_need_rule
    · exact PySem.W.mg_of X G a_need_rule
    · exact F_by_row
    · exact b_by_row
    · exact PySem.W.mg_of X G a_by_row
    · exact F_all_lacking
    · exact b_all_lacking
    · exact PySem.W.mg_of X G a_all_lacking
    · exact F_lacking
    · exact b_lacking
    · exact PySem.W.mg_of X G a_lacking
    · exact F_all_stretches
    · exact b_all_stretches
    · exact PySem.W.mg_of X G a_all_stretches
    · exact F_stretches
    · exact b_stretches
    · exact PySem.W.mg_of X G a_stretches
    · exact F_lacking_in
    · exact b_lacking_in
    · exact PySem.W.mg_of X G a_lacking_in
    · exact F_all_rows
    · exact b_all_rows
    · exact PySem.W.mg_of X G a_all_rows
    · exact F_more_of
    · exact b_more_of
    · exact PySem.W.mg_of X G a_more_of
    · exact F_need_size
    · exact b_need_size
    · exact PySem.W.mg_of X G a_need_size
    · exact F_worst
    · exact b_worst
    · exact PySem.W.mg_of X G a_worst
    · exact F_l_begun
    · exact b_l_begun
    · exact PySem.W.mg_of X G a_l_begun
    · exact F_l_take
    · exact b_l_take
    · exact PySem.W.mg_of X G a_l_take
    · exact F_l_row
    · exact b_l_row
    · exact PySem.W.mg_of X G a_l_row
    · exact F_l_told
    · exact b_l_told
    · exact PySem.W.mg_of X G a_l_told
    · exact F_l_kept
    · exact b_l_kept
    · exact PySem.W.mg_of X G a_l_kept
    · exact F_l_spoil
    · exact b_l_spoil
    · exact PySem.W.mg_of X G a_l_spoil
    · exact F_l_law
    · exact b_l_law
    · exact hfa
    · exact PySem.W.mg_of X G v_MOST_ROOMS
    · exact PySem.W.mg_of X G v_MOST_PAGES
    · exact PySem.W.mg_of X G v_MOST_ASKS
    · exact PySem.W.mg_of X G v_HAND
    · exact PySem.W.mg_of X G v_UNSEEN
    · exact PySem.W.mg_of X G v_RULES
    · exact ⟨_, rfl, fun H => .inr ⟨_, _, _, l_RULES, rfl, rfl, (by show 3 ≤ sizeLine; decide), .cons ⟨_, rfl⟩ (.cons ⟨_, rfl⟩ (.cons ⟨_, rfl⟩ (.nil)))⟩⟩
    · exact PySem.W.mg_of X G v_MOST_ROWS
    · exact ⟨pg_Dial, hd_Dial, po_Dial, sa_Dial⟩
    · exact PySem.W.mg_of X G aC_Dial
    · exact n_Dial_here
    · exact n_Dial_seen
    · exact n_Dial_hand
    · exact n_Dial_lacks
    · exact PySem.W.mg_none_of X G z_len
    · exact PySem.W.mg_none_of X G z_int
    · exact PySem.W.mg_none_of X G z_min
    · exact PySem.W.mg_none_of X G z_list
    · exact PySem.W.mg_none_of X G z_sorted
    · exact PySem.W.mg_none_of X G z_set
    · exact PySem.W.mg_none_of X G z_tuple
    · exact PySem.W.mg_none_of X G z_isinstance
    · exact PySem.W.mg_none_of X G z_range
    · exact PySem.W.mg_none_of X G z_enumerate
  exact ⟨PySem.W.fnOf "law" "law" (defArgs s_l_law) (defBody s_l_law) (defScope s_l_law) .none kV_l_law dc_l_law pm_l_law an_l_law cd_l_law ct_l_law, fun s v => .of_eq rfl, fun base _ _ => ok_l_law T⟩
theorem walk {l : PySem.W.OpenLaw} {q : Program} {loose : List Str} {XP : (Str → Option Value) → Heap → Prop} {YP : World → Heap → Prop} {d : DefRec} {K : Params → PySem.W.Frag} (hn : l.most = some 63) (hdf : d.params.defaults = [])
    (hY : ∀ (w : World) (h : Heap), YP w h → (K w.params).In h)
    (F : ∀ (w : World) (mg : Str → Option Value) (fa : Addr) (h : Heap), (K w.params).In h → h.Ns mainGlobals mg → mg d.name = some (.ref fa) →
      ∃ fd : FuncData, (∀ (s : Shared) (u : Value), BindsTo s fd ⟨[u], []⟩ [("_law_script", u)]) ∧ ∀ base : Heap, (K w.params).In base → base.Ns mainGlobals mg → FnOk l.prog w (K w.params) mg base CX0 9 fa fd ["_law_script"] (sp_l_law (K w.params))) :
    PySem.W.WalkO q loose XP YP l.row.toRowW d [] (fun f vs => PySem.call f vs) :=
  L2.walk_of (n := 63) (k := 9) (x := "_law_script") (CX := fun _ => CX0) (sp := fun w => sp_l_law (K w.params)) hn (by decide) hdf ⟨rfl, by decide, by decide⟩ hY F (fun _ _ a ns hl _ hS => ⟨a, ns, rfl, hS, hl, fun _ => rfl⟩) fun _ _ _ _ _ z => z
end Cw
open PySem PySem.W PyProof.Rows
set_option maxRecDepth 100000 in
set_option maxHeartbeats 0 in
theorem PySem.Challenge.cw_clockhand_k12_asked_again_holds : PySem.Challenge.rw_clockhand_k12_asked_again.Holds := by
  w_on; o_law; k_head; (case hw => w_witness2)
  k_fill
  refine Cw.walk (l := PySem.Challenge.rw_clockhand_k12_asked_again) rfl rfl (fun w h Y => PySem.W.kIn_of Y) ?F
  case F =>
    intro w mg fa h KX G hmg
    refine' Cw.all_mk KX G hmg ?aC_Dial ?a_need_rooms ?l_need_rooms ?c_need_rooms ?k_need_rooms ?a_is_page ?l_is_page ?c_is_page ?k_is_page ?a_need_row ?l_need_row ?c_need_row ?k_need_row ?a_need_both ?l_need_both ?c_need_both ?k_need_both ?a_spells_of ?l_spells_of ?c_spells_of ?k_spells_of ?a_between ?l_between ?c_between ?k_between ?a_least_paper ?l_least_paper ?c_least_paper ?k_least_paper ?a_shown_by ?l_shown_by ?c_shown_by ?k_shown_by ?a_spells ?l_spells ?c_spells ?k_spells ?a_paper ?l_paper ?c_paper ?k_paper ?a_shown ?l_shown ?c_shown ?k_shown ?a_next_ask ?l_next_ask ?c_next_ask ?k_next_ask ?a_farthest ?l_farthest ?c_farthest ?k_farthest ?a_gone_through ?l_gone_through ?c_gone_through ?k_gone_through ?a_best ?l_best ?c_best ?k_best ?a_Dial_init ?i_Dial_init ?l_Dial_init ?c_Dial_init ?k_Dial_init ?a_Dial_ask ?i_Dial_ask ?l_Dial_ask ?c_Dial_ask ?k_Dial_ask ?a_Dial_pages ?i_Dial_pages ?l_Dial_pages ?c_Dial_pages ?k_Dial_pages ?a_Dial_looked ?i_Dial_looked ?l_Dial_looked ?c_Dial_looked ?k_Dial_looked ?a_Dial_points ?i_Dial_points ?l_Dial_points ?c_Dial_points ?k_Dial_points ?a_Dial_lacked ?i_Dial_lacked ?l_Dial_lacked ?c_Dial_lacked ?k_Dial_lacked ?a_round_told ?l_round_told ?c_round_told ?k_round_told ?a_told ?l_told ?c_told ?k_told ?a_need_rule ?l_need_rule ?c_need_rule ?k_need_rule ?a_by_row ?l_by_row ?c_by_row ?k_by_row ?a_all_lacking ?l_all_lacking ?c_all_lacking ?k_all_lacking ?a_lacking ?l_lacking ?c_lacking ?k_lacking ?a_all_stretches ?l_all_stretches ?c_all_stretches ?k_all_stretches ?a_stretches ?l_stretches ?c_stretches ?k_stretches ?a_lacking_in ?l_lacking_in ?c_lacking_in ?k_lacking_in ?a_all_rows ?l_all_rows ?c_all_rows ?k_all_rows ?a_more_of ?l_more_of ?c_more_of ?k_more_of ?a_need_size ?l_need_size ?c_need_size ?k_need_size ?a_worst ?l_worst ?c_worst ?k_worst ?a_l_begun ?l_l_begun ?c_l_begun ?k_l_begun ?a_l_take ?l_l_take ?c_l_take ?k_l_take ?a_l_row ?l_l_row ?c_l_row ?k_l_row ?a_l_told ?l_l_told ?c_l_told ?k_l_told ?a_l_kept ?l_l_kept ?c_l_kept ?k_l_kept ?a_l_spoil ?l_l_spoil ?c_l_spoil ?k_l_spoil ?a_l_law ?l_l_law ?c_l_law ?k_l_law ?pg_Dial ?hd_Dial ?po_Dial ?sa_Dial ?mk_Dial ?kc_Dial ?n_Dial_here ?n_Dial_seen ?n_Dial_hand ?n_Dial_lacks ?v_MOST_ROOMS ?v_MOST_PAGES ?v_MOST_ASKS ?v_HAND ?v_UNSEEN ?v_RULES ?l_RULES ?v_MOST_ROWS ?z_len ?z_int ?z_min ?z_list ?z_sorted ?z_set ?z_tuple ?z_isinstance ?z_range ?z_enumerate
    (case aC_Dial => k_is)
    (case a_need_rooms => k_is)
    (case l_need_rooms => k_is)
    (case c_need_rooms => k_is)
    (case k_need_rooms => k_is)
    (case a_is_page => k_is)
    (case l_is_page => k_is)
    (case c_is_page => k_is)
    (case k_is_page => k_is)
    (case a_need_row => k_is)
    (case l_need_row => k_is)
    (case c_need_row => k_is)
    (case k_need_row => k_is)
    (case a_need_both => k_is)
    (case l_need_both => k_is)
    (case c_need_both => k_is)
    (case k_need_both => k_is)
    (case a_spells_of => k_is)
    (case l_spells_of => k_is)
    (case c_spells_of => k_is)
    (case k_spells_of => k_is)
    (case a_between => k_is)
    (case l_between => k_is)
    (case c_between => k_is)
    (case k_between => k_is)
    (case a_least_paper => k_is)
    (case l_least_paper => k_is)
    (case c_least_paper => k_is)
    (case k_least_paper => k_is)
    (case a_shown_by => k_is)
    (case l_shown_by => k_is)
    (case c_shown_by => k_is)
    (case k_shown_by => k_is)
    (case a_spells => k_is)
    (case l_spells => k_is)
    (case c_spells => k_is)
    (case k_spells => k_is)
    (case a_paper => k_is)
    (case l_paper => k_is)
    (case c_paper => k_is)
    (case k_paper => k_is)
    (case a_shown => k_is)
    (case l_shown => k_is)
    (case c_shown => k_is)
    (case k_shown => k_is)
    (case a_next_ask => k_is)
    (case l_next_ask => k_is)
    (case c_next_ask => k_is)
    (case k_next_ask => k_is)
    (case a_farthest => k_is)
    (case l_farthest => k_is)
    (case c_farthest => k_is)
    (case k_farthest => k_is)
    (case a_gone_through => k_is)
    (case l_gone_through => k_is)
    (case c_gone_through => k_is)
    (case k_gone_through => k_is)
    (case a_best => k_is)
    (case l_best => k_is)
    (case c_best => k_is)
    (case k_best => k_is)
    (case a_Dial_init => k_is)
    (case i_Dial_init => k_is)
    (case l_Dial_init => k_is)
    (case c_Dial_init => k_is)
    (case k_Dial_init => k_is)
    (case a_Dial_ask => k_is)
    (case i_Dial_ask => k_is)
    (case l_Dial_ask => k_is)
    (case c_Dial_ask => k_is)
    (case k_Dial_ask => k_is)
    (case a_Dial_pages => k_is)
    (case i_Dial_pages => k_is)
    (case l_Dial_pages => k_is)
    (case c_Dial_pages => k_is)
    (case k_Dial_pages => k_is)
    (case a_Dial_looked => k_is)
    (case i_Dial_looked => k_is)
    (case l_Dial_looked => k_is)
    (case c_Dial_looked => k_is)
    (case k_Dial_looked => k_is)
    (case a_Dial_points => k_is)
    (case i_Dial_points => k_is)
    (case l_Dial_points => k_is)
    (case c_Dial_points => k_is)
    (case k_Dial_points => k_is)
    (case a_Dial_lacked => k_is)
    (case i_Dial_lacked => k_is)
    (case l_Dial_lacked => k_is)
    (case c_Dial_lacked => k_is)
    (case k_Dial_lacked => k_is)
    (case a_round_told => k_is)
    (case l_round_told => k_is)
    (case c_round_told => k_is)
    (case k_round_told => k_is)
    (case a_told => k_is)
    (case l_told => k_is)
    (case c_told => k_is)
    (case k_told => k_is)
    (case a_need_rule => k_is)
    (case l_need_rule => k_is)
    (case c_need_rule => k_is)
    (case k_need_rule => k_is)
    (case a_by_row => k_is)
    (case l_by_row => k_is)
    (case c_by_row => k_is)
    (case k_by_row => k_is)
    (case a_all_lacking => k_is)
    (case l_all_lacking => k_is)
    (case c_all_lacking => k_is)
    (case k_all_lacking => k_is)
    (case a_lacking => k_is)
    (case l_lacking => k_is)
    (case c_lacking => k_is)
    (case k_lacking => k_is)
    (case a_all_stretches => k_is)
    (case l_all_stretches => k_is)
    (case c_all_stretches => k_is)
    (case k_all_stretches => k_is)
    (case a_stretches => k_is)
    (case l_stretches => k_is)
    (case c_stretches => k_is)
    (case k_stretches => k_is)
    (case a_lacking_in => k_is)
    (case l_lacking_in => k_is)
    (case c_lacking_in => k_is)
    (case k_lacking_in => k_is)
    (case a_all_rows => k_is)
    (case l_all_rows => k_is)
    (case c_all_rows => k_is)
    (case k_all_rows => k_is)
    (case a_more_of => k_is)
    (case l_more_of => k_is)
    (case c_more_of => k_is)
    (case k_more_of => k_is)
    (case a_need_size => k_is)
    (case l_need_size => k_is)
    (case c_need_size => k_is)
    (case k_need_size => k_is)
    (case a_worst => k_is)
    (case l_worst => k_is)
    (case c_worst => k_is)
    (case k_worst => k_is)
    (case a_l_begun => k_is)
    (case l_l_begun => k_is)
    (case c_l_begun => k_is)
    (case k_l_begun => k_is)
    (case a_l_take => k_is)
    (case l_l_take => k_is)
    (case c_l_take => k_is)
    (case k_l_take => k_is)
    (case a_l_row => k_is)
    (case l_l_row => k_is)
    (case c_l_row => k_is)
    (case k_l_row => k_is)
    (case a_l_told => k_is)
    (case l_l_told => k_is)
    (case c_l_told => k_is)
    (case k_l_told => k_is)
    (case a_l_kept => k_is)
    (case l_l_kept => k_is)
    (case c_l_kept => k_is)
    (case k_l_kept => k_is)
    (case a_l_spoil => k_is)
    (case l_l_spoil => k_is)
    (case c_l_spoil => k_is)
    (case k_l_spoil => k_is)
    (case a_l_law => k_is)
    (case l_l_law => k_is)
    (case c_l_law => k_is)
    (case k_l_law => k_is)
    (case pg_Dial => k_is)
    (case hd_Dial => k_is)
    (case po_Dial => k_is)
    (case sa_Dial => k_is)
    (case mk_Dial => k_is)
    (case kc_Dial => k_is)
    (case n_Dial_here => k_is)
    (case n_Dial_seen => k_is)
    (case n_Dial_hand => k_is)
    (case n_Dial_lacks => k_is)
    (case v_MOST_ROOMS => k_is)
    (case v_MOST_PAGES => k_is)
    (case v_MOST_ASKS => k_is)
    (case v_HAND => k_is)
    (case v_UNSEEN => k_is)
    (case v_RULES => k_is)
    (case l_RULES => k_is)
    (case v_MOST_ROWS => k_is)
    (case z_len => k_is)
    (case z_int => k_is)
    (case z_min => k_is)
    (case z_list => k_is)
    (case z_sorted => k_is)
    (case z_set => k_is)
    (case z_tuple => k_is)
    (case z_isinstance => k_is)
    (case z_range => k_is)
    (case z_enumerate => k_is)
#print axioms PySem.Challenge.cw_clockhand_k12_asked_again_holds

