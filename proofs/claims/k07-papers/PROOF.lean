import PyProof.Rows.All
import Wide.All
import OpenK.AllK
import Wide.FinOn
import HandS.ForMost
import HandS.IsInst
import HandS.Steps
import HandS.Codes
import HandS.SetFor
import HandS.Zip
import KE.DatumOrd
import PyProof.SeqIndex
import HandS.Deep
import HandS.Set
import HandS.Strs
import PyProof.Rows.SortShellAny
import PySem.Challenge.RW_clockhand_k07_papers_read
set_option Elab.async false
set_option linter.all false
set_option maxRecDepth 100000
set_option maxHeartbeats 4000000

namespace Cw
open PySem L2
/-! heaps -/
def Fr (W : List Addr) (H H' : Hp) : Prop := (∀ b o, H b = some o → b ∉ W → H' b = some o) ∧ ∀ b, H' b = none → H b = none
theorem Fr.refl {W : List Addr} {H : Hp} : Fr W H H := ⟨fun _ _ h _ => h, fun _ h => h⟩
theorem Fr.get {W : List Addr} {H H' : Hp} {b : Addr} {o : HO} (a : Fr W H H') (h : H b = some o) (hw : b ∉ W) : H' b = some o := a.1 b o h hw
theorem Fr.get0 {H H' : Hp} {b : Addr} {o : HO} (a : Fr [] H H') (h : H b = some o) : H' b = some o := a.1 b o h (by simp)
theorem Fr.free {W : List Addr} {H H' : Hp} {b : Addr} (a : Fr W H H') (h : H' b = none) : H b = none := a.2 b h
theorem Fr.comp {W W1 : List Addr} {H H1 H2 : Hp} (a : Fr W H H1) (b : Fr W1 H1 H2) (h : ∀ p ∈ W1, p ∈ W ∨ H p = none) : Fr W H H2 :=
  ⟨fun c o e hc => b.1 c o (a.1 c o e hc) (fun m => (h c m).elim hc fun n => by rw [n] at e; cases e), fun c e => a.2 c (b.2 c e)⟩
theorem Fr.trans {W : List Addr} {H H1 H2 : Hp} (a : Fr W H H1) (b : Fr W H1 H2) : Fr W H H2 := a.comp b fun p m => .inl m
theorem Fr.more {W : List Addr} {H H1 H2 : Hp} (a : Fr W H H1) (b : Fr [] H1 H2) : Fr W H H2 := a.comp b fun p m => absurd m (by simp)
theorem Fr.mono {W W' : List Addr} {H H' : Hp} (a : Fr W H H') (h : ∀ p ∈ W, p ∈ W') : Fr W' H H' := ⟨fun b o e hb => a.1 b o e fun m => hb (h b m), a.2⟩
theorem Fr.of0 {W : List Addr} {H H' : Hp} (a : Fr [] H H') : Fr W H H' := a.mono fun p m => absurd m (by simp)
theorem upd_none {H : Hp} {p b : Addr} {o : HO} (h : upd H p o b = none) : H b = none := by
  unfold upd at h
  split at h
  · cases h
  · exact h
theorem Fr.new {W : List Addr} {H : Hp} {p : Addr} {o : HO} (hp : H p = none) : Fr W H (upd H p o) :=
  ⟨fun b u e _ => by rw [upd_ne (ne_of_none e hp)]; exact e, fun b e => upd_none e⟩
theorem Fr.at {W : List Addr} {H : Hp} {p : Addr} {o : HO} (hp : p ∈ W) : Fr W H (upd H p o) :=
  ⟨fun b u e hb => by
    rw [upd_ne (fun z => hb (by rw [z]; exact hp))]
    exact e, fun b e => upd_none e⟩
/-- an object that is new beside H is changed -/
theorem Fr.loc {W : List Addr} {H0 H : Hp} {p : Addr} {o : HO} (a : Fr W H0 H) (n : H0 p = none) : Fr W H0 (upd H p o) :=
  a.comp (Fr.at (W := [p]) (List.mem_singleton.mpr rfl)) fun q m => .inr (by rw [List.mem_singleton.mp m]; exact n)
theorem Fr.seqL {K : PySem.W.Frag} {H H' : Hp} {a : Addr} {xs : List V} (e : Fr [] H H') (h : SqL K H a xs) : SqL K H' a xs := by
  rcases h with (h | ⟨o, h⟩) | h
  · exact .inl (.inl (e.get0 h))
  · exact .inl (.inr ⟨o, e.get0 h⟩)
  · exact .inr h
theorem Fr.seqT {K : PySem.W.Frag} {H H' : Hp} {a : Addr} {xs : List V} (e : Fr [] H H') (h : SqT K H a xs) : SqT K H' a xs := by
  rcases h with (h | ⟨o, h⟩) | h
  · exact .inl (.inl (e.get0 h))
  · exact .inl (.inr ⟨o, e.get0 h⟩)
  · exact .inr h
/-! a statement's heap, made a letter -/
theorem genS {F : Hp → Prop} {H : Hp} {p : Addr} {o : HO} (hp : H p = none) (h : ∀ H2, Fr [] H H2 → H2 p = some o → F H2) : F (upd H p o) := h _ (Fr.new hp) upd_same
theorem genM {F : Hp → Prop} {H : Hp} {p : Addr} {o : HO} (h : ∀ H2, Fr [p] H H2 → H2 p = some o → F H2) : F (upd H p o) := h _ (Fr.at (List.mem_singleton.mpr rfl)) upd_same
theorem at_ne {H : Hp} {p b : Addr} {o u : HO} (hb : b ≠ p) (h : H b = some u) : upd H p o b = some u := (upd_ne hb).trans h
theorem ne_n {H : Hp} {a b : Addr} {o : HO} (h' : H b = none) (h : H a = some o) : a ≠ b := ne_of_none h h'
theorem ne_n' {H : Hp} {a b : Addr} {o : HO} (h' : H b = none) (h : H a = some o) : b ≠ a := fun e => ne_of_none h h' e.symm
theorem ne_s {a b : Addr} (h : a ≠ b) : b ≠ a := fun e => h e.symm

/-! steps -/
section
variable {σ : L2.St} {H : Hp} {Q : VK} {i : Nat} {v x y : V} {ta tb tc te tx : TE} {K : PySem.W.Frag} {nx : L2.St → Hp → Prop} {rt : VK} {bk ct : L2.St → Hp → Prop} {t u : TS} {c d : TT} {QB : Bool → Hp → Prop}
theorem w_var (h : σ[i]? = some (some v)) (q : Q v H) : tVar i σ H Q := ⟨v, h, q⟩
theorem w_c (q : Q v H) : tC v σ H Q := q
theorem w_op {r : R2} (h : ta σ H fun x H1 => tb σ H1 fun y H2 => r x y H2 Q) : tOp r ta tb σ H Q := h
theorem w_un {r : V → Hp → VK → Prop} (h : ta σ H fun x H1 => r x H1 Q) : tUn r ta σ H Q := h
theorem w_cb {r : List V → Hp → VK → Prop} {tt : TA} (h : tt σ H fun vs H1 => r vs H1 Q) : tCB r tt σ H Q := h
theorem w_nil {QA : List V → Hp → Prop} (h : QA [] H) : tNil σ H QA := h
theorem w_cons {QA : List V → Hp → Prop} {tr : TA} (h : ta σ H fun x H1 => tr σ H1 fun xs H2 => QA (x :: xs) H2) : tCons ta tr σ H QA := h
theorem w_I0 {g : Int → Int → V} {i j : Int} (h : Q (g i j) H) : rI0 g (.int i) (.int j) H Q := ⟨i, j, rfl, rfl, h⟩
theorem w_I {C : Int → Int → Prop} {g : Int → Int → V} {i j : Int} (hc : C i j) (h : Q (g i j) H) : rI C g (.int i) (.int j) H Q := ⟨i, j, rfl, rfl, hc, h⟩
theorem w_U {g : Int → V} {i : Int} (h : Q (g i) H) : rU g (.int i) H Q := ⟨i, rfl, h⟩
theorem w_eqI {i j : Int} (h : Q (.bl (decide (i = j))) H) : rEq (.int i) (.int j) H Q := ⟨rfl, by
  have e : decide (V.int i = V.int j) = decide (i = j) := by simp
  rw [e]; exact h⟩
theorem w_neI {i j : Int} (h : Q (.bl (!decide (i = j))) H) : rNe (.int i) (.int j) H Q := ⟨rfl, by
  have e : decide (V.int i = V.int j) = decide (i = j) := by simp
  rw [e]; exact h⟩
theorem w_eqS {i j : Str} (h : Q (.bl (decide (i = j))) H) : rEq (.str i) (.str j) H Q := ⟨rfl, by
  have e : decide (V.str i = V.str j) = decide (i = j) := by simp
  rw [e]; exact h⟩
theorem w_eqB {i j : Bool} (h : Q (.bl (decide (i = j))) H) : rEq (.bl i) (.bl j) H Q := ⟨rfl, by
  have e : decide (V.bl i = V.bl j) = decide (i = j) := by simp
  rw [e]; exact h⟩
theorem w_neB {i j : Bool} (h : Q (.bl (!decide (i = j))) H) : rNe (.bl i) (.bl j) H Q := ⟨rfl, by
  have e : decide (V.bl i = V.bl j) = decide (i = j) := by simp
  rw [e]; exact h⟩
theorem w_ixL {p : Addr} {xs : List V} {i : Int} (h : SqL K H p xs) (ha : atI xs i = some v) (q : Q v H) : rIxL K (.ref p) (.int i) H Q := ⟨p, xs, i, v, rfl, rfl, h, ha, q⟩
theorem w_ixT {p : Addr} {xs : List V} {i : Int} (h : SqT K H p xs) (ha : atI xs i = some v) (q : Q v H) : rIxT K (.ref p) (.int i) H Q := ⟨p, xs, i, v, rfl, rfl, h, ha, q⟩
theorem w_test (h : te σ H fun x H' => ∃ k, x = .bl k ∧ QB k H') : tTest te σ H QB := h
theorem w_B (h : te σ H fun x H' => ∃ k, x = .bl k ∧ QB k H') : tB te σ H QB := h
theorem w_isbl {b : Bool} {PB : Bool → Prop} (h : PB b) : ∃ k, V.bl b = .bl k ∧ PB k := ⟨b, rfl, h⟩
theorem w_and (h : c σ H fun b H1 => if b = true then d σ H1 QB else QB false H1) : tAnd c d σ H QB := h
theorem w_or (h : c σ H fun b H1 => if b = true then QB true H1 else d σ H1 QB) : tOr c d σ H QB := h
theorem w_not (h : c σ H fun b H1 => QB (!b) H1) : tNot c σ H QB := h
theorem w_notV (h : ta σ H fun x H1 => ∃ c, x = .bl c ∧ Q (.bl (!c)) H1) : tNotV ta σ H Q := h
theorem w_andV (h : ta σ H fun x H1 => ∃ c, x = .bl c ∧ if c = true then tb σ H1 Q else Q (.bl false) H1) : tAndV ta tb σ H Q := h
theorem w_orV (h : ta σ H fun x H1 => ∃ c, x = .bl c ∧ if c = true then Q (.bl true) H1 else tb σ H1 Q) : tOrV ta tb σ H Q := h
theorem w_if (h : c σ H fun b H1 => if b = true then ta σ H1 Q else tb σ H1 Q) : tIf c ta tb σ H Q := h
theorem w_isN (h : Q (.bl (decide (x = .non))) H) : rIsN x .non H Q := ⟨rfl, h⟩
theorem w_notN (h : Q (.bl (!decide (x = .non))) H) : rNotN x .non H Q := ⟨rfl, h⟩
theorem w_lst {tt : TA} (h : tt σ H fun xs H1 => xs.length ≤ sizeLine ∧ ∀ p, H1 p = none → Q (.ref p) (upd H1 p (.lst xs))) : tLst tt σ H Q := h
theorem w_tup {tt : TA} (h : tt σ H fun xs H1 => xs.length ≤ sizeLine ∧ ∀ p, H1 p = none → Q (.ref p) (upd H1 p (.tup xs))) : tTup tt σ H Q := h
theorem w_chain {r r' : R2} (h : ta σ H fun x H1 => tb σ H1 fun y H2 => r x y H2 fun z H3 => ∃ k, z = .bl k ∧ if k = true then tc σ H3 fun w H4 => r' y w H4 Q else Q (.bl false) H3) : tChain r r' ta tb tc σ H Q := h
theorem w_len {p : Addr} {xs : List V} (h : SqL K H p xs ∨ SqT K H p xs) (q : Q (.int xs.length) H) : (fun (vs : List V) (H : Hp) (Q : VK) => ∃ p ys, vs = [.ref p] ∧ (SqL K H p ys ∨ SqT K H p ys) ∧ Q (.int ys.length) H) [.ref p] H Q := ⟨p, xs, rfl, h, q⟩
theorem w_call {sp : Sp} {dvs : List V} {E : XK} {tt : TA} (h : tt σ H fun vs H1 => sp (vs ++ dvs) H1 Q E) : tCall sp dvs E tt σ H Q := h
theorem w_call0 {sp : Sp} {E : XK} {tt : TA} (h : tt σ H fun vs H1 => sp (vs ++ []) H1 Q E) : tCall sp [] E tt σ H Q := h
/-! statements -/
theorem w_seq (h : t ⟨u ⟨nx, rt, bk, ct⟩, rt, bk, ct⟩ σ H) : tSeq t u ⟨nx, rt, bk, ct⟩ σ H := h
theorem w_cut (Mid : L2.St → Hp → Prop) (h1 : t ⟨Mid, rt, bk, ct⟩ σ H) (h2 : ∀ σ H, Mid σ H → u ⟨nx, rt, bk, ct⟩ σ H) : C8.tCut t u ⟨nx, rt, bk, ct⟩ σ H := ⟨Mid, h1, h2⟩
theorem w_next (h : nx σ H) : tNext ⟨nx, rt, bk, ct⟩ σ H := h
theorem w_brk (h : bk σ H) : tBreak ⟨nx, rt, bk, ct⟩ σ H := h
theorem w_cont (h : ct σ H) : tCont ⟨nx, rt, bk, ct⟩ σ H := h
theorem w_asg {g : TG} (h : te σ H fun x H1 => g x σ H1 nx) : tAsg te g ⟨nx, rt, bk, ct⟩ σ H := h
theorem w_gn {N : L2.St → Hp → Prop} (h : N (σ.set i (some v)) H) : gName i v σ H N := h
theorem w_drop (h : te σ H fun _ H1 => nx σ H1) : tDrop te ⟨nx, rt, bk, ct⟩ σ H := h
theorem w_ret (h : te σ H rt) : tRet te ⟨nx, rt, bk, ct⟩ σ H := h
theorem w_ifS (h : c σ H fun b H1 => if b = true then t ⟨nx, rt, bk, ct⟩ σ H1 else u ⟨nx, rt, bk, ct⟩ σ H1) : tIfS c t u ⟨nx, rt, bk, ct⟩ σ H := h
theorem w_sub {to ti : TE} {ts : TSet} {N : L2.St → Hp → Prop} (h : to σ H fun o H1 => ti σ H1 fun i H2 => ts o i v H2 fun H3 => N σ H3) : gSub to ti ts v σ H N := h
theorem ite_d {p : Prop} {inst : Decidable p} {A B : Prop} (h1 : p → A) (h2 : ¬ p → B) : if decide p = true then A else B := by
  by_cases h : p
  · rw [if_pos (decide_eq_true h)]; exact h1 h
  · rw [if_neg (by simp [h])]; exact h2 h
theorem ite_nd {p : Prop} {inst : Decidable p} {A B : Prop} (h1 : ¬ p → A) (h2 : p → B) : if (!decide p) = true then A else B := by
  by_cases h : p
  · rw [if_neg (by simp [h])]; exact h2 h
  · rw [if_pos (by simp [h])]; exact h1 h
theorem ite_b {b : Bool} {A B : Prop} (h1 : b = true → A) (h2 : b = false → B) : if b = true then A else B := by
  cases b
  · exact h2 rfl
  · exact h1 rfl
theorem w_iList {tl : TE} {R : It → Hp → Prop} (h : tl σ H fun x H1 => ∃ a, x = V.ref a ∧ (∃ xs, SqL K H1 a xs) ∧ R (Itl K a) H1) : iList K tl σ H R := h
theorem f_list {g : TG} {tb : TS} {a : Addr} (xs : List V) (Pv : Nat → L2.St → Hp → Prop) (h0 : Pv 0 σ H) (hl : ∀ i σ H, i ≤ xs.length → Pv i σ H → SqL K H a xs)
    (hs : ∀ i x σ H, xs[i]? = some x → Pv i σ H → g x σ H fun σ2 H2 => tb ⟨Pv (i + 1), rt, nx, Pv (i + 1)⟩ σ2 H2) (hd : ∀ σ H, Pv xs.length σ H → nx σ H) :
    ∃ b, V.ref a = V.ref b ∧ (∃ xs, SqL K H b xs) ∧ ∃ W : Nat → Nat → L2.St → Hp → Prop, (∃ m, W 0 m σ H) ∧ ∀ i m σ H, W i m σ H →
      ((Itl K b).stop i H ∧ nx σ H) ∨ ((Itl K b).go i H ∧ ∃ N : L2.St → Hp → Prop, (∀ σ' H', N σ' H' → ∃ m', m' < m ∧ W (i + 1) m' σ' H') ∧ ∀ x H', (Itl K b).yld i H x H' → g x σ H' fun σ2 H2 => tb ⟨N, rt, nx, N⟩ σ2 H2) :=
  ⟨a, rfl, ⟨xs, hl 0 σ H (Nat.zero_le _) h0⟩, for_list (D := ⟨nx, rt, fun _ _ => False, fun _ _ => False⟩) (K := K) (a := a) (xs := xs) Pv h0 hl hs hd⟩
theorem w_iRng1 {tt : TA} {R : It → Hp → Prop} (h : tt σ H fun vs H1 => ∃ j : Int, vs = [.int j] ∧ -(2 ^ 62) ≤ j ∧ j < 2 ^ 62 ∧ R (Itr 0 j.toNat) H1) : iRng1 tt σ H R := h
theorem w_iRng2 {tt : TA} {R : It → Hp → Prop} (h : tt σ H fun vs H1 => ∃ i j : Int, vs = [.int i, .int j] ∧ (-(2 ^ 62) ≤ i ∧ i < 2 ^ 62 ∧ -(2 ^ 62) ≤ j ∧ j < 2 ^ 62) ∧ R (Itr i (j - i).toNat) H1) : iRng2 tt σ H R := h
/-- for over range(n) -/
theorem f_rng1 {g : TG} {tb : TS} {j : Int} (hj : j < 2 ^ 62) (h0' : 0 ≤ j) (Pv : Nat → L2.St → Hp → Prop) (h0 : Pv 0 σ H)
    (hs : ∀ (i : Nat) σ H, (i : Int) < j → Pv i σ H → g (.int (i : Int)) σ H fun σ2 H2 => tb ⟨Pv (i + 1), rt, nx, Pv (i + 1)⟩ σ2 H2) (hd : ∀ σ H, Pv j.toNat σ H → nx σ H) :
    ∃ k : Int, [V.int j] = [V.int k] ∧ -(2 ^ 62) ≤ k ∧ k < 2 ^ 62 ∧ ∃ W : Nat → Nat → L2.St → Hp → Prop, (∃ m, W 0 m σ H) ∧ ∀ i m σ H, W i m σ H →
      ((Itr 0 k.toNat).stop i H ∧ nx σ H) ∨ ((Itr 0 k.toNat).go i H ∧ ∃ N : L2.St → Hp → Prop, (∀ σ' H', N σ' H' → ∃ m', m' < m ∧ W (i + 1) m' σ' H') ∧ ∀ x H', (Itr 0 k.toNat).yld i H x H' → g x σ H' fun σ2 H2 => tb ⟨N, rt, nx, N⟩ σ2 H2) := by
  refine ⟨j, rfl, by omega, hj, for_range (D := ⟨nx, rt, fun _ _ => False, fun _ _ => False⟩) (lo := 0) (n := j.toNat) Pv h0 (fun i σ H hi p => ?_) hd⟩
  have e : (0 : Int) + (i : Int) = (i : Int) := Int.zero_add _
  rw [e]
  exact hs i σ H (by omega) p
theorem f_rng2 {g : TG} {tb : TS} {lo hi : Int} (h1 : -(2 ^ 62) ≤ lo) (h2 : lo < 2 ^ 62) (h3 : -(2 ^ 62) ≤ hi) (h4 : hi < 2 ^ 62) (Pv : Nat → L2.St → Hp → Prop) (h0 : Pv 0 σ H)
    (hs : ∀ (i : Nat) σ H, lo + (i : Int) < hi → Pv i σ H → g (.int (lo + (i : Int))) σ H fun σ2 H2 => tb ⟨Pv (i + 1), rt, nx, Pv (i + 1)⟩ σ2 H2) (hd : ∀ σ H, Pv (hi - lo).toNat σ H → nx σ H) :
    ∃ i j : Int, [V.int lo, V.int hi] = [.int i, .int j] ∧ (-(2 ^ 62) ≤ i ∧ i < 2 ^ 62 ∧ -(2 ^ 62) ≤ j ∧ j < 2 ^ 62) ∧ ∃ W : Nat → Nat → L2.St → Hp → Prop, (∃ m, W 0 m σ H) ∧ ∀ k m σ H, W k m σ H →
      ((Itr i (j - i).toNat).stop k H ∧ nx σ H) ∨ ((Itr i (j - i).toNat).go k H ∧ ∃ N : L2.St → Hp → Prop, (∀ σ' H', N σ' H' → ∃ m', m' < m ∧ W (k + 1) m' σ' H') ∧ ∀ x H', (Itr i (j - i).toNat).yld k H x H' → g x σ H' fun σ2 H2 => tb ⟨N, rt, nx, N⟩ σ2 H2) := by
  refine ⟨lo, hi, rfl, ⟨h1, h2, h3, h4⟩, for_range (D := ⟨nx, rt, fun _ _ => False, fun _ _ => False⟩) (lo := lo) (n := (hi - lo).toNat) Pv h0 (fun i σ H hi' p => ?_) hd⟩
  exact hs i σ H (by omega) p
theorem w_for {wi : TI} {g : TG} {tb : TS} (h : wi σ H fun J H1 => ∃ W : Nat → Nat → L2.St → Hp → Prop, (∃ m, W 0 m σ H1) ∧ ∀ i m σ H, W i m σ H →
  (J.stop i H ∧ nx σ H) ∨ (J.go i H ∧ ∃ N : L2.St → Hp → Prop, (∀ σ' H', N σ' H' → ∃ m', m' < m ∧ W (i + 1) m' σ' H') ∧ ∀ x H', J.yld i H x H' → g x σ H' fun σ2 H2 => tb ⟨N, rt, nx, N⟩ σ2 H2)) : tFor wi g tb ⟨nx, rt, bk, ct⟩ σ H := h

/-! more steps -/
theorem w_bm {T : String} {r : V → List V → Hp → VK → Prop} {to : TE} {tt : TA} (h : to σ H fun x H1 => tyV K T x H1 ∧ tt σ H1 fun xs H2 => r x xs H2 Q) : tBM K T r to tt σ H Q := h
theorem w_bm0 {T : String} {r : V → List V → Hp → VK → Prop} {to : TE} (h : to σ H fun x H1 => tyV K T x H1 ∧ r x [] H1 Q) : tBM0 K T r to σ H Q := h
theorem w_tyL {p : Addr} {xs : List V} {B : Prop} (h : SqL K H p xs) (q : B) : tyV K "list" (.ref p) H ∧ B := ⟨.inl ⟨rfl, _, h⟩, q⟩
theorem w_append {l : Addr} {xs : List V} {y : V} (h : H l = some (.lst xs)) (hz : xs.length < sizeLine) (q : Q .non (upd H l (.lst (xs ++ [y])))) : rAppend (.ref l) [y] H Q := ⟨l, xs, y, rfl, rfl, h, hz, q⟩
theorem w_setL {p : Addr} {xs ys : List V} {k : Int} {j : Nat} {N : Hp → Prop} (h : H p = some (.lst xs)) (hj : ixN xs.length k = some j) (e : xs.set j v = ys) (q : N (upd H p (.lst ys))) : rSetL (.ref p) (.int k) v H N := ⟨p, xs, k, j, rfl, rfl, h, hj, by rw [e]; exact q⟩
theorem w_cat {a b : Addr} {xs ys : List V} (h1 : H a = some (.lst xs)) (h2 : H b = some (.lst ys)) (hz : xs.length + ys.length ≤ sizeLine) (q : ∀ p, H p = none → Q (.ref p) (upd H p (.lst (xs ++ ys)))) : rCat (.ref a) (.ref b) H Q :=
  ⟨a, b, xs, ys, rfl, rfl, h1, h2, hz, q⟩
theorem w_inL {p : Addr} {xs : List V} {b : Bool} (h : SqL K H p xs) (hx : flatV x = true) (ha : xs.all flatV = true) (e : inV x xs = b) (q : Q (.bl b) H) : rIn K false x (.ref p) H Q := ⟨p, xs, rfl, .inl h, hx, ha, by rw [e]; exact q⟩
theorem w_niL {p : Addr} {xs : List V} {b : Bool} (h : SqL K H p xs) (hx : flatV x = true) (ha : xs.all flatV = true) (e : (!inV x xs) = b) (q : Q (.bl b) H) : rIn K true x (.ref p) H Q := ⟨p, xs, rfl, .inl h, hx, ha, by rw [if_pos rfl, e]; exact q⟩
def rLen (K : PySem.W.Frag) : List V → Hp → VK → Prop := fun xs H Q => ∃ p ys, xs = [.ref p] ∧ (SqL K H p ys ∨ SqT K H p ys) ∧ Q (.int ys.length) H
theorem cr_len {X : Cx} : CallR X (.builtin "len") (rLen X.K) := call_len_seq
theorem w_lenL {p : Addr} {xs : List V} (h : SqL K H p xs) (q : Q (.int xs.length) H) : rLen K [.ref p] H Q := ⟨p, xs, rfl, .inl h, q⟩
theorem w_lenT {p : Addr} {xs : List V} (h : SqT K H p xs) (q : Q (.int xs.length) H) : rLen K [.ref p] H Q := ⟨p, xs, rfl, .inr h, q⟩
def rInt1 : List V → Hp → VK → Prop := fun xs H Q => (∃ i, xs = [.int i] ∧ Q (.int i) H) ∨ ∃ k, xs = [.bl k] ∧ Q (.int (if k then 1 else 0)) H
theorem cr_int {X : Cx} : CallR X (.type "int") rInt1 := call_int1
theorem w_intB {b : Bool} (q : Q (.int (if b then 1 else 0)) H) : rInt1 [.bl b] H Q := .inr ⟨b, rfl, q⟩
theorem w_intI {i : Int} (q : Q (.int i) H) : rInt1 [.int i] H Q := .inl ⟨i, rfl, q⟩
def rMin2 : List V → Hp → VK → Prop := fun xs H Q => ∃ i j, xs = [.int i, .int j] ∧ Q (.int (if j < i then j else i)) H
theorem cr_min2 {X : Cx} (hc : X.calm = true) : CallR X (.builtin "min") rMin2 := call_min2 hc
theorem w_min2 {i j : Int} (q : Q (.int (if j < i then j else i)) H) : rMin2 [.int i, .int j] H Q := ⟨i, j, rfl, q⟩
def rList (K : PySem.W.Frag) : List V → Hp → VK → Prop := fun xs H Q => ∃ p ys, xs = [.ref p] ∧ (SqL K H p ys ∨ SqT K H p ys) ∧ ∀ l, H l = none → Q (.ref l) (upd H l (.lst ys))
theorem cr_list {X : Cx} : CallR X (.type "list") (rList X.K) := call_list_of
theorem w_listL {p : Addr} {xs : List V} (h : SqL K H p xs) (q : ∀ l, H l = none → Q (.ref l) (upd H l (.lst xs))) : rList K [.ref p] H Q := ⟨p, xs, rfl, .inl h, q⟩
/-- a new object's place: its size, then any free address -/
theorem w_new {n : Nat} {P : Addr → Prop} (hz : n ≤ sizeLine) (h : ∀ p, P p) : n ≤ sizeLine ∧ ∀ p, P p := ⟨hz, h⟩
theorem sz_le {n : Nat} (h : n ≤ 100000) : n ≤ sizeLine := Nat.le_trans h (by decide)
theorem sz_lt {n : Nat} (h : n < 100000) : n < sizeLine := Nat.lt_of_lt_of_le h (by decide)
theorem ite_dT {p : Prop} {inst : Decidable p} {A B : Prop} (hp : p) (h1 : A) : if decide p = true then A else B := by rw [if_pos (decide_eq_true hp)]; exact h1
theorem ite_dF {p : Prop} {inst : Decidable p} {A B : Prop} (hp : ¬ p) (h1 : B) : if decide p = true then A else B := by rw [if_neg (by simp [hp])]; exact h1
theorem ite_nT {p : Prop} {inst : Decidable p} {A B : Prop} (hp : ¬ p) (h1 : A) : if (!decide p) = true then A else B := by rw [if_pos (by simp [hp])]; exact h1
theorem ite_nF {p : Prop} {inst : Decidable p} {A B : Prop} (hp : p) (h1 : B) : if (!decide p) = true then A else B := by rw [if_neg (by simp [hp])]; exact h1
end
/-! deep data -/
theorem dp_ints {K : PySem.W.Frag} {H : Hp} : ∀ ns : List Int, DpAll K H (ns.map V.int) (ns.map PyData.int)
  | [] => .nil
  | n :: r => .cons (.int n) (dp_ints r)
theorem lay_ints : ∀ ns : List Int, PyData.canLayAll0 (ns.map PyData.int) = true
  | [] => rfl
  | n :: r => by simp [PyData.canLayAll0, PyData.canLay0, lay_ints r]
theorem depth_ints : ∀ ns : List Int, PyData.depthAll (ns.map PyData.int) ≤ 1
  | [] => by simp [PyData.depthAll]
  | n :: r => by
    have h := depth_ints r
    simp [PyData.depthAll, PyData.depth]
    omega
theorem shaped_ints (ns : List Int) : SeqAt.shaped (.list (ns.map PyData.int)) = true := by
  have h := depth_ints ns
  simp [SeqAt.shaped, PyData.canLay0, lay_ints, PyData.depth]
  omega
theorem eqv_ints : ∀ ns ms : List Int, PyData.eqvAll (ns.map PyData.int) (ms.map PyData.int) = decide (ns = ms)
  | [], [] => by simp [PyData.eqvAll]
  | [], _ :: _ => by simp [PyData.eqvAll]
  | _ :: _, [] => by simp [PyData.eqvAll]
  | n :: r, m :: t => by
    have h := eqv_ints r t
    simp only [List.map_cons, PyData.eqvAll, PyData.eqv, h, List.cons.injEq]
    by_cases e : n = m <;> simp [e]
section
variable {σ : L2.St} {H : Hp} {Q : VK} {K : PySem.W.Frag}
theorem w_eqDI {p q : Addr} {ns ms : List Int} (h1 : SqL K H p (ns.map V.int)) (h2 : SqL K H q (ms.map V.int)) (hq : Q (.bl (decide (ns = ms))) H) : rEqD K (.ref p) (.ref q) H Q :=
  ⟨.list (ns.map PyData.int), .list (ms.map PyData.int), .lst h1 (dp_ints ns), .lst h2 (dp_ints ms), shaped_ints ns, shaped_ints ms, by
    show Q (.bl (PyData.eqv (.list _) (.list _))) H
    simp only [PyData.eqv, eqv_ints]; exact hq⟩
theorem w_neDI {p q : Addr} {ns ms : List Int} (h1 : SqL K H p (ns.map V.int)) (h2 : SqL K H q (ms.map V.int)) (hq : Q (.bl (!decide (ns = ms))) H) : rNeD K (.ref p) (.ref q) H Q :=
  ⟨.list (ns.map PyData.int), .list (ms.map PyData.int), .lst h1 (dp_ints ns), .lst h2 (dp_ints ms), shaped_ints ns, shaped_ints ms, by
    show Q (.bl (!PyData.eqv (.list _) (.list _))) H
    simp only [PyData.eqv, eqv_ints]; exact hq⟩
end
theorem map_nil_of {H : Hp} {p : Addr} (h : H p = some (.lst [])) : H p = some (.lst (([] : List Int).map V.int)) := h
end Cw
namespace Cw
open PySem L2
theorem int_at {ns : List Int} {i : Nat} {x : V} (h : (ns.map V.int)[i]? = some x) : ∃ z, ns[i]? = some z ∧ x = V.int z := by
  rw [List.getElem?_map] at h
  cases e : ns[i]? with
  | none => rw [e] at h; cases h
  | some z => rw [e] at h; exact ⟨z, rfl, (Option.some.inj h).symm⟩
/-- the law's box: a list of the script's rest and the number that goes on -/
def Box (H : Hp) (b q : Addr) : Prop := ∃ (z : Int) (ms : List Int), H b = some (.lst [.ref q, .int z]) ∧ H q = some (.lst (ms.map V.int)) ∧ 0 ≤ z ∧ z < 2147483647 ∧ ms.length ≤ 63
theorem Box.ne {H : Hp} {b q : Addr} (h : Box H b q) : b ≠ q := by
  obtain ⟨z, ms, h1, h2, _⟩ := h
  intro e
  subst e
  rw [h1] at h2
  cases ms with
  | nil => simp at h2
  | cons m r => simp at h2
theorem Box.keep {W : List Addr} {H H' : Hp} {b q : Addr} (h : Box H b q) (f : Fr W H H') (nb : b ∉ W) (nq : q ∉ W) : Box H' b q := by
  obtain ⟨z, ms, h1, h2, r⟩ := h
  exact ⟨z, ms, f.get h1 nb, f.get h2 nq, r⟩
theorem Box.keep0 {H H' : Hp} {b q : Addr} (h : Box H b q) (f : Fr [] H H') : Box H' b q := h.keep f (by simp) (by simp)
theorem sq_new {K : PySem.W.Frag} {H : Hp} {p a : Addr} {o : HO} {xs : List V} (h : SqL K H a xs) (hp : H p = none) : SqL K (upd H p o) a xs := Fr.seqL (Fr.new hp) h
theorem st_new {K : PySem.W.Frag} {H : Hp} {p a : Addr} {o : HO} {xs : List V} (h : SqT K H a xs) (hp : H p = none) : SqT K (upd H p o) a xs := Fr.seqT (Fr.new hp) h
theorem cmul_l {i j : Int} (h1 : -18446744073709551616 < i) (h2 : i < 18446744073709551616) : CMul i j := .inl ⟨by omega, by omega⟩
theorem cmul_r {i j : Int} (h1 : -18446744073709551616 < j) (h2 : j < 18446744073709551616) : CMul i j := .inr ⟨by omega, by omega⟩
theorem cdiv_ {i j : Int} (h1 : 0 < j) (h2 : j < 1073741824) : CDiv i j := ⟨h1, h2⟩
theorem cpos_ {j : Int} (h1 : 0 < j) : 0 < j := h1
theorem w_pop0 {H : Hp} {Q : VK} {l : Addr} {y : V} {xs : List V} (h : H l = some (.lst (y :: xs))) (hz : xs.length < 1000000) (q : Q y (upd H l (.lst xs))) : rPopAt (.ref l) [.int 0] H Q := by
  refine ⟨l, y :: xs, 0, 0, y, rfl, rfl, h, by decide, by decide, ?_, rfl, q⟩
  unfold seqIndex?
  simp
theorem atI_0 {x : V} {xs : List V} : atI (x :: xs) 0 = some x := atI_nat (j := 0) rfl
theorem ixN_nat {n j : Nat} (h : j < n) : ixN n (j : Int) = some j := by
  unfold ixN
  rw [if_pos (by omega), if_pos (by omega)]
  simp
theorem ixN_0 {x : V} {xs : List V} : ixN (x :: xs).length 0 = some 0 := ixN_nat (j := 0) (Nat.succ_pos _)
theorem mod_in {z n : Int} (h : 0 < n) : 0 ≤ z % n ∧ z % n < n := ⟨Int.emod_nonneg _ (by omega), Int.emod_lt_of_pos _ h⟩
theorem ixN_1 {x y : V} {xs : List V} : ixN (x :: y :: xs).length 1 = some 1 := ixN_nat (j := 1) (Nat.succ_lt_succ (Nat.succ_pos _))
theorem ints_at {ns : List Int} {r : Int} (h0 : 0 ≤ r) (h1 : r < ns.length) : ∃ v, atI (ns.map V.int) r = some (.int v) ∧ v ∈ ns := by
  obtain ⟨j, rfl⟩ : ∃ j : Nat, r = (j : Int) := ⟨r.toNat, by omega⟩
  have hj : j < ns.length := by omega
  exact ⟨ns[j], atI_nat (by rw [List.getElem?_map, List.getElem?_eq_getElem hj]; rfl), List.getElem_mem hj⟩
theorem atI_neg1 {xs : List V} {v : V} (h : xs.getLast? = some v) : atI xs (-1) = some v := by
  obtain ⟨ys, rfl⟩ := List.getLast?_eq_some_iff.mp h
  exact atI_last ys v
theorem ints_last {ns : List Int} (h : ns ≠ []) : ∃ v, atI (ns.map V.int) (-1) = some (.int v) ∧ v ∈ ns := by
  refine ⟨ns.getLast h, atI_neg1 ?_, List.getLast_mem h⟩
  rw [List.getLast?_map, List.getLast?_eq_some_getLast h]
  rfl
theorem Fr.ne_mem {W : List Addr} {H H' : Hp} {p b : Addr} {o : HO} (_ : Fr W H H') (h : H b = some o) (hp : H p = none) : p ≠ b := fun e => by
  subst e
  rw [h] at hp
  cases hp
theorem Box.free {H : Hp} {b q p : Addr} (h : Box H b q) (hp : H p = none) : p ∉ [b, q] := by
  obtain ⟨z, ms, h1, h2, _⟩ := h
  simp only [List.mem_cons, List.not_mem_nil, or_false, not_or]
  exact ⟨fun e => ne_of_none h1 hp e.symm, fun e => ne_of_none h2 hp e.symm⟩
theorem w_eqD0 {K : PySem.W.Frag} {H : Hp} {Q : VK} {p q : Addr} {ns : List Int} (h1 : SqL K H p (ns.map V.int)) (h2 : SqL K H q []) (hq : Q (.bl (decide (ns = []))) H) : rEqD K (.ref p) (.ref q) H Q := w_eqDI (ms := []) h1 h2 hq
theorem w_neD0 {K : PySem.W.Frag} {H : Hp} {Q : VK} {p q : Addr} {ns : List Int} (h1 : SqL K H p (ns.map V.int)) (h2 : SqL K H q []) (hq : Q (.bl (!decide (ns = []))) H) : rNeD K (.ref p) (.ref q) H Q := w_neDI (ms := []) h1 h2 hq
theorem dpall_len {K : PySem.W.Frag} {H : Hp} : ∀ {xs : List V} {ds : List PyData}, DpAll K H xs ds → xs.length = ds.length
  | _, _, .nil => rfl
  | _, _, .cons _ t => congrArg (· + 1) (dpall_len t)
theorem dpall_get {K : PySem.W.Frag} {H : Hp} : ∀ {xs : List V} {ds : List PyData} {i : Nat} {d : PyData}, DpAll K H xs ds → ds[i]? = some d → ∃ x, xs[i]? = some x ∧ Dp K H x d
  | _, _, 0, _, .cons a _, h => by
    simp at h
    subst h
    exact ⟨_, rfl, a⟩
  | _, _, i + 1, _, .cons _ t, h => by
    obtain ⟨x, h1, h2⟩ := dpall_get (i := i) t (by simpa using h)
    exact ⟨x, by simpa using h1, h2⟩
  | _, _, _, _, .nil, h => by simp at h
theorem ty_L {K : PySem.W.Frag} {H : Hp} {a : Addr} {xs : List V} (h : SqL K H a xs) : TyX K H (.ref a) (.type "list") := by
  rcases h with (h | ⟨o, h⟩) | ⟨o, its, n, h, c, _⟩
  · exact .base (.lst h)
  · exact .base (.frz h)
  · exact .kList h c
theorem ty_T {K : PySem.W.Frag} {H : Hp} {a : Addr} {xs : List V} (h : SqT K H a xs) : TyX K H (.ref a) (.type "tuple") := by
  rcases h with (h | ⟨o, h⟩) | ⟨o, its, n, h, c, _⟩
  · exact .base (.tup h)
  · exact .fTuple h
  · exact .kTuple h c
theorem w_isi {K : PySem.W.Frag} {H : Hp} {Q : VK} {x : V} {t c : String} {b : Bool} (ht : TyX K H x (.type t)) (h : kitB t c = some b) (q : Q (.bl b) H) : rIsi K [x, .ty c] H Q := ⟨x, .ty c, .type t, .type c, b, rfl, .ty c, ht, kit_ty h, q⟩
theorem w_ixQL {K : PySem.W.Frag} {H : Hp} {Q : VK} {v : V} {p : Addr} {xs : List V} {i : Int} (h : SqL K H p xs) (ha : atI xs i = some v) (q : Q v H) : rIx K (.ref p) (.int i) H Q := .inl (w_ixL h ha q)
theorem w_ixQT {K : PySem.W.Frag} {H : Hp} {Q : VK} {v : V} {p : Addr} {xs : List V} {i : Int} (h : SqT K H p xs) (ha : atI xs i = some v) (q : Q v H) : rIx K (.ref p) (.int i) H Q := .inr (.inl (w_ixT h ha q))
/-- data of at most so deep lists and tuples -/
def fits : Nat → PyData → Prop
  | 0, d => match d with
    | .list _ | .tuple _ | .dict _ => False
    | _ => True
  | k + 1, d => match d with
    | .list ds | .tuple ds => ds.length ≤ 100000 ∧ ∀ x ∈ ds, fits k x
    | .dict _ => False
    | _ => True
theorem Fr.dp {K : PySem.W.Frag} {H H' : Hp} (f : Fr [] H H') : ∀ (d : PyData) (v : V), Dp K H v d → Dp K H' v d := fun d v h =>
  Dp.rec (motive_1 := fun v d _ => Dp K H' v d) (motive_2 := fun vs ds _ => DpAll K H' vs ds) .non .bl .int .str (fun h _ ih => .lst (f.seqL h) ih) (fun h _ ih => .tup (f.seqT h) ih) .nil (fun _ _ a b => .cons a b) h
theorem kb_NoneType_bool : kitB "NoneType" "bool" = some false := by decide +kernel
theorem kb_NoneType_int : kitB "NoneType" "int" = some false := by decide +kernel
theorem kb_NoneType_str : kitB "NoneType" "str" = some false := by decide +kernel
theorem kb_NoneType_tuple : kitB "NoneType" "tuple" = some false := by decide +kernel
theorem kb_NoneType_list : kitB "NoneType" "list" = some false := by decide +kernel
theorem kb_bool_bool : kitB "bool" "bool" = some true := by decide +kernel
theorem kb_bool_int : kitB "bool" "int" = some true := by decide +kernel
theorem kb_bool_str : kitB "bool" "str" = some false := by decide +kernel
theorem kb_bool_tuple : kitB "bool" "tuple" = some false := by decide +kernel
theorem kb_bool_list : kitB "bool" "list" = some false := by decide +kernel
theorem kb_int_bool : kitB "int" "bool" = some false := by decide +kernel
theorem kb_int_int : kitB "int" "int" = some true := by decide +kernel
theorem kb_int_str : kitB "int" "str" = some false := by decide +kernel
theorem kb_int_tuple : kitB "int" "tuple" = some false := by decide +kernel
theorem kb_int_list : kitB "int" "list" = some false := by decide +kernel
theorem kb_str_bool : kitB "str" "bool" = some false := by decide +kernel
theorem kb_str_int : kitB "str" "int" = some false := by decide +kernel
theorem kb_str_str : kitB "str" "str" = some true := by decide +kernel
theorem kb_str_tuple : kitB "str" "tuple" = some false := by decide +kernel
theorem kb_str_list : kitB "str" "list" = some false := by decide +kernel
theorem kb_list_bool : kitB "list" "bool" = some false := by decide +kernel
theorem kb_list_int : kitB "list" "int" = some false := by decide +kernel
theorem kb_list_str : kitB "list" "str" = some false := by decide +kernel
theorem kb_list_tuple : kitB "list" "tuple" = some false := by decide +kernel
theorem kb_list_list : kitB "list" "list" = some true := by decide +kernel
theorem kb_tuple_bool : kitB "tuple" "bool" = some false := by decide +kernel
theorem kb_tuple_int : kitB "tuple" "int" = some false := by decide +kernel
theorem kb_tuple_str : kitB "tuple" "str" = some false := by decide +kernel
theorem kb_tuple_tuple : kitB "tuple" "tuple" = some true := by decide +kernel
theorem kb_tuple_list : kitB "tuple" "list" = some false := by decide +kernel
theorem ite_nf {A B : Prop} (h : A) : if (!false) = true then A else B := h
theorem ite_nt {A B : Prop} (h : B) : if (!true) = true then A else B := h
/-! more loops; comprehensions -/
section
variable {σ : L2.St} {H : Hp} {Q : VK} {K : PySem.W.Frag} {nx : L2.St → Hp → Prop} {rt : VK}
theorem w_gTup {a : Addr} {xs : List V} {n : Nat} {t : TGs} {N : L2.St → Hp → Prop} (h : SqT K H a xs) (hl : xs.length = n) (q : t xs σ H N) : gTup K n t (.ref a) σ H N := ⟨a, xs, rfl, h, hl, q⟩
theorem w_gCons {t : TG} {u : TGs} {v : V} {r : List V} {N : L2.St → Hp → Prop} (q : t v σ H fun σ' H' => u r σ' H' N) : gCons t u (v :: r) σ H N := ⟨v, r, rfl, q⟩
theorem w_gNil {N : L2.St → Hp → Prop} (q : N σ H) : gNil [] σ H N := ⟨rfl, q⟩
theorem w_yes {QB : Bool → Hp → Prop} (q : QB true H) : tYes σ H QB := q
theorem w_wipe {s s' : L2.St} {vs : List Nat} {B : Prop} (e : wipe s vs = wipe s' vs) (q : B) : wipe s vs = wipe s' vs ∧ B := ⟨e, q⟩
theorem w_iEnum {tt : TA} {R : It → Hp → Prop} (h : tt σ H fun vs H1 => ∃ a xs, vs = [.ref a] ∧ SqL K H1 a xs ∧ R (Ite K a) H1) : iEnum K tt σ H R := h
theorem f_enum {g : TG} {tb : TS} {a : Addr} (xs : List V) (hq : SqL K H a xs) (Pv : Nat → L2.St → Hp → Prop) (h0 : Pv 0 σ H) (hl : ∀ i σ H, i ≤ xs.length → Pv i σ H → SqL K H a xs)
    (hs : ∀ (i : Nat) x T σ H, xs[i]? = some x → Pv i σ H → H T = none → g (.ref T) σ (upd H T (.tup [.int (i : Int), x])) fun σ2 H2 => tb ⟨Pv (i + 1), rt, nx, Pv (i + 1)⟩ σ2 H2) (hd : ∀ σ H, Pv xs.length σ H → nx σ H) :
    ∃ b ys, [V.ref a] = [.ref b] ∧ SqL K H b ys ∧ ∃ W : Nat → Nat → L2.St → Hp → Prop, (∃ m, W 0 m σ H) ∧ ∀ i m σ H, W i m σ H →
      ((Ite K b).stop i H ∧ nx σ H) ∨ ((Ite K b).go i H ∧ ∃ N : L2.St → Hp → Prop, (∀ σ' H', N σ' H' → ∃ m', m' < m ∧ W (i + 1) m' σ' H') ∧ ∀ x H', (Ite K b).yld i H x H' → g x σ H' fun σ2 H2 => tb ⟨N, rt, nx, N⟩ σ2 H2) := by
  refine ⟨a, xs, rfl, hq, fun i m σ H => m = xs.length - i ∧ i ≤ xs.length ∧ Pv i σ H, ⟨xs.length, by simp, Nat.zero_le _, h0⟩, ?_⟩
  rintro i m σ H ⟨rfl, hi, p⟩
  have q := hl i σ H hi p
  by_cases hlt : i < xs.length
  · refine .inr ⟨⟨xs, xs[i], q, by simp [hlt]⟩, Pv (i + 1), fun σ' H' p' => ⟨xs.length - (i + 1), by omega, rfl, hlt, p'⟩, fun x H' y => ?_⟩
    obtain ⟨T, z, rfl, hT, rfl, hx⟩ := y
    exact hs i z T σ H (hx xs q) p hT
  · have e : i = xs.length := by omega
    subst e
    exact .inl ⟨⟨xs, q, Nat.le_refl _⟩, hd σ H p⟩
/-- a comprehension's list so far, at D -/
def LcI (Pv : Addr → Nat → List V → Hp → Prop) (D : Addr) (i : Nat) (H : Hp) : Prop := ∃ acc, Pv D i acc H ∧ H D = some (.lst acc) ∧ acc.length ≤ i
theorem lc_end {Pv : Addr → Nat → List V → Hp → Prop} {D : Addr} {i : Nat} {acc : List V} {y : V} (h : H D = some (.lst acc)) (hl : acc.length ≤ i) (hi : i < 99999) (p : Pv D (i + 1) (acc ++ [y]) (upd H D (.lst (acc ++ [y])))) :
    ∃ acc, H D = some (.lst acc) ∧ acc.length < sizeLine ∧ LcI Pv D (i + 1) (upd H D (.lst (acc ++ [y]))) := ⟨acc, h, sz_lt (by omega), acc ++ [y], p, upd_same, by simp; omega⟩
theorem l_list {g : TG} {tt : TT} {te : TE} {vs : List Nat} {Qd : Addr → Hp → Prop} {a : Addr} (xs : List V) (hq : SqL K H a xs) (Pv : Addr → Nat → List V → Hp → Prop) (h0 : ∀ D, H D = none → Pv D 0 [] (upd H D (.lst [])))
    (hl : ∀ D i acc H', H D = none → Pv D i acc H' → H' D = some (.lst acc) → SqL K H' a xs)
    (hs : ∀ D (i : Nat) x acc H', H D = none → xs[i]? = some x → Pv D i acc H' → H' D = some (.lst acc) → acc.length ≤ i → g x (wipe σ vs) H' fun σ2 H2 => wipe σ2 vs = wipe σ vs ∧ tt σ2 H2 fun b H3 =>
      if b = true then te σ2 H3 fun y H4 => ∃ acc, H4 D = some (.lst acc) ∧ acc.length < sizeLine ∧ LcI Pv D (i + 1) (upd H4 D (.lst (acc ++ [y]))) else LcI Pv D (i + 1) H3)
    (hd : ∀ D acc H', H D = none → Pv D xs.length acc H' → H' D = some (.lst acc) → acc.length ≤ xs.length → Qd D H') :
    ∃ b, V.ref a = V.ref b ∧ (∃ xs, SqL K H b xs) ∧ ∀ D, H D = none → ∃ W : Nat → Nat → Hp → Prop, (∃ m, W 0 m (upd H D (.lst []))) ∧ ∀ i m H, W i m H →
      ((Itl K b).stop i H ∧ Qd D H) ∨ ((Itl K b).go i H ∧ ∃ Nx : Hp → Prop, (∀ H', Nx H' → ∃ m', m' < m ∧ W (i + 1) m' H') ∧ ∀ x H', (Itl K b).yld i H x H' → g x (wipe σ vs) H' fun σ2 H2 => wipe σ2 vs = wipe σ vs ∧ tt σ2 H2 fun b H3 =>
        if b = true then te σ2 H3 fun y H4 => ∃ acc, H4 D = some (.lst acc) ∧ acc.length < sizeLine ∧ Nx (upd H4 D (.lst (acc ++ [y]))) else Nx H3) := by
  refine ⟨a, rfl, ⟨xs, hq⟩, fun D hD => lc_list (K := K) (a := a) (xs := xs) (LcI Pv D) ⟨[], h0 D hD, upd_same, Nat.le_refl _⟩ (fun i H' _ ⟨acc, p, e, _⟩ => hl D i acc H' hD p e) (fun i x H' hx ⟨acc, p, e, l⟩ => hs D i x acc H' hD hx p e l) (fun H' ⟨acc, p, e, l⟩ => hd D acc H' hD p e l)⟩
theorem l_rng1 {g : TG} {tt : TT} {te : TE} {vs : List Nat} {Qd : Addr → Hp → Prop} {j : Int} (hj : j < 2 ^ 62) (h0' : 0 ≤ j) (Pv : Addr → Nat → List V → Hp → Prop) (h0 : ∀ D, H D = none → Pv D 0 [] (upd H D (.lst [])))
    (hs : ∀ D (i : Nat) acc H', H D = none → (i : Int) < j → Pv D i acc H' → H' D = some (.lst acc) → acc.length ≤ i → g (.int (i : Int)) (wipe σ vs) H' fun σ2 H2 => wipe σ2 vs = wipe σ vs ∧ tt σ2 H2 fun b H3 =>
      if b = true then te σ2 H3 fun y H4 => ∃ acc, H4 D = some (.lst acc) ∧ acc.length < sizeLine ∧ LcI Pv D (i + 1) (upd H4 D (.lst (acc ++ [y]))) else LcI Pv D (i + 1) H3)
    (hd : ∀ D acc H', H D = none → Pv D j.toNat acc H' → H' D = some (.lst acc) → acc.length ≤ j.toNat → Qd D H') :
    ∃ k : Int, [V.int j] = [V.int k] ∧ -(2 ^ 62) ≤ k ∧ k < 2 ^ 62 ∧ ∀ D, H D = none → ∃ W : Nat → Nat → Hp → Prop, (∃ m, W 0 m (upd H D (.lst []))) ∧ ∀ i m H, W i m H →
      ((Itr 0 k.toNat).stop i H ∧ Qd D H) ∨ ((Itr 0 k.toNat).go i H ∧ ∃ Nx : Hp → Prop, (∀ H', Nx H' → ∃ m', m' < m ∧ W (i + 1) m' H') ∧ ∀ x H', (Itr 0 k.toNat).yld i H x H' → g x (wipe σ vs) H' fun σ2 H2 => wipe σ2 vs = wipe σ vs ∧ tt σ2 H2 fun b H3 =>
        if b = true then te σ2 H3 fun y H4 => ∃ acc, H4 D = some (.lst acc) ∧ acc.length < sizeLine ∧ Nx (upd H4 D (.lst (acc ++ [y]))) else Nx H3) := by
  refine ⟨j, rfl, by omega, hj, fun D hD => lc_range (lo := 0) (n := j.toNat) (LcI Pv D) ⟨[], h0 D hD, upd_same, Nat.le_refl _⟩ (fun i H' hi ⟨acc, p, e, l⟩ => ?_) (fun H' ⟨acc, p, e, l⟩ => hd D acc H' hD p e l)⟩
  have e0 : (0 : Int) + (i : Int) = (i : Int) := Int.zero_add _
  rw [e0]
  exact hs D i acc H' hD (by omega) p e l
theorem l_rng2 {g : TG} {tt : TT} {te : TE} {vs : List Nat} {Qd : Addr → Hp → Prop} {lo hi : Int} (h1 : -(2 ^ 62) ≤ lo) (h2 : lo < 2 ^ 62) (h3 : -(2 ^ 62) ≤ hi) (h4 : hi < 2 ^ 62) (Pv : Addr → Nat → List V → Hp → Prop) (h0 : ∀ D, H D = none → Pv D 0 [] (upd H D (.lst [])))
    (hs : ∀ D (i : Nat) acc H', H D = none → lo + (i : Int) < hi → Pv D i acc H' → H' D = some (.lst acc) → acc.length ≤ i → g (.int (lo + (i : Int))) (wipe σ vs) H' fun σ2 H2 => wipe σ2 vs = wipe σ vs ∧ tt σ2 H2 fun b H3 =>
      if b = true then te σ2 H3 fun y H4 => ∃ acc, H4 D = some (.lst acc) ∧ acc.length < sizeLine ∧ LcI Pv D (i + 1) (upd H4 D (.lst (acc ++ [y]))) else LcI Pv D (i + 1) H3)
    (hd : ∀ D acc H', H D = none → Pv D (hi - lo).toNat acc H' → H' D = some (.lst acc) → acc.length ≤ (hi - lo).toNat → Qd D H') :
    ∃ i j : Int, [V.int lo, V.int hi] = [.int i, .int j] ∧ (-(2 ^ 62) ≤ i ∧ i < 2 ^ 62 ∧ -(2 ^ 62) ≤ j ∧ j < 2 ^ 62) ∧ ∀ D, H D = none → ∃ W : Nat → Nat → Hp → Prop, (∃ m, W 0 m (upd H D (.lst []))) ∧ ∀ k m H, W k m H →
      ((Itr i (j - i).toNat).stop k H ∧ Qd D H) ∨ ((Itr i (j - i).toNat).go k H ∧ ∃ Nx : Hp → Prop, (∀ H', Nx H' → ∃ m', m' < m ∧ W (k + 1) m' H') ∧ ∀ x H', (Itr i (j - i).toNat).yld k H x H' → g x (wipe σ vs) H' fun σ2 H2 => wipe σ2 vs = wipe σ vs ∧ tt σ2 H2 fun b H3 =>
        if b = true then te σ2 H3 fun y H4 => ∃ acc, H4 D = some (.lst acc) ∧ acc.length < sizeLine ∧ Nx (upd H4 D (.lst (acc ++ [y]))) else Nx H3) := by
  refine ⟨lo, hi, rfl, ⟨h1, h2, h3, h4⟩, fun D hD => lc_range (lo := lo) (n := (hi - lo).toNat) (LcI Pv D) ⟨[], h0 D hD, upd_same, Nat.le_refl _⟩ (fun i H' hi' ⟨acc, p, e, l⟩ => ?_) (fun H' ⟨acc, p, e, l⟩ => hd D acc H' hD p e l)⟩
  exact hs D i acc H' hD (by omega) p e l
theorem l_enum {g : TG} {tt : TT} {te : TE} {vs : List Nat} {Qd : Addr → Hp → Prop} {a : Addr} (xs : List V) (hq : SqL K H a xs) (Pv : Addr → Nat → List V → Hp → Prop) (h0 : ∀ D, H D = none → Pv D 0 [] (upd H D (.lst [])))
    (hl : ∀ D i acc H', H D = none → Pv D i acc H' → H' D = some (.lst acc) → SqL K H' a xs)
    (hs : ∀ D (i : Nat) x T acc H', H D = none → xs[i]? = some x → Pv D i acc H' → H' D = some (.lst acc) → acc.length ≤ i → H' T = none → g (.ref T) (wipe σ vs) (upd H' T (.tup [.int (i : Int), x])) fun σ2 H2 => wipe σ2 vs = wipe σ vs ∧ tt σ2 H2 fun b H3 =>
      if b = true then te σ2 H3 fun y H4 => ∃ acc, H4 D = some (.lst acc) ∧ acc.length < sizeLine ∧ LcI Pv D (i + 1) (upd H4 D (.lst (acc ++ [y]))) else LcI Pv D (i + 1) H3)
    (hd : ∀ D acc H', H D = none → Pv D xs.length acc H' → H' D = some (.lst acc) → acc.length ≤ xs.length → Qd D H') :
    ∃ b ys, [V.ref a] = [V.ref b] ∧ SqL K H b ys ∧ ∀ D, H D = none → ∃ W : Nat → Nat → Hp → Prop, (∃ m, W 0 m (upd H D (.lst []))) ∧ ∀ i m H, W i m H →
      ((Ite K b).stop i H ∧ Qd D H) ∨ ((Ite K b).go i H ∧ ∃ Nx : Hp → Prop, (∀ H', Nx H' → ∃ m', m' < m ∧ W (i + 1) m' H') ∧ ∀ x H', (Ite K b).yld i H x H' → g x (wipe σ vs) H' fun σ2 H2 => wipe σ2 vs = wipe σ vs ∧ tt σ2 H2 fun b H3 =>
        if b = true then te σ2 H3 fun y H4 => ∃ acc, H4 D = some (.lst acc) ∧ acc.length < sizeLine ∧ Nx (upd H4 D (.lst (acc ++ [y]))) else Nx H3) := by
  refine ⟨a, xs, rfl, hq, fun D hD => ⟨fun i m H' => m = xs.length - i ∧ i ≤ xs.length ∧ LcI Pv D i H', ⟨xs.length, by simp, Nat.zero_le _, [], h0 D hD, upd_same, Nat.le_refl _⟩, ?_⟩⟩
  rintro i m H' ⟨rfl, hi, acc, p, e, l⟩
  have q := hl D i acc H' hD p e
  by_cases hlt : i < xs.length
  · refine .inr ⟨⟨xs, xs[i], q, by simp [hlt]⟩, LcI Pv D (i + 1), fun H2 p' => ⟨xs.length - (i + 1), by omega, rfl, hlt, p'⟩, fun x H2 y => ?_⟩
    obtain ⟨T, z, rfl, hT, rfl, hx⟩ := y
    exact hs D i z T acc H' hD (hx xs q) p e l hT
  · have e' : i = xs.length := by omega
    subst e'
    exact .inl ⟨⟨xs, q, Nat.le_refl _⟩, hd D acc H' hD p e l⟩
theorem w_lc {wi : TI} {g : TG} {tt : TT} {te : TE} {vs : List Nat} (h : wi σ H fun J H1 => ∀ D, H1 D = none → ∃ W : Nat → Nat → Hp → Prop, (∃ m, W 0 m (upd H1 D (.lst []))) ∧ ∀ i m H, W i m H →
  (J.stop i H ∧ Q (.ref D) H) ∨ (J.go i H ∧ ∃ Nx : Hp → Prop, (∀ H', Nx H' → ∃ m', m' < m ∧ W (i + 1) m' H') ∧ ∀ x H', J.yld i H x H' → g x (wipe σ vs) H' fun σ2 H2 => wipe σ2 vs = wipe σ vs ∧ tt σ2 H2 fun b H3 =>
    if b = true then te σ2 H3 fun y H4 => ∃ acc, H4 D = some (.lst acc) ∧ acc.length < sizeLine ∧ Nx (upd H4 D (.lst (acc ++ [y]))) else Nx H3)) : tLc wi g tt te vs σ H Q := h
end
theorem take_snoc {α : Type} {xs : List α} {i : Nat} {x : α} (h : xs[i]? = some x) : xs.take (i + 1) = xs.take i ++ [x] := by
  obtain ⟨hi, rfl⟩ := List.getElem?_eq_some_iff.mp h
  rw [List.take_succ, List.getElem?_eq_getElem hi]
  rfl
theorem dpall_snoc {K : PySem.W.Frag} {H : Hp} {v : V} {d : PyData} (h : Dp K H v d) : ∀ {xs : List V} {ds : List PyData}, DpAll K H xs ds → DpAll K H (xs ++ [v]) (ds ++ [d])
  | _, _, .nil => .cons h .nil
  | _, _, .cons a t => .cons a (dpall_snoc h t)
theorem Fr.dpa {K : PySem.W.Frag} {H H' : Hp} (f : Fr [] H H') : ∀ {vs : List V} {ds : List PyData}, DpAll K H vs ds → DpAll K H' vs ds
  | _, _, .nil => .nil
  | _, _, .cons a t => .cons (f.dp _ _ a) (Fr.dpa f t)
theorem f_while {c : TT} {tb : TS} {σ : L2.St} {H : Hp} {nx : L2.St → Hp → Prop} {rt : VK} {bk ct : L2.St → Hp → Prop} (W : Nat → L2.St → Hp → Prop) (m : Nat) (h0 : W m σ H)
    (hs : ∀ m σ H, W m σ H → c σ H fun b H1 => if b = true then ∃ N : L2.St → Hp → Prop, (∀ σ' H', N σ' H' → ∃ m', m' < m ∧ W m' σ' H') ∧ tb ⟨N, rt, nx, N⟩ σ H1 else nx σ H1) : tWhile c tb ⟨nx, rt, bk, ct⟩ σ H := ⟨W, ⟨m, h0⟩, hs⟩
theorem w_turn {tb : TS} {σ : L2.St} {H : Hp} {nx : L2.St → Hp → Prop} {rt : VK} {m : Nat} {W : Nat → L2.St → Hp → Prop} (h : tb ⟨fun σ' H' => ∃ m', m' < m ∧ W m' σ' H', rt, nx, fun σ' H' => ∃ m', m' < m ∧ W m' σ' H'⟩ σ H) :
    ∃ N : L2.St → Hp → Prop, (∀ σ' H', N σ' H' → ∃ m', m' < m ∧ W m' σ' H') ∧ tb ⟨N, rt, nx, N⟩ σ H := ⟨_, fun _ _ h => h, h⟩
/-! data made new beside H: it stays whatever of H's objects is changed -/
def Nw (K : PySem.W.Frag) (H H' : Hp) (v : V) (d : PyData) : Prop := ∀ W H'', (∀ w ∈ W, H w ≠ none) → Fr W H' H'' → Dp K H'' v d
def NwA (K : PySem.W.Frag) (H H' : Hp) (xs : List V) (ds : List PyData) : Prop := ∀ W H'', (∀ w ∈ W, H w ≠ none) → Fr W H' H'' → DpAll K H'' xs ds
section
variable {K : PySem.W.Frag} {H H' H2 H0 : Hp} {v : V} {d : PyData} {xs : List V} {ds : List PyData} {W : List Addr} {t : Addr}
theorem Nw.now (h : Nw K H H' v d) : Dp K H' v d := h [] H' (by simp) .refl
theorem NwA.now (h : NwA K H H' xs ds) : DpAll K H' xs ds := h [] H' (by simp) .refl
theorem Nw.tup (ht : H t = none) (h : H' t = some (.tup xs)) (ha : NwA K H H' xs ds) : Nw K H H' (.ref t) (.tuple ds) := fun W H'' hw f => .tup (SqT.of (f.get h fun m => hw t m ht)) (ha W H'' hw f)
theorem Nw.lst (ht : H t = none) (h : H' t = some (.lst xs)) (ha : NwA K H H' xs ds) : Nw K H H' (.ref t) (.list ds) := fun W H'' hw f => .lst (SqL.of (f.get h fun m => hw t m ht)) (ha W H'' hw f)
theorem NwA.nil : NwA K H H' [] [] := fun _ _ _ _ => .nil
theorem NwA.cons (h : Nw K H H' v d) (ha : NwA K H H' xs ds) : NwA K H H' (v :: xs) (d :: ds) := fun W H'' hw f => .cons (h W H'' hw f) (ha W H'' hw f)
theorem NwA.snoc (ha : NwA K H H' xs ds) (h : Nw K H H' v d) : NwA K H H' (xs ++ [v]) (ds ++ [d]) := fun W H'' hw f => dpall_snoc (h W H'' hw f) (ha W H'' hw f)
theorem Nw.step (h : Nw K H H' v d) (hw : ∀ w ∈ W, H w ≠ none) (f : Fr W H' H2) : Nw K H H2 v d := fun W2 H'' hw2 f2 =>
  h (W ++ W2) H'' (fun w m => (List.mem_append.mp m).elim (hw w) (hw2 w)) ((f.mono fun w m => List.mem_append_left _ m).trans (f2.mono fun w m => List.mem_append_right _ m))
theorem NwA.step (h : NwA K H H' xs ds) (hw : ∀ w ∈ W, H w ≠ none) (f : Fr W H' H2) : NwA K H H2 xs ds := fun W2 H'' hw2 f2 =>
  h (W ++ W2) H'' (fun w m => (List.mem_append.mp m).elim (hw w) (hw2 w)) ((f.mono fun w m => List.mem_append_left _ m).trans (f2.mono fun w m => List.mem_append_right _ m))
theorem Nw.base (h : Nw K H H' v d) (f : Fr W H0 H) : Nw K H0 H' v d := fun W2 H'' hw f2 => h W2 H'' (fun w m e => hw w m (f.2 w e)) f2
theorem NwA.base (h : NwA K H H' xs ds) (f : Fr W H0 H) : NwA K H0 H' xs ds := fun W2 H'' hw f2 => h W2 H'' (fun w m e => hw w m (f.2 w e)) f2
theorem Nw.int (i : Int) : Nw K H H' (.int i) (.int i) := fun _ _ _ _ => .int i
theorem Nw.bl (b : Bool) : Nw K H H' (.bl b) (.bool b) := fun _ _ _ _ => .bl b
theorem Nw.non : Nw K H H' .non .none := fun _ _ _ _ => .non
theorem NwA.ints (ns : List Int) : NwA K H H' (ns.map V.int) (ns.map PyData.int) := fun _ _ _ _ => dp_ints ns
end
theorem ne_of_some {H : Hp} {p : Addr} {o : HO} (h : H p = some o) : H p ≠ none := fun e => by rw [e] at h; cases h
/-! rules with the written part told by name (in a comprehension's block the context is a bound one) -/
section
variable {X : Cx} (K : PySem.W.Frag) (h : X.K = K)
include h
theorem kIxL : IxR X (rIxL K) := h ▸ ix_list
theorem kIxT : IxR X (rIxT K) := h ▸ ix_tup
theorem kIxQ : IxR X (rIx K) := h ▸ ix_seq
theorem kIn : OpR X (compareOp .In) (rIn K false) := h ▸ op_in_seq
theorem kNi : OpR X (compareOp .NotIn) (rIn K true) := h ▸ op_notIn_seq
theorem kEqD (hu : X.A.units + 64 < cLine) : OpR X (compareOp .Eq) (rEqD K) := h ▸ op_eqD hu
theorem kNeD (hu : X.A.units + 64 < cLine) : OpR X (compareOp .NotEq) (rNeD K) := h ▸ op_neD hu
theorem kLen : CallR X (.builtin "len") (rLen K) := h ▸ cr_len
theorem kList : CallR X (.type "list") (rList K) := h ▸ cr_list
theorem kSlL : SlR X (rSlL K) := h ▸ sl_list
theorem kSlT : SlR X (rSlT K) := h ▸ sl_tup
theorem kIsi : CallR X (.builtin "isinstance") (rIsi K) := h ▸ call_isi
theorem kIndex : MtR X "list.index" (rIndex K) := h ▸ mt_index
end
theorem kBM {X : Cx} {K : PySem.W.Frag} {e : Expr} {T : String} {r : V → List V → Hp → VK → Prop} {to : TE} {t : TA} (h : X.K = K) (p : PE X e (tBM X.K T r to t)) : PE X e (tBM K T r to t) := h ▸ p
theorem kBM0 {X : Cx} {K : PySem.W.Frag} {e : Expr} {T : String} {r : V → List V → Hp → VK → Prop} {to : TE} (h : X.K = K) (p : PE X e (tBM0 X.K T r to)) : PE X e (tBM0 K T r to) := h ▸ p
theorem kFld {X : Cx} {K : PySem.W.Frag} {e : Expr} {f : Str} {ta : TE} (h : X.K = K) (p : PE X e (tFld X.K ta f)) : PE X e (tFld K ta f) := h ▸ p
theorem kTup {X : Cx} {K : PySem.W.Frag} {e : Expr} {n : Nat} {t : TGs} (h : X.K = K) (p : PG X e (gTup X.K n t)) : PG X e (gTup K n t) := h ▸ p
theorem kIL {X : Cx} {K : PySem.W.Frag} {e l : Expr} {t : TE} (h : X.K = K) (p : PI X e l (iList X.K t)) : PI X e l (iList K t) := h ▸ p
theorem kIT {X : Cx} {K : PySem.W.Frag} {e l : Expr} {t : TE} (h : X.K = K) (p : PI X e l (iTup X.K t)) : PI X e l (iTup K t) := h ▸ p
theorem kIE {X : Cx} {K : PySem.W.Frag} {e l : Expr} {t : TA} (h : X.K = K) (p : PI X e l (iEnum X.K t)) : PI X e l (iEnum K t) := h ▸ p
end Cw

namespace Cw
open PySem L2
/-! the hand's dial, in plain words -/
def oV : Option Int → V
  | none => .non
  | some i => .int i
structure Dl where
  here : List (Option Int)
  seen : List Bool
  hand : Nat
  lacks : Nat
def Dl.new (n : Nat) : Dl := ⟨List.replicate n none, List.replicate n false, 0, 0⟩
def spin (n : Nat) : Nat → List Bool → Nat → List Bool × Nat × List Nat
  | 0, s, h => (s, h, [])
  | k + 1, s, h => if s[h]? = some true then ((spin n k (s.set h false) ((h + 1) % n)).1, (spin n k (s.set h false) ((h + 1) % n)).2.1, h :: (spin n k (s.set h false) ((h + 1) % n)).2.2) else (s, h, [])
def Dl.spin (d : Dl) : List Bool × Nat × List Nat := Cw.spin d.here.length (d.seen.count true) d.seen d.hand
structure Tl where
  lack : Bool
  gone : Option Int
  passed : List Nat
def Dl.ask (d : Dl) (x : Int) : Dl × Tl :=
  if some x ∈ d.here then ({ d with seen := d.seen.set (d.here.idxOf (some x)) true }, ⟨false, none, []⟩)
  else (⟨d.here.set d.spin.2.1 (some x), d.spin.1.set d.spin.2.1 true, (d.spin.2.1 + 1) % d.here.length, d.lacks + 1⟩, ⟨true, (d.here[d.spin.2.1]?).join, d.spin.2.2⟩)
structure Dl.Wf (d : Dl) (n : Nat) : Prop where
  n0 : 0 < n
  n8 : n ≤ 8
  hl : d.here.length = n
  sl : d.seen.length = n
  hd : d.hand < n
  mark : ∀ i : Nat, d.seen[i]? = some true → ∃ x : Int, d.here[i]? = some (some x)
theorem spin_stop {n : Nat} {s : List Bool} {h : Nat} (e : ¬ s[h]? = some true) : ∀ k, spin n k s h = (s, h, [])
  | 0 => rfl
  | k + 1 => by unfold spin; rw [if_neg e]
theorem count_off {s : List Bool} {h : Nat} (e : s[h]? = some true) : s.count true = (s.set h false).count true + 1 := by
  obtain ⟨hl, e'⟩ := List.getElem?_eq_some_iff.mp e
  have hp : 0 < s.count true := List.count_pos_iff.mpr (e' ▸ List.getElem_mem hl)
  rw [List.count_set hl, e']
  simp
  omega
theorem spin_go {n : Nat} {s : List Bool} {h : Nat} (e : s[h]? = some true) : spin n (s.count true) s h =
    ((spin n ((s.set h false).count true) (s.set h false) ((h + 1) % n)).1, (spin n ((s.set h false).count true) (s.set h false) ((h + 1) % n)).2.1, h :: (spin n ((s.set h false).count true) (s.set h false) ((h + 1) % n)).2.2) := by
  rw [count_off e]
  show (if s[h]? = some true then _ else _) = _
  rw [if_pos e]
theorem spin_facts {n : Nat} (n0 : 0 < n) : ∀ (k : Nat) (s : List Bool) (h : Nat), s.count true ≤ k → s.length = n → h < n →
    (spin n k s h).1.length = n ∧ (spin n k s h).2.1 < n ∧ (¬ (spin n k s h).1[(spin n k s h).2.1]? = some true) ∧ (∀ i : Nat, (spin n k s h).1[i]? = some true → s[i]? = some true)
  | 0, s, h, hk, hl, hh => by
    refine ⟨hl, hh, ?_, fun i e => e⟩
    intro e
    have e' : s[h]? = some true := e
    have := count_off e'
    omega
  | k + 1, s, h, hk, hl, hh => by
    by_cases e : s[h]? = some true
    · have hc := count_off e
      have ih := spin_facts n0 k (s.set h false) ((h + 1) % n) (by omega) (by rw [List.length_set]; exact hl) (Nat.mod_lt _ n0)
      have q : spin n (k + 1) s h = ((spin n k (s.set h false) ((h + 1) % n)).1, (spin n k (s.set h false) ((h + 1) % n)).2.1, h :: (spin n k (s.set h false) ((h + 1) % n)).2.2) := by
        show (if s[h]? = some true then _ else _) = _
        rw [if_pos e]
      rw [q]
      refine ⟨ih.1, ih.2.1, ih.2.2.1, fun i hi => ?_⟩
      have z := ih.2.2.2 i hi
      by_cases hi' : i = h
      · rw [hi']; exact e
      · rw [List.getElem?_set_ne (fun z => hi' z.symm)] at z
        exact z
    · rw [spin_stop e]; exact ⟨hl, hh, e, fun i e => e⟩
theorem Dl.Wf.new {n : Nat} (n0 : 0 < n) (n8 : n ≤ 8) : (Dl.new n).Wf n := ⟨n0, n8, by simp [Dl.new], by simp [Dl.new], n0, fun i e => by
  have e' : (List.replicate n false)[i]? = some true := e
  rw [List.getElem?_replicate] at e'
  split at e' <;> simp at e'⟩
theorem Dl.Wf.ask {d : Dl} {n : Nat} (w : d.Wf n) (x : Int) : (d.ask x).1.Wf n := by
  obtain ⟨n0, n8, hl, sl, hd, mk⟩ := w
  unfold Dl.ask
  split
  · rename_i hm
    refine ⟨n0, n8, hl, by simp [sl], hd, fun i e => ?_⟩
    have e' : (d.seen.set (d.here.idxOf (some x)) true)[i]? = some true := e
    by_cases hi : i = d.here.idxOf (some x)
    · subst hi
      exact ⟨x, by rw [List.getElem?_eq_getElem (List.idxOf_lt_length_iff.mpr hm)]; simp⟩
    · rw [List.getElem?_set_ne (fun z => hi z.symm)] at e'
      exact mk i e'
  · have f := spin_facts n0 (d.seen.count true) d.seen d.hand (Nat.le_refl _) sl hd
    have es : d.spin = Cw.spin n (d.seen.count true) d.seen d.hand := by unfold Dl.spin; rw [hl]
    refine ⟨n0, n8, by simp [hl], by simp [es, f.1], ?_, fun i e => ?_⟩
    · show (d.spin.2.1 + 1) % d.here.length < n
      rw [hl]; exact Nat.mod_lt _ n0
    · have e' : (d.spin.1.set d.spin.2.1 true)[i]? = some true := e
      by_cases h : i = d.spin.2.1
      · subst h
        refine ⟨x, ?_⟩
        show (d.here.set d.spin.2.1 (some x))[d.spin.2.1]? = _
        rw [List.getElem?_set_self (by rw [hl, es]; exact f.2.1)]
      · rw [List.getElem?_set_ne (fun z => h z.symm), es] at e'
        obtain ⟨y, hy⟩ := mk i (f.2.2.2 i e')
        refine ⟨y, ?_⟩
        show (d.here.set d.spin.2.1 (some x))[i]? = _
        rw [List.getElem?_set_ne (fun z => h z.symm)]; exact hy
/-- all asks of a row -/
def askAll : Dl → List Int → List Tl
  | _, [] => []
  | d, x :: r => (d.ask x).2 :: askAll (d.ask x).1 r
def endAll : Dl → List Int → Dl
  | d, [] => d
  | d, x :: r => endAll (d.ask x).1 r
theorem askAll_app : ∀ (d : Dl) (a b : List Int), askAll d (a ++ b) = askAll d a ++ askAll (endAll d a) b
  | _, [], _ => rfl
  | d, x :: r, b => by simp [askAll, endAll, askAll_app]
theorem endAll_app : ∀ (d : Dl) (a b : List Int), endAll d (a ++ b) = endAll (endAll d a) b
  | _, [], _ => rfl
  | d, x :: r, b => by simp [endAll, endAll_app]
theorem askAll_len : ∀ (d : Dl) (a : List Int), (askAll d a).length = a.length
  | _, [] => rfl
  | d, x :: r => by simp [askAll, askAll_len]
theorem endAll_wf {n : Nat} : ∀ (d : Dl) (a : List Int), d.Wf n → (endAll d a).Wf n
  | _, [], w => w
  | d, x :: r, w => endAll_wf _ r (w.ask x)
/-! pages as values -/
theorem flat_oV (hs : List (Option Int)) : (hs.map oV).all flatV = true := by
  rw [List.all_map, List.all_eq_true]
  intro x _
  cases x <;> rfl
theorem flat_int (ns : List Int) : (ns.map V.int).all flatV = true := by
  rw [List.all_map, List.all_eq_true]
  intro x _
  rfl
theorem in_oV (x : Int) (hs : List (Option Int)) : inV (.int x) (hs.map oV) = decide (some x ∈ hs) := by
  unfold inV
  rw [List.any_map]
  induction hs with
  | nil => rfl
  | cons a r ih =>
    rw [List.any_cons, ih]
    cases a with
    | none => simp [oV, eqV]
    | some y =>
      by_cases e : y = x
      · subst e; simp [oV, eqV]
      · simp [oV, eqV, e, Ne.symm e]
theorem in_int (x : Int) (ns : List Int) : inV (.int x) (ns.map V.int) = decide (x ∈ ns) := by
  unfold inV
  rw [List.any_map]
  induction ns with
  | nil => rfl
  | cons y r ih =>
    rw [List.any_cons, ih]
    by_cases e : y = x
    · subst e; simp [eqV]
    · simp [eqV, e, Ne.symm e]
theorem w_index {K : PySem.W.Frag} {H : Hp} {Q : VK} {a : Addr} {hs : List (Option Int)} {x : Int} (h : SqL K H a (hs.map oV)) (hm : some x ∈ hs) (q : Q (.int ((hs.idxOf (some x) : Nat) : Int)) H) : rIndex K (.ref a) [.int x] H Q := by
  have hl := List.idxOf_lt_length_iff.mpr hm
  refine ⟨a, hs.map oV, .int x, hs.idxOf (some x), .int x, rfl, rfl, h, rfl, flat_oV hs, ?_, by simp [eqV], fun m z' hm' hz => ?_, q⟩
  · rw [List.getElem?_map, List.getElem?_eq_getElem hl]; simp [oV]
  · rw [List.getElem?_map, List.getElem?_eq_getElem (by omega)] at hz
    have hz' : oV hs[m] = z' := Option.some.inj hz
    subst hz'
    have ne : hs[m] ≠ some x := fun e => by
      have z := List.not_of_lt_findIdx (p := (· == some x)) (xs := hs) (i := m) hm'
      simp [e] at z
    cases e : hs[m] with
    | none => rfl
    | some y =>
      rw [e] at ne
      have : y ≠ x := fun z => ne (by rw [z])
      simp [oV, eqV, this]
end Cw
namespace Cw
open PySem L2
/-! a Dial as an object -/
theorem str_hs : ¬ (("here" : Str) = "seen") := by decide +kernel
theorem str_hh : ¬ (("here" : Str) = "hand") := by decide +kernel
theorem str_hl : ¬ (("here" : Str) = "lacks") := by decide +kernel
theorem str_sh : ¬ (("seen" : Str) = "hand") := by decide +kernel
theorem str_sl : ¬ (("seen" : Str) = "lacks") := by decide +kernel
theorem str_al : ¬ (("hand" : Str) = "lacks") := by decide +kernel
def dfl (a b : Addr) (h l : Int) : List (Str × V) := [("here", .ref a), ("seen", .ref b), ("hand", .int h), ("lacks", .int l)]
theorem dfl_made (a b : Addr) (h l : Int) : putF "lacks" (.int l) (putF "hand" (.int h) (putF "seen" (.ref b) (putF "here" (.ref a) []))) = dfl a b h l := by
  simp only [putF, if_neg str_hs, if_neg str_hh, if_neg str_hl, if_neg str_sh, if_neg str_sl, if_neg str_al, dfl]
theorem dfl_hand (a b : Addr) (h l y : Int) : putF "hand" (.int y) (dfl a b h l) = dfl a b y l := by
  simp only [dfl, putF, if_neg str_hh, if_neg str_sh, if_pos]
theorem dfl_lacks (a b : Addr) (h l y : Int) : putF "lacks" (.int y) (dfl a b h l) = dfl a b h y := by
  simp only [dfl, putF, if_neg str_hl, if_neg str_sl, if_neg str_al, if_pos]
theorem dfl_len (a b : Addr) (h l : Int) : (dfl a b h l).length < 1000 := by show 4 < 1000; decide
theorem lk_here (a b : Addr) (h l : Int) : (dfl a b h l).lookup ("here" : Str) = some (.ref a) := by
  rw [← dfl_made, lookup_putF, if_neg str_hl, lookup_putF, if_neg str_hh, lookup_putF, if_neg str_hs, lookup_putF, if_pos rfl]
theorem lk_seen (a b : Addr) (h l : Int) : (dfl a b h l).lookup ("seen" : Str) = some (.ref b) := by
  rw [← dfl_made, lookup_putF, if_neg str_sl, lookup_putF, if_neg str_sh, lookup_putF, if_pos rfl]
theorem lk_hand (a b : Addr) (h l : Int) : (dfl a b h l).lookup ("hand" : Str) = some (.int h) := by
  rw [← dfl_made, lookup_putF, if_neg str_al, lookup_putF, if_pos rfl]
theorem lk_lacks (a b : Addr) (h l : Int) : (dfl a b h l).lookup ("lacks" : Str) = some (.int l) := by
  rw [← dfl_made, lookup_putF, if_pos rfl]
theorem lk_no (a b : Addr) (h l : Int) {m : Str} (h1 : ¬ m = "lacks") (h2 : ¬ m = "hand") (h3 : ¬ m = "seen") (h4 : ¬ m = "here") : (dfl a b h l).lookup m = none := by
  rw [← dfl_made, lookup_putF, if_neg h1, lookup_putF, if_neg h2, lookup_putF, if_neg h3, lookup_putF, if_neg h4]
  rfl
/-- a Dial at p, its lists at a and b -/
def DialAt (C : Addr) (H : Hp) (p a b : Addr) (d : Dl) : Prop := (∃ dx, H p = some (.ins C dx (dfl a b d.hand d.lacks))) ∧ H a = some (.lst (d.here.map oV)) ∧ H b = some (.lst (d.seen.map V.bl))
theorem DialAt.keep {C p a b : Addr} {H H' : Hp} {d : Dl} {W : List Addr} (h : DialAt C H p a b d) (f : Fr W H H') (hp : p ∉ W) (ha : a ∉ W) (hb : b ∉ W) : DialAt C H' p a b d := by
  obtain ⟨⟨dx, h1⟩, h2, h3⟩ := h
  exact ⟨⟨dx, f.get h1 hp⟩, f.get h2 ha, f.get h3 hb⟩
theorem DialAt.keep0 {C p a b : Addr} {H H' : Hp} {d : Dl} (h : DialAt C H p a b d) (f : Fr [] H H') : DialAt C H' p a b d := h.keep f (by simp) (by simp) (by simp)
section
variable {K : PySem.W.Frag} {H : Hp}
theorem w_fld {ta : TE} {f : Str} {σ : L2.St} {Q : VK} (h : ta σ H fun x H1 => ∃ a C dx fs v, x = .ref a ∧ H1 a = some (.ins C dx fs) ∧ Cls K C ∧ NoAttr K C f ∧ fs.lookup f = some v ∧ Q v H1) : tFld K ta f σ H Q := h
theorem w_fldR {p C dx : Addr} {fs : List (Str × V)} {f : Str} {v : V} {P : V → Prop} (h : H p = some (.ins C dx fs)) (c : Cls K C) (n : NoAttr K C f) (l : fs.lookup f = some v) (q : P v) :
    ∃ a C dx fs v, V.ref p = .ref a ∧ H a = some (.ins C dx fs) ∧ Cls K C ∧ NoAttr K C f ∧ fs.lookup f = some v ∧ P v := ⟨p, C, dx, fs, v, rfl, h, c, n, l, q⟩
theorem w_sFld {ta tv : TE} {f : Str} {σ : L2.St} {nx : L2.St → Hp → Prop} {rt : VK} {bk ct : L2.St → Hp → Prop} (h : tv σ H fun y H1 => ta σ H1 fun x H2 => ∃ a C dx fs, x = .ref a ∧ H2 a = some (.ins C dx fs) ∧ Cls K C ∧ NoAttr K C f ∧ fs.length < 1000 ∧ nx σ (upd H2 a (.ins C dx (putF f y fs)))) :
    sFld K ta tv f ⟨nx, rt, bk, ct⟩ σ H := h
theorem w_sFldR {p C dx : Addr} {fs gs : List (Str × V)} {f : Str} {y : V} {N : Hp → Prop} (h : H p = some (.ins C dx fs)) (c : Cls K C) (n : NoAttr K C f) (l : fs.length < 1000) (e : putF f y fs = gs) (q : N (upd H p (.ins C dx gs))) :
    ∃ a C dx fs, V.ref p = .ref a ∧ H a = some (.ins C dx fs) ∧ Cls K C ∧ NoAttr K C f ∧ fs.length < 1000 ∧ N (upd H a (.ins C dx (putF f y fs))) := ⟨p, C, dx, fs, rfl, h, c, n, l, by rw [e]; exact q⟩
theorem w_aug {ta tv : TE} {rd : V → V → Hp → VK → Prop} {f : Str} {σ : L2.St} {nx : L2.St → Hp → Prop} {rt : VK} {bk ct : L2.St → Hp → Prop} (h : ta σ H fun x H1 => ∃ a C dx fs v, x = .ref a ∧ H1 a = some (.ins C dx fs) ∧ Cls K C ∧ NoAttr K C f ∧ fs.lookup f = some v ∧
  tv σ H1 fun y H2 => rd v y H2 fun z H3 => ∃ dx' fs', H3 a = some (.ins C dx' fs') ∧ fs'.length < 1000 ∧ nx σ (upd H3 a (.ins C dx' (putF f z fs')))) : sFldAug K ta tv rd f ⟨nx, rt, bk, ct⟩ σ H := h
theorem w_augR {p C dx : Addr} {fs : List (Str × V)} {f : Str} {v : V} {P : Addr → Addr → V → Prop} (h : H p = some (.ins C dx fs)) (c : Cls K C) (n : NoAttr K C f) (l : fs.lookup f = some v) (q : P p C v) :
    ∃ a C dx fs v, V.ref p = .ref a ∧ H a = some (.ins C dx fs) ∧ Cls K C ∧ NoAttr K C f ∧ fs.lookup f = some v ∧ P a C v := ⟨p, C, dx, fs, v, rfl, h, c, n, l, q⟩
theorem w_rAdd {i j : Int} {Q : VK} (q : Q (.int (i + j)) H) : rAdd (.int i) (.int j) H Q := ⟨i, j, rfl, rfl, q⟩
theorem w_augS {p C dx : Addr} {fs gs : List (Str × V)} {f : Str} {z : V} {N : Hp → Prop} (h : H p = some (.ins C dx fs)) (l : fs.length < 1000) (e : putF f z fs = gs) (q : N (upd H p (.ins C dx gs))) :
    ∃ dx' fs', H p = some (.ins C dx' fs') ∧ fs'.length < 1000 ∧ N (upd H p (.ins C dx' (putF f z fs'))) := ⟨dx, fs, h, l, by rw [e]; exact q⟩
theorem w_make {C : Addr} {sp : Sp} {dvs : List V} {E : XK} {t : TA} {σ : L2.St} {Q : VK} (h : t σ H fun vs H1 => ∀ x dx, H1 x = none → H1 dx = none → dx ≠ x → sp (.ref x :: (vs ++ dvs)) (upd (upd H1 dx (.own x)) x (.ins C dx [])) (fun v H2 => v = .non ∧ Q (.ref x) H2) E) : tMake C sp dvs E t σ H Q := h
theorem w_meth {C : Addr} {m : Str} {sp : Sp} {dvs : List V} {E : XK} {ta : TE} {t : TA} {σ : L2.St} {Q : VK} (h : ta σ H fun x H1 => ∃ a dx fs, x = .ref a ∧ H1 a = some (.ins C dx fs) ∧ fs.lookup m = none ∧ t σ H1 fun vs H2 => sp (x :: (vs ++ dvs)) H2 Q E) : tMeth C m sp dvs E ta t σ H Q := h
theorem w_methR {p C dx : Addr} {fs : List (Str × V)} {m : Str} {B : Prop} (h : H p = some (.ins C dx fs)) (l : fs.lookup m = none) (q : B) : ∃ a dx fs, V.ref p = .ref a ∧ H a = some (.ins C dx fs) ∧ fs.lookup m = none ∧ B := ⟨p, dx, fs, rfl, h, l, q⟩
end
/-! what a dial tells, as data -/
def oD : Option Int → PyData
  | none => .none
  | some i => .int i
def natsD (l : List Nat) : List PyData := l.map fun (i : Nat) => PyData.int (i : Int)
def tlD (t : Tl) : PyData := .tuple [.bool t.lack, oD t.gone, .list (natsD t.passed)]
def toldV (t : Tl) (q : Addr) : List V := [.bl t.lack, oV t.gone, .ref q]
def natsV (l : List Nat) : List V := l.map fun (i : Nat) => V.int (i : Int)
theorem nw_o {K : PySem.W.Frag} {H H' : Hp} (o : Option Int) : Nw K H H' (oV o) (oD o) := by
  cases o
  · exact Nw.non
  · exact Nw.int _
theorem nw_nats {K : PySem.W.Frag} {H H' : Hp} (l : List Nat) : NwA K H H' (natsV l) (natsD l) := by
  have e1 : natsV l = (l.map fun (i : Nat) => (i : Int)).map V.int := by simp [natsV]
  have e2 : natsD l = (l.map fun (i : Nat) => (i : Int)).map PyData.int := by simp [natsD]
  rw [e1, e2]
  exact NwA.ints _
theorem nw_tl {K : PySem.W.Frag} {H H' : Hp} {t q : Addr} (tl : Tl) (ht : H t = none) (hq : H q = none) (h1 : H' t = some (.tup (toldV tl q))) (h2 : H' q = some (.lst (natsV tl.passed))) : Nw K H H' (.ref t) (tlD tl) :=
  Nw.tup ht h1 (.cons (Nw.bl _) (.cons (nw_o _) (.cons (Nw.lst hq h2 (nw_nats _)) .nil)))
end Cw
namespace Cw
open PySem L2
/-! the rules that keep a row of pages -/
def keepS (rooms : Nat) (unseen : Bool) (kept : List Int) (x : Int) : List Int :=
  if x ∈ kept then (if unseen then kept.erase x ++ [x] else kept) else kept.drop (if kept.length = rooms then 1 else 0) ++ [x]
/-- of each ask whether the page lacked -/
def keepAll (rooms : Nat) (unseen : Bool) : List Int → List Int → List Bool
  | _, [] => []
  | kept, x :: r => decide (x ∉ kept) :: keepAll rooms unseen (keepS rooms unseen kept x) r
def keepEnd (rooms : Nat) (unseen : Bool) : List Int → List Int → List Int
  | kept, [] => kept
  | kept, x :: r => keepEnd rooms unseen (keepS rooms unseen kept x) r
structure KOk (rooms : Nat) (kept : List Int) : Prop where
  nd : kept.Nodup
  le : kept.length ≤ rooms
theorem KOk.step {rooms : Nat} {kept : List Int} (n0 : 0 < rooms) (h : KOk rooms kept) (u : Bool) (x : Int) : KOk rooms (keepS rooms u kept x) := by
  obtain ⟨nd, le⟩ := h
  unfold keepS
  split
  · rename_i hm
    split
    · refine ⟨?_, ?_⟩
      · rw [List.nodup_append]
        refine ⟨nd.erase x, by simp, fun a ha b hb => ?_⟩
        simp at hb
        subst hb
        intro e
        subst e
        exact (List.Nodup.mem_erase_iff nd).mp ha |>.1 rfl
      · rw [List.length_append, List.length_erase_of_mem hm]
        have := List.length_pos_of_mem hm
        simp
        omega
    · exact ⟨nd, le⟩
  · rename_i hm
    refine ⟨?_, ?_⟩
    · rw [List.nodup_append]
      refine ⟨nd.sublist (List.drop_sublist _ _), by simp, fun a ha b hb => ?_⟩
      simp at hb
      subst hb
      intro e
      subst e
      exact hm (List.mem_of_mem_drop ha)
    · rw [List.length_append, List.length_drop]
      simp
      split <;> omega
theorem keepAll_app (rooms : Nat) (u : Bool) : ∀ (k a b : List Int), keepAll rooms u k (a ++ b) = keepAll rooms u k a ++ keepAll rooms u (keepEnd rooms u k a) b
  | _, [], _ => rfl
  | k, x :: r, b => by simp [keepAll, keepEnd, keepAll_app]
theorem keepEnd_app (rooms : Nat) (u : Bool) : ∀ (k a b : List Int), keepEnd rooms u k (a ++ b) = keepEnd rooms u (keepEnd rooms u k a) b
  | _, [], _ => rfl
  | k, x :: r, b => by simp [keepEnd, keepEnd_app]
theorem keepAll_len (rooms : Nat) (u : Bool) : ∀ (k a : List Int), (keepAll rooms u k a).length = a.length
  | _, [] => rfl
  | k, x :: r => by simp [keepAll, keepAll_len]
theorem keepEnd_ok {rooms : Nat} (n0 : 0 < rooms) (u : Bool) : ∀ (k a : List Int), KOk rooms k → KOk rooms (keepEnd rooms u k a)
  | _, [], h => h
  | k, x :: r, h => keepEnd_ok n0 u _ r (h.step n0 u x)
/-- whether each ask of a row lacks, by a rule -/
def lackB (rooms : Nat) (z : Str) (row : List Int) : List Bool :=
  if z = Str.ofString "hand" then (askAll (Dl.new rooms) row).map Tl.lack else keepAll rooms (decide (z = Str.ofString "unseen")) [] row
theorem lackB_len (rooms : Nat) (z : Str) (row : List Int) : (lackB rooms z row).length = row.length := by
  unfold lackB
  split
  · rw [List.length_map, askAll_len]
  · exact keepAll_len _ _ _ _
/-- the places of the trues -/
def placesFrom : Nat → List Bool → List Int
  | _, [] => []
  | i, b :: r => if b then (i : Int) :: placesFrom (i + 1) r else placesFrom (i + 1) r
def places (bs : List Bool) : List Int := placesFrom 0 bs
theorem placesFrom_snoc : ∀ (i : Nat) (bs : List Bool) (b : Bool), placesFrom i (bs ++ [b]) = placesFrom i bs ++ (if b then [((i + bs.length : Nat) : Int)] else [])
  | i, [], b => by cases b <;> simp [placesFrom]
  | i, c :: r, b => by
    have h := placesFrom_snoc (i + 1) r b
    have e : i + 1 + r.length = i + (c :: r).length := by simp; omega
    rw [e] at h
    cases c <;> simp [placesFrom, h]
theorem places_snoc (bs : List Bool) (b : Bool) : places (bs ++ [b]) = places bs ++ (if b then [((bs.length : Nat) : Int)] else []) := by
  have h := placesFrom_snoc 0 bs b
  simpa [places] using h
theorem erase_filter {x : Int} : ∀ {k : List Int}, k.Nodup → k.erase x = k.filter fun y => decide (y ≠ x)
  | [], _ => rfl
  | y :: r, nd => by
    obtain ⟨h1, h2⟩ := List.nodup_cons.mp nd
    by_cases e : y = x
    · subst e
      rw [List.erase_cons_head, List.filter_cons_of_neg (by simp)]
      refine (List.filter_eq_self.mpr fun z hz => ?_).symm
      simp
      intro e
      subst e
      exact h1 hz
    · rw [List.erase_cons_tail (by simpa using e), List.filter_cons_of_pos (by simpa using e), erase_filter h2]
section
variable {σ : L2.St} {K : PySem.W.Frag} {H : Hp} {Q : VK}
theorem w_inI {p : Addr} {ns : List Int} {x : Int} (h : SqL K H p (ns.map V.int)) (q : Q (.bl (decide (x ∈ ns))) H) : rIn K false (.int x) (.ref p) H Q := w_inL h rfl (flat_int ns) (in_int x ns) q
theorem w_niI {p : Addr} {ns : List Int} {x : Int} (h : SqL K H p (ns.map V.int)) (q : Q (.bl (decide (x ∉ ns))) H) : rIn K true (.int x) (.ref p) H Q := w_niL h rfl (flat_int ns) (by rw [in_int]; simp) q
theorem w_remI {l : Addr} {ns : List Int} {x : Int} (h : H l = some (.lst (ns.map V.int))) (hm : x ∈ ns) (q : Q .non (upd H l (.lst ((ns.erase x).map V.int)))) : rRemI (.ref l) [.int x] H Q := by
  have hj := List.idxOf_lt_length_iff.mpr hm
  refine ⟨l, ns, x, ns.idxOf x, rfl, rfl, h, by rw [List.getElem?_eq_getElem hj]; simp, fun m hm' e => ?_, ?_⟩
  · have z := List.not_of_lt_findIdx (p := (· == x)) (xs := ns) (i := m) hm'
    rw [List.getElem?_eq_getElem (by omega)] at e
    rw [Option.some.inj e] at z
    simp at z
  · rw [← List.erase_eq_eraseIdx_of_idxOf rfl]; exact q
theorem w_sl {r : V → Option Int → Option Int → Hp → VK → Prop} {te : TE} {tl th : TO} (h : te σ H fun x H1 => tl σ H1 fun l H2 => th σ H2 fun u H3 => r x l u H3 Q) : tSl r te tl th σ H Q := h
theorem w_part {t : TE} {QO : Option Int → Hp → Prop} (h : t σ H fun x H1 => ∃ i, x = .int i ∧ QO (some i) H1) : tPart t σ H QO := h
theorem w_nopart {QO : Option Int → Hp → Prop} (h : QO none H) : tNoPart σ H QO := h
theorem w_isInt {i : Int} {P : Int → Prop} (h : P i) : ∃ k, V.int i = .int k ∧ P k := ⟨i, rfl, h⟩
theorem w_slL {a : Addr} {xs : List V} {lo hi : Option Int} (h : SqL K H a xs) (q : ∀ p, H p = none → Q (.ref p) (upd H p (.lst (cutV xs lo hi)))) : rSlL K (.ref a) lo hi H Q := ⟨a, xs, rfl, h, q⟩
end
theorem cut_from (xs : List V) (k : Nat) : cutV xs (some (k : Int)) none = xs.drop k := by
  unfold cutV
  rw [HT.sIx_nat, HT.sIx_none]
  rcases Nat.le_total k xs.length with h | h
  · rw [Nat.min_eq_left h]
    exact List.take_of_length_le (by rw [List.length_drop]; omega)
  · rw [Nat.min_eq_right h, List.drop_of_length_le h]
    simp
theorem cut_last (xs : List V) {n : Int} (h : 0 < n) : cutV xs (some (-n)) none = xs.drop (xs.length - n.toNat) := by
  unfold cutV
  have e : HT.sIx xs.length 0 (some (-n)) = xs.length - n.toNat := by
    show (if -n < 0 then (-n + (xs.length : Int)).toNat else _) = _
    rw [if_pos (by omega)]
    omega
  rw [e, HT.sIx_none]
  exact List.take_of_length_le (by rw [List.length_drop]; omega)
theorem cut_mid (xs : List V) (i j : Nat) : cutV xs (some (i : Int)) (some (j : Int)) = (xs.take j).drop i := by
  unfold cutV
  rw [HT.sIx_nat, HT.sIx_nat, List.drop_take]
  rcases Nat.le_total i xs.length with h | h
  · rw [Nat.min_eq_left h]
    rcases Nat.le_total j xs.length with h2 | h2
    · rw [Nat.min_eq_left h2]
    · rw [Nat.min_eq_right h2, List.take_of_length_le (by rw [List.length_drop]; omega), List.take_of_length_le (by rw [List.length_drop]; omega)]
  · rw [Nat.min_eq_right h, List.drop_of_length_le (Nat.le_refl _), List.drop_of_length_le h]
    simp
end Cw
namespace Cw
open PySem L2
/-! the law's own dial: a dict by texts -/
theorem str_pm : ¬ (("pages" : Str) = "marks") := by decide +kernel
theorem str_ph : ¬ (("pages" : Str) = "hand") := by decide +kernel
theorem str_pl : ¬ (("pages" : Str) = "lacks") := by decide +kernel
theorem str_mh : ¬ (("marks" : Str) = "hand") := by decide +kernel
theorem str_ml : ¬ (("marks" : Str) = "lacks") := by decide +kernel
theorem key_ne {a b : Str} (h : ¬ a = b) : ¬ ((Sum.inr a : Key) = Sum.inr b) := fun e => h (Sum.inr.inj e)
theorem key_ne' {a b : Str} (h : ¬ a = b) : ¬ ((Sum.inr b : Key) = Sum.inr a) := fun e => h (Sum.inr.inj e).symm
def ddl (a b : Addr) (h l : Int) : List (Key × V) := [(.inr "pages", .ref a), (.inr "marks", .ref b), (.inr "hand", .int h), (.inr "lacks", .int l)]
theorem ddl_made (a b : Addr) (h l : Int) : mergeK [] (ddl a b h l) = ddl a b h l := by
  show putK (putK (putK (putK [] (Sum.inr "pages" : Key) (V.ref a)) (Sum.inr "marks") (V.ref b)) (Sum.inr "hand") (V.int h)) (Sum.inr "lacks") (V.int l) = _
  rw [putK_new (kvs := []) (V.ref a) rfl]
  rw [putK_new (V.ref b) (by rw [List.nil_append, valV_neg (key_ne str_pm)]; rfl)]
  rw [putK_new (V.int h) (by simp only [List.nil_append, List.cons_append]; rw [valV_neg (key_ne str_ph), valV_neg (key_ne str_mh)]; rfl)]
  rw [putK_new (V.int l) (by simp only [List.nil_append, List.cons_append]; rw [valV_neg (key_ne str_pl), valV_neg (key_ne str_ml), valV_neg (key_ne str_al)]; rfl)]
  rfl
theorem ddl_pages (a b : Addr) (h l : Int) : valV (ddl a b h l) (.inr "pages") = some (.ref a) := valV_pos rfl
theorem ddl_marks (a b : Addr) (h l : Int) : valV (ddl a b h l) (.inr "marks") = some (.ref b) := by unfold ddl; rw [valV_neg (key_ne str_pm)]; exact valV_pos rfl
theorem ddl_hand (a b : Addr) (h l : Int) : valV (ddl a b h l) (.inr "hand") = some (.int h) := by unfold ddl; rw [valV_neg (key_ne str_ph), valV_neg (key_ne str_mh)]; exact valV_pos rfl
theorem ddl_lacks (a b : Addr) (h l : Int) : valV (ddl a b h l) (.inr "lacks") = some (.int l) := by unfold ddl; rw [valV_neg (key_ne str_pl), valV_neg (key_ne str_ml), valV_neg (key_ne str_al)]; exact valV_pos rfl
theorem ddl_putH (a b : Addr) (h l y : Int) : putK (ddl a b h l) (.inr "hand") (.int y) = ddl a b y l := by
  unfold putK
  rw [valV_any, ddl_hand, if_pos (show (some (V.int h)).isSome = true from rfl)]
  simp only [ddl, List.map_cons, List.map_nil, if_neg (key_ne str_ph), if_neg (key_ne str_mh), if_neg (key_ne' str_al), if_true]
theorem ddl_putL (a b : Addr) (h l y : Int) : putK (ddl a b h l) (.inr "lacks") (.int y) = ddl a b h y := by
  unfold putK
  rw [valV_any, ddl_lacks, if_pos (show (some (V.int l)).isSome = true from rfl)]
  simp only [ddl, List.map_cons, List.map_nil, if_neg (key_ne str_pl), if_neg (key_ne str_ml), if_neg (key_ne str_al), if_true]
theorem ddl_len (a b : Addr) (h l : Int) : (ddl a b h l).length < sizeLine := sz_lt (by show 4 < 100000; decide)
def LDial (H : Hp) (p a b : Addr) (d : Dl) : Prop := H p = some (.dK (ddl a b d.hand d.lacks)) ∧ H a = some (.lst (d.here.map oV)) ∧ H b = some (.lst (d.seen.map V.bl))
theorem LDial.keep {p a b : Addr} {H H' : Hp} {d : Dl} {W : List Addr} (h : LDial H p a b d) (f : Fr W H H') (hp : p ∉ W) (ha : a ∉ W) (hb : b ∉ W) : LDial H' p a b d := ⟨f.get h.1 hp, f.get h.2.1 ha, f.get h.2.2 hb⟩
section
variable {H : Hp} {σ : L2.St} {Q : VK}
theorem w_dget {td ty : TE} (h : td σ H fun x H1 => ty σ H1 fun y H2 => ∃ a v, x = .ref a ∧ DGet H2 a y (some v) ∧ Q v H2) : tDGet td ty σ H Q := h
theorem w_dgetS {d : Addr} {kvs : List (Key × V)} {z : Str} {v : V} {P : V → Prop} (h : H d = some (.dK kvs)) (hv : valV kvs (.inr z) = some v) (q : P v) : ∃ a v, V.ref d = .ref a ∧ DGet H a (.str z) (some v) ∧ P v :=
  ⟨d, v, rfl, by rw [← hv]; exact DGet.k (k := Sum.inr z) h, q⟩
theorem w_dput {td ty tv : TE} {nx : L2.St → Hp → Prop} {rt : VK} {bk ct : L2.St → Hp → Prop} (h : tv σ H fun v H1 => td σ H1 fun x H2 => ty σ H2 fun y H3 => ∃ a H4, x = .ref a ∧ DPut H3 a y v H4 ∧ nx σ H4) : sDPut td ty tv ⟨nx, rt, bk, ct⟩ σ H := h
theorem w_dputS {d : Addr} {kvs ks : List (Key × V)} {z : Str} {v : V} {N : Hp → Prop} (h : H d = some (.dK kvs)) (hl : kvs.length < sizeLine) (e : putK kvs (.inr z) v = ks) (q : N (upd H d (.dK ks))) : ∃ a H4, V.ref d = .ref a ∧ DPut H a (.str z) v H4 ∧ N H4 :=
  ⟨d, _, rfl, DPut.k (k := Sum.inr z) h hl, by rw [e]; exact q⟩
theorem w_rep {l : Addr} {k : Int} {xs : List V} (h : H l = some (.lst xs)) (h1 : 0 ≤ k) (h2 : k < 1000) (hz : xs.length ≤ 100) (q : ∀ p, H p = none → Q (.ref p) (upd H p (.lst (List.replicate k.toNat xs).flatten))) : rRep (.ref l) (.int k) H Q :=
  ⟨l, k, xs, rfl, rfl, h, by omega, by omega, sz_le (Nat.le_trans (Nat.mul_le_mul hz (show k.toNat ≤ 1000 by omega)) (by decide)), q⟩
theorem w_disp {trs : List (TE × TE)} (h : ∀ p, H p = none → tPairs trs σ (upd H p (.dK [])) fun ps H2 => H2 p = some (.dK []) ∧ ∃ kvs : List (Key × V), ps = kvs.map (fun kv => (kV kv.1, kv.2)) ∧ kvs.length ≤ 15 ∧ Q (.ref p) (upd H2 p (.dK (mergeK [] kvs)))) : tDisp trs σ H Q := h
theorem w_pairs {tk tv : TE} {r : List (TE × TE)} {QP : List (V × V) → Hp → Prop} (h : tk σ H fun x H1 => tv σ H1 fun y H2 => tPairs r σ H2 fun ps H3 => QP ((x, y) :: ps) H3) : tPairs ((tk, tv) :: r) σ H QP := h
theorem w_pairs0 {QP : List (V × V) → Hp → Prop} (h : QP [] H) : tPairs [] σ H QP := h
end
end Cw
namespace Cw
open PySem L2
def lkD (rooms : Nat) (z : Str) (ns : List Int) : Dl := if z = Str.ofString "hand" then endAll (Dl.new rooms) ns else Dl.new rooms
def lkK (rooms : Nat) (z : Str) (ns : List Int) : List Int := if z = Str.ofString "hand" then [] else keepEnd rooms (decide (z = Str.ofString "unseen")) [] ns
def lkB (rooms : Nat) (z : Str) (ns : List Int) (x : Int) : Bool := if z = Str.ofString "hand" then ((lkD rooms z ns).ask x).2.lack else decide (x ∉ lkK rooms z ns)
theorem lackB_snoc (rooms : Nat) (z : Str) (ns : List Int) (x : Int) : lackB rooms z (ns ++ [x]) = lackB rooms z ns ++ [lkB rooms z ns x] := by
  unfold lackB lkB lkD lkK
  by_cases h : z = Str.ofString "hand"
  · simp only [if_pos h, askAll_app, List.map_append]; rfl
  · simp only [if_neg h, keepAll_app]; rfl
theorem lkD_snoc (rooms : Nat) (z : Str) (ns : List Int) (x : Int) : lkD rooms z (ns ++ [x]) = if z = Str.ofString "hand" then ((lkD rooms z ns).ask x).1 else lkD rooms z ns := by
  unfold lkD
  by_cases h : z = Str.ofString "hand"
  · simp only [if_pos h, endAll_app]; rfl
  · simp only [if_neg h]
theorem lkK_snoc (rooms : Nat) (z : Str) (ns : List Int) (x : Int) : lkK rooms z (ns ++ [x]) = if z = Str.ofString "hand" then lkK rooms z ns else keepS rooms (decide (z = Str.ofString "unseen")) (lkK rooms z ns) x := by
  unfold lkK
  by_cases h : z = Str.ofString "hand"
  · simp only [if_pos h]
  · simp only [if_neg h, keepEnd_app]; rfl
theorem lkD_wf {rooms : Nat} (n0 : 0 < rooms) (n8 : rooms ≤ 8) (z : Str) (ns : List Int) : (lkD rooms z ns).Wf rooms := by
  unfold lkD
  split
  · exact endAll_wf _ _ (.new n0 n8)
  · exact .new n0 n8
theorem lkK_ok {rooms : Nat} (n0 : 0 < rooms) (z : Str) (ns : List Int) : KOk rooms (lkK rooms z ns) := by
  unfold lkK
  split
  · exact ⟨List.nodup_nil, Nat.zero_le _⟩
  · exact keepEnd_ok n0 _ _ _ ⟨List.nodup_nil, Nat.zero_le _⟩
end Cw
namespace Cw
open PySem L2
theorem placesFrom_len : ∀ (i : Nat) (bs : List Bool), (placesFrom i bs).length ≤ bs.length
  | _, [] => Nat.le_refl _
  | i, b :: r => by
    have h := placesFrom_len (i + 1) r
    cases b <;> simp [placesFrom] <;> omega
theorem places_len (bs : List Bool) : (places bs).length ≤ bs.length := placesFrom_len 0 bs
theorem w_rep1 {H : Hp} {Q : VK} {l : Addr} {k : Int} {v : V} (h : H l = some (.lst [v])) (h1 : 0 ≤ k) (h2 : k < 1000) (q : ∀ p, H p = none → Q (.ref p) (upd H p (.lst (List.replicate k.toNat v)))) : rRep (.ref l) (.int k) H Q := by
  refine w_rep h h1 h2 (by show 1 ≤ 100; decide) fun p hp => ?_
  have e : ∀ k : Nat, (List.replicate k [v]).flatten = List.replicate k v := fun k => by
    induction k with
    | zero => rfl
    | succ k ih => rw [List.replicate_succ, List.flatten_cons, ih]; rfl
  rw [e]
  exact q p hp
end Cw

namespace Cw
open PySem L2
/-! the unlike ones of a list, in their first order -/
def add1 (acc : List Int) (x : Int) : List Int := if x ∈ acc then acc else acc ++ [x]
def firsts (ns : List Int) : List Int := ns.foldl add1 []
theorem firsts_snoc (ns : List Int) (x : Int) : firsts (ns ++ [x]) = add1 (firsts ns) x := by unfold firsts; rw [List.foldl_append]; rfl
theorem firsts_facts : ∀ (ns : List Int), (firsts ns).Nodup ∧ ∀ x, x ∈ firsts ns ↔ x ∈ ns := by
  intro ns
  have h : ∀ (ns acc : List Int), acc.Nodup → (ns.foldl add1 acc).Nodup ∧ ∀ x, x ∈ ns.foldl add1 acc ↔ x ∈ acc ∨ x ∈ ns := by
    intro ns
    induction ns with
    | nil => intro acc nd; exact ⟨nd, fun x => by simp⟩
    | cons y r ih =>
      intro acc nd
      have e : (y :: r).foldl add1 acc = r.foldl add1 (add1 acc y) := rfl
      rw [e]
      by_cases hy : y ∈ acc
      · have ea : add1 acc y = acc := if_pos hy
        rw [ea]
        refine ⟨(ih acc nd).1, fun x => ?_⟩
        rw [(ih acc nd).2 x, List.mem_cons]
        constructor
        · rintro (h | h)
          · exact .inl h
          · exact .inr (.inr h)
        · rintro (h | h | h)
          · exact .inl h
          · subst h; exact .inl hy
          · exact .inr h
      · have ea : add1 acc y = acc ++ [y] := if_neg hy
        rw [ea]
        have nd2 : (acc ++ [y]).Nodup := by
          rw [List.nodup_append]
          refine ⟨nd, by simp, fun a ha b hb => ?_⟩
          simp at hb
          subst hb
          intro e
          subst e
          exact hy ha
        refine ⟨(ih _ nd2).1, fun x => ?_⟩
        rw [(ih _ nd2).2 x]
        simp only [List.mem_append, List.mem_cons, List.not_mem_nil, or_false, or_assoc]
  have := h ns [] List.nodup_nil
  exact ⟨this.1, fun x => by rw [show firsts ns = ns.foldl add1 [] from rfl, this.2 x]; simp⟩
theorem firsts_len_le (ns : List Int) : (firsts ns).length ≤ ns.length := by
  have h : ∀ (ns acc : List Int), (ns.foldl add1 acc).length ≤ acc.length + ns.length := by
    intro ns
    induction ns with
    | nil => intro acc; simp
    | cons y r ih =>
      intro acc
      have e : (y :: r).foldl add1 acc = r.foldl add1 (add1 acc y) := rfl
      rw [e]
      have := ih (add1 acc y)
      have h2 : (add1 acc y).length ≤ acc.length + 1 := by unfold add1; split <;> simp
      simp
      omega
  have z := h ns []
  simp at z
  exact z
theorem firstMet_firsts (ns : List Int) : PyProof.Rows.firstMet (fun i => ns.getD i 0) ns.length = firsts ns := by
  have hs : PyProof.Rows.step_dedup = add1 := by
    funext acc x
    unfold PyProof.Rows.step_dedup add1
    have e : (acc.any (· == x)) = decide (x ∈ acc) := by
      induction acc with
      | nil => rfl
      | cons y r ih =>
        rw [List.any_cons, ih]
        by_cases h : y = x
        · subst h; simp
        · simp [h, Ne.symm h]
    rw [e]
    by_cases h : x ∈ acc <;> simp [h]
  have e : (List.range ns.length).map (fun i => ns.getD i 0) = ns := by
    apply List.ext_getElem
    · simp
    · intro i h1 h2
      simp only [List.getElem_map, List.getElem_range]
      rw [List.getD_eq_getElem?_getD, List.getElem?_eq_getElem h2]
      rfl
  unfold PyProof.Rows.firstMet firsts
  rw [e, hs]
section
open PySem.Spec PyProof.Rows
def tLenSetD (K : PySem.W.Frag) (ta : TE) : TE := fun σ H Q => ta σ H fun x H1 => ∃ (l : Addr) (ns : List Int), x = .ref l ∧ SqL K H1 l (ns.map V.int) ∧ ns.length ≤ 4000 ∧ Q (.int (firsts ns).length) H1
theorem pe_lenSetD {X : Cx} {K : PySem.W.Frag} (hK : X.K = K) {a : Expr} {ta : TE} {p p2 q pos : Pos} (hg : Gl X "len") (hm : X.mg "len" = none) (hg2 : Gl X "set") (hm2 : X.mg "set" = none) (ha : PE X a ta) (hc : X.calm = true := by rfl)
    (na : starEach [a] X.env = (false, eval a X.env) :: starEach [] X.env := by rfl) : PE X (.Call (.Name "len" p) [.Call (.Name "set" p2) [a] [] q] [] pos) (tLenSetD K ta) := by
  subst hK
  refine ⟨fun pins s σ H Q I h => ?_⟩
  refine Call_ (ld_blt I hg hm boot_len ?_)
  refine PyProof.Rows.callWith_builtin1 (PyProof.Rows.args_cons ?_ rfl) rfl rfl
  refine Call_ (ld_blt I hg2 hm2 (show bootBuiltins ("set" : Str) = some (.type "set") by decide +kernel) ?_)
  refine PyProof.Rows.callWith_type1 (PyProof.Rows.args_cons (thn (ha.run pins s σ H _ I h) fun v s1 ⟨x, H1, I1, r1, q1⟩ => PyProof.Rows.args_nil ?_) na) na rfl
  obtain ⟨l, ns, rfl, hq, hl, q1⟩ := q1
  cases r1
  obtain ⟨its, r, pl, hz⟩ := I1.list hq
  have hlen : its.toArray.size = ns.length := by rw [List.size_toArray, ← r.length, List.length_map]
  refine PySem.call_set_list (I1.ok.hd hc) pl.isList (by simpa using RZ.intsAre_vals r) (by rw [hlen]; unfold PySem.scanBound; omega) fun h' tk hS hk => ?_
  refine PyProof.Rows.args_nil ?_
  rw [hlen, firstMet_firsts] at hS
  have hfl := firsts_len_le ns
  obtain ⟨o, es, ep, t, ho, hex, hd, _, _, _, hf, hn⟩ := hS
  have I2 : Inv X pins σ H1 { s1 with heap := h', toks := tk } := I1.kept fun b o e => hk b o (Heap.lt_size e) e
  exact PySem.call_len_set ho hex hd hf (by rw [hn] <;> omega) ⟨.int (firsts ns).length, H1, I2.tok _, ⟨_, by rw [hn]⟩, q1⟩
end
end Cw
namespace Cw
open PySem L2
/-! stretches -/
structure Cs where
  out : List (Int × Int)
  b : Nat
  seg : List Int
  n : Nat
def cstep (rooms : Nat) (s : Cs) (x : Int) : Cs :=
  if x ∉ firsts s.seg ∧ (firsts s.seg).length = rooms then ⟨s.out ++ [((s.b : Int), (s.n : Int))], s.n, [x], s.n + 1⟩ else ⟨s.out, s.b, s.seg ++ [x], s.n + 1⟩
def cst (rooms : Nat) (ns : List Int) : Cs := ns.foldl (cstep rooms) ⟨[], 0, [], 0⟩
theorem cst_snoc (rooms : Nat) (ns : List Int) (x : Int) : cst rooms (ns ++ [x]) = cstep rooms (cst rooms ns) x := by unfold cst; rw [List.foldl_append]; rfl
def parts (rooms : Nat) (ns : List Int) : List (Int × Int) := if ns = [] then [] else (cst rooms ns).out ++ [(((cst rooms ns).b : Int), (ns.length : Int))]
structure Cs.Ok (s : Cs) (rooms : Nat) (ns : List Int) : Prop where
  n : s.n = ns.length
  bn : s.b ≤ s.n
  seg : s.seg = ns.drop s.b
  le : (firsts s.seg).length ≤ rooms
  ol : s.out.length ≤ s.b
  ob : ∀ e ∈ s.out, 0 ≤ e.1 ∧ e.1 < e.2 ∧ e.2 ≤ s.b
  lt : ns ≠ [] → s.b < s.n
theorem list_snoc_ind {α : Type} {P : List α → Prop} (h0 : P []) (hs : ∀ l x, P l → P (l ++ [x])) : ∀ l, P l := by
  intro l
  have h : ∀ n, ∀ l : List α, l.length = n → P l := by
    intro n
    induction n with
    | zero => intro l hl; rw [List.eq_nil_of_length_eq_zero hl]; exact h0
    | succ n ih =>
      intro l hl
      have hne : l ≠ [] := by intro e; rw [e] at hl; cases hl
      rw [← List.dropLast_concat_getLast hne]
      exact hs _ _ (ih _ (by rw [List.length_dropLast]; omega))
  exact h _ l rfl
theorem cst_ok {rooms : Nat} (n0 : 0 < rooms) : ∀ ns : List Int, (cst rooms ns).Ok rooms ns := by
  refine list_snoc_ind ?_ ?_
  · exact ⟨rfl, Nat.le_refl _, rfl, Nat.zero_le _, Nat.le_refl _, fun e h => by simp [cst] at h, fun h => absurd rfl h⟩
  · intro ns x ⟨hn, hb, hs, hl, ho, hob, hlt⟩
    rw [cst_snoc]
    generalize cst rooms ns = s at *
    unfold cstep
    split
    · rename_i h
      have hne : ns ≠ [] := by
        intro e
        subst e
        rw [hs] at h
        have h2 := h.2
        simp [firsts] at h2
        omega
      have := hlt hne
      refine ⟨by simp [hn], by simp, by simp [hn], ?_, ?_, ?_, fun _ => Nat.lt_succ_self _⟩
      · show (firsts [x]).length ≤ rooms
        simp [firsts, add1]
        omega
      · simp
        omega
      · intro e he
        rcases List.mem_append.mp he with he | he
        · have := hob e he
          exact ⟨this.1, this.2.1, by show e.2 ≤ (s.n : Int); omega⟩
        · simp at he
          subst he
          exact ⟨by simp, by simp; omega, by simp⟩
    · rename_i h
      refine ⟨by simp [hn], by show s.b ≤ s.n + 1; omega, ?_, ?_, ho, hob, fun _ => by show s.b < s.n + 1; omega⟩
      · show s.seg ++ [x] = (ns ++ [x]).drop s.b
        rw [List.drop_append_of_le_length (by omega), hs]
      · show (firsts (s.seg ++ [x])).length ≤ rooms
        rw [firsts_snoc]
        unfold add1
        split
        · exact hl
        · rename_i h2
          have : (firsts s.seg).length ≠ rooms := fun e => h ⟨h2, e⟩
          rw [List.length_append]
          simp
          omega
def pairD (e : Int × Int) : PyData := .tuple [.int e.1, .int e.2]
/-- new tuples of two whole numbers -/
theorem nw_pair {K : PySem.W.Frag} {H H' : Hp} {t : Addr} {i j : Int} (ht : H t = none) (h : H' t = some (.tup [.int i, .int j])) : Nw K H H' (.ref t) (pairD (i, j)) := Nw.tup ht h (.cons (Nw.int _) (.cons (Nw.int _) .nil))
end Cw
namespace Cw
open PySem L2
theorem w_lenSetD {K : PySem.W.Frag} {H : Hp} {σ : L2.St} {Q : VK} {ta : TE} (h : ta σ H fun x H1 => ∃ (l : Addr) (ns : List Int), x = .ref l ∧ SqL K H1 l (ns.map V.int) ∧ ns.length ≤ 4000 ∧ Q (.int (firsts ns).length) H1) : tLenSetD K ta σ H Q := h
theorem cut_ints (ns : List Int) (i j : Nat) : cutV (ns.map V.int) (some (i : Int)) (some (j : Int)) = ((ns.take j).drop i).map V.int := by rw [cut_mid, ← List.map_take, ← List.map_drop]
theorem over_rooms {rooms : Nat} {seg : List Int} {x : Int} (h : (firsts seg).length ≤ rooms) : (rooms : Int) < ((firsts (seg ++ [x])).length : Int) ↔ (x ∉ firsts seg ∧ (firsts seg).length = rooms) := by
  rw [firsts_snoc]
  unfold add1
  by_cases hx : x ∈ firsts seg
  · rw [if_pos hx]
    constructor
    · intro z; omega
    · intro z; exact absurd hx z.1
  · rw [if_neg hx, List.length_append]
    simp [hx]
    omega
end Cw
namespace Cw
open PySem L2
theorem places_mem : ∀ bs : List Bool, ∀ p ∈ places bs, 0 ≤ p ∧ p < (bs.length : Int) := by
  refine list_snoc_ind (by intro p h; simp [places, placesFrom] at h) ?_
  intro l b ih p hp
  rw [places_snoc] at hp
  rcases List.mem_append.mp hp with h | h
  · have := ih p h
    rw [List.length_append]
    simp
    omega
  · cases b with
    | false => simp at h
    | true => simp at h; subst h; simp; omega
/-- places ahead of e -/
theorem places_take (e : Nat) : ∀ bs : List Bool, (places bs).filter (fun p => decide (p < (e : Int))) = places (bs.take e) := by
  refine list_snoc_ind (by simp [places, placesFrom]) ?_
  intro l b ih
  rw [places_snoc, List.filter_append, ih]
  by_cases h : e ≤ l.length
  · rw [List.take_append_of_le_length h]
    have : (if b = true then [((l.length : Nat) : Int)] else []).filter (fun p => decide (p < (e : Int))) = [] := by
      cases b <;> simp; omega
    rw [this, List.append_nil]
  · have h1 : (l ++ [b]).take e = l ++ [b] := List.take_of_length_le (by simp; omega)
    have h2 : l.take e = l := List.take_of_length_le (by omega)
    rw [h1, h2, places_snoc]
    congr 1
    cases b <;> simp; omega
/-- the places from b on, ahead of e -/
def cntL (bs : List Bool) (b e : Nat) : List Int := (places (bs.take e)).filter fun p => decide ((b : Int) ≤ p)
theorem cntL_start (bs : List Bool) (b : Nat) : cntL bs b b = [] := by
  unfold cntL
  rw [List.filter_eq_nil_iff]
  intro p hp
  have := places_mem _ p hp
  rw [List.length_take] at this
  simp
  omega
theorem cntL_succ {bs : List Bool} {b e : Nat} {v : Bool} (hb : b ≤ e) (h : bs[e]? = some v) : cntL bs b (e + 1) = cntL bs b e ++ (if v then [(e : Int)] else []) := by
  have hl := (List.getElem?_eq_some_iff.mp h).1
  unfold cntL
  rw [take_snoc h, places_snoc, List.filter_append, List.length_take, Nat.min_eq_left (by omega)]
  congr 1
  cases v <;> simp; omega
theorem cntL_law (bs : List Bool) (b e : Nat) : (places bs).filter (fun p => decide ((b : Int) ≤ p ∧ p < (e : Int))) = cntL bs b e := by
  unfold cntL
  rw [← places_take, List.filter_filter]
  congr 1
  funext p
  simp
theorem cntL_len (bs : List Bool) (b e : Nat) : (cntL bs b e).length ≤ bs.length := by
  unfold cntL
  refine Nat.le_trans (List.length_filter_le _ _) (Nat.le_trans (places_len _) ?_)
  rw [List.length_take]
  omega
theorem parts_mem {rooms : Nat} (n0 : 0 < rooms) (ns : List Int) : ∀ e ∈ parts rooms ns, 0 ≤ e.1 ∧ e.1 < e.2 ∧ e.2 ≤ (ns.length : Int) := by
  intro e he
  have o := cst_ok n0 ns
  unfold parts at he
  split at he
  · simp at he
  · rename_i hne
    rcases List.mem_append.mp he with h | h
    · have := o.ob e h
      have := o.bn
      have := o.n
      omega
    · simp at h
      subst h
      have := o.lt hne
      have := o.n
      simp
      omega
theorem parts_len {rooms : Nat} (n0 : 0 < rooms) (ns : List Int) : (parts rooms ns).length ≤ ns.length := by
  have o := cst_ok n0 ns
  unfold parts
  split
  · simp
  · rename_i hne
    have h1 := o.lt hne
    have h2 := o.ol
    have h3 := o.n
    rw [List.length_append]
    simp
    omega
def counts (bs : List Bool) (ps : List (Int × Int)) : List Int := ps.map fun e => ((cntL bs e.1.toNat e.2.toNat).length : Int)
theorem dp_pair {K : PySem.W.Frag} {H : Hp} {v : V} {e : Int × Int} (h : Dp K H v (pairD e)) : ∃ t, v = .ref t ∧ SqT K H t [.int e.1, .int e.2] := by
  unfold pairD at h
  cases h with
  | @tup t xs _ hs ha =>
    cases ha with
    | @cons v1 vr _ _ h1 h2 =>
    cases h1
    cases h2 with
    | @cons v2 vr2 _ _ h3 h4 =>
    cases h3
    cases h4
    exact ⟨t, rfl, hs⟩
end Cw
namespace Cw
open PySem L2
/-- xs are refs to tuples of two whole numbers, all new beside H; a list that changes is none of them -/
def PairsAt (H H' : Hp) (xs : List V) (ps : List (Int × Int)) : Prop := xs.length = ps.length ∧ ∀ (i : Nat) (e : Int × Int), ps[i]? = some e → ∃ t, xs[i]? = some (.ref t) ∧ H t = none ∧ H' t = some (.tup [.int e.1, .int e.2])
theorem PairsAt.nil {H H' : Hp} : PairsAt H H' [] [] := ⟨rfl, fun i e h => by simp at h⟩
theorem PairsAt.fr {H H' H2 : Hp} {xs : List V} {ps : List (Int × Int)} {W : List Addr} (h : PairsAt H H' xs ps) (f : Fr W H' H2) (hw : ∀ w ∈ W, ∃ l, H' w = some (.lst l)) : PairsAt H H2 xs ps := ⟨h.1, fun i e he => by
  obtain ⟨t, h1, h2, h3⟩ := h.2 i e he
  refine ⟨t, h1, h2, f.get h3 fun m => ?_⟩
  obtain ⟨l, hl⟩ := hw t m
  rw [h3] at hl
  cases hl⟩
theorem PairsAt.snoc {H H' : Hp} {xs : List V} {ps : List (Int × Int)} {t : Addr} {a b : Int} (h : PairsAt H H' xs ps) (ht : H t = none) (h2 : H' t = some (.tup [.int a, .int b])) : PairsAt H H' (xs ++ [.ref t]) (ps ++ [(a, b)]) := ⟨by simp [h.1], fun i e he => by
  rcases Nat.lt_or_ge i ps.length with l | l
  · rw [List.getElem?_append_left l] at he
    obtain ⟨u, h1, h3⟩ := h.2 i e he
    exact ⟨u, by rw [List.getElem?_append_left (by rw [h.1]; exact l)]; exact h1, h3⟩
  · rw [List.getElem?_append_right l] at he
    have hi : i - ps.length = 0 := by
      have := (List.getElem?_eq_some_iff.mp he).1
      simp at this
      omega
    rw [hi] at he
    have he' : (a, b) = e := Option.some.inj he
    subst he'
    exact ⟨t, by rw [List.getElem?_append_right (by rw [h.1]; exact l), h.1, hi]; rfl, ht, h2⟩⟩
theorem PairsAt.nwa {K : PySem.W.Frag} {H H' : Hp} : ∀ {xs : List V} {ps : List (Int × Int)}, PairsAt H H' xs ps → NwA K H H' xs (ps.map pairD)
  | [], [], _ => .nil
  | [], _ :: _, h => by have := h.1; simp at this
  | _ :: _, [], h => by have := h.1; simp at this
  | x :: xs, e :: ps, h => by
    obtain ⟨t, h1, h2, h3⟩ := h.2 0 e rfl
    have hx : x = .ref t := Option.some.inj h1
    subst hx
    exact .cons (nw_pair h2 h3) (PairsAt.nwa ⟨by have := h.1; simpa using this, fun i e' he => h.2 (i + 1) e' he⟩)
end Cw
namespace Cw
open PySem L2
theorem Box.nin {H : Hp} {b q p : Addr} (h : Box H b q) (hp : H p = none) : p ∉ [b, q] := by
  obtain ⟨z, ms, h1, h2, _⟩ := h
  intro m
  rcases List.mem_cons.mp m with m | m
  · subst m; rw [hp] at h1; cases h1
  · rw [List.mem_singleton.mp m] at hp; rw [hp] at h2; cases h2
end Cw
namespace Cw
open PySem L2
theorem fits_ints {k : Nat} {ns : List Int} (h : ns.length ≤ 100000) : fits (k + 1) (.list (ns.map PyData.int)) := by
  refine ⟨by rw [List.length_map]; exact h, fun x hx => ?_⟩
  obtain ⟨n, _, rfl⟩ := List.mem_map.mp hx
  cases k <;> trivial
theorem fits_pairs {k : Nat} {ps : List (Int × Int)} (h : ps.length ≤ 100000) : fits (k + 2) (.list (ps.map pairD)) := by
  refine ⟨by rw [List.length_map]; exact h, fun x hx => ?_⟩
  obtain ⟨e, _, rfl⟩ := List.mem_map.mp hx
  refine ⟨by show 2 ≤ 100000; omega, fun y hy => ?_⟩
  rcases List.mem_cons.mp hy with h | h
  · subst h; cases k <;> trivial
  · rw [List.mem_singleton.mp h]; cases k <;> trivial
theorem fits_two {k : Nat} {a b : PyData} (ha : fits k a) (hb : fits k b) : fits (k + 1) (.list [a, b]) := by
  refine ⟨by show 2 ≤ 100000; omega, fun y hy => ?_⟩
  rcases List.mem_cons.mp hy with h | h
  · subst h; exact ha
  · rw [List.mem_singleton.mp h]; exact hb
end Cw
namespace Cw
open PySem L2
theorem PairsAt.base {H0 H H' : Hp} {xs : List V} {ps : List (Int × Int)} {W : List Addr} (h : PairsAt H H' xs ps) (f : Fr W H0 H) : PairsAt H0 H' xs ps := ⟨h.1, fun i e he => by
  obtain ⟨t, h1, h2, h3⟩ := h.2 i e he
  exact ⟨t, h1, f.2 t h2, h3⟩⟩
end Cw

namespace Cw
open PySem L2
/-! l.index(x, i); min of a list of data -/
section
open PySem.Spec PyProof.Rows PySem.W
variable {X : Cx}
def rIndex3 (K : PySem.W.Frag) : V → List V → Hp → VK → Prop := fun x xs H Q => ∃ (a : Addr) (ys : List Int) (y : Int) (i j : Nat), x = V.ref a ∧ xs = [.int y, .int i] ∧ SqL K H a (ys.map V.int) ∧ i ≤ j ∧ ys[j]? = some y ∧
  (∀ m : Nat, i ≤ m → m < j → ys[m]? ≠ some y) ∧ Q (.int (j : Nat)) H
theorem mt_index3 : MtR X "list.index" (rIndex3 X.K) := by
  intro pins s σ H x xs v us Q I rx rxs h
  obtain ⟨a, ys, y, i, j, rfl, rfl, hs, hij, hz, hno, q⟩ := h
  cases rx
  cases rxs with
  | cons ry rt =>
    rename_i uy ut
    cases rt with
    | cons ri rt =>
    cases rt
    rename_i ui
    obtain ⟨its, rv, ⟨⟨cls, dd, data, sl⟩, n, ho, hc, hdn, hd⟩, hlen⟩ := I.list hs
    simp only at hc hd
    subst hc hd
    obtain ⟨ti, rfl⟩ := ri
    have fl : (ys.map V.int).all flatV = true := by simp [flatV]
    have hz' : (ys.map V.int)[j]? = some (.int y) := by rw [List.getElem?_map, hz]; rfl
    obtain ⟨u, hu, ru⟩ := rv.get hz'
    obtain ⟨hjl, hje⟩ := List.getElem?_eq_some_iff.mp hu
    have hvl := rv.length
    have hj : j < its.toArray.size := by simpa using hjl
    have hsl := sizeLine_eq
    have hsf : SeqAt.searchFrom (i : Int) its.toArray.size = i := SeqAt.searchFrom_nat i _
    refine call_meets PySem.F.slot_list_index ⟨_, ho, rfl⟩ PySem.F.entry_list_index (PySem.F.args_list_index_3 _ _ _)
      (SeqAt.list_index3_found a its.toArray n dd sl uy (fun m => match its[m]? with | some u => eqU (.int y) u | none => false) (i : Int) ti j hj (by rw [hsf]; exact hij) (by omega) ?_ ?_) ⟨ho, fun m hm => ?_, ?_⟩
    · show (match its[j]? with | some u => eqU (.int y) u | none => false) = true
      rw [hu]
      show eqU (.int y) u = true
      rw [eqU_of ru rfl]
      simp [eqV]
    · intro m hm h1 h2
      rw [hsf] at h1
      have hml : m < its.length := by simpa using hm
      have hmy : m < (ys.map V.int).length := by omega
      have hmy2 : m < ys.length := by simpa using hmy
      have hy' : (ys.map V.int)[m]? = some (.int ys[m]) := by rw [List.getElem?_map, List.getElem?_eq_getElem hmy2]; rfl
      obtain ⟨u2, hu2, ru2⟩ := rv.get hy'
      show (match its[m]? with | some u => eqU (.int y) u | none => false) = false
      rw [hu2]
      show eqU (.int y) u2 = false
      rw [eqU_of ru2 rfl]
      have hne := hno m h1 h2
      rw [List.getElem?_eq_getElem hmy2] at hne
      have : ys[m] ≠ y := fun e => hne (by rw [e])
      simp [eqV, this]
    · have hml : m < its.length := by simpa using hm
      have e1 : its[m]? = some its[m] := List.getElem?_eq_getElem hml
      show SeqAt.EqAt _ _ its.toArray[m] uy (match its[m]? with | some u => eqU (.int y) u | none => false)
      rw [e1]
      have := mem_eqAt (A := X.A.in1) (s := s) ry rfl rv fl its[m] (List.getElem_mem hml)
      simpa using this
    · exact ⟨.int (j : Nat), H, I.tok _, ⟨_, rfl⟩, q⟩
def rMinD (K : PySem.W.Frag) : List V → Hp → VK → Prop := fun vs H Q => ∃ (a : Addr) (xs : List V) (d : PyData) (ds : List PyData), vs = [.ref a] ∧ SqL K H a xs ∧ DpAll K H xs (d :: ds) ∧ AlikeAll (d :: ds) ∧ PyData.depthAll (d :: ds) ≤ 40 ∧ PyData.canLayAll0 (d :: ds) = true ∧
  ∀ v, v ∈ xs → Dp K H v (minD d ds) → Q v H
theorem dpall_at {K : PySem.W.Frag} {H : Hp} : ∀ {xs : List V} {ds : List PyData}, DpAll K H xs ds → ∀ {i : Nat} {x : V}, xs[i]? = some x → ∃ d, ds[i]? = some d ∧ Dp K H x d
  | [], _, _, i, x, h => by simp at h
  | y :: xs, _, .cons h1 h2, i, x, h => by
    cases i with
    | zero =>
      obtain rfl := Option.some.inj h
      exact ⟨_, rfl, h1⟩
    | succ i => exact dpall_at h2 (i := i) h
theorem cr_minD (hc : X.calm = true) (hu : X.A.units + 64 < cLine) : CallR X (.builtin "min") (rMinD X.K) := by
  intro pins s σ H vs us Q I r h
  obtain ⟨a, xs, d, ds, rfl, hs, hd, hal, hdp, hcl, q⟩ := h
  obtain ⟨its, rv, hl, _⟩ := I.list hs
  rw [Vals.ref1 r]
  obtain ⟨as, hr⟩ := Dp.readsAll I _ _ _ hd rv
  refine min_list_data (I.ok.hd hc) hl.isList (by simpa using hr) hal (by omega) fun i v h' tk bs hi r' hk => ?_
  have hi' : its[i]? = some v := by simpa using hi
  obtain ⟨hil, hie⟩ := List.getElem?_eq_some_iff.mp hi'
  have hvl := rv.length
  have hxi : i < xs.length := by omega
  obtain ⟨x, hx⟩ : ∃ x, xs[i]? = some x := ⟨xs[i], List.getElem?_eq_getElem hxi⟩
  obtain ⟨u, hu2, ru⟩ := rv.get hx
  rw [hi'] at hu2
  obtain rfl := Option.some.inj hu2
  have I2 : Inv X pins σ H { s with heap := h', toks := tk } := I.kept hk
  obtain ⟨dx, hdx, hDp⟩ := dpall_at hd hx
  obtain ⟨cs, rx⟩ := Dp.reads I2 dx x v hDp ru
  have e1 : dx = minD d ds := SeqAt.Reads.unique dx (minD d ds) v cs bs (by
    have : ∀ (l : List PyData), PyData.canLayAll0 l = true → ∀ z ∈ l, z.canLay0 = true := by
      intro l
      induction l with
      | nil => intro _ z hz; cases hz
      | cons w l ih =>
        intro hl z hz
        rw [PyData.canLayAll0, Bool.and_eq_true] at hl
        rcases List.mem_cons.mp hz with h | h
        · subst h; exact hl.1
        · exact ih hl.2 z h
    exact this _ hcl dx (List.mem_of_getElem? hdx)) rx r'
  exact ⟨x, H, I2, ru, q x (List.mem_of_getElem? hx) (by rw [← e1]; exact hDp)⟩
end
end Cw
namespace Cw
open PySem L2
section
open PySem.W
variable {X : Cx}
theorem kMinD {X : Cx} (K : PySem.W.Frag) (h : X.K = K) (hc : X.calm = true) (hu : X.A.units + 64 < cLine) : CallR X (.builtin "min") (rMinD K) := h ▸ cr_minD hc hu
theorem kIndex3 {X : Cx} (K : PySem.W.Frag) (h : X.K = K) : MtR X "list.index" (rIndex3 K) := h ▸ mt_index3
theorem kSorted {X : Cx} (K : PySem.W.Frag) (h : X.K = K) : CallR X (.builtin "sorted") (rSorted K) := h ▸ cr_sorted
theorem w_index3 {K : PySem.W.Frag} {H : Hp} {Q : VK} {a : Addr} {ns : List Int} {y : Int} {i : Nat} (h : SqL K H a (ns.map V.int)) (hm : y ∈ ns.drop i) (q : Q (.int ((i + (ns.drop i).idxOf y : Nat) : Int)) H) : rIndex3 K (.ref a) [.int y, .int i] H Q := by
  have hj := List.idxOf_lt_length_iff.mpr hm
  refine ⟨a, ns, y, i, i + (ns.drop i).idxOf y, rfl, rfl, h, Nat.le_add_right _ _, ?_, fun m h1 h2 e => ?_, q⟩
  · rw [← List.getElem?_drop, List.getElem?_eq_getElem hj]
    simp
  · obtain ⟨k, rfl⟩ : ∃ k, m = i + k := ⟨m - i, by omega⟩
    rw [← List.getElem?_drop] at e
    have hk : k < (ns.drop i).idxOf y := by omega
    have z := List.not_of_lt_findIdx (p := (· == y)) (xs := ns.drop i) (i := k) hk
    rw [List.getElem?_eq_getElem (by omega)] at e
    rw [Option.some.inj e] at z
    simp at z
theorem w_slFrom {K : PySem.W.Frag} {H : Hp} {Q : VK} {a : Addr} {ns : List Int} {k : Nat} (h : SqL K H a (ns.map V.int)) (q : ∀ p, H p = none → Q (.ref p) (upd H p (.lst ((ns.drop k).map V.int)))) : rSlL K (.ref a) (some (k : Int)) none H Q :=
  w_slL h fun p hp => by
    rw [cut_from, ← List.map_drop]
    exact q p hp
theorem w_slMid {K : PySem.W.Frag} {H : Hp} {Q : VK} {a : Addr} {ns : List Int} {i j : Nat} (h : SqL K H a (ns.map V.int)) (q : ∀ p, H p = none → Q (.ref p) (upd H p (.lst (((ns.take j).drop i).map V.int)))) : rSlL K (.ref a) (some (i : Int)) (some (j : Int)) H Q :=
  w_slL h fun p hp => by
    rw [cut_ints]
    exact q p hp
def sorts (ns : List Int) : List Int := ns.mergeSort (fun a b => decide (a ≤ b))
theorem sorts_perm (ns : List Int) : (sorts ns).Perm ns := List.mergeSort_perm _ _
theorem sorts_sorted (ns : List Int) : (sorts ns).Pairwise (· ≤ ·) := by
  have := List.pairwise_mergeSort (le := fun (a b : Int) => decide (a ≤ b)) (fun a b c h1 h2 => by simp at *; omega) (fun a b => by simp; omega) ns
  exact this.imp fun h => by simpa using h
theorem sorted_uniq : ∀ {xs ys : List Int}, xs.Perm ys → xs.Pairwise (· ≤ ·) → ys.Pairwise (· ≤ ·) → xs = ys := by
  intro xs ys h h1 h2
  exact h.eq_of_pairwise (fun a b _ _ h1 h2 => by omega) h1 h2
theorem w_sorted {K : PySem.W.Frag} {H : Hp} {Q : VK} {a : Addr} {ns : List Int} (h : SqL K H a (ns.map V.int)) (hl : ns.length < 64) (q : ∀ p, H p = none → Q (.ref p) (upd H p (.lst ((sorts ns).map V.int)))) : rSorted K [.ref a] H Q :=
  ⟨a, ns, rfl, h, hl, fun ns' p h1 h2 hp => by
    rw [sorted_uniq (h1.trans (sorts_perm ns).symm) h2 (sorts_sorted ns)]
    exact q p hp⟩
/-- the least of pairs of whole numbers -/
theorem minOf_spec (x : Int × Int) : ∀ xs : List (Int × Int), minOf x xs ∈ x :: xs ∧ ∀ y ∈ x :: xs, (minOf x xs).1 < y.1 ∨ ((minOf x xs).1 = y.1 ∧ (minOf x xs).2 ≤ y.2) := by
  have lt_iff : ∀ a b : Int × Int, DatumOrd.lt a b = true ↔ (a.1 < b.1 ∨ (a.1 = b.1 ∧ a.2 < b.2)) := by
    intro a b
    show (if a.1 = b.1 then decide (a.2 < b.2) else decide (a.1 < b.1)) = true ↔ _
    by_cases h : a.1 = b.1
    · rw [if_pos h]; simp [h]
    · rw [if_neg h]; simp [h]
  intro xs
  unfold minOf
  induction xs generalizing x with
  | nil => exact ⟨List.mem_singleton.mpr rfl, fun y hy => by rw [List.mem_singleton.mp hy]; exact .inr ⟨rfl, Int.le_refl _⟩⟩
  | cons z xs ih =>
    rw [List.foldl_cons]
    by_cases h : DatumOrd.lt z x = true
    · rw [if_pos h]
      obtain ⟨h1, h2⟩ := ih z
      rw [lt_iff] at h
      refine ⟨by simp only [List.mem_cons] at h1 ⊢; exact .inr h1, fun y hy => ?_⟩
      rcases List.mem_cons.mp hy with e | hy
      · subst e
        have := h2 z (by simp)
        omega
      · exact h2 y hy
    · rw [if_neg h]
      obtain ⟨h1, h2⟩ := ih x
      have h' : ¬ (z.1 < x.1 ∨ (z.1 = x.1 ∧ z.2 < x.2)) := fun e => h ((lt_iff z x).mpr e)
      refine ⟨by simp only [List.mem_cons] at h1 ⊢; rcases h1 with h1 | h1 <;> simp [h1], fun y hy => ?_⟩
      rcases List.mem_cons.mp hy with e | hy
      · subst e; exact h2 y (by simp)
      · rcases List.mem_cons.mp hy with e | hy
        · subst e
          have := h2 x (by simp)
          omega
        · exact h2 y (List.mem_cons_of_mem _ hy)
theorem lay_pairs : ∀ ps : List (Int × Int), PyData.canLayAll0 (ps.map pairD) = true
  | [] => rfl
  | e :: r => by simp [PyData.canLayAll0, pairD, PyData.canLay0, lay_pairs r]
theorem depth_pairs : ∀ ps : List (Int × Int), PyData.depthAll (ps.map pairD) ≤ 40
  | [] => by simp [PyData.depthAll]
  | e :: r => by
    have := depth_pairs r
    simp [PyData.depthAll, pairD, PyData.depth] at *
    omega
theorem w_minP {K : PySem.W.Frag} {H : Hp} {Q : VK} {a : Addr} {xs : List V} {ps : List (Int × Int)} {e : Int × Int} (h : SqL K H a xs) (hd : DpAll K H xs (ps.map pairD)) (he : e ∈ ps) (hm : ∀ y ∈ ps, e.1 < y.1 ∨ (e.1 = y.1 ∧ e.2 ≤ y.2))
    (q : ∀ t, SqT K H t [.int e.1, .int e.2] → Q (.ref t) H) : rMinD K [.ref a] H Q := by
  cases ps with
  | nil => cases he
  | cons p ps =>
    refine ⟨a, xs, pairD p, ps.map pairD, rfl, h, hd, (alikeAll_datum (p :: ps)), depth_pairs (p :: ps), lay_pairs (p :: ps), fun v hv hdp => ?_⟩
    have e1 : minD (pairD p) (ps.map pairD) = pairD (minOf p ps) := minD_map p ps
    rw [e1] at hdp
    obtain ⟨h1, h2⟩ := minOf_spec p ps
    have e2 : minOf p ps = e := by
      have a1 := h2 e he
      have a2 := hm _ h1
      refine Prod.ext ?_ ?_ <;> omega
    rw [e2] at hdp
    obtain ⟨t, rfl, ht⟩ := dp_pair hdp
    exact q t ht
end
end Cw
namespace Cw
open PySem L2
/-! the best one: mirror -/
def IsFar (rest kept : List Int) (y : Int) : Prop := y ∈ kept ∧ ∀ x ∈ kept, rest.idxOf x < rest.idxOf y ∨ (rest.idxOf x = rest.idxOf y ∧ y ≤ x)
def farStep (rest : List Int) (b x : Int) : Int := if rest.idxOf b < rest.idxOf x ∨ (rest.idxOf b = rest.idxOf x ∧ x < b) then x else b
def far (rest : List Int) : List Int → Int
  | [] => 0
  | k :: ks => ks.foldl (farStep rest) k
theorem IsFar.unique {rest kept : List Int} {a b : Int} (h1 : IsFar rest kept a) (h2 : IsFar rest kept b) : a = b := by
  have x := h1.2 b h2.1
  have y := h2.2 a h1.1
  omega
theorem far_spec (rest : List Int) : ∀ {kept : List Int}, kept ≠ [] → IsFar rest kept (far rest kept) := by
  have h : ∀ (ks : List Int) (k : Int), IsFar rest (k :: ks) (ks.foldl (farStep rest) k) := by
    intro ks
    induction ks with
    | nil => intro k; exact ⟨List.mem_singleton.mpr rfl, fun x hx => by rw [List.mem_singleton.mp hx]; exact .inr ⟨rfl, Int.le_refl _⟩⟩
    | cons z ks ih =>
      intro k
      rw [List.foldl_cons]
      by_cases hz : rest.idxOf k < rest.idxOf z ∨ (rest.idxOf k = rest.idxOf z ∧ z < k)
      · rw [show farStep rest k z = z from if_pos hz]
        obtain ⟨h1, h2⟩ := ih z
        refine ⟨List.mem_cons_of_mem _ h1, fun x hx => ?_⟩
        rcases List.mem_cons.mp hx with e | hx
        · subst e
          have := h2 z (by simp)
          omega
        · exact h2 x hx
      · rw [show farStep rest k z = k from if_neg hz]
        obtain ⟨h1, h2⟩ := ih k
        refine ⟨?_, fun x hx => ?_⟩
        · rcases List.mem_cons.mp h1 with h1 | h1
          · exact List.mem_cons.mpr (.inl h1)
          · exact List.mem_cons_of_mem _ (List.mem_cons_of_mem _ h1)
        · rcases List.mem_cons.mp hx with e | hx
          · subst e; exact h2 x (by simp)
          · rcases List.mem_cons.mp hx with e | hx
            · subst e
              have := h2 k (by simp)
              omega
            · exact h2 x (List.mem_cons_of_mem _ hx)
  intro kept hk
  cases kept with
  | nil => exact absurd rfl hk
  | cons k ks => exact h ks k
theorem far_eq {rest kept : List Int} {y : Int} (h : IsFar rest kept y) : far rest kept = y := (far_spec rest (fun e => by rw [e] at h; exact absurd h.1 (by simp))).unique h
structure Bs where
  kept : List Int
  lacks : List Int
  gone : List (Int × Int)
  n : Nat
def bstep (rooms : Nat) (row : List Int) (s : Bs) (x : Int) : Bs :=
  if x ∈ s.kept then ⟨s.kept, s.lacks, s.gone, s.n + 1⟩
  else if s.kept.length = rooms then ⟨s.kept.erase (far (row.drop s.n) s.kept) ++ [x], s.lacks ++ [(s.n : Int)], s.gone ++ [((s.n : Int), far (row.drop s.n) s.kept)], s.n + 1⟩
  else ⟨s.kept ++ [x], s.lacks ++ [(s.n : Int)], s.gone, s.n + 1⟩
def bst (rooms : Nat) (row xs : List Int) : Bs := xs.foldl (bstep rooms row) ⟨[], [], [], 0⟩
theorem bst_snoc (rooms : Nat) (row ns : List Int) (x : Int) : bst rooms row (ns ++ [x]) = bstep rooms row (bst rooms row ns) x := by unfold bst; rw [List.foldl_append]; rfl
structure Bs.Ok (s : Bs) (rooms : Nat) (ns : List Int) : Prop where
  n : s.n = ns.length
  nd : s.kept.Nodup
  sub : ∀ x ∈ s.kept, x ∈ ns
  le : s.kept.length ≤ rooms
  ll : s.lacks.length ≤ ns.length
  gl : s.gone.length ≤ ns.length
theorem bst_ok {rooms : Nat} (n0 : 0 < rooms) (row : List Int) : ∀ ns : List Int, (bst rooms row ns).Ok rooms ns := by
  refine list_snoc_ind ?_ ?_
  · exact ⟨rfl, List.nodup_nil, (fun x h => absurd h (by simp [bst])), Nat.zero_le _, Nat.le_refl _, Nat.le_refl _⟩
  · intro ns x ⟨h1, h2, h3, h4, h5, h6⟩
    rw [bst_snoc]
    generalize bst rooms row ns = s at *
    unfold bstep
    split
    · exact ⟨by simp [h1], h2, fun y hy => List.mem_append_left _ (h3 y hy), h4, by simp; omega, by simp; omega⟩
    · rename_i hx
      split
      · rename_i hl
        have hne : s.kept ≠ [] := fun e => by rw [e] at hl; simp at hl; omega
        have hf := (far_spec (row.drop s.n) hne).1
        refine ⟨by simp [h1], ?_, ?_, ?_, by simp; omega, by simp; omega⟩
        · rw [List.nodup_append]
          refine ⟨h2.erase _, by simp, fun a ha b hb e => ?_⟩
          simp at hb
          subst hb
          subst e
          exact hx (List.mem_of_mem_erase ha)
        · intro y hy
          rcases List.mem_append.mp hy with h | h
          · exact List.mem_append_left _ (h3 y (List.mem_of_mem_erase h))
          · simp at h; subst h; simp
        · rw [List.length_append, List.length_erase_of_mem hf]
          simp
          omega
      · rename_i hl
        refine ⟨by simp [h1], ?_, ?_, ?_, by simp; omega, by simp; omega⟩
        · rw [List.nodup_append]
          refine ⟨h2, by simp, fun a ha b hb e => ?_⟩
          simp at hb
          subst hb
          subst e
          exact hx ha
        · intro y hy
          rcases List.mem_append.mp hy with h | h
          · exact List.mem_append_left _ (h3 y h)
          · simp at h; subst h; simp
        · rw [List.length_append]
          simp
          omega
end Cw
namespace Cw
open PySem L2
theorem PairsAt.upL {H H' : Hp} {xs ys : List V} {ps : List (Int × Int)} {p : Addr} {o : HO} (h : PairsAt H H' xs ps) (hp : H' p = some (.lst ys)) : PairsAt H (upd H' p o) xs ps :=
  h.fr (W := [p]) (Fr.at (List.mem_singleton.mpr rfl)) fun w hw => ⟨ys, by rw [List.mem_singleton.mp hw]; exact hp⟩
theorem PairsAt.upN {H H' : Hp} {xs : List V} {ps : List (Int × Int)} {p : Addr} {o : HO} (h : PairsAt H H' xs ps) (hp : H' p = none) : PairsAt H (upd H' p o) xs ps :=
  h.fr (W := []) (Fr.new hp) (by simp)
theorem PairsAt.fr0 {H H' H2 : Hp} {xs : List V} {ps : List (Int × Int)} (h : PairsAt H H' xs ps) (f : Fr [] H' H2) : PairsAt H H2 xs ps := h.fr f (by simp)
end Cw
namespace Cw
open PySem L2
/-! [x for x in l if test] of whole numbers -/
def PvF (H : Hp) (ns : List Int) (p : Int → Bool) (D : Addr) (i : Nat) (acc : List V) (H' : Hp) : Prop := Fr [] H H' ∧ acc = ((ns.take i).filter p).map V.int
theorem l_filter {σ : L2.St} {K : PySem.W.Frag} {H : Hp} {g : TG} {tt : TT} {te : TE} {vs : List Nat} {Qd : Addr → Hp → Prop} {a : Addr} (ns : List Int) (p : Int → Bool) (hq : SqL K H a (ns.map V.int))
    (hs : ∀ D (i : Nat) y H', H D = none → ns[i]? = some y → Fr [] H H' → LcI (PvF H ns p) D i H' → g (.int y) (wipe σ vs) H' fun σ2 H2 => wipe σ2 vs = wipe σ vs ∧ tt σ2 H2 fun b H3 =>
      if b = true then te σ2 H3 fun y H4 => ∃ acc, H4 D = some (.lst acc) ∧ acc.length < sizeLine ∧ LcI (PvF H ns p) D (i + 1) (upd H4 D (.lst (acc ++ [y]))) else LcI (PvF H ns p) D (i + 1) H3)
    (hd : ∀ D H', H D = none → Fr [] H H' → H' D = some (.lst ((ns.filter p).map V.int)) → Qd D H') :
    ∃ b, V.ref a = V.ref b ∧ (∃ xs, SqL K H b xs) ∧ ∀ D, H D = none → ∃ W : Nat → Nat → Hp → Prop, (∃ m, W 0 m (upd H D (.lst []))) ∧ ∀ i m H, W i m H →
      ((Itl K b).stop i H ∧ Qd D H) ∨ ((Itl K b).go i H ∧ ∃ Nx : Hp → Prop, (∀ H', Nx H' → ∃ m', m' < m ∧ W (i + 1) m' H') ∧ ∀ x H', (Itl K b).yld i H x H' → g x (wipe σ vs) H' fun σ2 H2 => wipe σ2 vs = wipe σ vs ∧ tt σ2 H2 fun b H3 =>
        if b = true then te σ2 H3 fun y H4 => ∃ acc, H4 D = some (.lst acc) ∧ acc.length < sizeLine ∧ Nx (upd H4 D (.lst (acc ++ [y]))) else Nx H3) := by
  refine l_list (ns.map V.int) hq (PvF H ns p) (fun D hD => ⟨Fr.new hD, by simp⟩) (fun D i acc H' hD h _ => h.1.seqL hq) ?_ ?_
  · rintro D i x acc H' hD hi h hacc hla
    obtain ⟨y, hy, rfl⟩ := int_at hi
    exact hs D i y H' hD hy h.1 ⟨acc, h, hacc, hla⟩
  · rintro D acc H' hD ⟨F, rfl⟩ hacc hla
    rw [List.length_map, List.take_length] at hacc
    exact hd D H' hD F hacc
theorem lf_yes {H H' H4 : Hp} {ns : List Int} {p : Int → Bool} {D : Addr} {i : Nat} {y : Int} (I : LcI (PvF H ns p) D i H') (hD : H D = none) (hy : ns[i]? = some y) (hp : p y = true) (hl : i < 99999) (f : Fr [] H' H4) :
    ∃ acc, H4 D = some (.lst acc) ∧ acc.length < sizeLine ∧ LcI (PvF H ns p) D (i + 1) (upd H4 D (.lst (acc ++ [.int y]))) := by
  obtain ⟨acc, ⟨F, rfl⟩, h2, h3⟩ := I
  refine lc_end (f.get0 h2) h3 hl ⟨(F.trans f).loc hD, ?_⟩
  rw [take_snoc hy, List.filter_append, List.map_append, List.filter_cons_of_pos hp]
  rfl
theorem lf_no {H H' H3 : Hp} {ns : List Int} {p : Int → Bool} {D : Addr} {i : Nat} {y : Int} (I : LcI (PvF H ns p) D i H') (hy : ns[i]? = some y) (hp : p y = false) (f : Fr [] H' H3) : LcI (PvF H ns p) D (i + 1) H3 := by
  obtain ⟨acc, ⟨F, rfl⟩, h2, h3⟩ := I
  refine ⟨_, ⟨F.trans f, ?_⟩, f.get0 h2, by omega⟩
  rw [take_snoc hy, List.filter_append, List.filter_cons_of_neg (by simp [hp])]
  simp
/-! what the law's own best one lets go -/
def leftStep (rest : List Int) (left : List Int) (x : Int) : List Int := if x ∈ left ∧ 1 < left.length ∧ (left.filter (fun y => decide (y ∈ rest))) ≠ [] then left.filter (fun y => decide (y ≠ x)) else left
def leftAll (rest kept xs : List Int) : List Int := xs.foldl (leftStep rest) (sorts kept)
def nevers (rest kept : List Int) : List Int := (sorts kept).filter fun y => decide (y ∉ rest)
theorem mem_sorts {ns : List Int} {x : Int} : x ∈ sorts ns ↔ x ∈ ns := (sorts_perm ns).mem_iff
theorem never_far {rest kept tl : List Int} {p : Int} (h : nevers rest kept = p :: tl) : far rest kept = p := by
  have hs : (nevers rest kept).Pairwise (· ≤ ·) := (sorts_sorted kept).filter _
  rw [h, List.pairwise_cons] at hs
  have hm : ∀ y, y ∈ nevers rest kept ↔ y ∈ kept ∧ y ∉ rest := fun y => by simp [nevers, List.mem_filter, mem_sorts]
  have hp := (hm p).mp (by rw [h]; simp)
  have ep : rest.idxOf p = rest.length := List.idxOf_eq_length hp.2
  refine far_eq ⟨hp.1, fun x hx => ?_⟩
  by_cases hr : x ∈ rest
  · have := List.idxOf_lt_length_iff.mpr hr
    omega
  · have e2 : rest.idxOf x = rest.length := List.idxOf_eq_length hr
    have hxm := (hm x).mpr ⟨hx, hr⟩
    rw [h] at hxm
    rcases List.mem_cons.mp hxm with e | hxm
    · exact .inr ⟨by omega, by rw [e]; exact Int.le_refl _⟩
    · exact .inr ⟨by omega, hs.1 x hxm⟩
structure LeftOk (rest kept : List Int) (i : Nat) (left : List Int) : Prop where
  nd : left.Nodup
  ne : left ≠ []
  sub : ∀ y ∈ left, y ∈ kept
  one : left.length = 1 ∨ ∀ y ∈ left, y ∉ rest.take i
  gone : ∀ x ∈ kept, x ∉ left → ∀ y ∈ left, rest.idxOf x < rest.idxOf y
theorem left_ok {rest kept : List Int} (hk : kept ≠ []) (nd : kept.Nodup) (hr : ∀ x ∈ kept, x ∈ rest) : ∀ i, i ≤ rest.length → LeftOk rest kept i (leftAll rest kept (rest.take i)) := by
  intro i
  induction i with
  | zero =>
    intro _
    have e : leftAll rest kept (rest.take 0) = sorts kept := by simp [leftAll]
    rw [e]
    refine ⟨(sorts_perm kept).nodup_iff.mpr nd, ?_, fun y hy => mem_sorts.mp hy, .inr fun y _ => by simp, fun x hx hn => absurd (mem_sorts.mpr hx) hn⟩
    intro e
    have := (sorts_perm kept).length_eq
    rw [e] at this
    exact hk (List.eq_nil_of_length_eq_zero this.symm)
  | succ i ih =>
    intro hi
    obtain ⟨x, hx⟩ : ∃ x, rest[i]? = some x := ⟨rest[i], List.getElem?_eq_getElem (by omega)⟩
    have e : leftAll rest kept (rest.take (i + 1)) = leftStep rest (leftAll rest kept (rest.take i)) x := by
      unfold leftAll
      rw [take_snoc hx, List.foldl_append]
      rfl
    rw [e]
    obtain ⟨h1, h2, h3, h4, h5⟩ := ih (by omega)
    generalize leftAll rest kept (rest.take i) = left at *
    unfold leftStep
    split
    · rename_i hc
      obtain ⟨c1, c2, c3⟩ := hc
      have h4' : ∀ y ∈ left, y ∉ rest.take i := h4.resolve_left (by omega)
      have exi : rest.idxOf x = i := by
        have hil : i < rest.length := by omega
        have hxe : rest[i] = x := by
          rw [List.getElem?_eq_getElem hil] at hx
          exact Option.some.inj hx
        have h6 := h4' x c1
        have : rest = rest.take i ++ rest.drop i := (List.take_append_drop i rest).symm
        rw [this, List.idxOf_append]
        rw [if_neg h6, List.length_take, List.drop_eq_getElem_cons hil, hxe, List.idxOf_cons_self]
        omega
      have hmem : ∀ y, y ∈ left.filter (fun y => decide (y ≠ x)) ↔ y ∈ left ∧ y ≠ x := fun y => by simp [List.mem_filter]
      have far_after : ∀ y ∈ left, y ≠ x → i < rest.idxOf y := by
        intro y hy hne
        refine Nat.lt_of_not_le fun hle => ?_
        have hyr := hr y (h3 y hy)
        have hlt := List.idxOf_lt_length_iff.mpr hyr
        have hge : rest[rest.idxOf y] = y := List.getElem_idxOf hlt
        rcases Nat.lt_or_eq_of_le hle with hlt2 | heq
        · refine h4' y hy (List.mem_take_iff_getElem.mpr ⟨rest.idxOf y, by omega, hge⟩)
        · have : rest[i]? = some y := by rw [← heq, List.getElem?_eq_getElem hlt, hge]
          rw [hx] at this
          exact hne (Option.some.inj this).symm
      refine ⟨h1.filter _, ?_, fun y hy => h3 y ((hmem y).mp hy).1, .inr fun y hy => ?_, fun z hz hzn y hy => ?_⟩
      · intro e0
        match left, c1, c2, h1, e0 with
        | [a], _, c2, _, _ => simp at c2
        | a :: b :: r, c1, _, h1, e0 =>
          have hab : a ≠ b := by
            rw [List.nodup_cons] at h1
            intro e
            exact h1.1 (by rw [e]; simp)
          have ha : a ∉ (a :: b :: r).filter (fun y => decide (y ≠ x)) := by rw [e0]; simp
          have hb : b ∉ (a :: b :: r).filter (fun y => decide (y ≠ x)) := by rw [e0]; simp
          simp [List.mem_filter] at ha hb
          exact hab (ha.trans hb.symm)
      · obtain ⟨hy1, hy2⟩ := (hmem y).mp hy
        intro hm
        obtain ⟨j, hj, he⟩ := List.mem_take_iff_getElem.mp hm
        have hl := far_after y hy1 hy2
        have : rest.idxOf y ≤ j := by
          refine Nat.le_of_not_lt fun hlt => ?_
          have := List.not_of_lt_findIdx (p := (· == y)) (xs := rest) (i := j) hlt
          simp [he] at this
        omega
      · obtain ⟨hy1, hy2⟩ := (hmem y).mp hy
        by_cases hzl : z ∈ left
        · have hzx : z = x := by
            refine Classical.byContradiction fun hne => hzn ((hmem z).mpr ⟨hzl, hne⟩)
          rw [hzx, exi]
          exact far_after y hy1 hy2
        · exact h5 z hz hzl y hy1
    · rename_i hc
      refine ⟨h1, h2, h3, ?_, h5⟩
      by_cases hl : left.length = 1
      · exact .inl hl
      · refine .inr fun y hy hm => ?_
        have h4' := h4.resolve_left hl
        rw [take_snoc hx] at hm
        rcases List.mem_append.mp hm with hm | hm
        · exact h4' y hy hm
        · simp at hm
          subst hm
          refine hc ⟨hy, ?_, ?_⟩
          · have : 0 < left.length := List.length_pos_iff.mpr h2
            omega
          · exact List.ne_nil_of_mem (List.mem_filter.mpr ⟨hy, by simpa using hr _ (h3 _ hy)⟩)
theorem left_far {rest kept : List Int} (hk : kept ≠ []) (nd : kept.Nodup) (h : nevers rest kept = []) : leftAll rest kept rest = [far rest kept] := by
  have hr : ∀ x ∈ kept, x ∈ rest := by
    intro x hx
    refine Classical.byContradiction fun hn => ?_
    have : x ∈ nevers rest kept := by simp [nevers, List.mem_filter, mem_sorts, hx, hn]
    rw [h] at this
    cases this
  have ok := left_ok hk nd hr rest.length (Nat.le_refl _)
  rw [List.take_length] at ok
  obtain ⟨h1, h2, h3, h4, h5⟩ := ok
  generalize leftAll rest kept rest = left at *
  have hl : left.length = 1 := by
    rcases h4 with h | h
    · exact h
    · match left, h2 with
      | y :: r, _ => exact absurd (by rw [List.take_length]; exact hr y (h3 y (by simp))) (h y (by simp))
  match left, hl with
  | [y], _ =>
    rw [far_eq (y := y) ⟨h3 y (by simp), fun x hx => ?_⟩]
    by_cases hxy : x = y
    · exact .inr ⟨by rw [hxy], by rw [hxy]; exact Int.le_refl _⟩
    · exact .inl (h5 x hx (by simpa using hxy) y (by simp))
end Cw
namespace Cw
open PySem L2
theorem leftAll_len (rest kept : List Int) : ∀ xs, (leftAll rest kept xs).length ≤ kept.length := by
  refine list_snoc_ind (by unfold leftAll; rw [List.foldl_nil, (sorts_perm kept).length_eq]; exact Nat.le_refl _) ?_
  intro l x ih
  have e : leftAll rest kept (l ++ [x]) = leftStep rest (leftAll rest kept l) x := by unfold leftAll; rw [List.foldl_append]; rfl
  rw [e]
  unfold leftStep
  split
  · exact Nat.le_trans (List.length_filter_le _ _) ih
  · exact ih
theorem leftAll_snoc {rest kept : List Int} {i : Nat} {x : Int} (h : rest[i]? = some x) : leftAll rest kept (rest.take (i + 1)) = leftStep rest (leftAll rest kept (rest.take i)) x := by
  rw [take_snoc h]; unfold leftAll; rw [List.foldl_append]; rfl
theorem sorts_len (ns : List Int) : (sorts ns).length = ns.length := (sorts_perm ns).length_eq
end Cw
namespace Cw
theorem if_merge {b : Bool} {A B : Prop} (C : Prop) (h1 : b = true → C → A) (h2 : b = false → C → B) (h : C) : if b = true then A else B := by
  cases b
  · exact h2 rfl h
  · exact h1 rfl h
end Cw
namespace Cw
open PySem L2
theorem fits_twoT {k : Nat} {a b : PyData} (ha : fits k a) (hb : fits k b) : fits (k + 1) (.tuple [a, b]) := by
  refine ⟨by show 2 ≤ 100000; omega, fun y hy => ?_⟩
  rcases List.mem_cons.mp hy with h | h
  · subst h; exact ha
  · rw [List.mem_singleton.mp h]; exact hb
end Cw

namespace Cw
open PySem L2
/-! set(l) of whole numbers, sorted of it, at any length -/
section
open PySem.Spec PyProof.Rows
variable {P : Program} {w : World} {A : Around} {E : Value → Shared → Prop} {s : Shared}
/-- the fresh set as the model lays it -/
abbrev emptySet (w : World) : Obj := { cls := .type "set", dict := none, data := .set #[] 0 (.fresh 0 0 (!w.params.followText "set-order")) }
/-- what set.__init__ leaves -/
def Filled (P : Program) (w : World) (s : Shared) (ns : List Int) (s₂ : Shared) : Prop :=
  ∃ h' tk c, s₂ = { s with heap := h', toks := tk } ∧ SetR w h' s.heap.objs.size (fun j => decide (j ∈ ns)) c ∧ c ≤ ns.length ∧ ∀ b o, s.heap.get? b = some o → h'.get? b = some o
theorem fill_list {l : Addr} {items : Array Value} {ns : List Int} {A' : Around} (hh : A'.handled = none) (hl : s.heap.IsList l items) (hit : IntsAre items.toList ns) (hb : ns.length + 1 < scanBound) :
    wpAny (model P w) A' (Builtin.«set.__init__» ⟨[.ref s.heap.objs.size, .ref l], []⟩) (fun r s₂ => r = .done (.ret .none) ∧ Filled P w s ns s₂) E { s with heap := s.heap.push (emptySet w) } := by
  have hisz : items.size = ns.length := by
    have q := IntsAre.length hit
    rwa [Array.length_toList] at q
  obtain ⟨⟨ocls, odict, odata, oslots⟩, hol, hcl, nl, hdl⟩ := hl
  simp only at hcl hdl
  subst hcl hdl
  have hS : (s.heap.push (emptySet w)).get? s.heap.objs.size = some (emptySet w) := Heap.get?_push_size _ rfl
  have hol' : (s.heap.push (emptySet w)).get? l = some { cls := .type "list", dict := odict, data := .seq items nl, slots := oslots } := Heap.get?_push_of_some _ hol
  have hl1 : (s.heap.push (emptySet w)).IsList l items := ⟨_, hol', rfl, nl, rfl⟩
  have hT : Shared.TypeIs { s with heap := s.heap.push (emptySet w) } (.ref s.heap.objs.size) "set" := ⟨_, hS, rfl⟩
  have hsls := F.sub_list_set
  have hslf := F.sub_list_frozenset
  have hne : (Value.type "list" == Value.type "dict") = false := by decide
  have hlS : l < s.heap.objs.size := Heap.lt_size hol
  unfold Builtin.«set.__init__» noKeywords Builtin.Frozenset.updateFrom
  generalize hPI : pyIter = PI
  wp_walk
  subst hPI
  refine wpAny_pyIter_list hl1 (wpAny_bind (wpAny_runValue ?_))
  have hneI : l ≠ (s.heap.push (emptySet w)).objs.size := by rw [Heap.size_push]; exact Nat.ne_of_lt (Nat.lt_succ_of_lt hlS)
  have hSf : s.heap.objs.size ∉ [(s.heap.push (emptySet w)).objs.size, l] := by
    rw [Heap.size_push]
    intro m
    rcases List.mem_cons.mp m with m | m
    · exact Nat.ne_of_lt (Nat.lt_succ_self _) m
    · exact Nat.ne_of_gt hlS (List.mem_singleton.mp m)
  have hval : ∀ (i : Nat) (v : Value), items[i]? = some v → ∃ k t, ns[i]? = some k ∧ v = .int k t := fun i v hv => by
    have hi : i < ns.length := by rw [← hisz]; exact (Array.getElem?_eq_some_iff.mp hv).1
    obtain ⟨t, e⟩ := IntsAre.int_at hit i v (by rw [Array.getElem?_toList]; exact hv)
    refine ⟨ns[i], t, List.getElem?_eq_getElem hi, ?_⟩
    rw [e, List.getD_eq_getElem?_getD, List.getElem?_eq_getElem hi]
    rfl
  refine set_update_ints ((Walks.list (by simp [hh]) _ l hneI items).toS) s.heap.objs.size hSf ns hisz hb hval (items.size - 0) 0 _ (by omega) (Nat.zero_le _) ⟨⟨_, Heap.get?_push_size _ rfl, rfl, rfl⟩, hl1.push _⟩
    ⟨0, Nat.le_refl 0, setR_new_at (Heap.get?_push_of_some _ hS)⟩ ?_
  intro s' c' hm hc' hS'
  obtain ⟨h', g2, d', tk', os'⟩ := s'
  have eg : g2 = s.gens := hm.gens
  have ed : d' = s.drawn := hm.drawn
  have eo : os' = s.os := hm.os
  subst eg ed eo
  refine wpAny_pure ?_
  show wpAny _ _ (ret Value.none) _ _ _
  refine wpAny_pure ⟨rfl, h', tk', c', rfl, hS', by omega, fun b o e => ?_⟩
  have hb0 := Heap.lt_size e
  refine hm.heap b o ?_ (Heap.get?_push_of_some _ (Heap.get?_push_of_some _ e))
  rw [Heap.size_push]
  intro m
  rcases List.mem_cons.mp m with m | m
  · exact Nat.ne_of_lt hb0 m
  · exact Nat.ne_of_lt (Nat.lt_succ_of_lt hb0) (List.mem_singleton.mp m)
end
end Cw
namespace Cw
open PySem L2
section
open PySem.Spec PyProof.Rows
variable {P : Program} {w : World} {A : Around} {E : Value → Shared → Prop} {s : Shared}
theorem call_set_listR {l : Addr} {items : Array Value} {ns : List Int} {Q : Value → Shared → Prop} (hh : A.handled = none) (hl : s.heap.IsList l items) (hit : IntsAre items.toList ns) (hb : ns.length + 1 < scanBound)
    (h : ∀ s₂, Filled P w s ns s₂ → Q (.ref s.heap.objs.size) s₂) : wpAny (model P w) A (call (.type "set") [.ref l]) Q E s := by
  obtain ⟨c, tl, hmro⟩ := F.called_set.mro
  have hmade := F.called_set.made
  have hsub := F.called_set.sub
  refine wpAny_call (codeAny_of_tree ?_)
  show wpAny _ _ (callAny (.type "set") _) _ _ _
  refine wpAny_pure ⟨Code.quiet_builtin _ (by decide +kernel), codeAny_builtin F.entry_type_call ?_⟩
  rw [Around.under_plain (weight_type_call_type "set" [.ref l] []) rfl]
  have h1 := F.called_set.notType
  have h2 := F.called_set.canCreate
  have hct := F.typeCall_set_1 (.ref l)
  repeat (any_goals (first | assumption | wp_step))
  refine codeAny_mono (code_set_led1 (.ref l) (E := E) (Q₁ := fun v s₁ => v = .ref s.heap.objs.size ∧ s₁ = { s with heap := s.heap.push (emptySet w) }) ⟨rfl, rfl⟩) fun r s₁ hr => ?_
  rcases r with _ | fl
  · exact hr
  cases fl with
  | ret obj =>
    obtain ⟨rfl, rfl⟩ := hr
    have hT : Shared.TypeIs { s with heap := s.heap.push (emptySet w) } (.ref s.heap.objs.size) "set" := ⟨_, Heap.get?_push_size _ rfl, rfl⟩
    have hli := F.called_set.init.lookup
    have hbi := F.called_set.init.bind (.ref s.heap.objs.size)
    repeat (any_goals (first | assumption | wp_step))
    refine codeAny_mono (codeAny_call_builtin (R := wants (fun r s₂ => r = .none ∧ Filled P w s ns s₂) E) F.called_set.init.plain F.entry_set_init (check_set_init_1 hT ?_)) fun r₂ s₂ hr₂ => ?_
    · refine wpAny_mono (fill_list (E := E) (by simp [hh]) hl hit hb) ?_ ?_
      · rintro r s2 ⟨rfl, hf⟩
        exact ⟨rfl, hf⟩
      · intro e s2 he
        exact he
    · rcases r₂ with _ | fl₂
      · exact hr₂
      cases fl₂ with
      | ret r =>
        obtain ⟨rfl, hf⟩ := hr₂
        repeat (any_goals (first | assumption | wp_step))
        exact h _ hf
      | _ => exact hr₂.elim
  | _ => exact hr.elim
end
end Cw
namespace Cw
open PySem L2
section
open PySem.Spec PyProof.Rows
variable {P : Program} {w : World} {A : Around} {E : Value → Shared → Prop} {s : Shared}
/-- sorted of a set of whole numbers, any size -/
theorem sorted_setAny {a : Addr} {S : Int → Bool} {n : Nat} {Q : Value → Shared → Prop} (R : SetR w s.heap a S n) (hh : A.handled = none) (hz : n ≤ sizeLine)
    (hQ : ∀ s' p (out : Array Value) (c : Nat) (ns : List Int), (∀ b o, s.heap.get? b = some o → s'.heap.get? b = some o) → s'.gens = s.gens → s'.os = s.os → s.heap.objs.size ≤ p →
      s'.heap.get? p = some (seqObj "list" out c) → IntsAre out.toList ns → ns.Pairwise (· < ·) → (∀ k, k ∈ ns ↔ S k = true) → ns.length = n → Q (.ref p) s') :
    wpAny (model P w) A (call (.builtin "sorted") [.ref a]) Q E s := by
  obtain ⟨o, es, ep, t, ho, hex, hd, g, nd, hm, hb, hf, hn, hr, hl⟩ := R
  refine Calls.call_function_entry kind_sorted plain_sorted entry_sorted (args_sorted1 _) ?_
  unfold Builtin.«sorted»
  refine wpAny_bind (m := checkCount "sorted" 1 1 _) (wpAny_pure ?_)
  refine wpAny_bind (collect_set (A := A.in1) hh ⟨o, ho, hex.1, hd⟩ hf hb hr hl fun s1 vs k1 h1 g1 o1 pm => ?_)
  have hvl : vs.length = n := by rw [pm.length_eq, List.length_map, Array.length_toList]; exact hn
  have hI : IntsAre vs (vs.map Builtin.Re.reRawOf) := ints_of vs fun v hv => by
    obtain ⟨e, he, q⟩ := List.mem_map.mp (pm.mem_iff.mp hv)
    obtain ⟨k, tk, h2, _⟩ := g e he
    exact ⟨k, tk, by rw [← q]; exact h2⟩
  have pk : (vs.map Builtin.Re.reRawOf).Perm (es.toList.map keyOf) := by
    have q := pm.map Builtin.Re.reRawOf
    rwa [List.map_map] at q
  refine wpAny_bind (wpAny_newList ?_ (by rw [hvl]; exact hz))
  have hoL : (s1.heap.push (seqObj "list" vs.toArray 0)).get? s1.heap.objs.size = some (seqObj "list" vs.toArray 0) := Heap.get?_push_size _ rfl
  refine wpAny_bind (wpAny_holding (wpAny_call_entry slot_list_sort ⟨_, hoL, rfl⟩ entry_list_sort (list_sort_treeAny hoL hI (by rw [hvl]; exact hz) fun out ns' a1 a2 a3 => ⟨_, rfl, ?_⟩) (args_list_sort _)))
  obtain ⟨c, hc⟩ := sortedHeap_at (vs := vs) (out := out) hoL
  have pn := a2.trans pk
  refine wpAny_pure ⟨_, rfl, hQ _ s1.heap.objs.size out c ns' (fun b u e => ?_) g1 o1 h1 hc a1 (lt_of_le_nodup ns' a3 (pn.nodup_iff.mpr nd)) (fun k => by rw [pn.mem_iff, ← hm k]) ?_⟩
  · have q := k1 b u e
    have hlt := Heap.lt_size q
    show (sortedHeap (s1.heap.push (seqObj "list" vs.toArray 0)) s1.heap.objs.size vs out).get? b = some u
    rw [sortedHeap_old (Nat.ne_of_lt hlt) (by rw [size_push']; exact Nat.lt_succ_of_lt hlt)]
    exact Heap.get?_push_of_some _ q
  · rw [pn.length_eq, List.length_map, Array.length_toList]; exact hn
variable {X : Cx}
def rSetL (K : PySem.W.Frag) (w : World) : List V → Hp → VK → Prop := fun vs H Q => ∃ (l : Addr) (ns : List Int), vs = [.ref l] ∧ SqL K H l (ns.map V.int) ∧ ns.length ≤ 4000 ∧
  ∀ p c, H p = none → c ≤ ns.length → Q (.ref p) (upd H p (SetO w p (fun j => decide (j ∈ ns)) c))
theorem cr_setL (hc : X.calm = true) : CallR X (.type "set") (rSetL X.K X.w) := by
  intro pins s σ H vs us Q I r h
  obtain ⟨l, ns, rfl, hs, hl, q⟩ := h
  obtain ⟨its, rv, hp, _⟩ := I.list hs
  rw [Vals.ref1 r]
  refine call_set_listR (P := X.prog) (w := X.w) (I.ok.hd hc) hp.isList (by simpa using RZ.intsAre_vals rv) (by unfold scanBound; omega) ?_
  rintro s2 ⟨h', tk, c, rfl, hR, hcl, hk⟩
  have hn : H s.heap.objs.size = none := I.hok.fresh (Nat.le_refl _)
  exact ⟨.ref _, _, I.laid hk (Nat.le_refl _) (setO_new hR), rfl, q _ c hn hcl⟩
def rSortSet (w : World) : List V → Hp → VK → Prop := fun vs H Q => ∃ (a : Addr) (S : Int → Bool) (n : Nat), vs = [V.ref a] ∧ H a = some (SetO w a S n) ∧ n ≤ 100000 ∧
  ∀ (ns : List Int) (p : Addr), ns.Pairwise (· < ·) → (∀ k : Int, k ∈ ns ↔ S k = true) → H p = none → Q (.ref p) (upd H p (.lst (ns.map V.int)))
theorem cr_sortSet (hc : X.calm = true) : CallR X (.builtin "sorted") (rSortSet X.w) := by
  intro pins s σ H vs us Q I r h
  obtain ⟨a, S, n, rfl, ha, hz, q⟩ := h
  rw [Vals.ref1 r]
  refine sorted_setAny (setO_get I ha) (I.ok.hd hc) (sz_le hz) fun s' p out c ns k g o hp hg hi hs hm hl => ?_
  have hlen : (ns.map V.int).length ≤ sizeLine := by rw [List.length_map, hl]; exact sz_le hz
  have hn : H p = none := I.hok.fresh hp
  have J : Inv X pins σ (upd H p (.lst (ns.map V.int))) { s with heap := s'.heap, gens := s'.gens, drawn := s'.drawn, toks := s'.toks } :=
    I.call (ch := []) (Un.laid k hp hn) (I.hok.laid k hp ⟨hlen, out.toList, c, vals_of_ints hi, hg⟩) (by rw [g]; exact I.bare) (fun _ z => nomatch z)
  have e : s' = { s with heap := s'.heap, gens := s'.gens, drawn := s'.drawn, toks := s'.toks } := by
    cases s'
    cases o
    rfl
  rw [e]
  exact ⟨.ref p, _, J, rfl, q ns p hs hm hn⟩
theorem kSetL {X : Cx} (K : PySem.W.Frag) (w : World) (h : X.K = K) (hw : X.w = w) (hc : X.calm = true) : CallR X (.type "set") (rSetL K w) := h ▸ hw ▸ cr_setL hc
theorem kSortSet {X : Cx} (w : World) (hw : X.w = w) (hc : X.calm = true) : CallR X (.builtin "sorted") (rSortSet w) := hw ▸ cr_sortSet hc
def uniq (ns : List Int) : List Int := sorts (firsts ns)
theorem lt_sorted {ns : List Int} (h : ns.Pairwise (· < ·)) : ns.Pairwise (· ≤ ·) ∧ ns.Nodup := ⟨h.imp fun h => by omega, h.imp fun h => by omega⟩
theorem sorted_lt_uniq {xs ys : List Int} (h1 : xs.Pairwise (· < ·)) (h2 : ys.Pairwise (· < ·)) (h : ∀ k, k ∈ xs ↔ k ∈ ys) : xs = ys :=
  sorted_uniq ((List.perm_ext_iff_of_nodup (lt_sorted h1).2 (lt_sorted h2).2).mpr h) (lt_sorted h1).1 (lt_sorted h2).1
theorem uniq_spec (ns : List Int) : (uniq ns).Pairwise (· < ·) ∧ ∀ k, k ∈ uniq ns ↔ k ∈ ns := by
  have nd : (uniq ns).Nodup := (sorts_perm _).nodup_iff.mpr (firsts_facts ns).1
  refine ⟨lt_of_le_nodup _ (sorts_sorted _) nd, fun k => ?_⟩
  rw [show (k ∈ uniq ns ↔ k ∈ firsts ns) from mem_sorts]
  exact (firsts_facts ns).2 k
theorem uniq_lt {ns : List Int} (h : ns.Pairwise (· < ·)) : uniq ns = ns := sorted_lt_uniq (uniq_spec ns).1 h (uniq_spec ns).2
theorem w_setOf {K : PySem.W.Frag} {w : World} {H : Hp} {Q : VK} {l : Addr} {ns : List Int} (h : SqL K H l (ns.map V.int)) (hl : ns.length ≤ 4000) (q : ∀ p, H p = none → ∀ c, c ≤ ns.length → Q (.ref p) (upd H p (SetO w p (fun j => decide (j ∈ ns)) c))) : rSetL K w [.ref l] H Q :=
  ⟨l, ns, rfl, h, hl, fun p c hp hc => q p hp c hc⟩
theorem w_sortSet {w : World} {H : Hp} {Q : VK} {a : Addr} {ns : List Int} {n : Nat} (h : H a = some (SetO w a (fun j => decide (j ∈ ns)) n)) (hn : n ≤ 100000) (q : ∀ p, H p = none → Q (.ref p) (upd H p (.lst ((uniq ns).map V.int)))) : rSortSet w [.ref a] H Q :=
  ⟨a, _, n, rfl, h, hn, fun ns' p h1 h2 hp => by
    have e : ns' = uniq ns := sorted_lt_uniq h1 (uniq_spec ns).1 fun k => by rw [h2 k, (uniq_spec ns).2 k]; simp
    rw [e]
    exact q p hp⟩
end
end Cw
namespace Cw
open PySem L2
/-! dicts with keys that are whole numbers -/
section
variable {H : Hp} {σ : L2.St} {Q : VK}
theorem w_dnewK (q : ∀ p, H p = none → Q (.ref p) (upd H p (.dK []))) : tDNewK σ H Q := q
theorem w_dIn {ty td : TE} (h : ty σ H fun y H1 => td σ H1 fun x H2 => ∃ a o, x = .ref a ∧ DGet H2 a y o ∧ Q (.bl o.isSome) H2) : tDIn ty td σ H Q := h
theorem w_dInI {d : Addr} {kvs : List (Key × V)} {z : Int} {P : Option V → Prop} (h : H d = some (.dK kvs)) (q : P (valV kvs (.inl z))) : ∃ a o, V.ref d = .ref a ∧ DGet H a (.int z) o ∧ P o :=
  ⟨d, _, rfl, DGet.k (k := Sum.inl z) h, q⟩
theorem w_dgetI {d : Addr} {kvs : List (Key × V)} {z : Int} {v : V} {P : V → Prop} (h : H d = some (.dK kvs)) (hv : valV kvs (.inl z) = some v) (q : P v) : ∃ a v, V.ref d = .ref a ∧ DGet H a (.int z) (some v) ∧ P v :=
  ⟨d, v, rfl, by rw [← hv]; exact DGet.k (k := Sum.inl z) h, q⟩
theorem w_dputI {d : Addr} {kvs : List (Key × V)} {z : Int} {v : V} {N : Hp → Prop} (h : H d = some (.dK kvs)) (hl : kvs.length < sizeLine) (q : N (upd H d (.dK (putK kvs (.inl z) v)))) : ∃ a H4, V.ref d = .ref a ∧ DPut H a (.int z) v H4 ∧ N H4 :=
  ⟨d, _, rfl, DPut.k (k := Sum.inl z) h hl, q⟩
end
/-! spells -/
def lastAt (ns : List Int) (x : Int) : Option Nat := ((List.range ns.length).filter fun i => decide (ns[i]? = some x)).getLast?
theorem lastAt_snoc (ns : List Int) (y x : Int) : lastAt (ns ++ [y]) x = if y = x then some ns.length else lastAt ns x := by
  unfold lastAt
  rw [List.length_append, List.length_singleton, List.range_succ, List.filter_append]
  have e : (List.range ns.length).filter (fun i => decide ((ns ++ [y])[i]? = some x)) = (List.range ns.length).filter (fun i => decide (ns[i]? = some x)) := by
    refine List.filter_congr fun i hi => ?_
    rw [List.mem_range] at hi
    rw [List.getElem?_append_left hi]
  rw [e]
  by_cases h : y = x
  · subst h
    rw [if_pos rfl, List.filter_cons_of_pos (by simp)]
    simp
  · rw [if_neg h, List.filter_cons_of_neg (by simp [h])]
    simp
theorem lastAt_lt {ns : List Int} {x : Int} {j : Nat} (h : lastAt ns x = some j) : j < ns.length ∧ ns[j]? = some x := by
  have := List.mem_of_getLast? h
  rw [List.mem_filter, List.mem_range] at this
  exact ⟨this.1, by simpa using this.2⟩
def spellAt (ns : List Int) (e : Nat) : List (Int × Int) := match lastAt (ns.take e) (ns.getD e 0) with
  | none => []
  | some b => [((b : Int), (e : Int))]
def spellsTo (ns : List Int) (i : Nat) : List (Int × Int) := (List.range i).flatMap (spellAt ns)
theorem spellsTo_succ (ns : List Int) (i : Nat) : spellsTo ns (i + 1) = spellsTo ns i ++ spellAt ns i := by
  unfold spellsTo
  rw [List.range_succ, List.flatMap_append]
  simp
theorem spellAt_len (ns : List Int) (e : Nat) : (spellAt ns e).length ≤ 1 := by
  unfold spellAt
  split <;> simp
theorem spellsTo_len (ns : List Int) : ∀ i, (spellsTo ns i).length ≤ i
  | 0 => by simp [spellsTo]
  | i + 1 => by
    have := spellsTo_len ns i
    have := spellAt_len ns i
    rw [spellsTo_succ, List.length_append]
    omega
def spellsM (ns : List Int) : List (Int × Int) := spellsTo ns ns.length
theorem spellsTo_mem {ns : List Int} {i : Nat} {e : Int × Int} (h : e ∈ spellsTo ns i) : 0 ≤ e.1 ∧ e.1 < e.2 ∧ e.2 < (i : Int) := by
  unfold spellsTo at h
  rw [List.mem_flatMap] at h
  obtain ⟨k, hk, h⟩ := h
  rw [List.mem_range] at hk
  unfold spellAt at h
  split at h
  · simp at h
  · rename_i b hb
    have := (lastAt_lt hb).1
    rw [List.length_take] at this
    simp at h
    subst h
    refine ⟨by simp, by simp; omega, by simp; omega⟩
/-- no paper's place stands within -/
def isFree (places : List Int) (e : Int × Int) : Bool := decide (places.filter (fun p => decide (e.1 < p ∧ p < e.2)) = [])
def shownM (rooms : Int) (row places : List Int) : Int := (row.length : Int) - (((spellsM row).filter (isFree places)).length : Int) - (rooms - 1) * (places.length : Int)
end Cw
namespace Cw
open PySem L2
theorem PairsAt.upD {H H' : Hp} {xs : List V} {ps : List (Int × Int)} {p : Addr} {o : HO} {kvs : List (Key × V)} (h : PairsAt H H' xs ps) (hp : H' p = some (.dK kvs)) : PairsAt H (upd H' p o) xs ps := ⟨h.1, fun i e he => by
  obtain ⟨t, h1, h2, h3⟩ := h.2 i e he
  refine ⟨t, h1, h2, (upd_ne fun e => ?_).trans h3⟩
  rw [e, hp] at h3
  cases h3⟩
end Cw
namespace Cw
theorem ite_some {α : Type} {x : α} {A B : Prop} (h : A) : if (some x).isSome = true then A else B := h
theorem ite_none {α : Type} {A B : Prop} (h : B) : if (none : Option α).isSome = true then A else B := by rw [if_neg (by simp)]; exact h
end Cw
namespace Cw
/-- a paper: places in rising order, within the row -/
def PapOk (ns ps : List Int) : Prop := ps.Pairwise (· < ·) ∧ ∀ x ∈ ps, 0 ≤ x ∧ x < (ns.length : Int)
theorem rising_len : ∀ (ps : List Int) (lo hi : Int), ps.Pairwise (· < ·) → (∀ x ∈ ps, lo ≤ x ∧ x < hi) → lo ≤ hi → (ps.length : Int) ≤ hi - lo
  | [], lo, hi, _, _, h => by simp; omega
  | x :: r, lo, hi, h1, h2, h => by
    rw [List.pairwise_cons] at h1
    have hx := h2 x (by simp)
    have := rising_len r (x + 1) hi h1.2 (fun y hy => ⟨by have := h1.1 y hy; omega, (h2 y (List.mem_cons_of_mem _ hy)).2⟩) (by omega)
    rw [List.length_cons]
    omega
theorem PapOk.len {ns ps : List Int} (h : PapOk ns ps) (hl : ns.length ≤ 100) : ps.length ≤ 100 := by
  have := rising_len ps 0 ns.length h.1 h.2 (by omega)
  omega
end Cw
namespace Cw
open PySem L2
def lastL {α : Type} (xs : List α) : List α := xs.drop (xs.length - 1)
theorem lastL_eq {α : Type} (xs : List α) : lastL xs = match xs.getLast? with
    | none => []
    | some b => [b] := by
  unfold lastL
  rcases List.eq_nil_or_concat xs with rfl | ⟨ys, y, rfl⟩
  · rfl
  · rw [List.concat_eq_append, List.getLast?_concat, List.length_append, List.length_singleton, Nat.add_sub_cancel, List.drop_left]
theorem w_slLast {K : PySem.W.Frag} {H : Hp} {Q : VK} {a : Addr} {ns : List Int} (h : SqL K H a (ns.map V.int)) (q : ∀ p, H p = none → Q (.ref p) (upd H p (.lst ((lastL ns).map V.int)))) : rSlL K (.ref a) (some (-1)) none H Q :=
  w_slL h fun p hp => by
    rw [cut_last _ (n := 1) (by decide), List.length_map, ← List.map_drop]
    exact q p hp
/-- the earlier places that ask what place e asks -/
def begL (ns : List Int) (e j : Nat) : List Int := ((List.range j).filter (fun i => decide (ns[i]? = ns[e]?))).map fun i : Nat => (i : Int)
theorem begL_succ (ns : List Int) (e j : Nat) : begL ns e (j + 1) = begL ns e j ++ (if ns[j]? = ns[e]? then [(j : Int)] else []) := by
  unfold begL
  rw [List.range_succ, List.filter_append, List.map_append]
  congr 1
  by_cases h : ns[j]? = ns[e]?
  · rw [if_pos h, List.filter_cons_of_pos (by simpa using h)]; rfl
  · rw [if_neg h, List.filter_cons_of_neg (by simpa using h)]; rfl
theorem begL_len (ns : List Int) (e j : Nat) : (begL ns e j).length ≤ j := by
  unfold begL
  rw [List.length_map]
  have := List.length_filter_le (fun i => decide (ns[i]? = ns[e]?)) (List.range j)
  rwa [List.length_range] at this
theorem begL_last {ns : List Int} {e : Nat} {x : Int} (h : ns[e]? = some x) : lastL (begL ns e e) = match lastAt (ns.take e) x with
    | none => []
    | some b => [(b : Int)] := by
  have hl := (List.getElem?_eq_some_iff.mp h).1
  have e1 : lastAt (ns.take e) x = ((List.range e).filter (fun i => decide (ns[i]? = ns[e]?))).getLast? := by
    unfold lastAt
    rw [List.length_take, Nat.min_eq_left (by omega)]
    congr 1
    refine List.filter_congr fun i hi => ?_
    rw [List.mem_range] at hi
    rw [List.getElem?_take, if_pos hi, h]
  rw [lastL_eq, e1]
  unfold begL
  rw [List.getLast?_map]
  cases ((List.range e).filter (fun i => decide (ns[i]? = ns[e]?))).getLast? <;> rfl
theorem spellAt_eq {ns : List Int} {e : Nat} {x : Int} (h : ns[e]? = some x) : spellAt ns e = (lastL (begL ns e e)).map fun b => (b, (e : Int)) := by
  rw [begL_last h]
  unfold spellAt
  rw [List.getD_eq_getElem?_getD, h]
  show (match lastAt (ns.take e) x with | none => [] | some b => [((b : Int), (e : Int))]) = _
  cases lastAt (ns.take e) x <;> rfl
end Cw
namespace Cw
open PySem L2
theorem PairsAt.append {H H' : Hp} {xs ys : List V} {ps qs : List (Int × Int)} (h : PairsAt H H' xs ps) (h2 : PairsAt H H' ys qs) : PairsAt H H' (xs ++ ys) (ps ++ qs) := ⟨by simp [h.1, h2.1], fun i e he => by
  rcases Nat.lt_or_ge i ps.length with l | l
  · rw [List.getElem?_append_left l] at he
    rw [List.getElem?_append_left (by rw [h.1]; exact l)]
    exact h.2 i e he
  · rw [List.getElem?_append_right l] at he
    rw [List.getElem?_append_right (by rw [h.1]; exact l), h.1]
    exact h2.2 _ e he⟩
/-- places drawn in rising order -/
theorem pap_snoc {ps : List Int} {i : Nat} (h : ps.Pairwise (· < ·)) (hm : ∀ x ∈ ps, 0 ≤ x ∧ x < (i : Int)) : (ps ++ [(i : Int)]).Pairwise (· < ·) ∧ ∀ x ∈ ps ++ [(i : Int)], 0 ≤ x ∧ x < ((i + 1 : Nat) : Int) := by
  constructor
  · rw [List.pairwise_append]
    refine ⟨h, List.pairwise_singleton _ _, fun x hx y hy => ?_⟩
    rw [List.mem_singleton.mp hy]
    exact (hm x hx).2
  · intro x hx
    rcases List.mem_append.mp hx with hx | hx
    · have := hm x hx
      omega
    · rw [List.mem_singleton.mp hx]
      omega
end Cw
namespace Cw
open PySem L2
theorem Box.up {H : Hp} {b q D : Addr} {o : HO} (h : Box H b q) (nD : D ∉ [b, q]) : Box (upd H D o) b q :=
  h.keep (W := [D]) (Fr.at (List.mem_singleton.mpr rfl)) (fun m => nD (by rw [List.mem_singleton.mp m]; simp)) (fun m => nD (by rw [List.mem_singleton.mp m]; simp))
end Cw

namespace Cw
open PySem L2
/-! the text by places -/
def top (i : Nat) : Stmt := PySem.Challenge.pw_clockhand_k07_papers_read.main.body.getD i (.Pass ⟨0, 0, 0, 0⟩)
abbrev s_need_rooms : Stmt := top 8
abbrev N_need_rooms : List Str := ["rooms"]
theorem sc_need_rooms : FnScope N_need_rooms ["rooms"] (defScope s_need_rooms) := ⟨rfl, rfl, rfl, by decide +kernel, rfl, by decide +kernel, by decide +kernel⟩
abbrev s_is_page : Stmt := top 9
abbrev N_is_page : List Str := ["page"]
theorem sc_is_page : FnScope N_is_page ["page"] (defScope s_is_page) := ⟨rfl, rfl, rfl, by decide +kernel, rfl, by decide +kernel, by decide +kernel⟩
abbrev s_need_row : Stmt := top 10
abbrev N_need_row : List Str := ["row", "place", "page"]
theorem sc_need_row : FnScope N_need_row ["row"] (defScope s_need_row) := ⟨rfl, rfl, rfl, by decide +kernel, rfl, by decide +kernel, by decide +kernel⟩
abbrev s_need_both : Stmt := top 11
abbrev N_need_both : List Str := ["rooms", "row"]
theorem sc_need_both : FnScope N_need_both ["rooms", "row"] (defScope s_need_both) := ⟨rfl, rfl, rfl, by decide +kernel, rfl, by decide +kernel, by decide +kernel⟩
abbrev s_spells_of : Stmt := top 13
abbrev N_spells_of : List Str := ["row", "last", "found", "place", "page"]
theorem sc_spells_of : FnScope N_spells_of ["row"] (defScope s_spells_of) := ⟨rfl, rfl, rfl, by decide +kernel, rfl, by decide +kernel, by decide +kernel⟩
abbrev s_shown_by : Stmt := top 14
abbrev N_shown_by : List Str := ["rooms", "row", "places", "free", "spell", "place"]
theorem sc_shown_by : FnScope N_shown_by ["rooms", "row", "places"] (defScope s_shown_by) := ⟨rfl, rfl, rfl, by decide +kernel, rfl, by decide +kernel, by decide +kernel⟩
abbrev s_spells : Stmt := top 15
abbrev N_spells : List Str := ["row"]
theorem sc_spells : FnScope N_spells ["row"] (defScope s_spells) := ⟨rfl, rfl, rfl, by decide +kernel, rfl, by decide +kernel, by decide +kernel⟩
abbrev s_shown : Stmt := top 16
abbrev N_shown : List Str := ["rooms", "row", "places", "place"]
theorem sc_shown : FnScope N_shown ["rooms", "row", "places"] (defScope s_shown) := ⟨rfl, rfl, rfl, by decide +kernel, rfl, by decide +kernel, by decide +kernel⟩
abbrev s_l_begun : Stmt := top 18
abbrev N_l_begun : List Str := ["_law_script", "_law_stirred", "_law_cell"]
theorem sc_l_begun : FnScope N_l_begun ["_law_script"] (defScope s_l_begun) := ⟨rfl, rfl, rfl, by decide +kernel, rfl, by decide +kernel, by decide +kernel⟩
abbrev s_l_take : Stmt := top 19
abbrev N_l_take : List Str := ["_law_box", "_law_many", "_law_number"]
theorem sc_l_take : FnScope N_l_take ["_law_box", "_law_many"] (defScope s_l_take) := ⟨rfl, rfl, rfl, by decide +kernel, rfl, by decide +kernel, by decide +kernel⟩
abbrev s_l_alike : Stmt := top 20
abbrev N_l_alike : List Str := ["_law_found", "_law_due", "_law_k"]
theorem sc_l_alike : FnScope N_l_alike ["_law_found", "_law_due"] (defScope s_l_alike) := ⟨rfl, rfl, rfl, by decide +kernel, rfl, by decide +kernel, by decide +kernel⟩
abbrev s_l_row : Stmt := top 21
abbrev N_l_row : List Str := ["_law_box", "_law_most", "_law_pages", "_law_found", "_law_way", "_law_turn", "_law_page"]
theorem sc_l_row : FnScope N_l_row ["_law_box", "_law_most"] (defScope s_l_row) := ⟨rfl, rfl, rfl, by decide +kernel, rfl, by decide +kernel, by decide +kernel⟩
abbrev s_l_shown : Stmt := top 22
abbrev N_l_shown : List Str := ["_law_rooms", "_law_row_here", "_law_places", "_law_found", "_law_end", "_law_begins", "_law_begin", "_law_at", "_law_place"]
theorem sc_l_shown : FnScope N_l_shown ["_law_rooms", "_law_row_here", "_law_places"] (defScope s_l_shown) := ⟨rfl, rfl, rfl, by decide +kernel, rfl, by decide +kernel, by decide +kernel⟩
abbrev s_l_law : Stmt := top 23
abbrev N_l_law : List Str := ["_law_script", "_law_box", "_law_turn", "_law_rooms", "_law_row_here", "_law_due", "_law_end", "_law_handed", "_law_again", "_law_begins", "_law_found", "_law_often", "_law_places", "_law_kept", "_law_many", "_law_at", "_law_place", "_law_begin"]
theorem sc_l_law : FnScope N_l_law ["_law_script"] (defScope s_l_law) := ⟨rfl, rfl, rfl, by decide +kernel, rfl, by decide +kernel, by decide +kernel⟩
/-- where the defs stand -/
structure Ad where
  a_need_rooms : Addr
  d_need_rooms : FuncData
  a_is_page : Addr
  d_is_page : FuncData
  a_need_row : Addr
  d_need_row : FuncData
  a_need_both : Addr
  d_need_both : FuncData
  a_spells_of : Addr
  d_spells_of : FuncData
  a_shown_by : Addr
  d_shown_by : FuncData
  a_spells : Addr
  d_spells : FuncData
  a_shown : Addr
  d_shown : FuncData
  a_l_begun : Addr
  d_l_begun : FuncData
  a_l_take : Addr
  d_l_take : FuncData
  a_l_alike : Addr
  d_l_alike : FuncData
  a_l_row : Addr
  d_l_row : FuncData
  a_l_shown : Addr
  d_l_shown : FuncData
  a_l_law : Addr
  d_l_law : FuncData
  t_MOST_ROOMS : Tok
  t_MOST_PAGES : Tok
  t_MOST_ASKS : Tok
/-- what the top has written -/
structure Txt (K : PySem.W.Frag) (mg : Str → Option Value) (ad : Ad) : Prop where
  F_need_rooms : Fun K "need_rooms" "need_rooms" s_need_rooms ad.a_need_rooms ad.d_need_rooms
  b_need_rooms : Binds K ad.d_need_rooms ["rooms"] []
  m_need_rooms : mg "need_rooms" = some (.ref ad.a_need_rooms)
  F_is_page : Fun K "is_page" "is_page" s_is_page ad.a_is_page ad.d_is_page
  b_is_page : Binds K ad.d_is_page ["page"] []
  m_is_page : mg "is_page" = some (.ref ad.a_is_page)
  F_need_row : Fun K "need_row" "need_row" s_need_row ad.a_need_row ad.d_need_row
  b_need_row : Binds K ad.d_need_row ["row"] []
  m_need_row : mg "need_row" = some (.ref ad.a_need_row)
  F_need_both : Fun K "need_both" "need_both" s_need_both ad.a_need_both ad.d_need_both
  b_need_both : Binds K ad.d_need_both ["rooms", "row"] []
  m_need_both : mg "need_both" = some (.ref ad.a_need_both)
  F_spells_of : Fun K "spells_of" "spells_of" s_spells_of ad.a_spells_of ad.d_spells_of
  b_spells_of : Binds K ad.d_spells_of ["row"] []
  m_spells_of : mg "spells_of" = some (.ref ad.a_spells_of)
  F_shown_by : Fun K "shown_by" "shown_by" s_shown_by ad.a_shown_by ad.d_shown_by
  b_shown_by : Binds K ad.d_shown_by ["rooms", "row", "places"] []
  m_shown_by : mg "shown_by" = some (.ref ad.a_shown_by)
  F_spells : Fun K "spells" "spells" s_spells ad.a_spells ad.d_spells
  b_spells : Binds K ad.d_spells ["row"] []
  m_spells : mg "spells" = some (.ref ad.a_spells)
  F_shown : Fun K "shown" "shown" s_shown ad.a_shown ad.d_shown
  b_shown : Binds K ad.d_shown ["rooms", "row", "places"] []
  m_shown : mg "shown" = some (.ref ad.a_shown)
  F_l_begun : Fun K "_law_begun" "_law_begun" s_l_begun ad.a_l_begun ad.d_l_begun
  b_l_begun : Binds K ad.d_l_begun ["_law_script"] []
  m_l_begun : mg "_law_begun" = some (.ref ad.a_l_begun)
  F_l_take : Fun K "_law_take" "_law_take" s_l_take ad.a_l_take ad.d_l_take
  b_l_take : Binds K ad.d_l_take ["_law_box", "_law_many"] []
  m_l_take : mg "_law_take" = some (.ref ad.a_l_take)
  F_l_alike : Fun K "_law_alike" "_law_alike" s_l_alike ad.a_l_alike ad.d_l_alike
  b_l_alike : Binds K ad.d_l_alike ["_law_found", "_law_due"] []
  m_l_alike : mg "_law_alike" = some (.ref ad.a_l_alike)
  F_l_row : Fun K "_law_row" "_law_row" s_l_row ad.a_l_row ad.d_l_row
  b_l_row : Binds K ad.d_l_row ["_law_box", "_law_most"] []
  m_l_row : mg "_law_row" = some (.ref ad.a_l_row)
  F_l_shown : Fun K "_law_shown" "_law_shown" s_l_shown ad.a_l_shown ad.d_l_shown
  b_l_shown : Binds K ad.d_l_shown ["_law_rooms", "_law_row_here", "_law_places"] []
  m_l_shown : mg "_law_shown" = some (.ref ad.a_l_shown)
  F_l_law : Fun K "law" "law" s_l_law ad.a_l_law ad.d_l_law
  b_l_law : Binds K ad.d_l_law ["_law_script"] []
  m_l_law : mg "law" = some (.ref ad.a_l_law)
  m_MOST_ROOMS : mg "MOST_ROOMS" = some (.int 8 ad.t_MOST_ROOMS)
  m_MOST_PAGES : mg "MOST_PAGES" = some (.int 12 ad.t_MOST_PAGES)
  m_MOST_ASKS : mg "MOST_ASKS" = some (.int 100 ad.t_MOST_ASKS)
  z_len : mg "len" = none
  z_int : mg "int" = none
  z_min : mg "min" = none
  z_list : mg "list" = none
  z_sorted : mg "sorted" = none
  z_set : mg "set" = none
  z_tuple : mg "tuple" = none
  z_isinstance : mg "isinstance" = none
  z_range : mg "range" = none
  z_enumerate : mg "enumerate" = none
  z_bool : mg "bool" = none
  z_str : mg "str" = none

/-! the stepping words: one row a key -/
local macro_rules | `(tactic| walk_at "cw ne") => `(tactic| first
  | assumption
  | ((with_reducible apply ne_s); assumption)
  | ((with_reducible apply ne_n); (· assumption); (walk_at "cw at"))
  | ((with_reducible apply ne_n'); (· assumption); (walk_at "cw at")))
local macro_rules | `(tactic| walk_at "cw at") => `(tactic| first
  | assumption
  | with_reducible exact upd_same
  | ((with_reducible apply at_ne); (· walk_at "cw ne"); (walk_at "cw at"))
  | ((with_reducible apply Fr.get0); (· assumption); (walk_at "cw at")))
local macro_rules | `(tactic| walk_at "cw sq") => `(tactic| first
  | assumption
  | ((with_reducible apply SqL.of); (walk_at "cw at"))
  | ((with_reducible apply SqT.of); (walk_at "cw at"))
  | ((with_reducible apply sq_new); (· walk_at "cw sq"); (· assumption))
  | ((with_reducible apply st_new); (· walk_at "cw sq"); (· assumption))
  | ((with_reducible apply Fr.seqL); (· assumption); (walk_at "cw sq"))
  | ((with_reducible apply Fr.seqT); (· assumption); (walk_at "cw sq")))
local macro_rules | `(tactic| walk_at "cw sz") => `(tactic| first
  | (show _ ≤ sizeLine; exact sz_le (by first | decide | omega | (simp only [List.length_append, List.length_map, List.length_cons, List.length_nil]; omega)))
  | (show _ < sizeLine; exact sz_lt (by first | decide | omega | (simp only [List.length_append, List.length_map, List.length_cons, List.length_nil]; omega))))
local macro_rules | `(tactic| walk_at "cw num") => `(tactic| first
  | ((with_reducible apply cpos_); omega)
  | ((with_reducible apply cdiv_) <;> omega)
  | ((with_reducible apply cmul_l) <;> omega)
  | ((with_reducible apply cmul_r) <;> omega))
local macro_rules | `(tactic| walk_at "cw ix") => `(tactic| first
  | exact rfl
  | assumption
  | with_reducible exact atI_0
  | exact atI_nat (by assumption))
local macro_rules | `(tactic| walk_at "cw ixn") => `(tactic| first
  | assumption
  | with_reducible exact ixN_0
  | with_reducible exact ixN_1
  | exact ixN_nat (by assumption))
local macro_rules | `(tactic| walk_at "cw set") => `(tactic| first
  | (simp only [List.set_cons_zero, List.set_cons_succ]; exact rfl)
  | exact rfl)
local macro_rules | `(tactic| walk_at "cw ty") => `(tactic| first
  | with_reducible exact .base .non
  | with_reducible exact .base (.bl _)
  | with_reducible exact .base (.int _)
  | with_reducible exact .base (.str _)
  | ((with_reducible apply ty_L); walk_at "cw sq")
  | ((with_reducible apply ty_T); walk_at "cw sq"))
local macro_rules | `(tactic| walk_at "cw kit") => `(tactic| first
  | with_reducible exact kb_NoneType_bool
  | with_reducible exact kb_NoneType_int
  | with_reducible exact kb_NoneType_str
  | with_reducible exact kb_NoneType_tuple
  | with_reducible exact kb_NoneType_list
  | with_reducible exact kb_bool_bool
  | with_reducible exact kb_bool_int
  | with_reducible exact kb_bool_str
  | with_reducible exact kb_bool_tuple
  | with_reducible exact kb_bool_list
  | with_reducible exact kb_int_bool
  | with_reducible exact kb_int_int
  | with_reducible exact kb_int_str
  | with_reducible exact kb_int_tuple
  | with_reducible exact kb_int_list
  | with_reducible exact kb_str_bool
  | with_reducible exact kb_str_int
  | with_reducible exact kb_str_str
  | with_reducible exact kb_str_tuple
  | with_reducible exact kb_str_list
  | with_reducible exact kb_list_bool
  | with_reducible exact kb_list_int
  | with_reducible exact kb_list_str
  | with_reducible exact kb_list_tuple
  | with_reducible exact kb_list_list
  | with_reducible exact kb_tuple_bool
  | with_reducible exact kb_tuple_int
  | with_reducible exact kb_tuple_str
  | with_reducible exact kb_tuple_tuple
  | with_reducible exact kb_tuple_list)
local macro_rules | `(tactic| walk_at "cw yes") => `(tactic| first
  | with_reducible rfl
  | assumption
  | omega)
local macro_rules | `(tactic| walk_at "cw no") => `(tactic| first
  | assumption
  | (intro cwh; cases cwh; done)
  | omega)
local macro_rules | `(tactic| walk_at "cw1") => `(tactic| first
  | with_reducible apply w_seq
  | with_reducible apply w_asg
  | with_reducible apply w_gn
  | ((with_reducible apply w_var); (· exact rfl))
  | with_reducible apply w_c
  | with_reducible apply w_op
  | with_reducible apply w_I0
  | ((with_reducible apply w_I); (· walk_at "cw num"))
  | with_reducible apply w_cb
  | with_reducible apply w_cons
  | with_reducible apply w_nil
  | with_reducible apply w_test
  | with_reducible apply w_B
  | with_reducible apply w_isbl
  | with_reducible apply w_ifS
  | with_reducible apply iteT
  | with_reducible apply iteF
  | with_reducible apply ite_nf
  | with_reducible apply ite_nt
  | with_reducible apply w_eqI
  | with_reducible apply w_neI
  | with_reducible apply w_eqB
  | with_reducible apply w_neB
  | with_reducible apply w_eqS
  | ((with_reducible apply w_ixL); (· walk_at "cw sq"); (· walk_at "cw ix"))
  | ((with_reducible apply w_ixT); (· walk_at "cw sq"); (· walk_at "cw ix"))
  | with_reducible apply w_and
  | with_reducible apply w_or
  | with_reducible apply w_not
  | with_reducible apply w_notV
  | with_reducible apply w_andV
  | with_reducible apply w_orV
  | with_reducible apply w_if
  | with_reducible apply w_isN
  | with_reducible apply w_notN
  | with_reducible apply w_chain
  | with_reducible apply w_un
  | with_reducible apply w_U
  | with_reducible apply w_drop
  | with_reducible apply w_ret
  | with_reducible apply w_next
  | with_reducible apply w_brk
  | with_reducible apply w_cont
  | with_reducible apply w_sub
  | ((with_reducible apply w_pop0); (· walk_at "cw at"); (· first | omega | (simp only [List.length_map]; omega)))
  | ((with_reducible apply w_gTup); (· walk_at "cw sq"); (· exact rfl))
  | with_reducible apply w_gCons
  | with_reducible apply w_gNil
  | with_reducible apply w_yes
  | ((with_reducible apply w_wipe); (· exact rfl))
  | with_reducible apply w_iEnum
  | with_reducible apply w_lc
  | with_reducible apply w_for
  | with_reducible apply w_iList
  | with_reducible apply w_iRng1
  | with_reducible apply w_iRng2
  | with_reducible apply w_lst
  | with_reducible apply w_tup
  | with_reducible apply w_call
  | with_reducible apply w_bm
  | with_reducible apply w_bm0
  | ((with_reducible apply w_tyL); (· walk_at "cw sq"))
  | ((with_reducible apply w_append); (· walk_at "cw at"); (· walk_at "cw sz"))
  | ((with_reducible apply w_lenL); (· walk_at "cw sq"))
  | ((with_reducible apply w_isi); (· walk_at "cw ty"); (· walk_at "cw kit"))
  | ((with_reducible apply w_lenT); (· walk_at "cw sq"))
  | ((with_reducible apply w_ixQL); (· walk_at "cw sq"); (· walk_at "cw ix"))
  | ((with_reducible apply w_ixQT); (· walk_at "cw sq"); (· walk_at "cw ix"))
  | ((with_reducible apply ite_dT); (· walk_at "cw yes"))
  | ((with_reducible apply ite_dF); (· walk_at "cw no"))
  | ((with_reducible apply ite_nT); (· walk_at "cw no"))
  | ((with_reducible apply ite_nF); (· walk_at "cw yes"))
  | with_reducible apply w_intB
  | with_reducible apply w_intI
  | with_reducible apply w_min2
  | ((with_reducible apply w_setL); (· walk_at "cw at"); (· walk_at "cw ixn"); (· walk_at "cw set"))
  | ((with_reducible apply w_listL); (· walk_at "cw sq"); intro lp lpn)
  | ((with_reducible apply w_new); (· walk_at "cw sz"); intro np npn)
  | ((with_reducible apply w_eqD0); (· walk_at "cw sq"); (· walk_at "cw sq"))
  | ((with_reducible apply w_neD0); (· walk_at "cw sq"); (· walk_at "cw sq"))
  | ((with_reducible apply w_neDI); (· walk_at "cw sq"); (· walk_at "cw sq"))
  | ((with_reducible apply w_eqDI); (· walk_at "cw sq"); (· walk_at "cw sq")))
local macro_rules | `(tactic| walk_at "cw") => `(tactic| repeat walk_at "cw1")
local macro_rules | `(tactic| walk_at "cw if") => `(tactic| first
  | with_reducible apply ite_d
  | with_reducible apply ite_nd
  | with_reducible apply ite_b)

local macro_rules | `(tactic| walk_at "cw attr") => `(tactic| first
  | with_reducible exact Txt.n_Dial_here (by assumption)
  | with_reducible exact Txt.n_Dial_seen (by assumption)
  | with_reducible exact Txt.n_Dial_hand (by assumption)
  | with_reducible exact Txt.n_Dial_lacks (by assumption))
local macro_rules | `(tactic| walk_at "cw lk") => `(tactic| first
  | with_reducible exact lk_here _ _ _ _
  | with_reducible exact lk_seen _ _ _ _
  | with_reducible exact lk_hand _ _ _ _
  | with_reducible exact lk_lacks _ _ _ _)
local macro_rules | `(tactic| walk_at "cw put") => `(tactic| first
  | with_reducible exact dfl_hand _ _ _ _ _
  | with_reducible exact dfl_lacks _ _ _ _ _)
local macro_rules | `(tactic| walk_at "cw dk") => `(tactic| first
  | with_reducible exact ddl_pages _ _ _ _
  | with_reducible exact ddl_marks _ _ _ _
  | with_reducible exact ddl_hand _ _ _ _
  | with_reducible exact ddl_lacks _ _ _ _)
local macro_rules | `(tactic| walk_at "cw dp") => `(tactic| first
  | with_reducible exact ddl_putH _ _ _ _ _
  | with_reducible exact ddl_putL _ _ _ _ _)
local macro_rules | `(tactic| walk_at "cw2") => `(tactic| first
  | walk_at "cw1"
  | with_reducible apply w_fld
  | ((with_reducible apply w_fldR); (· walk_at "cw at"); (· exact Txt.cl_Dial (by assumption)); (· walk_at "cw attr"); (· walk_at "cw lk"))
  | with_reducible apply w_sFld
  | ((with_reducible apply w_sFldR); (· walk_at "cw at"); (· exact Txt.cl_Dial (by assumption)); (· walk_at "cw attr"); (· exact dfl_len _ _ _ _); (· walk_at "cw put"))
  | with_reducible apply w_aug
  | ((with_reducible apply w_augR); (· walk_at "cw at"); (· exact Txt.cl_Dial (by assumption)); (· walk_at "cw attr"); (· walk_at "cw lk"))
  | with_reducible apply w_rAdd
  | ((with_reducible apply w_augS); (· walk_at "cw at"); (· exact dfl_len _ _ _ _); (· walk_at "cw put"))
  | ((with_reducible apply w_inI); (· walk_at "cw sq"))
  | ((with_reducible apply w_niI); (· walk_at "cw sq"))
  | with_reducible apply w_sl
  | with_reducible apply w_part
  | with_reducible apply w_nopart
  | with_reducible apply w_isInt
  | ((with_reducible apply w_slL); (· walk_at "cw sq"); intro slp slpn)
  | ((with_reducible apply w_cat); (· walk_at "cw at"); (· walk_at "cw at"); (· walk_at "cw sz"); intro ctp ctpn)
  | with_reducible apply w_dget
  | ((with_reducible apply w_dgetS); (· walk_at "cw at"); (· walk_at "cw dk"))
  | with_reducible apply w_dput
  | ((with_reducible apply w_dputS); (· walk_at "cw at"); (· exact ddl_len _ _ _ _); (· walk_at "cw dp"))
  | ((with_reducible apply w_rep); (· walk_at "cw at"); (· omega); (· omega); (· exact (by decide)); intro rpp rppn)
  | ((with_reducible apply w_disp); intro dpp dppn)
  | with_reducible apply w_pairs
  | with_reducible apply w_pairs0
  | with_reducible apply w_make
  | with_reducible apply w_meth)
local macro_rules | `(tactic| walk_at "cwd") => `(tactic| repeat walk_at "cw2")

local macro_rules | `(tactic| walk_at "cw3") => `(tactic| first
  | walk_at "cw2"
  | with_reducible apply w_lenSetD)
local macro_rules | `(tactic| walk_at "cws") => `(tactic| repeat walk_at "cw3")

local macro_rules | `(tactic| walk_at "cw len") => `(tactic| first
  | omega
  | (simp only [List.length_append, List.length_map, List.length_cons, List.length_nil] at *; omega))
local macro_rules | `(tactic| walk_at "cw4") => `(tactic| first
  | ((with_reducible apply w_slFrom); (· walk_at "cw sq"); intro slp slpn)
  | ((with_reducible apply w_slMid); (· walk_at "cw sq"); intro slp slpn)
  | ((with_reducible apply w_sorted); (· walk_at "cw sq"); (· walk_at "cw len"); intro srp srpn)
  | walk_at "cw3")
local macro_rules | `(tactic| walk_at "cwb") => `(tactic| repeat walk_at "cw4")

local macro_rules | `(tactic| walk_at "cw5") => `(tactic| first
  | ((with_reducible apply w_slLast); (· walk_at "cw sq"); intro slp slpn)
  | walk_at "cw4"
  | ((with_reducible apply w_dnewK); intro dkp dkpn)
  | with_reducible apply ite_some
  | with_reducible apply ite_none
  | with_reducible apply w_dIn
  | ((with_reducible apply w_dInI); (· walk_at "cw at"))
  | ((with_reducible apply w_dgetI); (· walk_at "cw at"); (· assumption))
  | ((with_reducible apply w_dputI); (· walk_at "cw at"); (· walk_at "cw sz"))
  | ((with_reducible apply w_setOf); (· walk_at "cw sq"); (· walk_at "cw len"); intro sop sopn soc socn)
  | ((with_reducible apply w_sortSet); (· walk_at "cw at"); (· walk_at "cw len"); intro ssp sspn))
local macro_rules | `(tactic| walk_at "cwp") => `(tactic| repeat walk_at "cw5")

section
variable {P : Program} {w : World} {K : PySem.W.Frag} {mg : Str → Option Value} {base : Heap} {ad : Ad}
/-! need_rooms -/
def sp_need_rooms : Sp := fun vs H Q _ => ∃ r : Int, vs = [.int r] ∧ 1 ≤ r ∧ r ≤ 8 ∧ Q .non H
theorem c_need_rooms {H : Hp} {Q : VK} {E : XK} {r : Int} (h1 : 1 ≤ r) (h2 : r ≤ 8) (q : Q .non H) : sp_need_rooms ([.int r] ++ []) H Q E := ⟨r, rfl, h1, h2, q⟩
theorem ok_need_rooms (T : Txt K mg ad) : FnOk P w K mg base CX0 1 ad.a_need_rooms ad.d_need_rooms ["rooms"] sp_need_rooms := by
  refine T.F_need_rooms.ok sc_need_rooms (fun vs H Q E h => ?_) (fun cdv A outer s H vs Q E hr h => ?_)
  · obtain ⟨r, rfl, _⟩ := h
    rfl
  obtain ⟨r, rfl, h1, h2, q⟩ := h
  refine ⟨_, (pss_one (ps_if (pt_not (pt_chain op_le op_le pe_int (pv 0) (pe_glob (v := .int 8) rfl T.m_MOST_ROOMS ⟨_, rfl⟩))) (pss_one ps_never) pss_nil)), ?_⟩
  try dsimp only [L2.cxOf, L2.Cx.nox]
  walk_at "cw"
  exact q

/-! is_page -/
def sp_is_page : Sp := fun vs H Q _ => ∃ x : Int, vs = [.int x] ∧ 0 ≤ x ∧ x < 12 ∧ Q (.bl true) H
theorem c_is_page {H : Hp} {Q : VK} {E : XK} {x : Int} (h1 : 0 ≤ x) (h2 : x < 12) (q : Q (.bl true) H) : sp_is_page ([.int x] ++ []) H Q E := ⟨x, rfl, h1, h2, q⟩
theorem ok_is_page (T : Txt K mg ad) : FnOk P w K mg base CX0 1 ad.a_is_page ad.d_is_page ["page"] sp_is_page := by
  refine T.F_is_page.ok sc_is_page (fun vs H Q E h => ?_) (fun cdv A outer s H vs Q E hr h => ?_)
  · obtain ⟨x, rfl, _⟩ := h
    rfl
  obtain ⟨x, rfl, h1, h2, q⟩ := h
  refine ⟨_, (pss_one (ps_ret (pe_chain op_le op_lt pe_int (pv 0) (pe_glob (v := .int 12) rfl T.m_MOST_PAGES ⟨_, rfl⟩)))), ?_⟩
  try dsimp only [L2.cxOf, L2.Cx.nox]
  walk_at "cw"
  rw [decide_eq_true h2]
  exact q

/-! need_row -/
/-- a row that may be handed in -/
def RowOk (ns : List Int) : Prop := ns.length ≤ 100 ∧ ∀ x ∈ ns, 0 ≤ x ∧ x < 12
def sp_need_row (K : PySem.W.Frag) : Sp := fun vs H Q _ => ∃ (a : Addr) (ns : List Int), vs = [.ref a] ∧ SqL K H a (ns.map V.int) ∧ RowOk ns ∧ ∀ H', Fr [] H H' → Q .non H'
theorem c_need_row {H : Hp} {Q : VK} {E : XK} {a : Addr} {ns : List Int} (h : SqL K H a (ns.map V.int)) (hr : RowOk ns) (q : ∀ H', Fr [] H H' → Q .non H') : sp_need_row K ([.ref a] ++ []) H Q E := ⟨a, ns, rfl, h, hr, q⟩
theorem ok_need_row (T : Txt K mg ad) : FnOk P w K mg base CX0 2 ad.a_need_row ad.d_need_row ["row"] (sp_need_row K) := by
  refine T.F_need_row.ok sc_need_row (fun vs H Q E h => ?_) (fun cdv A outer s H vs Q E hr h => ?_)
  · obtain ⟨a, ns, rfl, _⟩ := h
    rfl
  obtain ⟨a, ns, rfl, hS, ⟨hl, hp⟩, k⟩ := h
  refine ⟨_, (pss_one (ps_for PassesOwn.never rfl (kIE (K := K) rfl (pi_enum (by rfl) T.z_enumerate (pa_cons (pv 0) pa_nil))) (kTup (K := K) (n := 2) rfl (pg_tup (by rfl) (pgs_cons (pg_name (i := 1) sc_need_row.nd rfl (by first | exact Or.inl rfl | exact Or.inr rfl)) (pgs_cons (pg_name (i := 2) sc_need_row.nd rfl (by first | exact Or.inl rfl | exact Or.inr rfl)) pgs_nil)))) (pss_one (ps_if (PW.pt (pw_or (pt_cmpR op_ge (pv 1) (pe_glob (v := .int 100) rfl T.m_MOST_ASKS ⟨_, rfl⟩) (nomark _)) (pw_or1 (pt_not (pt_val (pe_call (ok_is_page T) (hr.mono (by decide)) (by rfl) T.m_is_page T.F_is_page.kp T.b_is_page .nil pass0 (pa_cons (pv 2) pa_nil))))))) (pss_one ps_never) pss_nil)))), ?_⟩
  try dsimp only [L2.cxOf, L2.Cx.nox]
  walk_at "cw"
  refine f_enum (ns.map V.int) hS (fun i σ H' => ∃ v1 v2 : Option V, σ = [some (.ref a), v1, v2] ∧ Fr [] H H') ⟨none, none, rfl, .refl⟩ (fun i σ H' _ ⟨_, _, _, f⟩ => f.seqL hS) ?_ ?_
  · rintro i x t σ H' hi ⟨v1, v2, rfl, f⟩ ht
    obtain ⟨z, hz, rfl⟩ := int_at hi
    have hzl := (List.getElem?_eq_some_iff.mp hz).1
    obtain ⟨z0, z1⟩ := hp z (List.mem_of_getElem? hz)
    walk_at "cw"
    refine c_is_page z0 z1 ?_
    walk_at "cw"
    exact ⟨_, _, rfl, f.more (Fr.new ht)⟩
  · rintro σ H' ⟨v1, v2, rfl, f⟩
    exact k H' f

/-! need_both -/
def sp_need_both (K : PySem.W.Frag) : Sp := fun vs H Q _ => ∃ (r : Int) (a : Addr) (ns : List Int), vs = [.int r, .ref a] ∧ 1 ≤ r ∧ r ≤ 8 ∧ SqL K H a (ns.map V.int) ∧ RowOk ns ∧ ∀ H', Fr [] H H' → Q .non H'
theorem c_need_both {H : Hp} {Q : VK} {E : XK} {r : Int} {a : Addr} {ns : List Int} (h1 : 1 ≤ r) (h2 : r ≤ 8) (h : SqL K H a (ns.map V.int)) (hr : RowOk ns) (q : ∀ H', Fr [] H H' → Q .non H') : sp_need_both K ([.int r, .ref a] ++ []) H Q E := ⟨r, a, ns, rfl, h1, h2, h, hr, q⟩
theorem ok_need_both (T : Txt K mg ad) : FnOk P w K mg base CX0 3 ad.a_need_both ad.d_need_both ["rooms", "row"] (sp_need_both K) := by
  refine T.F_need_both.ok sc_need_both (fun vs H Q E h => ?_) (fun cdv A outer s H vs Q E hr h => ?_)
  · obtain ⟨r, a, ns, rfl, _⟩ := h
    rfl
  obtain ⟨r, a, ns, rfl, h1, h2, hS, hR, k⟩ := h
  refine ⟨_, (pss_cons (ps_expr (pe_call (ok_need_rooms T) (hr.mono (by decide)) (by rfl) T.m_need_rooms T.F_need_rooms.kp T.b_need_rooms .nil pass0 (pa_cons (pv 0) pa_nil)))
    (pss_one (ps_expr (pe_call (ok_need_row T) (hr.mono (by decide)) (by rfl) T.m_need_row T.F_need_row.kp T.b_need_row .nil pass0 (pa_cons (pv 1) pa_nil))))), ?_⟩
  try dsimp only [L2.cxOf, L2.Cx.nox]
  walk_at "cw"
  refine c_need_rooms h1 h2 ?_
  walk_at "cw"
  refine c_need_row hS hR fun H' f => ?_
  exact k H' f

/-! spells_of -/
def sp_spells_of (K : PySem.W.Frag) : Sp := fun vs H Q _ => ∃ (a : Addr) (ns : List Int), vs = [.ref a] ∧ SqL K H a (ns.map V.int) ∧ ns.length ≤ 100 ∧
  ∀ p xs H', Fr [] H H' → H p = none → H' p = some (.lst xs) → PairsAt H H' xs (spellsM ns) → Q (.ref p) H'
theorem c_spells_of {H : Hp} {Q : VK} {E : XK} {a : Addr} {ns : List Int} (h : SqL K H a (ns.map V.int)) (hl : ns.length ≤ 100)
    (k : ∀ p xs H', Fr [] H H' → H p = none → H' p = some (.lst xs) → PairsAt H H' xs (spellsM ns) → Q (.ref p) H') : sp_spells_of K ([.ref a] ++ []) H Q E := ⟨a, ns, rfl, h, hl, k⟩
def spellsI (H0 : Hp) (a d f : Addr) (v3 v4 : Option V) (ns : List Int) (out : List (Int × Int)) : L2.St → Hp → Prop := fun σ H => ∃ (xs : List V) (kvs : List (Key × V)), σ = [some (.ref a), some (.ref d), some (.ref f), v3, v4] ∧
  Fr [] H0 H ∧ H d = some (.dK kvs) ∧ (∀ x : Int, valV kvs (.inl x) = (lastAt ns x).map fun j : Nat => V.int (j : Int)) ∧ kvs.length ≤ ns.length ∧ H f = some (.lst xs) ∧ PairsAt H0 H xs out
theorem ok_spells_of (T : Txt K mg ad) : FnOk P w K mg base CX0 1 ad.a_spells_of ad.d_spells_of ["row"] (sp_spells_of K) := by
  refine T.F_spells_of.ok sc_spells_of (fun vs H Q E h => ?_) (fun cdv A outer s H vs Q E hr h => ?_)
  · obtain ⟨a, ns, rfl, _⟩ := h
    rfl
  obtain ⟨a, ns, rfl, hS, hl, k⟩ := h
  have hu := hu_of hr
  refine ⟨_, (pss_cons (ps_set (i := 1) sc_spells_of.nd rfl (by first | exact Or.inl rfl | exact Or.inr rfl) pe_dnewK)
    (pss_cons (ps_set (i := 2) sc_spells_of.nd rfl (by first | exact Or.inl rfl | exact Or.inr rfl) (pe_lst pa_nil))
    (pss_cons (ps_for PassesOwn.never rfl (kIE (K := K) rfl (pi_enum (by rfl) T.z_enumerate (pa_cons (pv 0) pa_nil))) (kTup (K := K) (n := 2) rfl (pg_tup (by rfl) (pgs_cons (pg_name (i := 3) sc_spells_of.nd rfl (by first | exact Or.inl rfl | exact Or.inr rfl)) (pgs_cons (pg_name (i := 4) sc_spells_of.nd rfl (by first | exact Or.inl rfl | exact Or.inr rfl)) pgs_nil)))) (C8.pss_cut (ps_if (pt_cmp (pc_din hu (pv 4) (pv 1))) (pss_one (ps_expr (kBM (K := K) rfl (pe_bm PySem.F.plainAttrs_list PySem.F.slot_list_append PySem.F.type_list_append mt_append (pv 2) (pa_cons (pe_tup (pa_cons (pe_dget hu (pv 1) (pv 4) (fun _ _ => rfl)) (pa_cons (pv 3) pa_nil))) pa_nil))))) pss_nil)
    (pss_one (ps_dput hu (pv 1) (pv 4) (pv 3) rfl))))
    (pss_one (ps_ret (pv 2)))))), ?_⟩
  walk_at "cwp"
  rename_i d hd f hf
  have hd0 : H d = none := hd
  have hf0 : H f = none := upd_none hf
  have ndf : d ≠ f := ne_of_none upd_same hf
  refine f_enum (ns.map V.int) (((Fr.new hd).trans (Fr.new hf)).seqL hS) (fun i σ H' => ∃ v3 v4, spellsI H a d f v3 v4 (ns.take i) (spellsTo ns i) σ H')
    ⟨_, _, [], [], rfl, (Fr.new hd).trans (Fr.new hf), (upd_ne ndf).trans upd_same, fun x => rfl, Nat.le_refl _, upd_same, .nil⟩ (fun i σ H' _ ⟨_, _, _, _, _, f, _⟩ => f.seqL hS) ?_ ?_
  · rintro i y tt σ H' hi ⟨v3, v4, xs, kvs, rfl, F, g1, hv, hkl, g2, gp⟩ htt
    obtain ⟨x, hx, rfl⟩ := int_at hi
    have hxl := (List.getElem?_eq_some_iff.mp hx).1
    have hsl := spellsTo_len ns i
    have hxsl := gp.1
    have hgd : ns.getD i 0 = x := by rw [List.getD_eq_getElem?_getD, hx]; rfl
    rw [List.length_take] at hkl
    have ndt : d ≠ tt := ne_n htt g1
    have nft : f ≠ tt := ne_n htt g2
    have hvx := hv x
    walk_at "cwp"
    refine w_cut (spellsI H a d f (some (.int i)) (some (.int x)) (ns.take i) (spellsTo ns (i + 1))) ?_ ?_
    · rw [spellsTo_succ]
      walk_at "cwp"
      cases hla : lastAt (ns.take i) x with
      | none =>
        have hv0 : valV kvs (Sum.inl x) = none := by rw [hvx, hla]; rfl
        have hs0 : spellAt ns i = [] := by unfold spellAt; rw [hgd, hla]
        rw [hv0, hs0, List.append_nil]
        walk_at "cwp"
        exact ⟨xs, kvs, rfl, F.trans (Fr.new htt), (upd_ne ndt).trans g1, hv, by rw [List.length_take]; omega, (upd_ne nft).trans g2, gp.upN htt⟩
      | some b =>
        have hv0 : valV kvs (Sum.inl x) = some (V.int (b : Int)) := by rw [hvx, hla]; rfl
        have hs0 : spellAt ns i = [((b : Int), (i : Int))] := by unfold spellAt; rw [hgd, hla]
        rw [hv0, hs0]
        walk_at "cwp"
        rename_i t ht
        have g1' : (upd H' tt (.tup [.int i, .int x])) d = some (.dK kvs) := (upd_ne ndt).trans g1
        have g2' : (upd H' tt (.tup [.int i, .int x])) f = some (.lst xs) := (upd_ne nft).trans g2
        have nft' : f ≠ t := ne_n ht g2'
        have ndt' : d ≠ t := ne_n ht g1'
        refine ⟨_, kvs, rfl, (((F.trans (Fr.new htt)).trans (Fr.new ht)).loc hf0), (upd_ne ndf).trans ((upd_ne ndt').trans g1'), hv, by rw [List.length_take]; omega, upd_same, ?_⟩
        exact (((gp.upN htt).upN ht).upL ((upd_ne nft').trans g2')).snoc ((F.trans (Fr.new htt)).free ht) ((upd_ne (ne_s nft')).trans upd_same)
    · rintro σ H6 ⟨xs, kvs, rfl, F, g1, hv, hkl, g2, gp⟩
      rw [List.length_take] at hkl
      walk_at "cwp"
      refine ⟨_, _, xs, _, rfl, F.loc hd0, upd_same, fun z => ?_, ?_, (upd_ne (ne_s ndf)).trans g2, ?_⟩
      · rw [L2.valV_put, take_snoc hx, lastAt_snoc, hv z, List.length_take, Nat.min_eq_left (by omega)]
        by_cases hz : z = x
        · subst hz; rw [if_pos rfl, if_pos rfl]; rfl
        · rw [if_neg (fun e => hz (Sum.inl.inj e)), if_neg (fun e => hz e.symm)]
      · have := length_putK kvs (Sum.inl x) (V.int i)
        rw [List.length_take]
        omega
      · exact gp.upD g1
  · rintro σ H' ⟨v3, v4, xs, kvs, rfl, F, g1, hv, hkl, g2, gp⟩
    rw [List.length_map] at gp
    walk_at "cwp"
    exact k f xs H' F hf0 g2 gp

/-! shown_by -/
def sp_shown_by (K : PySem.W.Frag) : Sp := fun vs H Q _ => ∃ (n : Int) (a b : Addr) (ns ps : List Int), vs = [.int n, .ref a, .ref b] ∧ 1 ≤ n ∧ n ≤ 8 ∧ SqL K H a (ns.map V.int) ∧ ns.length ≤ 100 ∧ SqL K H b (ps.map V.int) ∧ ps.length ≤ 100 ∧
  ∀ H', Fr [] H H' → Q (.int (shownM n ns ps)) H'
theorem c_shown_by {H : Hp} {Q : VK} {E : XK} {n : Int} {a b : Addr} {ns ps : List Int} (n0 : 1 ≤ n) (n8 : n ≤ 8) (h : SqL K H a (ns.map V.int)) (hl : ns.length ≤ 100) (hb : SqL K H b (ps.map V.int)) (hp : ps.length ≤ 100)
    (k : ∀ H', Fr [] H H' → Q (.int (shownM n ns ps)) H') : sp_shown_by K ([.int n, .ref a, .ref b] ++ []) H Q E := ⟨n, a, b, ns, ps, rfl, n0, n8, h, hl, hb, hp, k⟩
theorem ok_shown_by (T : Txt K mg ad) : FnOk P w K mg base CX0 2 ad.a_shown_by ad.d_shown_by ["rooms", "row", "places"] (sp_shown_by K) := by
  refine T.F_shown_by.ok sc_shown_by (fun vs H Q E h => ?_) (fun cdv A outer s H vs Q E hr h => ?_)
  · obtain ⟨n, a, b, ns, ps, rfl, _⟩ := h
    rfl
  obtain ⟨n, a, b, ns, ps, rfl, n0, n8, hS, hl, hb, hp, k⟩ := h
  refine ⟨_, (pss_cons (ps_setLc (i := 3) (own := [("spell", 4)]) (by rfl) sc_shown_by.nd rfl rfl (sw_true rfl rfl rfl (by decide +kernel)) (kIL (K := K) rfl (pi_list (pe_call (ok_spells_of T) (hr.mono (by decide)) (by rfl) T.m_spells_of T.F_spells_of.kp T.b_spells_of .nil pass0 (pa_cons (pv 1) pa_nil)))) (blkOk_by (own := [("spell", 4)]) (N := N_shown_by) (sc := defScope s_shown_by) (by decide +kernel)) (fun _ _ _ _ _ => (pg_name (i := 4) sc_shown_by.nd rfl (by first | exact Or.inl rfl | exact Or.inr rfl))) (fun _ _ _ _ _ => pts_one (pt_cmpR (kEqD K rfl hr.units) (pe_lc (own := [("place", 5)]) (by rfl) sc_shown_by.nd (kIL (K := K) rfl (pi_list (pv 2))) (blkOk_by (own := [("place", 5)]) (N := N_shown_by) (sc := (relS { kind := PySem.ScopeKind.function, names := [ (PySem.Str.ofString ".0", PySem.NameKind.local), (PySem.Str.ofString "spell", PySem.NameKind.cell), (PySem.Str.ofString "places", PySem.NameKind.free)], isGenerator := false, isCoroutine := false, more := [] : PySem.Scope } (defScope s_shown_by))) (by decide +kernel)) (fun _ _ _ _ _ => (pg_name (i := 5) sc_shown_by.nd rfl (by first | exact Or.inl rfl | exact Or.inr rfl))) (fun _ _ _ _ _ => pts_one (pt_chain op_lt op_lt (pe_ix (kIxT K rfl) (pv 4) pe_int (fun _ _ => rfl)) (pv 5) (pe_ix (kIxT K rfl) (pv 4) pe_int (fun _ _ => rfl)))) (fun _ _ _ _ _ => (pv 5))) (pe_lst pa_nil) (nomark _))) (fun _ _ _ _ _ => (pv 4)))
    (pss_one (ps_ret (pe_op op_sub (pe_op op_sub (pe_callB (kLen K rfl) (by rfl) T.z_len (by decide +kernel) (pa_cons (pv 1) pa_nil)) (pe_callB (kLen K rfl) (by rfl) T.z_len (by decide +kernel) (pa_cons (pv 3) pa_nil))) (pe_op op_mul (pe_op op_sub (pv 0) pe_int) (pe_callB (kLen K rfl) (by rfl) T.z_len (by decide +kernel) (pa_cons (pv 2) pa_nil))))))), ?_⟩
  walk_at "cwp"
  refine c_spells_of hS hl fun p xs H1 f1 hp0 hx hP => ?_
  walk_at "cwp"
  have hsl := spellsTo_len ns ns.length
  refine l_list xs (SqL.of hx) (fun D i acc H' => Fr [] H1 H' ∧ acc.length = (((spellsM ns).take i).filter (isFree ps)).length) (fun D hD => ⟨Fr.new hD, by simp⟩) (fun D i acc H' hD h _ => SqL.of (h.1.get0 hx)) ?_ ?_
  · rintro D i y acc H' hD hi ⟨F, hal⟩ hacc hla
    have hil := (List.getElem?_eq_some_iff.mp hi).1
    rw [hP.1] at hil
    obtain ⟨e, he⟩ : ∃ e, (spellsM ns)[i]? = some e := ⟨(spellsM ns)[i], List.getElem?_eq_getElem hil⟩
    obtain ⟨t, ht1, ht2, ht3⟩ := hP.2 i e he
    rw [hi] at ht1
    cases ht1
    have htt := F.get0 ht3
    have hb' := (f1.trans F).seqL hb
    have hsp : (spellsM ns).length ≤ 100 := by have := hsl; unfold spellsM; omega
    walk_at "cwp"
    refine l_filter ps (fun p => decide (e.1 < p ∧ p < e.2)) hb' ?_ ?_
    · intro D2 j2 y2 H2 hD2 hy2 F2 I2
      have hj2 := (List.getElem?_eq_some_iff.mp hy2).1
      have ht2' := F2.get0 htt
      walk_at "cwp"
      walk_at "cw if" <;> intro c1
      · walk_at "cwp"
        walk_at "cw if" <;> intro c2
        · walk_at "cwp"
          exact lf_yes I2 hD2 hy2 (decide_eq_true ⟨c1, c2⟩) (by omega) .refl
        · exact lf_no I2 hy2 (decide_eq_false fun z => c2 z.2) .refl
      · walk_at "cwp"
        exact lf_no I2 hy2 (decide_eq_false fun z => c1 z.1) .refl
    · intro D2 H2 hD2 F2 hD2'
      walk_at "cwp"
      rename_i em hem
      have ef : ((spellsM ns).take (i + 1)).filter (isFree ps) = ((spellsM ns).take i).filter (isFree ps) ++ (if isFree ps e = true then [e] else []) := by
        rw [take_snoc he, List.filter_append]
        congr 1
        by_cases h : isFree ps e = true
        · rw [if_pos h, List.filter_cons_of_pos h]; rfl
        · rw [if_neg h, List.filter_cons_of_neg h]; rfl
      have F5 : Fr [] H' (upd H2 em (.lst [])) := F2.trans (Fr.new hem)
      walk_at "cw if" <;> intro c1
      · walk_at "cwp"
        have hfe : isFree ps e = true := decide_eq_true c1
        refine lc_end (F5.get0 hacc) hla (by omega) ⟨(F.trans F5).loc hD, ?_⟩
        rw [ef, if_pos hfe, List.length_append, List.length_append, hal]
        rfl
      · have hfe : isFree ps e = false := decide_eq_false c1
        refine ⟨acc, ⟨F.trans F5, ?_⟩, F5.get0 hacc, by omega⟩
        rw [ef, hfe, hal]
        simp
  · rintro D acc H' hD ⟨F, hal⟩ hacc hla
    have hS' := (f1.trans F).seqL hS
    have hb' := (f1.trans F).seqL hb
    walk_at "cwp"
    rw [hP.1, List.take_length] at hal
    have z := k H' (f1.trans F)
    unfold shownM at z
    rw [List.length_map, List.length_map, hal]
    exact z

/-! spells -/
def sp_spells (K : PySem.W.Frag) : Sp := fun vs H Q _ => ∃ (a : Addr) (ns : List Int), vs = [.ref a] ∧ SqL K H a (ns.map V.int) ∧ RowOk ns ∧
  ∀ p xs H', Fr [] H H' → H p = none → H' p = some (.lst xs) → PairsAt H H' xs (spellsM ns) → Q (.ref p) H'
theorem c_spells {H : Hp} {Q : VK} {E : XK} {a : Addr} {ns : List Int} (h : SqL K H a (ns.map V.int)) (hR : RowOk ns)
    (k : ∀ p xs H', Fr [] H H' → H p = none → H' p = some (.lst xs) → PairsAt H H' xs (spellsM ns) → Q (.ref p) H') : sp_spells K ([.ref a] ++ []) H Q E := ⟨a, ns, rfl, h, hR, k⟩
theorem ok_spells (T : Txt K mg ad) : FnOk P w K mg base CX0 4 ad.a_spells ad.d_spells ["row"] (sp_spells K) := by
  refine T.F_spells.ok sc_spells (fun vs H Q E h => ?_) (fun cdv A outer s H vs Q E hr h => ?_)
  · obtain ⟨a, ns, rfl, _⟩ := h
    rfl
  obtain ⟨a, ns, rfl, hS, hR, k⟩ := h
  refine ⟨_, (pss_cons (ps_expr (pe_call (ok_need_both T) (hr.mono (by decide)) (by rfl) T.m_need_both T.F_need_both.kp T.b_need_both .nil pass0 (pa_cons pe_int (pa_cons (pv 0) pa_nil))))
    (pss_one (ps_ret (pe_call (ok_spells_of T) (hr.mono (by decide)) (by rfl) T.m_spells_of T.F_spells_of.kp T.b_spells_of .nil pass0 (pa_cons (pv 0) pa_nil))))), ?_⟩
  walk_at "cwp"
  refine c_need_both (by omega) (by omega) hS hR fun H1 f1 => ?_
  walk_at "cwp"
  refine c_spells_of (f1.seqL hS) hR.1 fun p xs H2 f2 h1 h2 h3 => ?_
  exact k p xs H2 (f1.trans f2) (f1.free h1) h2 (h3.base f1)

/-! shown -/
def sp_shown (K : PySem.W.Frag) : Sp := fun vs H Q _ => ∃ (n : Int) (a b : Addr) (ns ps : List Int), vs = [.int n, .ref a, .ref b] ∧ 1 ≤ n ∧ n ≤ 8 ∧ SqL K H a (ns.map V.int) ∧ RowOk ns ∧ SqL K H b (ps.map V.int) ∧ PapOk ns ps ∧
  ∀ H', Fr [] H H' → Q (.int (shownM n ns ps)) H'
theorem c_shown {H : Hp} {Q : VK} {E : XK} {n : Int} {a b : Addr} {ns ps : List Int} (n0 : 1 ≤ n) (n8 : n ≤ 8) (h : SqL K H a (ns.map V.int)) (hR : RowOk ns) (hb : SqL K H b (ps.map V.int)) (hp : PapOk ns ps)
    (k : ∀ H', Fr [] H H' → Q (.int (shownM n ns ps)) H') : sp_shown K ([.int n, .ref a, .ref b] ++ []) H Q E := ⟨n, a, b, ns, ps, rfl, n0, n8, h, hR, hb, hp, k⟩
theorem ok_shown (T : Txt K mg ad) : FnOk P w K mg base CX0 4 ad.a_shown ad.d_shown ["rooms", "row", "places"] (sp_shown K) := by
  refine T.F_shown.ok sc_shown (fun vs H Q E h => ?_) (fun cdv A outer s H vs Q E hr h => ?_)
  · obtain ⟨n, a, b, ns, ps, rfl, _⟩ := h
    rfl
  obtain ⟨n, a, b, ns, ps, rfl, n0, n8, hS, hR, hb, hp, k⟩ := h
  refine ⟨_, (pss_cons (ps_expr (pe_call (ok_need_both T) (hr.mono (by decide)) (by rfl) T.m_need_both T.F_need_both.kp T.b_need_both .nil pass0 (pa_cons (pv 0) (pa_cons (pv 1) pa_nil))))
    (pss_cons (ps_if (PW.pt (pw_or (pt_cmpR (kNeD K rfl hr.units) (pv 2) (pe_callB (kSortSet w rfl rfl) (by rfl) T.z_sorted (by decide +kernel) (pa_cons (pe_callTy (kSetL K w rfl rfl rfl) (by rfl) T.z_set (by decide +kernel) (pa_cons (pv 2) pa_nil)) pa_nil)) (nomark _)) (pw_or1 (pt_cmpR (kNeD K rfl hr.units) (pe_lc (own := [("place", 3)]) (by rfl) sc_shown.nd (kIL (K := K) rfl (pi_list (pv 2))) (blkOk_by (own := [("place", 3)]) (N := N_shown) (sc := defScope s_shown) (by decide +kernel)) (fun _ _ _ _ _ => (pg_name (i := 3) sc_shown.nd rfl (by first | exact Or.inl rfl | exact Or.inr rfl))) (fun _ _ _ _ _ => pts_one (pt_not (pt_chain op_le op_lt pe_int (pv 3) (pe_callB (kLen K rfl) (by rfl) T.z_len (by decide +kernel) (pa_cons (pv 1) pa_nil))))) (fun _ _ _ _ _ => (pv 3))) (pe_lst pa_nil) (nomark _))))) (pss_one ps_never) pss_nil)
    (pss_one (ps_ret (pe_call (ok_shown_by T) (hr.mono (by decide)) (by rfl) T.m_shown_by T.F_shown_by.kp T.b_shown_by .nil pass0 (pa_cons (pv 0) (pa_cons (pv 1) (pa_cons (pv 2) pa_nil)))))))), ?_⟩
  walk_at "cwp"
  refine c_need_both n0 n8 hS hR fun H1 f1 => ?_
  have hpl := hp.len hR.1
  have hb1 := f1.seqL hb
  walk_at "cwp"
  rename_i so hso sc hsc sp hsp
  have eu : ps = uniq ps := (uniq_lt hp.1).symm
  refine ite_nF eu ?_
  have F2 : Fr [] H1 (upd (upd H1 so (SetO w so (fun j => decide (j ∈ ps)) sc)) sp (.lst ((uniq ps).map V.int))) := (Fr.new hso).trans (Fr.new hsp)
  have hb2 := F2.seqL hb1
  have hS2 := (f1.trans F2).seqL hS
  generalize (upd (upd H1 so (SetO w so (fun j => decide (j ∈ ps)) sc)) sp (.lst ((uniq ps).map V.int))) = H2 at *
  walk_at "cwp"
  refine l_filter ps (fun _ => false) hb2 ?_ ?_
  · intro D i y H3 hD hy F3 I3
    have hS3 := F3.seqL hS2
    have hyb := hp.2 y (List.mem_of_getElem? hy)
    walk_at "cwp"
    refine ite_nF (by rw [List.length_map]; exact hyb.2) ?_
    exact lf_no I3 hy rfl .refl
  · intro D H3 hD F3 hD3
    have e0 : ps.filter (fun _ => false) = [] := List.filter_eq_nil_iff.mpr (by simp)
    rw [e0] at hD3
    walk_at "cwp"
    rename_i em hem
    have F4 := F3.trans (Fr.new (o := .lst []) hem)
    exact c_shown_by n0 n8 (F4.seqL hS2) hR.1 (F4.seqL hb2) hpl fun H5 f5 => k H5 (((f1.trans F2).trans F4).trans f5)

/-! _law_begun -/
def sp_l_begun (K : PySem.W.Frag) : Sp := fun vs H Q _ => ∃ (a : Addr) (ns : List Int), vs = [.ref a] ∧ SqL K H a (ns.map V.int) ∧ ns.length ≤ 63 ∧
  ∀ b q H', Fr [] H H' → H b = none → H q = none → Box H' b q → Q (.ref b) H'
theorem ok_l_begun (T : Txt K mg ad) : FnOk P w K mg base CX0 1 ad.a_l_begun ad.d_l_begun ["_law_script"] (sp_l_begun K) := by
  refine T.F_l_begun.ok sc_l_begun (fun vs H Q E h => ?_) (fun cdv A outer s H vs Q E hr h => ?_)
  · obtain ⟨a, ns, rfl, _⟩ := h
    rfl
  obtain ⟨a, ns, rfl, hS, hl, k⟩ := h
  refine ⟨_, (pss_cons (ps_set (i := 1) sc_l_begun.nd rfl (by first | exact Or.inl rfl | exact Or.inr rfl) pe_int)
    (pss_cons (ps_for PassesOwn.never rfl (kIL (K := K) rfl (pi_list (pv 0))) (pg_name (i := 2) sc_l_begun.nd rfl (by first | exact Or.inl rfl | exact Or.inr rfl)) (pss_one (ps_set (i := 1) sc_l_begun.nd rfl (by first | exact Or.inl rfl | exact Or.inr rfl) (pe_op op_mod (pe_op op_add (pe_op op_add (pe_op op_mul (pv 1) pe_int) (pe_op op_mul (pv 2) pe_int)) pe_int) pe_int))))
    (pss_one (ps_ret (pe_lst (pa_cons (pe_callTy (kList K rfl) (by rfl) T.z_list (by decide +kernel) (pa_cons (pv 0) pa_nil)) (pa_cons (pe_op op_mul (pv 1) (pe_callTy cr_int (by rfl) T.z_int (by decide +kernel) (pa_cons (pe_cmpR op_gt (pe_callB (kLen K rfl) (by rfl) T.z_len (by decide +kernel) (pa_cons (pv 0) pa_nil)) pe_int (nomark _)) pa_nil))) pa_nil))))))), ?_⟩
  try dsimp only [L2.cxOf, L2.Cx.nox]
  walk_at "cw"
  refine f_list (ns.map V.int) (fun i σ H' => ∃ (st : Int) (v : Option V), σ = [some (.ref a), some (.int st), v] ∧ H' = H ∧ 0 ≤ st ∧ st < 2147483647) ⟨0, none, rfl, rfl, by decide, by decide⟩ (fun i σ H' _ ⟨_, _, _, e, _⟩ => by rw [e]; exact hS) ?_ ?_
  · rintro i x σ H' hi ⟨st, v, rfl, rfl, h0, h1⟩
    obtain ⟨z, hz, rfl⟩ := int_at hi
    walk_at "cw"
    exact ⟨_, _, rfl, rfl, by omega, by omega⟩
  · rintro σ H' ⟨st, v, rfl, rfl, h0, h1⟩
    walk_at "cw"
    rename_i p hp c hc
    have hc0 : H' c = none := upd_none hc
    refine k c p _ ((Fr.new hp).more (Fr.new hc)) hc0 hp ⟨_, ns, upd_same, ?_, ?_, ?_, hl⟩
    · rw [upd_ne (ne_of_none upd_same hc), upd_same]
    all_goals split <;> omega

/-! _law_take -/
def sp_l_take : Sp := fun vs H Q _ => ∃ (b q : Addr) (n : Int), vs = [.ref b, .int n] ∧ Box H b q ∧ 0 < n ∧ n < 1073741824 ∧
  ∀ (r : Int) H', Fr [b, q] H H' → Box H' b q → 0 ≤ r → r < n → Q (.int r) H'
theorem ok_l_take (T : Txt K mg ad) : FnOk P w K mg base CX0 1 ad.a_l_take ad.d_l_take ["_law_box", "_law_many"] sp_l_take := by
  refine T.F_l_take.ok sc_l_take (fun vs H Q E h => ?_) (fun cdv A outer s H vs Q E hr h => ?_)
  · obtain ⟨b, q, n, rfl, _⟩ := h
    rfl
  obtain ⟨b, q, n, rfl, hB, n0, n1, k⟩ := h
  have nbq := hB.ne
  obtain ⟨z, ms, hb, hq, z0, z1, hl⟩ := hB
  refine ⟨_, (pss_cons (ps_if (pt_cmpR (kEqD K rfl hr.units) (pe_ix (kIxL K rfl) (pv 0) pe_int (fun _ _ => rfl)) (pe_lst pa_nil) (nomark _)) (pss_cons (ps_asg (pe_op op_mod (pe_op op_mul (pe_ix (kIxL K rfl) (pv 0) pe_int (fun _ _ => rfl)) pe_int) pe_int) (pg_sub (pv 0) pe_int set_list))
    (pss_one (ps_ret (pe_op op_mod (pe_op op_fdiv (pe_ix (kIxL K rfl) (pv 0) pe_int (fun _ _ => rfl)) pe_int) (pv 1))))) pss_nil)
    (pss_cons (ps_set (i := 2) sc_l_take.nd rfl (by first | exact Or.inl rfl | exact Or.inr rfl) (pe_ix (kIxL K rfl) (pe_ix (kIxL K rfl) (pv 0) pe_int (fun _ _ => rfl)) pe_int (fun _ _ => rfl)))
    (pss_cons (ps_asg (pe_op op_fdiv (pv 2) (pv 1)) (pg_sub (pe_ix (kIxL K rfl) (pv 0) pe_int (fun _ _ => rfl)) pe_int set_list))
    (pss_cons (ps_if (PW.pt (pw_or (pt_cmpR op_eq (pe_ix (kIxL K rfl) (pe_ix (kIxL K rfl) (pv 0) pe_int (fun _ _ => rfl)) pe_int (fun _ _ => rfl)) pe_int (nomark _)) (pw_or1 (pt_cmpR op_eq (pe_ix (kIxL K rfl) (pe_ix (kIxL K rfl) (pv 0) pe_int (fun _ _ => rfl)) pe_int (fun _ _ => rfl)) (pe_un un_neg pe_int) (nomark _))))) (pss_one (ps_expr (kBM (K := K) rfl (pe_bm PySem.F.plainAttrs_list PySem.F.slot_list_pop PySem.F.type_list_pop mt_popAt (pe_ix (kIxL K rfl) (pv 0) pe_int (fun _ _ => rfl)) (pa_cons pe_int pa_nil))))) pss_nil)
    (pss_one (ps_ret (pe_op op_mod (pv 2) (pv 1)))))))), ?_⟩
  try dsimp only [L2.cxOf, L2.Cx.nox]
  walk_at "cw"
  rename_i p hp
  walk_at "cw if" <;> intro e
  · subst e
    walk_at "cw"
    refine k _ _ ?_ ?_ (mod_in n0).1 (mod_in n0).2
    · exact (Fr.new hp).trans (Fr.at (by simp))
    · exact ⟨_, [], upd_same, by walk_at "cw at", by omega, by omega, by simp⟩
  · obtain ⟨m, r, rfl⟩ : ∃ m r, ms = m :: r := by
      cases ms with
      | nil => exact absurd rfl e
      | cons m r => exact ⟨m, r, rfl⟩
    simp only [List.map_cons] at hq
    simp only [List.length_cons] at hl
    walk_at "cw"
    have fin : ∀ xs : List Int, xs.length ≤ 63 → Q (V.int (m % n)) (upd (upd H p (HO.lst [])) q (HO.lst (xs.map V.int))) := fun xs hx => by
      refine k _ _ ?_ ?_ (mod_in n0).1 (mod_in n0).2
      · exact (Fr.new hp).trans (Fr.at (by simp))
      · exact ⟨z, xs, by walk_at "cw at", upd_same, z0, z1, hx⟩
    walk_at "cw if" <;> intro e1
    · walk_at "cw"
      rw [upd_upd]
      exact fin r (by omega)
    · walk_at "cw"
      walk_at "cw if" <;> intro e2
      · walk_at "cw"
        rw [upd_upd]
        exact fin r (by omega)
      · walk_at "cw"
        exact fin (m / n :: r) (by simp only [List.length_cons]; omega)
theorem c_take {H : Hp} {Q : VK} {E : XK} {b q : Addr} {n : Int} (hB : Box H b q) (n0 : 0 < n) (n1 : n < 1073741824) (k : ∀ (r : Int) H', Fr [b, q] H H' → Box H' b q → 0 ≤ r → r < n → Q (.int r) H') : sp_l_take ([.ref b, .int n] ++ []) H Q E := ⟨b, q, n, rfl, hB, n0, n1, k⟩

/-! _law_alike -/
def sp_l_alike (K : PySem.W.Frag) (k : Nat) : Sp := fun vs H Q _ => ∃ (x y : V) (d : PyData), vs = [x, y] ∧ Dp K H x d ∧ Dp K H y d ∧ fits k d ∧ Q (.bl true) H
theorem c_alike {H : Hp} {Q : VK} {E : XK} {k : Nat} {x y : V} (d : PyData) (h1 : Dp K H x d) (h2 : Dp K H y d) (h3 : fits k d) (q : Q (.bl true) H) : sp_l_alike K k ([x, y] ++ []) H Q E := ⟨x, y, d, rfl, h1, h2, h3, q⟩
theorem alike_body (T : Txt K mg ad) (k : Nat) (spJ : Sp) (GJ : FnOk P w K mg base CX0 k ad.a_l_alike ad.d_l_alike ["_law_found", "_law_due"] spJ)
    (hk : ∀ ds, fits k (.list ds) ∨ fits k (.tuple ds) → ∃ j, k = j + 1 ∧ spJ = sp_l_alike K j) : FnOk P w K mg base CX0 (k + 1) ad.a_l_alike ad.d_l_alike ["_law_found", "_law_due"] (sp_l_alike K k) := by
    refine T.F_l_alike.ok sc_l_alike (fun vs H Q E h => ?_) (fun cdv A outer s H vs Q E hr h => ?_)
    · obtain ⟨x, y, d, rfl, _⟩ := h
      rfl
    obtain ⟨x, y, d, rfl, h1, h2, h3, q⟩ := h
    refine ⟨_, (pss_cons (ps_if (pt_cmpR op_isN1 (pv 1) pe_non (nomark _)) (pss_one (ps_ret (pe_cmpR op_isN1 (pv 0) pe_non (nomark _)))) pss_nil)
    (pss_cons (ps_if (pt_val (pe_callB (kIsi K rfl) (by rfl) T.z_isinstance (by decide +kernel) (pa_cons (pv 1) (pa_cons (pe_bltn (v := .ty "bool") (by rfl) T.z_bool (by decide +kernel) rfl) pa_nil)))) (pss_one (ps_ret (pe_and (pe_callB (kIsi K rfl) (by rfl) T.z_isinstance (by decide +kernel) (pa_cons (pv 0) (pa_cons (pe_bltn (v := .ty "bool") (by rfl) T.z_bool (by decide +kernel) rfl) pa_nil))) (pe_one (pe_cmpR op_eq (pv 0) (pv 1) (nomark _)))))) pss_nil)
    (pss_cons (ps_if (pt_val (pe_callB (kIsi K rfl) (by rfl) T.z_isinstance (by decide +kernel) (pa_cons (pv 1) (pa_cons (pe_bltn (v := .ty "int") (by rfl) T.z_int (by decide +kernel) rfl) pa_nil)))) (pss_one (ps_ret (pe_and (pe_callB (kIsi K rfl) (by rfl) T.z_isinstance (by decide +kernel) (pa_cons (pv 0) (pa_cons (pe_bltn (v := .ty "int") (by rfl) T.z_int (by decide +kernel) rfl) pa_nil))) (pe_and (pe_not (pe_callB (kIsi K rfl) (by rfl) T.z_isinstance (by decide +kernel) (pa_cons (pv 0) (pa_cons (pe_bltn (v := .ty "bool") (by rfl) T.z_bool (by decide +kernel) rfl) pa_nil)))) (pe_one (pe_cmpR op_eq (pv 0) (pv 1) (nomark _))))))) pss_nil)
    (pss_cons (ps_if (pt_val (pe_callB (kIsi K rfl) (by rfl) T.z_isinstance (by decide +kernel) (pa_cons (pv 1) (pa_cons (pe_bltn (v := .ty "str") (by rfl) T.z_str (by decide +kernel) rfl) pa_nil)))) (pss_one (ps_ret (pe_and (pe_callB (kIsi K rfl) (by rfl) T.z_isinstance (by decide +kernel) (pa_cons (pv 0) (pa_cons (pe_bltn (v := .ty "str") (by rfl) T.z_str (by decide +kernel) rfl) pa_nil))) (pe_one (pe_cmpR op_eq (pv 0) (pv 1) (nomark _)))))) pss_nil)
    (pss_cons (ps_if (PW.pt (pw_or (pt_cmpR op_ne (pe_callB (kIsi K rfl) (by rfl) T.z_isinstance (by decide +kernel) (pa_cons (pv 1) (pa_cons (pe_bltn (v := .ty "tuple") (by rfl) T.z_tuple (by decide +kernel) rfl) pa_nil))) (pe_callB (kIsi K rfl) (by rfl) T.z_isinstance (by decide +kernel) (pa_cons (pv 0) (pa_cons (pe_bltn (v := .ty "tuple") (by rfl) T.z_tuple (by decide +kernel) rfl) pa_nil))) (nomark _)) (pw_or1 (pt_cmpR op_ne (pe_callB (kIsi K rfl) (by rfl) T.z_isinstance (by decide +kernel) (pa_cons (pv 1) (pa_cons (pe_bltn (v := .ty "list") (by rfl) T.z_list (by decide +kernel) rfl) pa_nil))) (pe_callB (kIsi K rfl) (by rfl) T.z_isinstance (by decide +kernel) (pa_cons (pv 0) (pa_cons (pe_bltn (v := .ty "list") (by rfl) T.z_list (by decide +kernel) rfl) pa_nil))) (nomark _))))) (pss_one (ps_ret pe_bl)) pss_nil)
    (pss_cons (ps_if (pt_cmpR op_ne (pe_callB (kLen K rfl) (by rfl) T.z_len (by decide +kernel) (pa_cons (pv 0) pa_nil)) (pe_callB (kLen K rfl) (by rfl) T.z_len (by decide +kernel) (pa_cons (pv 1) pa_nil)) (nomark _)) (pss_one (ps_ret pe_bl)) pss_nil)
    (pss_cons (ps_for PassesOwn.never rfl (pi_range1 (by rfl) T.z_range (pa_cons (pe_callB (kLen K rfl) (by rfl) T.z_len (by decide +kernel) (pa_cons (pv 1) pa_nil)) pa_nil)) (pg_name (i := 2) sc_l_alike.nd rfl (by first | exact Or.inl rfl | exact Or.inr rfl)) (pss_one (ps_if (pt_not (pt_val (pe_call GJ (hr.mono (Nat.le_refl _)) (by rfl) T.m_l_alike T.F_l_alike.kp T.b_l_alike .nil pass0 (pa_cons (pe_ix (kIxQ K rfl) (pv 0) (pv 2) (fun _ _ => rfl)) (pa_cons (pe_ix (kIxQ K rfl) (pv 1) (pv 2) (fun _ _ => rfl)) pa_nil))))) (pss_one (ps_ret pe_bl)) pss_nil)))
    (pss_one (ps_ret pe_bl))))))))), ?_⟩
    try dsimp only [L2.cxOf, L2.Cx.nox]
    cases h1 with
    | non =>
      cases h2
      walk_at "cw"
      exact q
    | bl b =>
      cases h2
      walk_at "cw"
      rw [decide_eq_true rfl]
      exact q
    | int i =>
      cases h2
      walk_at "cw"
      rw [decide_eq_true rfl]
      exact q
    | str z =>
      cases h2
      walk_at "cw"
      rw [decide_eq_true rfl]
      exact q
    | @lst a1 xs1 ds hs1 ha1 =>
      cases h2 with
      | @lst a2 xs2 _ hs2 ha2 =>
      obtain ⟨j, rfl, rfl⟩ := hk ds (.inl h3)
      obtain ⟨hz, hf⟩ := h3
      have l1 := dpall_len ha1
      have l2 := dpall_len ha2
      walk_at "cw"
      refine f_rng1 (by omega) (by omega) (fun i σ H' => ∃ v : Option V, σ = [some (.ref a1), some (.ref a2), v] ∧ H' = H) ⟨none, rfl, rfl⟩ ?_ ?_
      · rintro i σ H' hi ⟨v, rfl, rfl⟩
        have hi' : i < ds.length := by omega
        obtain ⟨x1, e1, d1⟩ := dpall_get ha1 (List.getElem?_eq_getElem hi')
        obtain ⟨x2, e2, d2⟩ := dpall_get ha2 (List.getElem?_eq_getElem hi')
        walk_at "cw"
        refine c_alike _ d1 d2 (hf _ (List.getElem_mem hi')) ?_
        walk_at "cw"
        exact ⟨_, rfl, rfl⟩
      · rintro σ H' ⟨v, rfl, rfl⟩
        walk_at "cw"
        exact q
    | @tup a1 xs1 ds hs1 ha1 =>
      cases h2 with
      | @tup a2 xs2 _ hs2 ha2 =>
      obtain ⟨j, rfl, rfl⟩ := hk ds (.inr h3)
      obtain ⟨hz, hf⟩ := h3
      have l1 := dpall_len ha1
      have l2 := dpall_len ha2
      walk_at "cw"
      refine f_rng1 (by omega) (by omega) (fun i σ H' => ∃ v : Option V, σ = [some (.ref a1), some (.ref a2), v] ∧ H' = H) ⟨none, rfl, rfl⟩ ?_ ?_
      · rintro i σ H' hi ⟨v, rfl, rfl⟩
        have hi' : i < ds.length := by omega
        obtain ⟨x1, e1, d1⟩ := dpall_get ha1 (List.getElem?_eq_getElem hi')
        obtain ⟨x2, e2, d2⟩ := dpall_get ha2 (List.getElem?_eq_getElem hi')
        walk_at "cw"
        refine c_alike _ d1 d2 (hf _ (List.getElem_mem hi')) ?_
        walk_at "cw"
        exact ⟨_, rfl, rfl⟩
      · rintro σ H' ⟨v, rfl, rfl⟩
        walk_at "cw"
        exact q
theorem alike_at (T : Txt K mg ad) : ∀ k : Nat, FnOk P w K mg base CX0 (k + 1) ad.a_l_alike ad.d_l_alike ["_law_found", "_law_due"] (sp_l_alike K k)
  | 0 => alike_body T 0 (fun _ _ _ _ => False) ⟨fun _ _ _ _ h => h.elim, fun _ _ _ _ _ _ _ _ _ _ _ _ _ h => h.elim⟩ (fun ds h => by rcases h with h | h <;> exact h.elim)
  | k + 1 => alike_body T (k + 1) (sp_l_alike K k) (alike_at T k) (fun _ _ => ⟨k, rfl, rfl⟩)
theorem ok_l_alike (T : Txt K mg ad) : FnOk P w K mg base CX0 6 ad.a_l_alike ad.d_l_alike ["_law_found", "_law_due"] (sp_l_alike K 5) := alike_at T 5

/-! _law_row -/
def sp_l_row : Sp := fun vs H Q _ => ∃ (b q : Addr) (n : Int), vs = [.ref b, .int n] ∧ Box H b q ∧ 0 ≤ n ∧ n ≤ 100 ∧
  ∀ (p : Addr) (ns : List Int) H', Fr [b, q] H H' → Box H' b q → H p = none → H' p = some (.lst (ns.map V.int)) → (ns.length : Int) ≤ n → (∀ x ∈ ns, 0 ≤ x ∧ x < 12) → Q (.ref p) H'
theorem c_row {H : Hp} {Q : VK} {E : XK} {b q : Addr} {n : Int} (hB : Box H b q) (n0 : 0 ≤ n) (n1 : n ≤ 100)
    (k : ∀ (p : Addr) (ns : List Int) H', Fr [b, q] H H' → Box H' b q → H p = none → H' p = some (.lst (ns.map V.int)) → (ns.length : Int) ≤ n → (∀ x ∈ ns, 0 ≤ x ∧ x < 12) → Q (.ref p) H') : sp_l_row ([.ref b, .int n] ++ []) H Q E := ⟨b, q, n, rfl, hB, n0, n1, k⟩
def row_mid (H0 : Hp) (b q p : Addr) (n pg way : Int) (t : V) (ns : List Int) : L2.St → Hp → Prop := fun σ H => ∃ z : Int, 0 ≤ z ∧ z < 12 ∧ σ = [some (.ref b), some (.int n), some (.int pg), some (.ref p), some (.int way), some t, some (.int z)] ∧
  Fr [b, q] H0 H ∧ Box H b q ∧ H p = some (.lst (ns.map V.int))
theorem ok_l_row (T : Txt K mg ad) : FnOk P w K mg base CX0 2 ad.a_l_row ad.d_l_row ["_law_box", "_law_most"] sp_l_row := by
  refine T.F_l_row.ok sc_l_row (fun vs H Q E h => ?_) (fun cdv A outer s H vs Q E hr h => ?_)
  · obtain ⟨b, q, n, rfl, _⟩ := h
    rfl
  obtain ⟨b, q, n, rfl, hB, n0, n1, k⟩ := h
  refine ⟨_, (pss_cons (ps_set (i := 2) sc_l_row.nd rfl (by first | exact Or.inl rfl | exact Or.inr rfl) (pe_op op_add pe_int (pe_call (ok_l_take T) (hr.mono (by decide)) (by rfl) T.m_l_take T.F_l_take.kp T.b_l_take .nil pass0 (pa_cons (pv 0) (pa_cons (pe_ix (kIxL K rfl) (pe_lst (pa_cons pe_int (pa_cons pe_int (pa_cons pe_int pa_nil)))) (pe_call (ok_l_take T) (hr.mono (by decide)) (by rfl) T.m_l_take T.F_l_take.kp T.b_l_take .nil pass0 (pa_cons (pv 0) (pa_cons pe_int pa_nil))) (fun _ _ => rfl)) pa_nil)))))
    (pss_cons (ps_set (i := 3) sc_l_row.nd rfl (by first | exact Or.inl rfl | exact Or.inr rfl) (pe_lst pa_nil))
    (pss_cons (ps_set (i := 4) sc_l_row.nd rfl (by first | exact Or.inl rfl | exact Or.inr rfl) (pe_call (ok_l_take T) (hr.mono (by decide)) (by rfl) T.m_l_take T.F_l_take.kp T.b_l_take .nil pass0 (pa_cons (pv 0) (pa_cons pe_int pa_nil))))
    (pss_cons (ps_for PassesOwn.never rfl (pi_range1 (by rfl) T.z_range (pa_cons (pe_call (ok_l_take T) (hr.mono (by decide)) (by rfl) T.m_l_take T.F_l_take.kp T.b_l_take .nil pass0 (pa_cons (pv 0) (pa_cons (pe_op op_add (pv 1) pe_int) pa_nil))) pa_nil)) (pg_name (i := 5) sc_l_row.nd rfl (by first | exact Or.inl rfl | exact Or.inr rfl)) (pss_cons (ps_set (i := 6) sc_l_row.nd rfl (by first | exact Or.inl rfl | exact Or.inr rfl) (pe_call (ok_l_take T) (hr.mono (by decide)) (by rfl) T.m_l_take T.F_l_take.kp T.b_l_take .nil pass0 (pa_cons (pv 0) (pa_cons (pv 2) pa_nil))))
    (C8.pss_cut (ps_if (PW.pt (pw_and (pt_cmpR op_eq (pv 4) pe_int (nomark _)) (pw_and (pt_cmpR (kNeD K rfl hr.units) (pv 3) (pe_lst pa_nil) (nomark _)) (pw_and1 (pt_cmpR op_gt (pe_call (ok_l_take T) (hr.mono (by decide)) (by rfl) T.m_l_take T.F_l_take.kp T.b_l_take .nil pass0 (pa_cons (pv 0) (pa_cons pe_int pa_nil))) pe_int (nomark _)))))) (pss_one (ps_set (i := 6) sc_l_row.nd rfl (by first | exact Or.inl rfl | exact Or.inr rfl) (pe_ix (kIxL K rfl) (pv 3) (pe_op op_sub (pe_op op_sub (pe_callB (kLen K rfl) (by rfl) T.z_len (by decide +kernel) (pa_cons (pv 3) pa_nil)) pe_int) (pe_call (ok_l_take T) (hr.mono (by decide)) (by rfl) T.m_l_take T.F_l_take.kp T.b_l_take .nil pass0 (pa_cons (pv 0) (pa_cons (pe_callB (cr_min2 rfl) (by rfl) T.z_min (by decide +kernel) (pa_cons pe_int (pa_cons (pe_callB (kLen K rfl) (by rfl) T.z_len (by decide +kernel) (pa_cons (pv 3) pa_nil)) pa_nil))) pa_nil)))) (fun _ _ => rfl)))) pss_nil)
    (C8.pss_cut (ps_if (PW.pt (pw_and (pt_cmpR op_eq (pv 4) pe_int (nomark _)) (pw_and1 (pt_cmpR op_gt (pe_call (ok_l_take T) (hr.mono (by decide)) (by rfl) T.m_l_take T.F_l_take.kp T.b_l_take .nil pass0 (pa_cons (pv 0) (pa_cons pe_int pa_nil))) pe_int (nomark _))))) (pss_one (ps_set (i := 6) sc_l_row.nd rfl (by first | exact Or.inl rfl | exact Or.inr rfl) (pe_op op_mod (pv 5) (pv 2)))) pss_nil)
    (C8.pss_cut (ps_if (PW.pt (pw_and (pt_cmpR op_eq (pv 4) pe_int (nomark _)) (pw_and (pt_cmpR (kNeD K rfl hr.units) (pv 3) (pe_lst pa_nil) (nomark _)) (pw_and1 (pt_cmpR op_gt (pe_call (ok_l_take T) (hr.mono (by decide)) (by rfl) T.m_l_take T.F_l_take.kp T.b_l_take .nil pass0 (pa_cons (pv 0) (pa_cons pe_int pa_nil))) pe_int (nomark _)))))) (pss_one (ps_set (i := 6) sc_l_row.nd rfl (by first | exact Or.inl rfl | exact Or.inr rfl) (pe_op op_mod (pe_op op_add (pe_op op_add (pe_ix (kIxL K rfl) (pv 3) (pe_un un_neg pe_int) (fun _ _ => rfl)) pe_int) (pe_call (ok_l_take T) (hr.mono (by decide)) (by rfl) T.m_l_take T.F_l_take.kp T.b_l_take .nil pass0 (pa_cons (pv 0) (pa_cons pe_int pa_nil)))) (pv 2)))) pss_nil)
    (pss_one (ps_expr (kBM (K := K) rfl (pe_bm PySem.F.plainAttrs_list PySem.F.slot_list_append PySem.F.type_list_append mt_append (pv 3) (pa_cons (pv 6) pa_nil))))))))))
    (pss_one (ps_ret (pv 3))))))), ?_⟩
  try dsimp only [L2.cxOf, L2.Cx.nox]
  walk_at "cw"
  rename_i p1 hp1
  refine c_take (hB.keep0 (Fr.new hp1)) (by omega) (by omega) fun r H1 f1 B1 r0 r1 => ?_
  have h1 : H1 p1 = some (.lst (([4, 6, 12] : List Int).map V.int)) := f1.get upd_same (hB.free hp1)
  obtain ⟨v, hv, hm⟩ := ints_at (ns := [4, 6, 12]) r0 (by simpa using r1)
  have v0 : 0 < v ∧ v ≤ 12 := by
    simp at hm
    omega
  walk_at "cw"
  refine c_take B1 (by omega) (by omega) fun pg0 H2 f2 B2 pg1 pg2 => ?_
  walk_at "cw"
  rename_i p hp
  have F2 : Fr [b, q] H H2 := ((Fr.new hp1).trans f1).trans f2
  have hp0 : H p = none := F2.free hp
  have np : p ∉ [b, q] := B2.free hp
  refine c_take (B2.keep0 (Fr.new hp)) (by omega) (by omega) fun way H4 f4 B4 w0 w1 => ?_
  have h4 : H4 p = some (.lst (([] : List Int).map V.int)) := f4.get upd_same np
  have F4 : Fr [b, q] H H4 := (F2.trans (Fr.new hp)).trans f4
  walk_at "cw"
  refine c_take B4 (by omega) (by omega) fun m H5 f5 B5 m0 m1 => ?_
  have h5 := f5.get h4 np
  have F5 := F4.trans f5
  walk_at "cw"
  refine f_rng1 (by omega) m0 (fun i σ H' => ∃ (ns : List Int) (v5 v6 : Option V), σ = [some (.ref b), some (.int n), some (.int (1 + pg0)), some (.ref p), some (.int way), v5, v6] ∧ Fr [b, q] H H' ∧ Box H' b q ∧ H' p = some (.lst (ns.map V.int)) ∧ ns.length = i ∧ ∀ x ∈ ns, 0 ≤ x ∧ x < 12)
    ⟨[], none, none, rfl, F5, B5, h5, rfl, by simp⟩ ?_ ?_
  · rintro i σ H' hi ⟨ns, v5, v6, rfl, F, B, hP, hl, hm⟩
    walk_at "cw"
    refine c_take B (by omega) (by omega) fun z H6 f6 B6 z0 z1 => ?_
    have F6 := F.trans f6
    have h6 := f6.get hP np
    walk_at "cw"
    refine w_cut (row_mid H b q p n (1 + pg0) way (.int (i : Int)) ns) ?_ ?_
    · walk_at "cw"
      walk_at "cw if" <;> intro e1
      · walk_at "cw"
        walk_at "cw if" <;> intro e2
        · walk_at "cw"
          rename_i p7 hp7
          have np7 : p ≠ p7 := ne_of_none h6 hp7
          refine c_take (B6.keep0 (Fr.new hp7)) (by omega) (by omega) fun z2 H7 f7 B7 z20 z21 => ?_
          have h7 : H7 p = some (.lst (ns.map V.int)) := f7.get ((upd_ne np7).trans h6) np
          have F7 := (F6.trans (Fr.new hp7)).trans f7
          walk_at "cw"
          walk_at "cw if" <;> intro e3
          · walk_at "cw"
            simp only [List.length_map]
            have hlen : 0 < ns.length := List.length_pos_iff.mpr e2
            refine c_take B7 (by split <;> omega) (by split <;> omega) fun z3 H8 f8 B8 z30 z31 => ?_
            have h8 := f8.get h7 np
            have zz : z3 < (ns.length : Int) := by
              split at z31 <;> omega
            obtain ⟨v, hv, hvm⟩ := ints_at (ns := ns) (r := (ns.length : Int) - 1 - z3) (by omega) (by omega)
            walk_at "cw"
            exact ⟨v, (hm v hvm).1, (hm v hvm).2, rfl, F7.trans f8, B8, h8⟩
          · walk_at "cw"
            exact ⟨z, z0, by omega, rfl, F7, B7, h7⟩
        · walk_at "cw"
          rename_i p7 hp7
          exact ⟨z, z0, by omega, rfl, F6.trans (Fr.new hp7), B6.keep0 (Fr.new hp7), (upd_ne (ne_of_none h6 hp7)).trans h6⟩
      · walk_at "cw"
        exact ⟨z, z0, by omega, rfl, F6, B6, h6⟩
    rintro σ H7 ⟨z', z0', z1', rfl, F7, B7, h7⟩
    refine w_cut (row_mid H b q p n (1 + pg0) way (.int (i : Int)) ns) ?_ ?_
    · walk_at "cw"
      walk_at "cw if" <;> intro e1
      · walk_at "cw"
        refine c_take B7 (by omega) (by omega) fun z2 H8 f8 B8 z20 z21 => ?_
        have h8 := f8.get h7 np
        have F8 := F7.trans f8
        walk_at "cw"
        walk_at "cw if" <;> intro e3
        · walk_at "cw"
          have m1 := mod_in (z := (i : Int)) (n := 1 + pg0) (by omega)
          exact ⟨_, m1.1, by omega, rfl, F8, B8, h8⟩
        · walk_at "cw"
          exact ⟨z', z0', z1', rfl, F8, B8, h8⟩
      · walk_at "cw"
        exact ⟨z', z0', z1', rfl, F7, B7, h7⟩
    rintro σ H8 ⟨z'', z0'', z1'', rfl, F8, B8, h8⟩
    refine w_cut (row_mid H b q p n (1 + pg0) way (.int (i : Int)) ns) ?_ ?_
    · walk_at "cw"
      walk_at "cw if" <;> intro e1
      · walk_at "cw"
        walk_at "cw if" <;> intro e2
        · walk_at "cw"
          rename_i p7 hp7
          have np7 : p ≠ p7 := ne_of_none h8 hp7
          refine c_take (B8.keep0 (Fr.new hp7)) (by omega) (by omega) fun z2 H9 f9 B9 z20 z21 => ?_
          have h9 : H9 p = some (.lst (ns.map V.int)) := f9.get ((upd_ne np7).trans h8) np
          have F9 := (F8.trans (Fr.new hp7)).trans f9
          walk_at "cw"
          walk_at "cw if" <;> intro e3
          · obtain ⟨v, hv, hvm⟩ := ints_last e2
            walk_at "cw"
            refine c_take B9 (by omega) (by omega) fun z3 H10 f10 B10 z30 z31 => ?_
            walk_at "cw"
            have m1 := mod_in (z := v + 1 + z3) (n := 1 + pg0) (by omega)
            exact ⟨_, m1.1, by omega, rfl, F9.trans f10, B10, f10.get h9 np⟩
          · walk_at "cw"
            exact ⟨z'', z0'', z1'', rfl, F9, B9, h9⟩
        · walk_at "cw"
          rename_i p7 hp7
          exact ⟨z'', z0'', z1'', rfl, F8.trans (Fr.new hp7), B8.keep0 (Fr.new hp7), (upd_ne (ne_of_none h8 hp7)).trans h8⟩
      · walk_at "cw"
        exact ⟨z'', z0'', z1'', rfl, F8, B8, h8⟩
    rintro σ H9 ⟨y, y0, y1, rfl, F9, B9, h9⟩
    walk_at "cw"
    refine ⟨ns ++ [y], _, _, rfl, F9.loc hp0, B9.keep (W := [p]) (Fr.at (by simp)) ?_ ?_, upd_same.trans (by rw [List.map_append]; rfl), by simp [hl], ?_⟩
    · exact fun m => np (by simp at m; simp [m])
    · exact fun m => np (by simp at m; simp [m])
    · intro x hx
      rcases List.mem_append.mp hx with h | h
      · exact hm x h
      · simp at h
        subst h
        exact ⟨y0, y1⟩
  · rintro σ H' ⟨ns, v5, v6, rfl, F, B, hP, hl, hm⟩
    walk_at "cw"
    exact k p ns H' F B hp0 hP (by omega) hm

/-! _law_shown -/
def sp_l_shown (K : PySem.W.Frag) : Sp := fun vs H Q _ => ∃ (n : Int) (a b : Addr) (ns ps : List Int), vs = [.int n, .ref a, .ref b] ∧ 1 ≤ n ∧ n ≤ 8 ∧ SqL K H a (ns.map V.int) ∧ ns.length ≤ 100 ∧ SqL K H b (ps.map V.int) ∧ ps.length ≤ 100 ∧
  ∀ H', Fr [] H H' → Q (.int (shownM n ns ps)) H'
theorem c_l_shown {H : Hp} {Q : VK} {E : XK} {n : Int} {a b : Addr} {ns ps : List Int} (n0 : 1 ≤ n) (n8 : n ≤ 8) (h : SqL K H a (ns.map V.int)) (hl : ns.length ≤ 100) (hb : SqL K H b (ps.map V.int)) (hp : ps.length ≤ 100)
    (k : ∀ H', Fr [] H H' → Q (.int (shownM n ns ps)) H') : sp_l_shown K ([.int n, .ref a, .ref b] ++ []) H Q E := ⟨n, a, b, ns, ps, rfl, n0, n8, h, hl, hb, hp, k⟩
theorem ok_l_shown (T : Txt K mg ad) : FnOk P w K mg base CX0 1 ad.a_l_shown ad.d_l_shown ["_law_rooms", "_law_row_here", "_law_places"] (sp_l_shown K) := by
  refine T.F_l_shown.ok sc_l_shown (fun vs H Q E h => ?_) (fun cdv A outer s H vs Q E hr h => ?_)
  · obtain ⟨n, a, b, ns, ps, rfl, _⟩ := h
    rfl
  obtain ⟨n, a, b, ns, ps, rfl, n0, n8, hS, hl, hb, hp, k⟩ := h
  refine ⟨_, (pss_cons (ps_set (i := 3) sc_l_shown.nd rfl (by first | exact Or.inl rfl | exact Or.inr rfl) (pe_op op_sub (pe_callB (kLen K rfl) (by rfl) T.z_len (by decide +kernel) (pa_cons (pv 1) pa_nil)) (pe_op op_mul (pe_op op_sub (pv 0) pe_int) (pe_callB (kLen K rfl) (by rfl) T.z_len (by decide +kernel) (pa_cons (pv 2) pa_nil)))))
    (pss_cons (ps_for PassesOwn.never rfl (pi_range1 (by rfl) T.z_range (pa_cons (pe_callB (kLen K rfl) (by rfl) T.z_len (by decide +kernel) (pa_cons (pv 1) pa_nil)) pa_nil)) (pg_name (i := 4) sc_l_shown.nd rfl (by first | exact Or.inl rfl | exact Or.inr rfl)) (pss_cons (ps_setLc (i := 5) (own := [("_law_at", 7)]) (by rfl) sc_l_shown.nd rfl rfl (sw_true rfl rfl rfl (by decide +kernel)) (pi_range1 (by rfl) T.z_range (pa_cons (pv 4) pa_nil)) (blkOk_by (own := [("_law_at", 7)]) (N := N_l_shown) (sc := defScope s_l_shown) (by decide +kernel)) (fun _ _ _ _ _ => (pg_name (i := 7) sc_l_shown.nd rfl (by first | exact Or.inl rfl | exact Or.inr rfl))) (fun _ _ _ _ _ => pts_one (pt_cmpR op_eq (pe_ix (kIxL K rfl) (pv 1) (pv 7) (fun _ _ => rfl)) (pe_ix (kIxL K rfl) (pv 1) (pv 4) (fun _ _ => rfl)) (nomark _))) (fun _ _ _ _ _ => (pv 7)))
    (pss_one (ps_for PassesOwn.never rfl (kIL (K := K) rfl (pi_list (pe_slice (kSlL K rfl) (pv 5) (po_some (pe_un un_neg pe_int)) po_none))) (pg_name (i := 6) sc_l_shown.nd rfl (by first | exact Or.inl rfl | exact Or.inr rfl)) (pss_one (ps_if (pt_cmpR (kEqD K rfl hr.units) (pe_lc (own := [("_law_place", 8)]) (by rfl) sc_l_shown.nd (kIL (K := K) rfl (pi_list (pv 2))) (blkOk_by (own := [("_law_place", 8)]) (N := N_l_shown) (sc := defScope s_l_shown) (by decide +kernel)) (fun _ _ _ _ _ => (pg_name (i := 8) sc_l_shown.nd rfl (by first | exact Or.inl rfl | exact Or.inr rfl))) (fun _ _ _ _ _ => pts_one (pt_chain op_lt op_lt (pv 6) (pv 8) (pv 4))) (fun _ _ _ _ _ => (pv 8))) (pe_lst pa_nil) (nomark _)) (pss_one (ps_set (i := 3) sc_l_shown.nd rfl (by first | exact Or.inl rfl | exact Or.inr rfl) (pe_op op_sub (pv 3) pe_int))) pss_nil))))))
    (pss_one (ps_ret (pv 3))))), ?_⟩
  walk_at "cwp"
  have hml : (ns.map V.int).length = ns.length := List.length_map _
  have hmp : (ps.map V.int).length = ps.length := List.length_map _
  refine f_rng1 (by omega) (by omega) (fun i σ H' => ∃ v4 v5 v6, σ = [some (.int n), some (.ref a), some (.ref b), some (.int ((ns.length : Int) - (n - 1) * (ps.length : Int) - (((spellsTo ns i).filter (isFree ps)).length : Int))), v4, v5, v6, none, none] ∧ Fr [] H H')
    ⟨_, _, _, by simp [spellsTo]; rfl, .refl⟩ ?_ ?_
  · rintro i σ H2 hi ⟨v4, v5, v6, rfl, F⟩
    have hil : i < ns.length := by omega
    obtain ⟨x, hx⟩ : ∃ x, ns[i]? = some x := ⟨ns[i], List.getElem?_eq_getElem hil⟩
    have hat : atI (ns.map V.int) (i : Int) = some (.int x) := atI_nat (by rw [List.getElem?_map, hx]; rfl)
    have hS2 := F.seqL hS
    walk_at "cwp"
    refine l_rng1 (by omega) (by omega) (fun D j acc H' => Fr [] H2 H' ∧ acc = (begL ns i j).map V.int) (fun D hD => ⟨Fr.new hD, rfl⟩) ?_ ?_
    · rintro D j acc H3 hD hj ⟨F3, rfl⟩ hacc hla
      obtain ⟨y, hy⟩ : ∃ y, ns[j]? = some y := ⟨ns[j], List.getElem?_eq_getElem (by omega)⟩
      have hat2 : atI (ns.map V.int) (j : Int) = some (.int y) := atI_nat (by rw [List.getElem?_map, hy]; rfl)
      have hS3 := F3.seqL hS2
      walk_at "cwp"
      walk_at "cw if" <;> intro c
      · walk_at "cwp"
        exact lc_end hacc hla (by omega) ⟨F3.loc hD, by rw [begL_succ, hy, hx, c, if_pos rfl, List.map_append]; rfl⟩
      · exact ⟨_, ⟨F3, by rw [begL_succ, hy, hx, if_neg (fun z => c (Option.some.inj z)), List.append_nil]⟩, hacc, by omega⟩
    · rintro D acc H3 hD ⟨F3, rfl⟩ hacc hla
      have hbl := begL_len ns i (i : Int).toNat
      walk_at "cwp"
      rename_i sl hsl
      have ei : (i : Int).toNat = i := Int.toNat_natCast i
      rw [ei]
      have hsp := spellAt_eq hx
      have hLl : (lastL (begL ns i i)).length ≤ 100 := by
        have := begL_len ns i i
        unfold lastL
        rw [List.length_drop]
        omega
      generalize lastL (begL ns i i) = L at *
      have F4 := ((F.trans F3).trans (Fr.new (o := .lst (L.map V.int)) hsl))
      have g4 : (upd H3 sl (.lst (L.map V.int))) sl = some (.lst (L.map V.int)) := upd_same
      generalize upd H3 sl (.lst (L.map V.int)) = H4 at *
      refine f_list (L.map V.int) (fun j σ H' => ∃ v6, σ = [some (.int n), some (.ref a), some (.ref b), some (.int ((ns.length : Int) - (n - 1) * (ps.length : Int) - (((spellsTo ns i ++ (L.take j).map fun b => (b, (i : Int))).filter (isFree ps)).length : Int))), some (.int i), some (.ref D), v6, none, none] ∧ Fr [] H4 H')
        ⟨_, by rw [List.take_zero, List.map_nil, List.append_nil]; rfl, .refl⟩ (fun j σ H' _ ⟨_, _, f⟩ => SqL.of (f.get0 g4)) ?_ ?_
      · rintro j y σ H5 hj ⟨v6, rfl, F5⟩
        obtain ⟨z, hz, rfl⟩ := int_at hj
        have hb5 := (F4.trans F5).seqL hb
        have ef : (spellsTo ns i ++ (L.take (j + 1)).map fun b => (b, (i : Int))).filter (isFree ps) = (spellsTo ns i ++ (L.take j).map fun b => (b, (i : Int))).filter (isFree ps) ++ (if isFree ps (z, (i : Int)) = true then [(z, (i : Int))] else []) := by
          rw [take_snoc hz, List.map_append, ← List.append_assoc, List.filter_append (spellsTo ns i ++ _)]
          congr 1
          by_cases h : isFree ps (z, (i : Int)) = true
          · rw [if_pos h]; exact List.filter_cons_of_pos h
          · rw [if_neg h]; exact List.filter_cons_of_neg h
        rw [ef]
        walk_at "cwp"
        refine l_filter ps (fun p => decide (z < p ∧ p < (i : Int))) hb5 ?_ ?_
        · intro D2 j2 y2 H6 hD2 hy2 F6 I6
          have hj2 := (List.getElem?_eq_some_iff.mp hy2).1
          walk_at "cwp"
          walk_at "cw if" <;> intro c1
          · walk_at "cwp"
            walk_at "cw if" <;> intro c2
            · walk_at "cwp"
              exact lf_yes I6 hD2 hy2 (decide_eq_true ⟨c1, c2⟩) (by omega) .refl
            · exact lf_no I6 hy2 (decide_eq_false fun z => c2 z.2) .refl
          · walk_at "cwp"
            exact lf_no I6 hy2 (decide_eq_false fun z => c1 z.1) .refl
        · intro D2 H6 hD2 F6 hD6
          walk_at "cwp"
          rename_i em hem
          have F7 := (F5.trans F6).trans (Fr.new (o := .lst []) hem)
          walk_at "cw if" <;> intro c1
          · walk_at "cwp"
            have hf : isFree ps (z, (i : Int)) = true := decide_eq_true c1
            refine ⟨some (.int z), ?_, F7⟩
            rw [if_pos hf, List.length_append, Int.natCast_add, ← Int.sub_sub]
            rfl
          · walk_at "cwp"
            have hf : ¬ isFree ps (z, (i : Int)) = true := fun h => c1 (by simpa [isFree] using h)
            refine ⟨some (.int z), ?_, F7⟩
            rw [if_neg hf, List.append_nil]
            rfl
      · rintro σ H5 ⟨v6, rfl, F5⟩
        rw [List.length_map, List.take_length, ← hsp, ← spellsTo_succ]
        exact ⟨_, _, _, rfl, F4.trans F5⟩
  · rintro σ H2 ⟨v4, v5, v6, rfl, F⟩
    walk_at "cwp"
    have z := k H2 F
    unfold shownM at z
    have e : (((ns.map V.int).length : Nat) : Int).toNat = ns.length := by omega
    rw [e]
    rw [show (ns.length : Int) - (n - 1) * (ps.length : Int) - (((spellsTo ns ns.length).filter (isFree ps)).length : Int) = (ns.length : Int) - (((spellsM ns).filter (isFree ps)).length : Int) - (n - 1) * (ps.length : Int) from by unfold spellsM; omega]
    exact z

/-! law -/
def sp_l_law (K : PySem.W.Frag) : Sp := fun vs H Q _ => ∃ (a : Addr) (ns : List Int), vs = [.ref a] ∧ SqL K H a (ns.map V.int) ∧ ns.length ≤ 63 ∧ ∀ H', Q (.bl true) H'
theorem ok_l_law (T : Txt K mg ad) : FnOk P w K mg base CX0 7 ad.a_l_law ad.d_l_law ["_law_script"] (sp_l_law K) := by
  refine T.F_l_law.ok sc_l_law (fun vs H Q E h => ?_) (fun cdv A outer s H vs Q E hr h => ?_)
  · obtain ⟨a, ns, rfl, _⟩ := h
    rfl
  obtain ⟨a, ns, rfl, hS, hl, k⟩ := h
  refine ⟨_, (pss_cons (ps_set (i := 1) sc_l_law.nd rfl (by first | exact Or.inl rfl | exact Or.inr rfl) (pe_call (ok_l_begun T) (hr.mono (by decide)) (by rfl) T.m_l_begun T.F_l_begun.kp T.b_l_begun .nil pass0 (pa_cons (pv 0) pa_nil)))
    (pss_cons (ps_for PassesOwn.never rfl (pi_range1 (by rfl) T.z_range (pa_cons pe_int pa_nil)) (pg_name (i := 2) sc_l_law.nd rfl (by first | exact Or.inl rfl | exact Or.inr rfl)) (pss_cons (ps_set (i := 3) sc_l_law.nd rfl (by first | exact Or.inl rfl | exact Or.inr rfl) (pe_op op_add pe_int (pe_call (ok_l_take T) (hr.mono (by decide)) (by rfl) T.m_l_take T.F_l_take.kp T.b_l_take .nil pass0 (pa_cons (pv 1) (pa_cons pe_int pa_nil)))))
    (pss_cons (ps_set (i := 4) sc_l_law.nd rfl (by first | exact Or.inl rfl | exact Or.inr rfl) (pe_call (ok_l_row T) (hr.mono (by decide)) (by rfl) T.m_l_row T.F_l_row.kp T.b_l_row .nil pass0 (pa_cons (pv 1) (pa_cons pe_int pa_nil))))
    (pss_cons (ps_set (i := 5) sc_l_law.nd rfl (by first | exact Or.inl rfl | exact Or.inr rfl) (pe_lst pa_nil))
    (pss_cons (ps_for PassesOwn.never rfl (pi_range1 (by rfl) T.z_range (pa_cons (pe_callB (kLen K rfl) (by rfl) T.z_len (by decide +kernel) (pa_cons (pv 4) pa_nil)) pa_nil)) (pg_name (i := 6) sc_l_law.nd rfl (by first | exact Or.inl rfl | exact Or.inr rfl)) (pss_cons (ps_setLc (i := 9) (own := [("_law_at", 15)]) (by rfl) sc_l_law.nd rfl rfl (sw_true rfl rfl rfl (by decide +kernel)) (pi_range1 (by rfl) T.z_range (pa_cons (pv 6) pa_nil)) (blkOk_by (own := [("_law_at", 15)]) (N := N_l_law) (sc := defScope s_l_law) (by decide +kernel)) (fun _ _ _ _ _ => (pg_name (i := 15) sc_l_law.nd rfl (by first | exact Or.inl rfl | exact Or.inr rfl))) (fun _ _ _ _ _ => pts_one (pt_cmpR op_eq (pe_ix (kIxL K rfl) (pv 4) (pv 15) (fun _ _ => rfl)) (pe_ix (kIxL K rfl) (pv 4) (pv 6) (fun _ _ => rfl)) (nomark _))) (fun _ _ _ _ _ => (pv 15)))
    (pss_one (ps_set (i := 5) sc_l_law.nd rfl (by first | exact Or.inl rfl | exact Or.inr rfl) (pe_op op_cat (pv 5) (pe_lc (own := [("_law_begin", 17)]) (by rfl) sc_l_law.nd (kIL (K := K) rfl (pi_list (pe_slice (kSlL K rfl) (pv 9) (po_some (pe_un un_neg pe_int)) po_none))) (blkOk_by (own := [("_law_begin", 17)]) (N := N_l_law) (sc := defScope s_l_law) (by decide +kernel)) (fun _ _ _ _ _ => (pg_name (i := 17) sc_l_law.nd rfl (by first | exact Or.inl rfl | exact Or.inr rfl))) (fun _ _ _ _ _ => pts_nil) (fun _ _ _ _ _ => (pe_tup (pa_cons (pv 17) (pa_cons (pv 6) pa_nil))))))))))
    (pss_cons (ps_set (i := 7) sc_l_law.nd rfl (by first | exact Or.inl rfl | exact Or.inr rfl) (pe_callTy (kList K rfl) (by rfl) T.z_list (by decide +kernel) (pa_cons (pv 4) pa_nil)))
    (pss_cons (ps_for PassesOwn.never rfl (pi_range1 (by rfl) T.z_range (pa_cons pe_int pa_nil)) (pg_name (i := 8) sc_l_law.nd rfl (by first | exact Or.inl rfl | exact Or.inr rfl)) (pss_cons (ps_set (i := 10) sc_l_law.nd rfl (by first | exact Or.inl rfl | exact Or.inr rfl) (pe_call (ok_spells T) (hr.mono (by decide)) (by rfl) T.m_spells T.F_spells.kp T.b_spells .nil pass0 (pa_cons (pv 7) pa_nil)))
    (pss_cons (ps_if (PW.pt (pw_or (pt_not (pt_val (pe_call (ok_l_alike T) (hr.mono (by decide)) (by rfl) T.m_l_alike T.F_l_alike.kp T.b_l_alike .nil pass0 (pa_cons (pv 10) (pa_cons (pv 5) pa_nil))))) (pw_or1 (pt_cmpR (kNeD K rfl hr.units) (pv 7) (pv 4) (nomark _))))) (pss_one (ps_ret pe_bl)) pss_nil)
    (pss_one (ps_expr (kBM (K := K) rfl (pe_bm PySem.F.plainAttrs_list PySem.F.slot_list_append PySem.F.type_list_append mt_append (pv 10) (pa_cons (pe_tup pa_nil) pa_nil))))))))
    (pss_one (ps_for PassesOwn.never rfl (pi_range1 (by rfl) T.z_range (pa_cons (pe_call (ok_l_take T) (hr.mono (by decide)) (by rfl) T.m_l_take T.F_l_take.kp T.b_l_take .nil pass0 (pa_cons (pv 1) (pa_cons pe_int pa_nil))) pa_nil)) (pg_name (i := 8) sc_l_law.nd rfl (by first | exact Or.inl rfl | exact Or.inr rfl)) (pss_cons (ps_set (i := 11) sc_l_law.nd rfl (by first | exact Or.inl rfl | exact Or.inr rfl) (pe_op op_add pe_int (pe_call (ok_l_take T) (hr.mono (by decide)) (by rfl) T.m_l_take T.F_l_take.kp T.b_l_take .nil pass0 (pa_cons (pv 1) (pa_cons pe_int pa_nil)))))
    (pss_cons (ps_setLc (i := 12) (own := [("_law_place", 16)]) (by rfl) sc_l_law.nd rfl rfl (sw_true rfl rfl rfl (by decide +kernel)) (pi_range1 (by rfl) T.z_range (pa_cons (pe_callB (kLen K rfl) (by rfl) T.z_len (by decide +kernel) (pa_cons (pv 4) pa_nil)) pa_nil)) (blkOk_by (own := [("_law_place", 16)]) (N := N_l_law) (sc := defScope s_l_law) (by decide +kernel)) (fun _ _ _ _ _ => (pg_name (i := 16) sc_l_law.nd rfl (by first | exact Or.inl rfl | exact Or.inr rfl))) (fun _ _ _ _ _ => pts_one (pt_cmpR op_eq (pe_call (ok_l_take T) (hr.mono (by decide)) (by rfl) T.m_l_take T.F_l_take.kp T.b_l_take .nil pass0 (pa_cons (pv 1) (pa_cons (pv 11) pa_nil))) pe_int (nomark _))) (fun _ _ _ _ _ => (pv 16)))
    (pss_cons (ps_set (i := 13) sc_l_law.nd rfl (by first | exact Or.inl rfl | exact Or.inr rfl) (pe_callTy (kList K rfl) (by rfl) T.z_list (by decide +kernel) (pa_cons (pv 12) pa_nil)))
    (pss_cons (ps_set (i := 14) sc_l_law.nd rfl (by first | exact Or.inl rfl | exact Or.inr rfl) (pe_call (ok_l_shown T) (hr.mono (by decide)) (by rfl) T.m_l_shown T.F_l_shown.kp T.b_l_shown .nil pass0 (pa_cons (pv 3) (pa_cons (pv 4) (pa_cons (pv 13) pa_nil)))))
    (pss_one (ps_if (PW.pt (pw_or (pt_not (pt_val (pe_call (ok_l_alike T) (hr.mono (by decide)) (by rfl) T.m_l_alike T.F_l_alike.kp T.b_l_alike .nil pass0 (pa_cons (pe_call (ok_shown T) (hr.mono (by decide)) (by rfl) T.m_shown T.F_shown.kp T.b_shown .nil pass0 (pa_cons (pv 3) (pa_cons (pv 7) (pa_cons (pv 12) pa_nil)))) (pa_cons (pv 14) pa_nil))))) (pw_or1 (pt_cmpR (kNeD K rfl hr.units) (pv 12) (pv 13) (nomark _))))) (pss_one (ps_ret pe_bl)) pss_nil)))))))))))))))
    (pss_one (ps_ret pe_bl)))), ?_⟩
  walk_at "cwp"
  refine ⟨a, ns, rfl, hS, hl, fun b q H1 f1 hb hq B1 => ?_⟩
  walk_at "cwp"
  refine f_rng1 (j := 3) (by decide) (by decide) (fun i σ H' => ∃ v2 v3 v4 v5 v6 v7 v8 v9 v10 v11 v12 v13 v14, σ = [some (.ref a), some (.ref b), v2, v3, v4, v5, v6, v7, v8, v9, v10, v11, v12, v13, v14, none, none, none] ∧ Box H' b q) ⟨_, _, _, _, _, _, _, _, _, _, _, _, _, rfl, B1⟩ ?_ ?_
  · rintro i' σ H2 hi ⟨v2, v3, v4, v5, v6, v7, v8, v9, v10, v11, v12, v13, v14, rfl, B2⟩
    walk_at "cwp"
    refine c_take B2 (by omega) (by omega) fun r H3 f3 B3 r0 r1 => ?_
    walk_at "cwp"
    refine c_row B3 (by omega) (by omega) fun p row H4 f4 B4 hp h4 hl4 hm => ?_
    have hR : RowOk row := ⟨by omega, hm⟩
    have hml : (row.map V.int).length = row.length := List.length_map _
    have hr100 := hR.1
    walk_at "cwp"
    rename_i d0 hd0
    refine f_rng1 (by omega) (by omega) (fun i σ H' => ∃ dp xs v6 v9, σ = [some (.ref a), some (.ref b), some (.int i'), some (.int (1 + r)), some (.ref p), some (.ref dp), v6, v7, v8, v9, v10, v11, v12, v13, v14, none, none, none] ∧
      Fr [] H4 H' ∧ H' dp = some (.lst xs) ∧ PairsAt H4 H' xs (spellsTo row i)) ⟨d0, [], _, _, rfl, Fr.new hd0, upd_same, .nil⟩ ?_ ?_
    · rintro i σ H5 hi ⟨dp, xs, v6, v9, rfl, F5, g1, gp⟩
      have hil : i < row.length := by omega
      obtain ⟨x, hx⟩ : ∃ x, row[i]? = some x := ⟨row[i], List.getElem?_eq_getElem hil⟩
      have hat : atI (row.map V.int) (i : Int) = some (.int x) := atI_nat (by rw [List.getElem?_map, hx]; rfl)
      have hS2 := SqL.of (K := K) (F5.get0 h4)
      walk_at "cwp"
      refine l_rng1 (by omega) (by omega) (fun D j acc H' => Fr [] H5 H' ∧ acc = (begL row i j).map V.int) (fun D hD => ⟨Fr.new hD, rfl⟩) ?_ ?_
      · rintro D j acc H3 hD hj ⟨F3, rfl⟩ hacc hla
        obtain ⟨y, hy⟩ : ∃ y, row[j]? = some y := ⟨row[j], List.getElem?_eq_getElem (by omega)⟩
        have hat2 : atI (row.map V.int) (j : Int) = some (.int y) := atI_nat (by rw [List.getElem?_map, hy]; rfl)
        have hS3 := F3.seqL hS2
        walk_at "cwp"
        walk_at "cw if" <;> intro c
        · walk_at "cwp"
          exact lc_end hacc hla (by omega) ⟨F3.loc hD, by rw [begL_succ, hy, hx, c, if_pos rfl, List.map_append]; rfl⟩
        · exact ⟨_, ⟨F3, by rw [begL_succ, hy, hx, if_neg (fun z => c (Option.some.inj z)), List.append_nil]⟩, hacc, by omega⟩
      · rintro D acc H6 hD ⟨F6, rfl⟩ hacc hla
        have hbl := begL_len row i (i : Int).toNat
        walk_at "cwp"
        rename_i sl hsl
        have ei : (i : Int).toNat = i := Int.toNat_natCast i
        rw [ei]
        have hsp := spellAt_eq hx
        have hLl : (lastL (begL row i i)).length ≤ 100 := by
          have := begL_len row i i
          unfold lastL
          rw [List.length_drop]
          omega
        generalize lastL (begL row i i) = L at *
        have F7 := (F6.trans (Fr.new (o := .lst (L.map V.int)) hsl))
        have g7 : (upd H6 sl (.lst (L.map V.int))) sl = some (.lst (L.map V.int)) := upd_same
        have gdp := F7.get0 g1
        have gp7 := gp.fr0 F7
        have F47 := F5.trans F7
        have hsl2 := spellsTo_len row i
        have hxl := gp.1
        generalize upd H6 sl (.lst (L.map V.int)) = H7 at *
        refine l_list (L.map V.int) (SqL.of g7) (fun D2 j acc H' => Fr [] H7 H' ∧ PairsAt H4 H' acc ((L.take j).map fun z => (z, (i : Int)))) (fun D2 hD2 => ⟨Fr.new hD2, .nil⟩) (fun D2 j acc H' hD2 h _ => SqL.of (h.1.get0 g7)) ?_ ?_
        · rintro D2 j y acc H8 hD2 hj ⟨F8, hP⟩ hacc2 hla2
          obtain ⟨z, hz, rfl⟩ := int_at hj
          have hjl := (List.getElem?_eq_some_iff.mp hz).1
          walk_at "cwp"
          rename_i t ht
          have hDt : D2 ≠ t := ne_n ht hacc2
          refine lc_end ((upd_ne hDt).trans hacc2) hla2 (by omega) ⟨(F8.trans (Fr.new ht)).loc hD2, ?_⟩
          rw [take_snoc hz, List.map_append]
          exact ((hP.upN ht).upL ((upd_ne hDt).trans hacc2)).snoc ((F47.trans F8).free ht) ((upd_ne (ne_s hDt)).trans upd_same)
        · rintro D2 acc H8 hD2 ⟨F8, hP⟩ hacc2 hla2
          rw [List.length_map, List.take_length, ← hsp] at hP
          rw [List.length_map] at hla2
          refine w_cat (F8.get0 gdp) hacc2 (sz_le (by omega)) fun np hnp => ?_
          walk_at "cwp"
          refine ⟨np, _, _, _, rfl, (F47.trans F8).trans (Fr.new hnp), upd_same, ?_⟩
          rw [spellsTo_succ]
          exact ((gp7.fr0 F8).append hP).upN hnp
    · rintro σ H5 ⟨dp, xs, v6, v9, rfl, F5, g1, gp⟩
      have et : (((row.map V.int).length : Nat) : Int).toNat = row.length := by omega
      rw [et] at gp
      walk_at "cwp"
      rename_i lp hlp
      have F8 : Fr [] H5 (upd H5 lp (.lst (row.map V.int))) := Fr.new hlp
      have glp : (upd H5 lp (.lst (row.map V.int))) lp = some (.lst (row.map V.int)) := upd_same
      have gp8 := (F5.trans F8).get0 h4
      have gd8 := F8.get0 g1
      have B8 := B4.keep0 (F5.trans F8)
      have gps := gp.fr0 F8
      have nlp : lp ∉ [b, q] := (B4.keep0 F5).nin hlp
      generalize upd H5 lp (.lst (row.map V.int)) = H8 at *
      have hsl2 := spellsTo_len row row.length
      have hpl := gp.1
      refine f_rng1 (j := 2) (by decide) (by decide) (fun i σ H' => ∃ v6 v8 v9 v10, σ = [some (.ref a), some (.ref b), some (.int i'), some (.int (1 + r)), some (.ref p), some (.ref dp), v6, some (.ref lp), v8, v9, v10, v11, v12, v13, v14, none, none, none] ∧ Fr [] H8 H') ⟨_, _, _, _, rfl, .refl⟩ ?_ ?_
      · rintro i σ H9 hi ⟨v6, v8, v9, v10, rfl, F9⟩
        walk_at "cwp"
        refine c_spells (SqL.of (F9.get0 glp)) hR fun p1 xs1 H10 f10 hp1 h10 hn1 => ?_
        have w1 := f10.get0 (F9.get0 gd8)
        have w2 := f10.get0 (F9.get0 glp)
        have w3 := f10.get0 (F9.get0 gp8)
        have dx := hn1.nwa.now (K := K)
        have dy := ((gps.fr0 F9).fr0 f10).nwa.now (K := K)
        have hsm : (spellsM row).length ≤ row.length := hsl2
        have hx1 := hn1.1
        walk_at "cwp"
        refine c_alike (.list ((spellsM row).map pairD)) (.lst (SqL.of h10) dx) (.lst (SqL.of w1) dy) (fits_pairs (by omega)) ?_
        walk_at "cwp"
        exact ⟨_, _, _, _, rfl, ((F9.trans f10).trans (Fr.new ‹_›)).loc (F9.free hp1)⟩
      · rintro σ H9 ⟨v6, v8, v9, v10, rfl, F9⟩
        have B9 := B8.keep0 F9
        walk_at "cwp"
        refine c_take B9 (by omega) (by omega) fun r4 H10 f10 B10 r40 r41 => ?_
        walk_at "cwp"
        have np := B3.nin hp
        have m1 := f10.get (F9.get0 gp8) np
        have m2 := f10.get (F9.get0 glp) nlp
        refine f_rng1 (by omega) (by omega) (fun i σ H' => ∃ v6 v8 v9 v10 v11 v12 v13 v14, σ = [some (.ref a), some (.ref b), some (.int i'), some (.int (1 + r)), some (.ref p), some (.ref dp), v6, some (.ref lp), v8, v9, v10, v11, v12, v13, v14, none, none, none] ∧ Fr [b, q] H10 H' ∧ Box H' b q) ⟨_, _, _, _, _, _, _, _, rfl, .refl, B10⟩ ?_ ?_
        · rintro i σ H11 hi ⟨v6, v8, v9, v10, v11, v12, v13, v14, rfl, F11, B11⟩
          walk_at "cwp"
          refine c_take B11 (by omega) (by omega) fun r5 H12 f12 B12 r50 r51 => ?_
          have u1 := f12.get (F11.get m1 np) np
          have u2 := f12.get (F11.get m2 nlp) nlp
          walk_at "cwp"
          refine l_rng1 (by omega) (by omega) (fun D j acc H' => ∃ ps : List Int, acc = ps.map V.int ∧ ps.Pairwise (· < ·) ∧ (∀ x ∈ ps, 0 ≤ x ∧ x < (j : Int)) ∧ Fr [b, q] H12 H' ∧ Box H' b q)
            (fun D hD => ⟨[], rfl, .nil, by simp, Fr.new hD, B12.keep0 (Fr.new hD)⟩) ?_ ?_
          · rintro D j acc H13 hD hj ⟨ps, rfl, hp1, hp2, F13, B13⟩ hacc hla
            walk_at "cwp"
            refine c_take B13 (by omega) (by omega) fun r6 H14 f14 B14 r60 r61 => ?_
            have nD := B12.nin hD
            have hacc' := f14.get hacc nD
            walk_at "cwp"
            walk_at "cw if" <;> intro c
            · walk_at "cwp"
              refine lc_end hacc' hla (by omega) ⟨ps ++ [(j : Int)], by rw [List.map_append]; rfl, (pap_snoc hp1 hp2).1, (pap_snoc hp1 hp2).2, (F13.trans f14).loc hD, ?_⟩
              exact B14.up nD
            · refine ⟨_, ⟨ps, rfl, hp1, fun x hx => ?_, F13.trans f14, B14⟩, hacc', by omega⟩
              have := hp2 x hx
              omega
          · rintro D acc H13 hD ⟨ps, rfl, hp1, hp2, F13, B13⟩ hacc hla
            have et2 : (((row.map V.int).length : Nat) : Int).toNat = row.length := by omega
            rw [et2] at hp2 hla
            have hpap : PapOk row ps := ⟨hp1, hp2⟩
            have hpl2 := hpap.len hR.1
            have t1 := F13.get u1 np
            have t2 := F13.get u2 nlp
            walk_at "cwp"
            refine c_l_shown (by omega) (by omega) (by walk_at "cw sq") hR.1 (by walk_at "cw sq") hpl2 fun H14 f14 => ?_
            walk_at "cwp"
            rename_i kp hkp
            have F14 := (Fr.new (W := []) (o := .lst (ps.map V.int)) hkp).trans f14
            have t2' := F14.get0 t2
            have tD' := F14.get0 hacc
            have tk' : H14 kp = some (.lst (ps.map V.int)) := f14.get0 upd_same
            refine c_shown (by omega) (by omega) (SqL.of t2') hR (SqL.of tD') hpap fun H15 f15 => ?_
            have tD2 := f15.get0 tD'
            have tk2 := f15.get0 tk'
            walk_at "cwp"
            refine c_alike (.int (shownM (1 + r) row ps)) (.int _) (.int _) trivial ?_
            walk_at "cwp"
            exact ⟨_, _, _, _, _, _, _, _, rfl, ((F11.trans f12).trans F13).more (F14.trans f15), (B13.keep0 F14).keep0 f15⟩
        · rintro σ H11 ⟨v6, v8, v9, v10, v11, v12, v13, v14, rfl, F11, B11⟩
          exact ⟨_, _, _, _, _, _, _, _, _, _, _, _, _, rfl, B11⟩
  · rintro σ H2 ⟨v2, v3, v4, v5, v6, v7, v8, v9, v10, v11, v12, v13, v14, rfl, B2⟩
    walk_at "cwp"
    exact k H2

end
/-! what the top has left -/
theorem all_mk {l : PySem.W.OpenLaw} {w : World} {K : PySem.W.Frag} {h : Heap} {mg : Str → Option Value} {fa f_need_rooms f_is_page f_need_row f_need_both f_spells_of f_shown_by f_spells f_shown f_l_begun f_l_take f_l_alike f_l_row f_l_shown f_l_law : Addr} (X : K.In h) (G : h.Ns mainGlobals mg) (hfa : mg "law" = some (.ref fa))
    {od_need_rooms an_need_rooms : Option Addr} {sl_need_rooms : Array (Option Value)} {oc_need_rooms kV_need_rooms dc_need_rooms pm_need_rooms cd_need_rooms ct_need_rooms : Value}
    {od_is_page an_is_page : Option Addr} {sl_is_page : Array (Option Value)} {oc_is_page kV_is_page dc_is_page pm_is_page cd_is_page ct_is_page : Value}
    {od_need_row an_need_row : Option Addr} {sl_need_row : Array (Option Value)} {oc_need_row kV_need_row dc_need_row pm_need_row cd_need_row ct_need_row : Value}
    {od_need_both an_need_both : Option Addr} {sl_need_both : Array (Option Value)} {oc_need_both kV_need_both dc_need_both pm_need_both cd_need_both ct_need_both : Value}
    {od_spells_of an_spells_of : Option Addr} {sl_spells_of : Array (Option Value)} {oc_spells_of kV_spells_of dc_spells_of pm_spells_of cd_spells_of ct_spells_of : Value}
    {od_shown_by an_shown_by : Option Addr} {sl_shown_by : Array (Option Value)} {oc_shown_by kV_shown_by dc_shown_by pm_shown_by cd_shown_by ct_shown_by : Value}
    {od_spells an_spells : Option Addr} {sl_spells : Array (Option Value)} {oc_spells kV_spells dc_spells pm_spells cd_spells ct_spells : Value}
    {od_shown an_shown : Option Addr} {sl_shown : Array (Option Value)} {oc_shown kV_shown dc_shown pm_shown cd_shown ct_shown : Value}
    {od_l_begun an_l_begun : Option Addr} {sl_l_begun : Array (Option Value)} {oc_l_begun kV_l_begun dc_l_begun pm_l_begun cd_l_begun ct_l_begun : Value}
    {od_l_take an_l_take : Option Addr} {sl_l_take : Array (Option Value)} {oc_l_take kV_l_take dc_l_take pm_l_take cd_l_take ct_l_take : Value}
    {od_l_alike an_l_alike : Option Addr} {sl_l_alike : Array (Option Value)} {oc_l_alike kV_l_alike dc_l_alike pm_l_alike cd_l_alike ct_l_alike : Value}
    {od_l_row an_l_row : Option Addr} {sl_l_row : Array (Option Value)} {oc_l_row kV_l_row dc_l_row pm_l_row cd_l_row ct_l_row : Value}
    {od_l_shown an_l_shown : Option Addr} {sl_l_shown : Array (Option Value)} {oc_l_shown kV_l_shown dc_l_shown pm_l_shown cd_l_shown ct_l_shown : Value}
    {od_l_law an_l_law : Option Addr} {sl_l_law : Array (Option Value)} {oc_l_law kV_l_law dc_l_law pm_l_law cd_l_law ct_l_law : Value}
    {t_MOST_ROOMS : Tok}
    {t_MOST_PAGES : Tok}
    {t_MOST_ASKS : Tok}
    (a_need_rooms : PySem.W.nsIn K mainGlobals "need_rooms" = some (some (.ref f_need_rooms)))
    (l_need_rooms : K.lookup f_need_rooms = some ⟨oc_need_rooms, od_need_rooms, .func (PySem.W.fnOf "need_rooms" "need_rooms" (defArgs s_need_rooms) (defBody s_need_rooms) (defScope s_need_rooms) .none kV_need_rooms dc_need_rooms pm_need_rooms an_need_rooms cd_need_rooms ct_need_rooms), sl_need_rooms⟩)
    (c_need_rooms : PySem.W.codeIn K cd_need_rooms "need_rooms" = true)
    (k_need_rooms : PySem.W.keepIn K (.ref f_need_rooms) = true)
    (a_is_page : PySem.W.nsIn K mainGlobals "is_page" = some (some (.ref f_is_page)))
    (l_is_page : K.lookup f_is_page = some ⟨oc_is_page, od_is_page, .func (PySem.W.fnOf "is_page" "is_page" (defArgs s_is_page) (defBody s_is_page) (defScope s_is_page) .none kV_is_page dc_is_page pm_is_page an_is_page cd_is_page ct_is_page), sl_is_page⟩)
    (c_is_page : PySem.W.codeIn K cd_is_page "is_page" = true)
    (k_is_page : PySem.W.keepIn K (.ref f_is_page) = true)
    (a_need_row : PySem.W.nsIn K mainGlobals "need_row" = some (some (.ref f_need_row)))
    (l_need_row : K.lookup f_need_row = some ⟨oc_need_row, od_need_row, .func (PySem.W.fnOf "need_row" "need_row" (defArgs s_need_row) (defBody s_need_row) (defScope s_need_row) .none kV_need_row dc_need_row pm_need_row an_need_row cd_need_row ct_need_row), sl_need_row⟩)
    (c_need_row : PySem.W.codeIn K cd_need_row "need_row" = true)
    (k_need_row : PySem.W.keepIn K (.ref f_need_row) = true)
    (a_need_both : PySem.W.nsIn K mainGlobals "need_both" = some (some (.ref f_need_both)))
    (l_need_both : K.lookup f_need_both = some ⟨oc_need_both, od_need_both, .func (PySem.W.fnOf "need_both" "need_both" (defArgs s_need_both) (defBody s_need_both) (defScope s_need_both) .none kV_need_both dc_need_both pm_need_both an_need_both cd_need_both ct_need_both), sl_need_both⟩)
    (c_need_both : PySem.W.codeIn K cd_need_both "need_both" = true)
    (k_need_both : PySem.W.keepIn K (.ref f_need_both) = true)
    (a_spells_of : PySem.W.nsIn K mainGlobals "spells_of" = some (some (.ref f_spells_of)))
    (l_spells_of : K.lookup f_spells_of = some ⟨oc_spells_of, od_spells_of, .func (PySem.W.fnOf "spells_of" "spells_of" (defArgs s_spells_of) (defBody s_spells_of) (defScope s_spells_of) .none kV_spells_of dc_spells_of pm_spells_of an_spells_of cd_spells_of ct_spells_of), sl_spells_of⟩)
    (c_spells_of : PySem.W.codeIn K cd_spells_of "spells_of" = true)
    (k_spells_of : PySem.W.keepIn K (.ref f_spells_of) = true)
    (a_shown_by : PySem.W.nsIn K mainGlobals "shown_by" = some (some (.ref f_shown_by)))
    (l_shown_by : K.lookup f_shown_by = some ⟨oc_shown_by, od_shown_by, .func (PySem.W.fnOf "shown_by" "shown_by" (defArgs s_shown_by) (defBody s_shown_by) (defScope s_shown_by) .none kV_shown_by dc_shown_by pm_shown_by an_shown_by cd_shown_by ct_shown_by), sl_shown_by⟩)
    (c_shown_by : PySem.W.codeIn K cd_shown_by "shown_by" = true)
    (k_shown_by : PySem.W.keepIn K (.ref f_shown_by) = true)
    (a_spells : PySem.W.nsIn K mainGlobals "spells" = some (some (.ref f_spells)))
    (l_spells : K.lookup f_spells = some ⟨oc_spells, od_spells, .func (PySem.W.fnOf "spells" "spells" (defArgs s_spells) (defBody s_spells) (defScope s_spells) .none kV_spells dc_spells pm_spells an_spells cd_spells ct_spells), sl_spells⟩)
    (c_spells : PySem.W.codeIn K cd_spells "spells" = true)
    (k_spells : PySem.W.keepIn K (.ref f_spells) = true)
    (a_shown : PySem.W.nsIn K mainGlobals "shown" = some (some (.ref f_shown)))
    (l_shown : K.lookup f_shown = some ⟨oc_shown, od_shown, .func (PySem.W.fnOf "shown" "shown" (defArgs s_shown) (defBody s_shown) (defScope s_shown) .none kV_shown dc_shown pm_shown an_shown cd_shown ct_shown), sl_shown⟩)
    (c_shown : PySem.W.codeIn K cd_shown "shown" = true)
    (k_shown : PySem.W.keepIn K (.ref f_shown) = true)
    (a_l_begun : PySem.W.nsIn K mainGlobals "_law_begun" = some (some (.ref f_l_begun)))
    (l_l_begun : K.lookup f_l_begun = some ⟨oc_l_begun, od_l_begun, .func (PySem.W.fnOf "_law_begun" "_law_begun" (defArgs s_l_begun) (defBody s_l_begun) (defScope s_l_begun) .none kV_l_begun dc_l_begun pm_l_begun an_l_begun cd_l_begun ct_l_begun), sl_l_begun⟩)
    (c_l_begun : PySem.W.codeIn K cd_l_begun "_law_begun" = true)
    (k_l_begun : PySem.W.keepIn K (.ref f_l_begun) = true)
    (a_l_take : PySem.W.nsIn K mainGlobals "_law_take" = some (some (.ref f_l_take)))
    (l_l_take : K.lookup f_l_take = some ⟨oc_l_take, od_l_take, .func (PySem.W.fnOf "_law_take" "_law_take" (defArgs s_l_take) (defBody s_l_take) (defScope s_l_take) .none kV_l_take dc_l_take pm_l_take an_l_take cd_l_take ct_l_take), sl_l_take⟩)
    (c_l_take : PySem.W.codeIn K cd_l_take "_law_take" = true)
    (k_l_take : PySem.W.keepIn K (.ref f_l_take) = true)
    (a_l_alike : PySem.W.nsIn K mainGlobals "_law_alike" = some (some (.ref f_l_alike)))
    (l_l_alike : K.lookup f_l_alike = some ⟨oc_l_alike, od_l_alike, .func (PySem.W.fnOf "_law_alike" "_law_alike" (defArgs s_l_alike) (defBody s_l_alike) (defScope s_l_alike) .none kV_l_alike dc_l_alike pm_l_alike an_l_alike cd_l_alike ct_l_alike), sl_l_alike⟩)
    (c_l_alike : PySem.W.codeIn K cd_l_alike "_law_alike" = true)
    (k_l_alike : PySem.W.keepIn K (.ref f_l_alike) = true)
    (a_l_row : PySem.W.nsIn K mainGlobals "_law_row" = some (some (.ref f_l_row)))
    (l_l_row : K.lookup f_l_row = some ⟨oc_l_row, od_l_row, .func (PySem.W.fnOf "_law_row" "_law_row" (defArgs s_l_row) (defBody s_l_row) (defScope s_l_row) .none kV_l_row dc_l_row pm_l_row an_l_row cd_l_row ct_l_row), sl_l_row⟩)
    (c_l_row : PySem.W.codeIn K cd_l_row "_law_row" = true)
    (k_l_row : PySem.W.keepIn K (.ref f_l_row) = true)
    (a_l_shown : PySem.W.nsIn K mainGlobals "_law_shown" = some (some (.ref f_l_shown)))
    (l_l_shown : K.lookup f_l_shown = some ⟨oc_l_shown, od_l_shown, .func (PySem.W.fnOf "_law_shown" "_law_shown" (defArgs s_l_shown) (defBody s_l_shown) (defScope s_l_shown) .none kV_l_shown dc_l_shown pm_l_shown an_l_shown cd_l_shown ct_l_shown), sl_l_shown⟩)
    (c_l_shown : PySem.W.codeIn K cd_l_shown "_law_shown" = true)
    (k_l_shown : PySem.W.keepIn K (.ref f_l_shown) = true)
    (a_l_law : PySem.W.nsIn K mainGlobals "law" = some (some (.ref f_l_law)))
    (l_l_law : K.lookup f_l_law = some ⟨oc_l_law, od_l_law, .func (PySem.W.fnOf "law" "law" (defArgs s_l_law) (defBody s_l_law) (defScope s_l_law) .none kV_l_law dc_l_law pm_l_law an_l_law cd_l_law ct_l_law), sl_l_law⟩)
    (c_l_law : PySem.W.codeIn K cd_l_law "law" = true)
    (k_l_law : PySem.W.keepIn K (.ref f_l_law) = true)
    (v_MOST_ROOMS : PySem.W.nsIn K mainGlobals "MOST_ROOMS" = some (some (.int 8 t_MOST_ROOMS)))
    (v_MOST_PAGES : PySem.W.nsIn K mainGlobals "MOST_PAGES" = some (some (.int 12 t_MOST_PAGES)))
    (v_MOST_ASKS : PySem.W.nsIn K mainGlobals "MOST_ASKS" = some (some (.int 100 t_MOST_ASKS)))
    (z_len : PySem.W.nsIn K mainGlobals "len" = some none)
    (z_int : PySem.W.nsIn K mainGlobals "int" = some none)
    (z_min : PySem.W.nsIn K mainGlobals "min" = some none)
    (z_list : PySem.W.nsIn K mainGlobals "list" = some none)
    (z_sorted : PySem.W.nsIn K mainGlobals "sorted" = some none)
    (z_set : PySem.W.nsIn K mainGlobals "set" = some none)
    (z_tuple : PySem.W.nsIn K mainGlobals "tuple" = some none)
    (z_isinstance : PySem.W.nsIn K mainGlobals "isinstance" = some none)
    (z_range : PySem.W.nsIn K mainGlobals "range" = some none)
    (z_enumerate : PySem.W.nsIn K mainGlobals "enumerate" = some none)
    (z_bool : PySem.W.nsIn K mainGlobals "bool" = some none)
    (z_str : PySem.W.nsIn K mainGlobals "str" = some none) :
    ∃ fd : FuncData, (∀ (s : Shared) (v : Value), BindsTo s fd ⟨[v], []⟩ [("_law_script", v)]) ∧ ∀ base : Heap, K.In base → base.Ns mainGlobals mg → FnOk l.prog w K mg base CX0 7 fa fd ["_law_script"] (sp_l_law K) := by
  have e := hfa.symm.trans (PySem.W.mg_of X G a_l_law)
  cases e
  have F_need_rooms := fun_mk (st := s_need_rooms) l_need_rooms c_need_rooms k_need_rooms
  have b_need_rooms := F_need_rooms.binds (ps := ["rooms"]) fun _ _ _ _ _ _ us hl => match us, hl with | [_], _ => rfl
  have F_is_page := fun_mk (st := s_is_page) l_is_page c_is_page k_is_page
  have b_is_page := F_is_page.binds (ps := ["page"]) fun _ _ _ _ _ _ us hl => match us, hl with | [_], _ => rfl
  have F_need_row := fun_mk (st := s_need_row) l_need_row c_need_row k_need_row
  have b_need_row := F_need_row.binds (ps := ["row"]) fun _ _ _ _ _ _ us hl => match us, hl with | [_], _ => rfl
  have F_need_both := fun_mk (st := s_need_both) l_need_both c_need_both k_need_both
  have b_need_both := F_need_both.binds (ps := ["rooms", "row"]) fun _ _ _ _ _ _ us hl => match us, hl with | [_, _], _ => rfl
  have F_spells_of := fun_mk (st := s_spells_of) l_spells_of c_spells_of k_spells_of
  have b_spells_of := F_spells_of.binds (ps := ["row"]) fun _ _ _ _ _ _ us hl => match us, hl with | [_], _ => rfl
  have F_shown_by := fun_mk (st := s_shown_by) l_shown_by c_shown_by k_shown_by
  have b_shown_by := F_shown_by.binds (ps := ["rooms", "row", "places"]) fun _ _ _ _ _ _ us hl => match us, hl with | [_, _, _], _ => rfl
  have F_spells := fun_mk (st := s_spells) l_spells c_spells k_spells
  have b_spells := F_spells.binds (ps := ["row"]) fun _ _ _ _ _ _ us hl => match us, hl with | [_], _ => rfl
  have F_shown := fun_mk (st := s_shown) l_shown c_shown k_shown
  have b_shown := F_shown.binds (ps := ["rooms", "row", "places"]) fun _ _ _ _ _ _ us hl => match us, hl with | [_, _, _], _ => rfl
  have F_l_begun := fun_mk (st := s_l_begun) l_l_begun c_l_begun k_l_begun
  have b_l_begun := F_l_begun.binds (ps := ["_law_script"]) fun _ _ _ _ _ _ us hl => match us, hl with | [_], _ => rfl
  have F_l_take := fun_mk (st := s_l_take) l_l_take c_l_take k_l_take
  have b_l_take := F_l_take.binds (ps := ["_law_box", "_law_many"]) fun _ _ _ _ _ _ us hl => match us, hl with | [_, _], _ => rfl
  have F_l_alike := fun_mk (st := s_l_alike) l_l_alike c_l_alike k_l_alike
  have b_l_alike := F_l_alike.binds (ps := ["_law_found", "_law_due"]) fun _ _ _ _ _ _ us hl => match us, hl with | [_, _], _ => rfl
  have F_l_row := fun_mk (st := s_l_row) l_l_row c_l_row k_l_row
  have b_l_row := F_l_row.binds (ps := ["_law_box", "_law_most"]) fun _ _ _ _ _ _ us hl => match us, hl with | [_, _], _ => rfl
  have F_l_shown := fun_mk (st := s_l_shown) l_l_shown c_l_shown k_l_shown
  have b_l_shown := F_l_shown.binds (ps := ["_law_rooms", "_law_row_here", "_law_places"]) fun _ _ _ _ _ _ us hl => match us, hl with | [_, _, _], _ => rfl
  have F_l_law := fun_mk (st := s_l_law) l_l_law c_l_law k_l_law
  have b_l_law := F_l_law.binds (ps := ["_law_script"]) fun _ _ _ _ _ _ us hl => match us, hl with | [_], _ => rfl
  have T : Txt K mg (⟨f_need_rooms, (PySem.W.fnOf "need_rooms" "need_rooms" (defArgs s_need_rooms) (defBody s_need_rooms) (defScope s_need_rooms) .none kV_need_rooms dc_need_rooms pm_need_rooms an_need_rooms cd_need_rooms ct_need_rooms), f_is_page, (PySem.W.fnOf "is_page" "is_page" (defArgs s_is_page) (defBody s_is_page) (defScope s_is_page) .none kV_is_page dc_is_page pm_is_page an_is_page cd_is_page ct_is_page), f_need_row, (PySem.W.fnOf "need_row" "need_row" (defArgs s_need_row) (defBody s_need_row) (defScope s_need_row) .none kV_need_row dc_need_row pm_need_row an_need_row cd_need_row ct_need_row), f_need_both, (PySem.W.fnOf "need_both" "need_both" (defArgs s_need_both) (defBody s_need_both) (defScope s_need_both) .none kV_need_both dc_need_both pm_need_both an_need_both cd_need_both ct_need_both), f_spells_of, (PySem.W.fnOf "spells_of" "spells_of" (defArgs s_spells_of) (defBody s_spells_of) (defScope s_spells_of) .none kV_spells_of dc_spells_of pm_spells_of an_spells_of cd_spells_of ct_spells_of), f_shown_by, (PySem.W.fnOf "shown_by" "shown_by" (defArgs s_shown_by) (defBody s_shown_by) (defScope s_shown_by) .none kV_shown_by dc_shown_by pm_shown_by an_shown_by cd_shown_by ct_shown_by), f_spells, (PySem.W.fnOf "spells" "spells" (defArgs s_spells) (defBody s_spells) (defScope s_spells) .none kV_spells dc_spells pm_spells an_spells cd_spells ct_spells), f_shown, (PySem.W.fnOf "shown" "shown" (defArgs s_shown) (defBody s_shown) (defScope s_shown) .none kV_shown dc_shown pm_shown an_shown cd_shown ct_shown), f_l_begun, (PySem.W.fnOf "_law_begun" "_law_begun" (defArgs s_l_begun) (defBody s_l_begun) (defScope s_l_begun) .none kV_l_begun dc_l_begun pm_l_begun an_l_begun cd_l_begun ct_l_begun), f_l_take, (PySem.W.fnOf "_law_take" "_law_take" (defArgs s_l_take) (defBody s_l_take) (defScope s_l_take) .none kV_l_take dc_l_take pm_l_take an_l_take cd_l_take ct_l_take), f_l_alike, (PySem.W.fnOf "_law_alike" "_law_alike" (defArgs s_l_alike) (defBody s_l_alike) (defScope s_l_alike) .none kV_l_alike dc_l_alike pm_l_alike an_l_alike cd_l_alike ct_l_alike), f_l_row, (PySem.W.fnOf "_law_row" "_law_row" (defArgs s_l_row) (defBody s_l_row) (defScope s_l_row) .none kV_l_row dc_l_row pm_l_row an_l_row cd_l_row ct_l_row), f_l_shown, (PySem.W.fnOf "_law_shown" "_law_shown" (defArgs s_l_shown) (defBody s_l_shown) (defScope s_l_shown) .none kV_l_shown dc_l_shown pm_l_shown an_l_shown cd_l_shown ct_l_shown), fa, (PySem.W.fnOf "law" "law" (defArgs s_l_law) (defBody s_l_law) (defScope s_l_law) .none kV_l_law dc_l_law pm_l_law an_l_law cd_l_law ct_l_law), t_MOST_ROOMS, t_MOST_PAGES, t_MOST_ASKS⟩ : Ad) := by
    constructor
    · exact F_need_rooms
    · exact b_need_rooms
    · exact PySem.W.mg_of X G a_need_rooms
    · exact F_is_page
    · exact b_is_page
    · exact PySem.W.mg_of X G a_is_page
    · exact F_need_row
    · exact b_need_row
    · exact PySem.W.mg_of X G a_need_row
    · exact F_need_both
    · exact b_need_both
    · exact PySem.W.mg_of X G a_need_both
    · exact F_spells_of
    · exact b_spells_of
    · exact PySem.W.mg_of X G a_spells_of
    · exact F_shown_by
    · exact b_shown_by
    · exact PySem.W.mg_of X G a_shown_by
    · exact F_spells
    · exact b_spells
    · exact PySem.W.mg_of X G a_spells
    · exact F_shown
    · exact b_shown
    · exact PySem.W.mg_of X G a_shown
    · exact F_l_begun
    · exact b_l_begun
    · exact PySem.W.mg_of X G a_l_begun
    · exact F_l_take
    · exact b_l_take
    · exact PySem.W.mg_of X G a_l_take
    · exact F_l_alike
    · exact b_l_alike
    · exact PySem.W.mg_of X G a_l_alike
    · exact F_l_row
    · exact b_l_row
    · exact PySem.W.mg_of X G a_l_row
    · exact F_l_shown
    · exact b_l_shown
    · exact PySem.W.mg_of X G a_l_shown
    · exact F_l_law
    · exact b_l_law
    · exact hfa
    · exact PySem.W.mg_of X G v_MOST_ROOMS
    · exact PySem.W.mg_of X G v_MOST_PAGES
    · exact PySem.W.mg_of X G v_MOST_ASKS
    · exact PySem.W.mg_none_of X G z_len
    · exact PySem.W.mg_none_of X G z_int
    · exact PySem.W.mg_none_of X G z_min
    · exact PySem.W.mg_none_of X G z_list
    · exact PySem.W.mg_none_of X G z_sorted
    · exact PySem.W.mg_none_of X G z_set
    · exact PySem.W.mg_none_of X G z_tuple
    · exact PySem.W.mg_none_of X G z_isinstance
    · exact PySem.W.mg_none_of X G z_range
    · exact PySem.W.mg_none_of X G z_enumerate
    · exact PySem.W.mg_none_of X G z_bool
    · exact PySem.W.mg_none_of X G z_str
  exact ⟨PySem.W.fnOf "law" "law" (defArgs s_l_law) (defBody s_l_law) (defScope s_l_law) .none kV_l_law dc_l_law pm_l_law an_l_law cd_l_law ct_l_law, fun s v => .of_eq rfl, fun base _ _ => ok_l_law T⟩
theorem walk {l : PySem.W.OpenLaw} {q : Program} {loose : List Str} {XP : (Str → Option Value) → Heap → Prop} {YP : World → Heap → Prop} {d : DefRec} {K : Params → PySem.W.Frag} (hn : l.most = some 63) (hdf : d.params.defaults = [])
    (hY : ∀ (w : World) (h : Heap), YP w h → (K w.params).In h)
    (F : ∀ (w : World) (mg : Str → Option Value) (fa : Addr) (h : Heap), (K w.params).In h → h.Ns mainGlobals mg → mg d.name = some (.ref fa) →
      ∃ fd : FuncData, (∀ (s : Shared) (u : Value), BindsTo s fd ⟨[u], []⟩ [("_law_script", u)]) ∧ ∀ base : Heap, (K w.params).In base → base.Ns mainGlobals mg → FnOk l.prog w (K w.params) mg base CX0 7 fa fd ["_law_script"] (sp_l_law (K w.params))) :
    PySem.W.WalkO q loose XP YP l.row.toRowW d [] (fun f vs => PySem.call f vs) :=
  L2.walk_of (n := 63) (k := 7) (x := "_law_script") (CX := fun _ => CX0) (sp := fun w => sp_l_law (K w.params)) hn (by decide) hdf ⟨rfl, by decide, by decide⟩ hY F (fun _ _ a ns hl _ hS => ⟨a, ns, rfl, hS, hl, fun _ => rfl⟩) fun _ _ _ _ _ z => z
end Cw
open PySem PySem.W PyProof.Rows
set_option maxRecDepth 100000 in
set_option maxHeartbeats 0 in
theorem PySem.Challenge.cw_clockhand_k07_papers_read_holds : PySem.Challenge.rw_clockhand_k07_papers_read.Holds := by
  w_on; o_law; k_head; (case hw => w_witness2)
  k_fill
  refine Cw.walk (l := PySem.Challenge.rw_clockhand_k07_papers_read) rfl rfl (fun w h Y => PySem.W.kIn_of Y) ?F
  case F =>
    intro w mg fa h KX G hmg
    refine' Cw.all_mk KX G hmg ?a_need_rooms ?l_need_rooms ?c_need_rooms ?k_need_rooms ?a_is_page ?l_is_page ?c_is_page ?k_is_page ?a_need_row ?l_need_row ?c_need_row ?k_need_row ?a_need_both ?l_need_both ?c_need_both ?k_need_both ?a_spells_of ?l_spells_of ?c_spells_of ?k_spells_of ?a_shown_by ?l_shown_by ?c_shown_by ?k_shown_by ?a_spells ?l_spells ?c_spells ?k_spells ?a_shown ?l_shown ?c_shown ?k_shown ?a_l_begun ?l_l_begun ?c_l_begun ?k_l_begun ?a_l_take ?l_l_take ?c_l_take ?k_l_take ?a_l_alike ?l_l_alike ?c_l_alike ?k_l_alike ?a_l_row ?l_l_row ?c_l_row ?k_l_row ?a_l_shown ?l_l_shown ?c_l_shown ?k_l_shown ?a_l_law ?l_l_law ?c_l_law ?k_l_law ?v_MOST_ROOMS ?v_MOST_PAGES ?v_MOST_ASKS ?z_len ?z_int ?z_min ?z_list ?z_sorted ?z_set ?z_tuple ?z_isinstance ?z_range ?z_enumerate ?z_bool ?z_str
    (case a_need_rooms => k_is)
    (case l_need_rooms => k_is)
    (case c_need_rooms => k_is)
    (case k_need_rooms => k_is)
    (case a_is_page => k_is)
    (case l_is_page => k_is)
    (case c_is_page => k_is)
    (case k_is_page => k_is)
    (case a_need_row => k_is)
    (case l_need_row => k_is)
    (case c_need_row => k_is)
    (case k_need_row => k_is)
    (case a_need_both => k_is)
    (case l_need_both => k_is)
    (case c_need_both => k_is)
    (case k_need_both => k_is)
    (case a_spells_of => k_is)
    (case l_spells_of => k_is)
    (case c_spells_of => k_is)
    (case k_spells_of => k_is)
    (case a_shown_by => k_is)
    (case l_shown_by => k_is)
    (case c_shown_by => k_is)
    (case k_shown_by => k_is)
    (case a_spells => k_is)
    (case l_spells => k_is)
    (case c_spells => k_is)
    (case k_spells => k_is)
    (case a_shown => k_is)
    (case l_shown => k_is)
    (case c_shown => k_is)
    (case k_shown => k_is)
    (case a_l_begun => k_is)
    (case l_l_begun => k_is)
    (case c_l_begun => k_is)
    (case k_l_begun => k_is)
    (case a_l_take => k_is)
    (case l_l_take => k_is)
    (case c_l_take => k_is)
    (case k_l_take => k_is)
    (case a_l_alike => k_is)
    (case l_l_alike => k_is)
    (case c_l_alike => k_is)
    (case k_l_alike => k_is)
    (case a_l_row => k_is)
    (case l_l_row => k_is)
    (case c_l_row => k_is)
    (case k_l_row => k_is)
    (case a_l_shown => k_is)
    (case l_l_shown => k_is)
    (case c_l_shown => k_is)
    (case k_l_shown => k_is)
    (case a_l_law => k_is)
    (case l_l_law => k_is)
    (case c_l_law => k_is)
    (case k_l_law => k_is)
    (case v_MOST_ROOMS => k_is)
    (case v_MOST_PAGES => k_is)
    (case v_MOST_ASKS => k_is)
    (case z_len => k_is)
    (case z_int => k_is)
    (case z_min => k_is)
    (case z_list => k_is)
    (case z_sorted => k_is)
    (case z_set => k_is)
    (case z_tuple => k_is)
    (case z_isinstance => k_is)
    (case z_range => k_is)
    (case z_enumerate => k_is)
    (case z_bool => k_is)
    (case z_str => k_is)
#print axioms PySem.Challenge.cw_clockhand_k07_papers_read_holds

