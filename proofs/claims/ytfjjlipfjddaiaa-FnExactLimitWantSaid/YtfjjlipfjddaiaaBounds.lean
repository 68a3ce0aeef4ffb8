/- The plain laws of UpBound and DownBound: dividing, one policy's bound, the bounds of all policies.
   Conditions: none. -/
import Derived.Test.YtfjjlipfjddaiaaU40
import Derived.Test.YtfjjlipfjddaiaaU45
import Derived.Test.YtfjjlipfjddaiaaU38
import Derived.Test.YtfjjlipfjddaiaaU43
import Derived.Test.YtfjjlipfjddaiaaU38
import Derived.Test.YtfjjlipfjddaiaaU43
import Derived.Test.YtfjjlipfjddaiaaSides
import Derived.Test.YtfjjlipfjddaiaaMovedIn
namespace Go.Proofs.Ytfjjlipfjddaiaa.Base
open Go.RowKit Go.Proofs.YtfjjlipfjddaiaaW.PrintWords Go.Proofs.YtfjjlipfjddaiaaW.PrintMore Go.Proofs.Ytfjjlipfjddaiaa.U
theorem tdiv100 {x : Int} (h : 0 ≤ x) : Int.tdiv x 100 = x / 100 := Int.tdiv_eq_ediv_of_nonneg h
theorem tmod100 {x : Int} (h : 0 ≤ x) : Int.tmod x 100 = x % 100 := Int.tmod_eq_emod_of_nonneg h
theorem ceil_spec {x : Int} (h : 0 ≤ x) (h' : x ≤ 1000000000000) : spec_CeilDiv.f x 100 = some ((x + 99) / 100) := by
  unfold spec_CeilDiv.f
  rw [if_neg (by omega), if_neg (by omega), tdiv100 h, tmod100 h, wr_id (x := x / 100) (by omega) (by omega)]
  by_cases g : x % 100 > 0
  · rw [if_pos g, wr_id (by omega) (by omega)]; congr 1; omega
  · rw [if_neg g]; congr 1; omega
theorem ceil_impl {x : Int} (h : 0 ≤ x) (h' : x ≤ 1000000000000) : impl_CeilDiv.f x 100 = some ((x + 99) / 100) := by
  unfold impl_CeilDiv.f
  rw [if_neg (by omega), if_neg (by omega), tdiv100 h, tmod100 h, wr_id (x := x / 100) (by omega) (by omega)]
  by_cases g : x % 100 > 0
  · rw [if_pos g, wr_id (by omega) (by omega)]; congr 1; omega
  · rw [if_neg g]; congr 1; omega
theorem floor_spec {x : Int} (h : 0 ≤ x) (h' : x ≤ 1000000000000) : spec_FloorDiv.f x 100 = some (x / 100) := by
  unfold spec_FloorDiv.f
  rw [if_neg (by omega), if_neg (by omega), tdiv100 h, tmod100 h, wr_id (x := x / 100) (by omega) (by omega), if_neg (by omega)]
theorem floor_impl {x : Int} (h : 0 ≤ x) (h' : x ≤ 1000000000000) : impl_FloorDiv.f x 100 = some (x / 100) := by
  unfold impl_FloorDiv.f
  rw [if_neg (by omega), if_neg (by omega), tdiv100 h, tmod100 h, wr_id (x := x / 100) (by omega) (by omega), if_neg (by omega)]
/-- The count at a period's beginning. -/
def baseOf (l : List S103) (now count per : Int) : Int := mx 0 (count - (movedIn l now per).1 + (movedIn l now per).2)
theorem baseOf_bounds (l : List S103) (now count per : Int) (hc : 0 ≤ count ∧ count ≤ 1000) : 0 ≤ baseOf l now count per ∧ baseOf l now count per ≤ 201000 := by
  obtain ⟨h1, h2, h3, h4⟩ := movedIn_bounds l now per
  unfold baseOf mx
  split <;> omega
theorem baseOf_wrap (l : List S103) (now count per : Int) (hc : 0 ≤ count ∧ count ≤ 1000) : wrap64 ((wrap64 (count - (movedIn l now per).1)) + (movedIn l now per).2) = count - (movedIn l now per).1 + (movedIn l now per).2 := by
  obtain ⟨h1, h2, h3, h4⟩ := movedIn_bounds l now per
  rw [wr_id (x := count - (movedIn l now per).1) (by omega) (by omega), wr_id (by omega) (by omega)]
def upX (base kind value : Int) : Int := mn 1000 (if kind = 1 then base + (base * value + 99) / 100 else base + value)
def dnX (base kind value : Int) : Int := if kind = 1 then (mn base 1000 * mx 0 (100 - value)) / 100 else mx 0 (mn base 1000 - value)
theorem mul_bounds {a b A B : Int} (ha : 0 ≤ a) (hb : 0 ≤ b) (hA : a ≤ A) (hB : b ≤ B) : 0 ≤ a * b ∧ a * b ≤ A * B :=
  ⟨Int.mul_nonneg ha hb, Int.mul_le_mul hA hB hb (by omega)⟩
theorem upX_bounds {base kind value : Int} (hb : 0 ≤ base ∧ base ≤ 201000) (hv : 1 ≤ value ∧ value ≤ 1000) : 0 ≤ upX base kind value ∧ upX base kind value ≤ 1000 := by
  obtain ⟨p0, p1⟩ := mul_bounds hb.1 (show 0 ≤ value by omega) hb.2 hv.2
  unfold upX mn
  split <;> split <;> omega
theorem dnX_bounds {base kind value : Int} (hb : 0 ≤ base ∧ base ≤ 201000) (hv : 1 ≤ value ∧ value ≤ 1000) : 0 ≤ dnX base kind value ∧ dnX base kind value ≤ 1000 := by
  have m1 : 0 ≤ mn base 1000 ∧ mn base 1000 ≤ 1000 := by unfold mn; split <;> omega
  have m2 : 0 ≤ mx 0 (100 - value) ∧ mx 0 (100 - value) ≤ 100 := by unfold mx; split <;> omega
  obtain ⟨p0, p1⟩ := mul_bounds m1.1 m2.1 m1.2 m2.2
  unfold dnX
  split
  · omega
  · unfold mx; split <;> omega
theorem upX_impl {base kind value per : Int} (hb : 0 ≤ base ∧ base ≤ 201000) (hv : 1 ≤ value ∧ value ≤ 1000) : impl_UpBound_1.f base kind value per = some (upX base kind value) := by
  obtain ⟨p0, p1⟩ := mul_bounds hb.1 (show 0 ≤ value by omega) hb.2 hv.2
  unfold impl_UpBound_1.f upX
  by_cases g : kind = 1
  · rw [if_pos g, if_pos g, wr_id (x := base * value) (by omega) (by omega), ceil_impl p0 (by omega), Option.bind_some, wr_id (by omega) (by omega)]
  · rw [if_neg g, if_neg g, wr_id (by omega) (by omega)]
theorem dnX_impl {base kind value per : Int} (hb : 0 ≤ base ∧ base ≤ 201000) (hv : 1 ≤ value ∧ value ≤ 1000) : impl_DownBound_1.f base kind value per = some (dnX base kind value) := by
  have m1 : 0 ≤ mn base 1000 ∧ mn base 1000 ≤ 1000 := by unfold mn; split <;> omega
  have m2 : 0 ≤ mx 0 (100 - value) ∧ mx 0 (100 - value) ≤ 100 := by unfold mx; split <;> omega
  obtain ⟨p0, p1⟩ := mul_bounds m1.1 m2.1 m1.2 m2.2
  unfold impl_DownBound_1.f dnX
  by_cases g : kind = 1
  · rw [if_pos g, if_pos g, wr_id (x := 100 - value) (by omega) (by omega), wr_id (by omega) (by omega), floor_impl p0 (by omega)]; rfl
  · rw [if_neg g, if_neg g, wr_id (by omega) (by omega)]
/-- What the reference reckons for one policy, before it is cut at 1000. -/
theorem upX_raw {base value : Int} (hb : 0 ≤ base ∧ base ≤ 201000) (hv : 1 ≤ value ∧ value ≤ 1000) : spec_CeilDiv.f (wrap64 (base * (wrap64 (100 + value)))) 100 = some (base + (base * value + 99) / 100) := by
  obtain ⟨p0, p1⟩ := mul_bounds hb.1 (show 0 ≤ value by omega) hb.2 hv.2
  have e : base * (100 + value) = base * 100 + base * value := Int.mul_add ..
  rw [wr_id (x := 100 + value) (by omega) (by omega), e, wr_id (by omega) (by omega), ceil_spec (by omega) (by omega)]
  congr 1; omega
/-- The least and the greatest of the policies' bounds. -/
def lmSt (x : Int → Int → Int → Int) (ps : List S96) (l : List S103) (now count : Int) (s : Int × Int) (i : Nat) : Int × Int :=
  (mn s.1 (x (baseOf l now count (rd_T96 ps i).f2) (rd_T96 ps i).f0 (rd_T96 ps i).f1), mx s.2 (x (baseOf l now count (rd_T96 ps i).f2) (rd_T96 ps i).f0 (rd_T96 ps i).f1))
def lmOf (x : Int → Int → Int → Int) (ps : List S96) (l : List S103) (now count : Int) : Int × Int := (List.range' 0 ps.length).foldl (lmSt x ps l now count) (1000, 0)
def LmInv (s : Int × Int) (_ : Nat) : Prop := 0 ≤ s.1 ∧ s.1 ≤ 1000 ∧ 0 ≤ s.2 ∧ s.2 ≤ 1000
theorem lmInv_step {x : Int → Int → Int → Int} {s : Int × Int} {i : Nat} (ps : List S96) (l : List S103) (now count : Int) (hx : 0 ≤ x (baseOf l now count (rd_T96 ps i).f2) (rd_T96 ps i).f0 (rd_T96 ps i).f1 ∧ x (baseOf l now count (rd_T96 ps i).f2) (rd_T96 ps i).f0 (rd_T96 ps i).f1 ≤ 1000) (h : LmInv s i) : LmInv (lmSt x ps l now count s i) (i + 1) := by
  obtain ⟨h1, h2, h3, h4⟩ := h
  unfold LmInv lmSt mn mx
  refine ⟨?_, ?_, ?_, ?_⟩ <;> (simp only; split <;> omega)
theorem lmOf_bounds {x : Int → Int → Int → Int} (hx : ∀ b k v, (0 ≤ b ∧ b ≤ 201000) → (1 ≤ v ∧ v ≤ 1000) → 0 ≤ x b k v ∧ x b k v ≤ 1000) {ps : List S96} {sel win : Int} (hs : sideOk ps sel win = true) (l : List S103) (now count : Int) (hc : 0 ≤ count ∧ count ≤ 1000) : LmInv (lmOf x ps l now count) ps.length := by
  obtain ⟨_, _, _, hf⟩ := sideOk_facts hs
  exact fold_inv (n := ps.length) (st := lmSt x ps l now count) (Inv := LmInv) (fun s i hi hI => lmInv_step ps l now count (hx _ _ _ (baseOf_bounds l now count _ hc) (hf i hi).2.1) hI) ps.length 0 (1000, 0) (by omega) ⟨by simp, by simp, by simp, by simp⟩
def BdOk (ps : List S96) (sel win : Int) (l : List S103) (now count : Int) : Prop := sideOk ps sel win = true ∧ mvOk l = true ∧ (0 ≤ now ∧ now ≤ 1000000000) ∧ (0 ≤ count ∧ count ≤ 1000)
instance (ps : List S96) (sel win : Int) (l : List S103) (now count : Int) : Decidable (BdOk ps sel win l now count) := by unfold BdOk; infer_instance
def upBound (ps : List S96) (sel win : Int) (l : List S103) (now count : Int) : Int :=
  if BdOk ps sel win l now count then (if sel = 2 then count else if ps.length = 0 then 1000 else if sel = 0 then mx count (lmOf upX ps l now count).2 else mx count (lmOf upX ps l now count).1) else -1
def downBound (ps : List S96) (sel win : Int) (l : List S103) (now count : Int) : Int :=
  if BdOk ps sel win l now count then (if sel = 2 then count else if ps.length = 0 then 0 else if sel = 0 then mn count (lmOf dnX ps l now count).1 else mn count (lmOf dnX ps l now count).2) else -1
theorem upBound_facts {ps : List S96} {sel win : Int} {l : List S103} {now count : Int} (h : BdOk ps sel win l now count) : count ≤ upBound ps sel win l now count ∧ upBound ps sel win l now count ≤ 1000 ∧ (sel = 2 → upBound ps sel win l now count = count) := by
  have hb := lmOf_bounds (x := upX) (fun b k v h1 h2 => upX_bounds h1 h2) h.1 l now count h.2.2.2
  obtain ⟨b1, b2, b3, b4⟩ := hb
  obtain ⟨_, _, _, c1, c2⟩ := h
  unfold upBound
  rw [if_pos ⟨‹_›, ‹_›, ‹_›, c1, c2⟩]
  by_cases g : sel = 2
  · rw [if_pos g]; exact ⟨by omega, by omega, fun _ => rfl⟩
  · rw [if_neg g]
    refine ⟨?_, ?_, fun h => absurd h g⟩ <;> (split; omega; unfold mx; split <;> split <;> omega)
theorem downBound_facts {ps : List S96} {sel win : Int} {l : List S103} {now count : Int} (h : BdOk ps sel win l now count) : downBound ps sel win l now count ≤ count ∧ 0 ≤ downBound ps sel win l now count ∧ (sel = 2 → downBound ps sel win l now count = count) := by
  have hb := lmOf_bounds (x := dnX) (fun b k v h1 h2 => dnX_bounds h1 h2) h.1 l now count h.2.2.2
  obtain ⟨b1, b2, b3, b4⟩ := hb
  obtain ⟨_, _, _, c1, c2⟩ := h
  unfold downBound
  rw [if_pos ⟨‹_›, ‹_›, ‹_›, c1, c2⟩]
  by_cases g : sel = 2
  · rw [if_pos g]; exact ⟨by omega, by omega, fun _ => rfl⟩
  · rw [if_neg g]
    refine ⟨?_, ?_, fun h => absurd h g⟩ <;> (split; omega; unfold mn; split <;> split <;> omega)
end Go.Proofs.Ytfjjlipfjddaiaa.Base
