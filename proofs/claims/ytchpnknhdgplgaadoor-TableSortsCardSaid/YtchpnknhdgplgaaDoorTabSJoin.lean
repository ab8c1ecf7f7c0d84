/- All promises, by fuel: MADE BY PROGRAM (wip/tools/mods2.py). -/
import Derived.Test.YtchpnknhdgplgaaDoorTqShelfx
import Derived.Test.YtchpnknhdgplgaaDoorSpSortKx

set_option maxRecDepth 100000
namespace Go.Proofs.YtchpnknhdgplgaaDoor.TabS
open Go Go.Sp Go.TabSM Go.TabS
noncomputable section
theorem fk3 : FnOk Tryd.prog (List.range tabs.length) 3 ⟨81, c3_23, [.tmp 2]⟩ := by
  have h : c3 = c3_23 := by kernel_rfl
  rw [← h]; exact fok3
theorem fk7 : FnOk Tryd.prog (List.range tabs.length) 7 ⟨14, c7_3, [.tmp 4]⟩ := by
  have h : c7 = c7_3 := by kernel_rfl
  rw [← h]; exact fok7
theorem fk9 : FnOk Tryd.prog (List.range tabs.length) 9 ⟨19, c9_11, [.tmp 2, .tmp 3]⟩ := by
  have h : c9 = c9_11 := by kernel_rfl
  rw [← h]; exact fok9
theorem fk10 : FnOk Tryd.prog (List.range tabs.length) 10 ⟨15, c10_11, [.tmp 2, .tmp 3]⟩ := by
  have h : c10 = c10_11 := by kernel_rfl
  rw [← h]; exact fok10
theorem fk11 : FnOk Tryd.prog (List.range tabs.length) 11 ⟨25, c11_19, [.tmp 2, .tmp 3]⟩ := by
  have h : c11 = c11_19 := by kernel_rfl
  rw [← h]; exact fok11
theorem fk12 : FnOk Tryd.prog (List.range tabs.length) 12 ⟨30, c12_28, [.tmp 2, .tmp 3]⟩ := by
  have h : c12 = c12_28 := by kernel_rfl
  rw [← h]; exact fok12
theorem fk13 : FnOk Tryd.prog (List.range tabs.length) 13 ⟨40, c13_32, [.tmp 2, .tmp 3]⟩ := by
  have h : c13 = c13_32 := by kernel_rfl
  rw [← h]; exact fok13
theorem fk14 : FnOk Tryd.prog (List.range tabs.length) 14 ⟨52, c14_44, [.tmp 2, .tmp 3]⟩ := by
  have h : c14 = c14_44 := by kernel_rfl
  rw [← h]; exact fok14
theorem fk15 : FnOk Tryd.prog (List.range tabs.length) 15 ⟨26, c15_26, [.tmp 4]⟩ := by
  have h : c15 = c15_26 := by kernel_rfl
  rw [← h]; exact fok15
theorem fk16 : FnOk Tryd.prog (List.range tabs.length) 16 ⟨27, c16_26, [.tmp 4]⟩ := by
  have h : c16 = c16_26 := by kernel_rfl
  rw [← h]; exact fok16
theorem fk38 : FnOk Tryd.prog (List.range tabs.length) 38 ⟨17, c38_11, [.cell 2 73, .tmp 3]⟩ := by
  have h : c38 = c38_11 := by kernel_rfl
  rw [← h]; exact fok38
theorem fk39 : FnOk Tryd.prog (List.range tabs.length) 39 ⟨38, c39_37, [.tmp 4]⟩ := by
  have h : c39 = c39_37 := by kernel_rfl
  rw [← h]; exact fok39
theorem fk40 : FnOk Tryd.prog (List.range tabs.length) 40 ⟨46, c40_40, [.tmp 2]⟩ := by
  have h : c40 = c40_40 := by kernel_rfl
  rw [← h]; exact fok40
theorem fk41 : FnOk Tryd.prog (List.range tabs.length) 41 ⟨23, c41_20, [.tmp 6]⟩ := by
  have h : c41 = c41_20 := by kernel_rfl
  rw [← h]; exact fok41
theorem fk42 : FnOk Tryd.prog (List.range tabs.length) 42 ⟨33, c42_27, [.tmp 4]⟩ := by
  have h : c42 = c42_27 := by kernel_rfl
  rw [← h]; exact fok42
theorem fk43 : FnOk Tryd.prog (List.range tabs.length) 43 ⟨26, c43_20, [.tmp 4]⟩ := by
  have h : c43 = c43_20 := by kernel_rfl
  rw [← h]; exact fok43
theorem fk44 : FnOk Tryd.prog (List.range tabs.length) 44 ⟨20, c44_20, [.tmp 2]⟩ := by
  have h : c44 = c44_20 := by kernel_rfl
  rw [← h]; exact fok44
theorem fk45 : FnOk Tryd.prog (List.range tabs.length) 45 ⟨62, c45_23, [.tmp 6]⟩ := by
  have h : c45 = c45_23 := by kernel_rfl
  rw [← h]; exact fok45
theorem fk46 : FnOk Tryd.prog (List.range tabs.length) 46 ⟨25, c46_18, [.tmp 4]⟩ := by
  have h : c46 = c46_18 := by kernel_rfl
  rw [← h]; exact fok46
theorem fk47 : FnOk Tryd.prog (List.range tabs.length) 47 ⟨43, c47_33, [.tmp 4]⟩ := by
  have h : c47 = c47_33 := by kernel_rfl
  rw [← h]; exact fok47
theorem fk49 : FnOk Tryd.prog (List.range tabs.length) 49 ⟨21, c49_20, [.tmp 4]⟩ := by
  have h : c49 = c49_20 := by kernel_rfl
  rw [← h]; exact fok49
theorem fk50 : FnOk Tryd.prog (List.range tabs.length) 50 ⟨46, c50_40, [.tmp 2]⟩ := by
  have h : c50 = c50_40 := by kernel_rfl
  rw [← h]; exact fok50
theorem fk51 : FnOk Tryd.prog (List.range tabs.length) 51 ⟨38, c51_33, [.cell 2 73]⟩ := by
  have h : c51 = c51_33 := by kernel_rfl
  rw [← h]; exact fok51
theorem fk52 : FnOk Tryd.prog (List.range tabs.length) 52 ⟨41, c52_20, [.cell 4 73]⟩ := by
  have h : c52 = c52_20 := by kernel_rfl
  rw [← h]; exact fok52
theorem fk53 : FnOk Tryd.prog (List.range tabs.length) 53 ⟨21, c53_20, [.cell 4 73]⟩ := by
  have h : c53 = c53_20 := by kernel_rfl
  rw [← h]; exact fok53
theorem fk56 : FnOk Tryd.prog (List.range tabs.length) 56 ⟨15, c56_3, [.tmp 6]⟩ := by
  have h : c56 = c56_3 := by kernel_rfl
  rw [← h]; exact fok56
theorem fk60 : FnOk Tryd.prog (List.range tabs.length) 60 ⟨14, c60_9, [.tmp 2]⟩ := by
  have h : c60 = c60_9 := by kernel_rfl
  rw [← h]; exact fok60
theorem fk61 : FnOk Tryd.prog (List.range tabs.length) 61 ⟨15, c61_3, [.tmp 6]⟩ := by
  have h : c61 = c61_3 := by kernel_rfl
  rw [← h]; exact fok61
theorem fk62 : FnOk Tryd.prog (List.range tabs.length) 62 ⟨18, c62_20, [.tmp 4]⟩ := by
  have h : c62 = c62_20 := by kernel_rfl
  rw [← h]; exact fok62
theorem tabs_ne : ∀ t ∈ tabs, t ≠ [] := by intro t ht; simp [tabs] at ht; subst ht; intro h; cases h
theorem tabs_pl : ∀ t ∈ tabs, ∀ x ∈ t, plain1 x = true := by intro t ht x hx; simp [tabs] at ht; subst ht; simp [tab0] at hx; rcases hx with rfl | rfl | rfl | rfl | rfl | rfl | rfl | rfl | rfl | rfl | rfl | rfl | rfl | rfl | rfl | rfl | rfl | rfl | rfl | rfl | rfl | rfl | rfl | rfl | rfl | rfl | rfl | rfl | rfl | rfl | rfl | rfl | rfl | rfl | rfl | rfl | rfl | rfl | rfl | rfl | rfl | rfl | rfl | rfl | rfl | rfl | rfl | rfl | rfl | rfl | rfl | rfl | rfl | rfl | rfl | rfl | rfl | rfl | rfl | rfl | rfl | rfl | rfl | rfl <;> rfl
theorem inl_ok (hm : Tryd.prog.follows .mixedOrders = true) {pu : PureF} (hl47 : LiveOk Tryd.prog tabs 47 1 (pu 47)) (hg7 : PureOk Tryd.prog tabs 7 (pu 7)) (hg42 : PureOk Tryd.prog tabs 42 (pu 42)) : CallOk Tryd.prog (List.range tabs.length) (inl pu) := fun g args H v H' h => by
  have h : bb (Nat.beq g 26) (sortF args H) (bb (Nat.beq g 48) (compactF args H) (bb (Nat.beq g 47) (liveF tabs 1 (pu 47) args H) (bb (Nat.beq g 7) (giveF tabs 1 (pu 7) args H) (bb (Nat.beq g 42) (giveF tabs 1 (pu 42) args H) (none))))) = some (v, H') := h
  rcases bb_cases h with ⟨e, h⟩ | ⟨_, h⟩
  · obtain rfl := Nat.eq_of_beq_eq_true e
    exact ⟨enter_ok fok26, (sortF_ok (enter_ok fok26) (fun blk off cap zs w h1 h2 h3 => Go.Proofs.Tryd.slices_Sort_int blk off cap zs w h1 h2 h3) h).2 _⟩
  rcases bb_cases h with ⟨e, h⟩ | ⟨_, h⟩
  · obtain rfl := Nat.eq_of_beq_eq_true e
    exact ⟨enter_ok fok48, (compactF_ok (enter_ok fok48) (fun blk off cap zs w h1 h2 h3 => Go.Proofs.Tryd.slices_Compact_int blk off cap zs w h1 h2 h3) h).2 _⟩
  rcases bb_cases h with ⟨e, h⟩ | ⟨_, h⟩
  · obtain rfl := Nat.eq_of_beq_eq_true e
    exact liveF_ok tabs_ne tabs_pl hl47 h
  rcases bb_cases h with ⟨e, h⟩ | ⟨_, h⟩
  · obtain rfl := Nat.eq_of_beq_eq_true e
    exact giveF_ok tabs_ne tabs_pl hg7 h
  rcases bb_cases h with ⟨e, h⟩ | ⟨_, h⟩
  · obtain rfl := Nat.eq_of_beq_eq_true e
    exact giveF_ok tabs_ne tabs_pl hg42 h
  cases h
theorem disp_ok (hm : Tryd.prog.follows .mixedOrders = true) (hw : PureOk Tryd.prog tabs 8 (fun args => ll args (some (.bool true)) fun _ _ => none)) {pu : PureF} (hall : (∀ g, isP g = true → PureOk Tryd.prog tabs g (pu g)) ∧ LiveOk Tryd.prog tabs 47 1 (pu 47) ∧ PureOk Tryd.prog tabs 7 (pu 7) ∧ PureOk Tryd.prog tabs 42 (pu 42)) : (∀ g, isP g = true → PureOk Tryd.prog tabs g (disp pu g)) ∧ LiveOk Tryd.prog tabs 47 1 (disp pu 47) ∧ PureOk Tryd.prog tabs 7 (disp pu 7) ∧ PureOk Tryd.prog tabs 42 (disp pu 42) := by
  obtain ⟨hpu, hl47, hg7, hg42⟩ := hall
  have hcall := callP_ok (P := Tryd.prog) (tabs := tabs) tabs_ne tabs_pl (inl_ok hm hl47 hg7 hg42) hpu
  refine ⟨fun g hg => ?_, ?_, ?_, ?_⟩
  · skip
    have hg : g ∈ plist := memN_iff.1 hg
    simp only [plist, List.mem_cons, List.not_mem_nil, or_false] at hg
    rcases hg with rfl | rfl | rfl | rfl | rfl | rfl | rfl | rfl | rfl | rfl | rfl | rfl | rfl | rfl | rfl | rfl | rfl | rfl | rfl | rfl | rfl | rfl | rfl | rfl | rfl | rfl | rfl
    · exact pureOk_of_run (tabs := tabs) (f := m3 pu L) ttOk hm hcall fk3 fun args v h hc => r3 pu L rfl h hc
    · exact hw
    · exact pureOk_of_run (tabs := tabs) (f := m9 pu L) ttOk hm hcall fk9 fun args v h hc => r9 pu L rfl h hc
    · exact pureOk_of_run (tabs := tabs) (f := m10 pu L) ttOk hm hcall fk10 fun args v h hc => r10 pu L rfl h hc
    · exact pureOk_of_run (tabs := tabs) (f := m11 pu L) ttOk hm hcall fk11 fun args v h hc => r11 pu L rfl h hc
    · exact pureOk_of_run (tabs := tabs) (f := m12 pu L) ttOk hm hcall fk12 fun args v h hc => r12 pu L rfl h hc
    · exact pureOk_of_run (tabs := tabs) (f := m13 pu L) ttOk hm hcall fk13 fun args v h hc => r13 pu L rfl h hc
    · exact pureOk_of_run (tabs := tabs) (f := m14 pu L) ttOk hm hcall fk14 fun args v h hc => r14 pu L rfl h hc
    · exact pureOk_of_run (tabs := tabs) (f := m15 pu L) ttOk hm hcall fk15 fun args v h hc => r15 pu L rfl h hc
    · exact pureOk_of_run (tabs := tabs) (f := m16 pu L) ttOk hm hcall fk16 fun args v h hc => r16 pu L rfl h hc
    · exact pureOk_of_run (tabs := tabs) (f := m38 pu L) ttOk hm hcall fk38 fun args v h hc => r38 pu L rfl h hc
    · exact pureOk_of_run (tabs := tabs) (f := m39 pu L) ttOk hm hcall fk39 fun args v h hc => r39 pu L rfl h hc
    · exact pureOk_of_run (tabs := tabs) (f := m40 pu L) ttOk hm hcall fk40 fun args v h hc => r40 pu L rfl h hc
    · exact pureOk_of_run (tabs := tabs) (f := m41 pu L) ttOk hm hcall fk41 fun args v h hc => r41 pu L rfl h hc
    · exact pureOk_of_run (tabs := tabs) (f := m43 pu L) ttOk hm hcall fk43 fun args v h hc => r43 pu L rfl h hc
    · exact pureOk_of_run (tabs := tabs) (f := m44 pu L) ttOk hm hcall fk44 fun args v h hc => r44 pu L rfl h hc
    · exact pureOk_of_run (tabs := tabs) (f := m45 pu L) ttOk hm hcall fk45 fun args v h hc => r45 pu L rfl h hc
    · exact pureOk_of_run (tabs := tabs) (f := m46 pu L) ttOk hm hcall fk46 fun args v h hc => r46 pu L rfl h hc
    · exact pureOk_of_run (tabs := tabs) (f := m49 pu L) ttOk hm hcall fk49 fun args v h hc => r49 pu L rfl h hc
    · exact pureOk_of_run (tabs := tabs) (f := m50 pu L) ttOk hm hcall fk50 fun args v h hc => r50 pu L rfl h hc
    · exact pureOk_of_run (tabs := tabs) (f := m51 pu L) ttOk hm hcall fk51 fun args v h hc => r51 pu L rfl h hc
    · exact pureOk_of_run (tabs := tabs) (f := m52 pu L) ttOk hm hcall fk52 fun args v h hc => r52 pu L rfl h hc
    · exact pureOk_of_run (tabs := tabs) (f := m53 pu L) ttOk hm hcall fk53 fun args v h hc => r53 pu L rfl h hc
    · exact pureOk_of_run (tabs := tabs) (f := m56 pu L) ttOk hm hcall fk56 fun args v h hc => r56 pu L rfl h hc
    · exact pureOk_of_run (tabs := tabs) (f := m60 pu L) ttOk hm hcall fk60 fun args v h hc => r60 pu L rfl h hc
    · exact pureOk_of_run (tabs := tabs) (f := m61 pu L) ttOk hm hcall fk61 fun args v h hc => r61 pu L rfl h hc
    · exact pureOk_of_run (tabs := tabs) (f := m62 pu L) ttOk hm hcall fk62 fun args v h hc => r62 pu L rfl h hc
  · exact liveOk_of_run (tabs := tabs) (f := m47 pu L) ttOk hm hcall fk47 fun args v h hc => r47 pu L rfl h hc
  · exact pureOk_of_run (tabs := tabs) (f := m7 pu L) ttOk hm hcall fk7 fun args v h hc => r7 pu L rfl h hc
  · exact pureOk_of_run (tabs := tabs) (f := m42 pu L) ttOk hm hcall fk42 fun args v h hc => r42 pu L rfl h hc
theorem all_ok (hm : Tryd.prog.follows .mixedOrders = true) (hw : PureOk Tryd.prog tabs 8 (fun args => ll args (some (.bool true)) fun _ _ => none)) : ∀ n, (∀ g, isP g = true → PureOk Tryd.prog tabs g (puN n g)) ∧ LiveOk Tryd.prog tabs 47 1 (puN n 47) ∧ PureOk Tryd.prog tabs 7 (puN n 7) ∧ PureOk Tryd.prog tabs 42 (puN n 42) := fun n => by
  induction n with
  | zero =>
    refine ⟨fun g hg => ?_, ?_, ?_, ?_⟩
    · skip
      have hg : g ∈ plist := memN_iff.1 hg
      simp only [plist, List.mem_cons, List.not_mem_nil, or_false] at hg
      rcases hg with rfl | rfl | rfl | rfl | rfl | rfl | rfl | rfl | rfl | rfl | rfl | rfl | rfl | rfl | rfl | rfl | rfl | rfl | rfl | rfl | rfl | rfl | rfl | rfl | rfl | rfl | rfl
      · exact ⟨enter_ok fk3, fun args v h => by cases h⟩
      · exact ⟨hw.1, fun args v h => by cases h⟩
      · exact ⟨enter_ok fk9, fun args v h => by cases h⟩
      · exact ⟨enter_ok fk10, fun args v h => by cases h⟩
      · exact ⟨enter_ok fk11, fun args v h => by cases h⟩
      · exact ⟨enter_ok fk12, fun args v h => by cases h⟩
      · exact ⟨enter_ok fk13, fun args v h => by cases h⟩
      · exact ⟨enter_ok fk14, fun args v h => by cases h⟩
      · exact ⟨enter_ok fk15, fun args v h => by cases h⟩
      · exact ⟨enter_ok fk16, fun args v h => by cases h⟩
      · exact ⟨enter_ok fk38, fun args v h => by cases h⟩
      · exact ⟨enter_ok fk39, fun args v h => by cases h⟩
      · exact ⟨enter_ok fk40, fun args v h => by cases h⟩
      · exact ⟨enter_ok fk41, fun args v h => by cases h⟩
      · exact ⟨enter_ok fk43, fun args v h => by cases h⟩
      · exact ⟨enter_ok fk44, fun args v h => by cases h⟩
      · exact ⟨enter_ok fk45, fun args v h => by cases h⟩
      · exact ⟨enter_ok fk46, fun args v h => by cases h⟩
      · exact ⟨enter_ok fk49, fun args v h => by cases h⟩
      · exact ⟨enter_ok fk50, fun args v h => by cases h⟩
      · exact ⟨enter_ok fk51, fun args v h => by cases h⟩
      · exact ⟨enter_ok fk52, fun args v h => by cases h⟩
      · exact ⟨enter_ok fk53, fun args v h => by cases h⟩
      · exact ⟨enter_ok fk56, fun args v h => by cases h⟩
      · exact ⟨enter_ok fk60, fun args v h => by cases h⟩
      · exact ⟨enter_ok fk61, fun args v h => by cases h⟩
      · exact ⟨enter_ok fk62, fun args v h => by cases h⟩
    · exact ⟨enter_ok fk47, fun args v h => by cases h⟩
    · exact ⟨enter_ok fk7, fun args v h => by cases h⟩
    · exact ⟨enter_ok fk42, fun args v h => by cases h⟩
  | succ n ih => exact disp_ok hm hw ih
theorem pu_ok (hm : Tryd.prog.follows .mixedOrders = true) (hw : PureOk Tryd.prog tabs 8 (fun args => ll args (some (.bool true)) fun _ _ => none)) : ∀ n g, isP g = true → PureOk Tryd.prog tabs g (puN n g) := fun n => (all_ok hm hw n).1
end
end Go.Proofs.YtchpnknhdgplgaaDoor.TabS
