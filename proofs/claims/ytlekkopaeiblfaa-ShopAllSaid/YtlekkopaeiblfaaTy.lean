/- The facts on the types of the seat: closed, by the kernel. -/
import Derived.Test.YtlekkopaeiblfaaFip
import Derived.Test.YtlekkopaeiblfaaProg
set_option linter.unusedVariables false
set_option linter.unusedSimpArgs false
set_option linter.unusedSectionVars false
set_option linter.unnecessarySimpa false
namespace Go.Fip
open Go.Proofs
namespace T
theorem mixed : Try.prog.follows .mixedOrders = true := by kernel_rfl
theorem sz2 : (Try.prog.info? 2).map (·.size) = some 1 := by kernel_rfl
theorem one2 : TOne Try.prog 2 := fun _ => by kernel_rfl
theorem sz3 : (Try.prog.info? 3).map (·.size) = some 1 := by kernel_rfl
theorem one3 : TOne Try.prog 3 := fun _ => by kernel_rfl
theorem sz4 : (Try.prog.info? 4).map (·.size) = some 1 := by kernel_rfl
theorem one4 : TOne Try.prog 4 := fun _ => by kernel_rfl
theorem sz5 : (Try.prog.info? 5).map (·.size) = some 1 := by kernel_rfl
theorem one5 : TOne Try.prog 5 := fun _ => by kernel_rfl
theorem sz22 : (Try.prog.info? 22).map (·.size) = some 1 := by kernel_rfl
theorem sl22 : TSlice Try.prog 22 71 2 := ⟨by kernel_rfl, by kernel_rfl⟩
theorem one22 : TOne Try.prog 22 := fun _ => by kernel_rfl
theorem sz23 : (Try.prog.info? 23).map (·.size) = some 1 := by kernel_rfl
theorem sl23 : TSlice Try.prog 23 73 2 := ⟨by kernel_rfl, by kernel_rfl⟩
theorem one23 : TOne Try.prog 23 := fun _ => by kernel_rfl
theorem sz26 : (Try.prog.info? 26).map (·.size) = some 1 := by kernel_rfl
theorem one26 : TOne Try.prog 26 := fun _ => by kernel_rfl
theorem sz39 : (Try.prog.info? 39).map (·.size) = some 1 := by kernel_rfl
theorem sl39 : TSlice Try.prog 39 3 1 := ⟨by kernel_rfl, by kernel_rfl⟩
theorem one39 : TOne Try.prog 39 := fun _ => by kernel_rfl
theorem sz40 : (Try.prog.info? 40).map (·.size) = some 3 := by kernel_rfl
theorem agg40 : TAgg Try.prog 40 3 := ⟨fun _ => by kernel_rfl, by kernel_rfl⟩
theorem f40_0 : TField Try.prog 40 0 0 := tfield_of Try.underlying40 rfl rfl ⟨0, by kernel_rfl⟩
theorem f40_1 : TField Try.prog 40 1 1 := tfield_of Try.underlying40 rfl rfl ⟨0, by kernel_rfl⟩
theorem f40_2 : TField Try.prog 40 2 2 := tfield_of Try.underlying40 rfl rfl ⟨0, by kernel_rfl⟩
theorem sz41 : (Try.prog.info? 41).map (·.size) = some 3 := by kernel_rfl
theorem agg41 : TAgg Try.prog 41 3 := ⟨fun _ => by kernel_rfl, by kernel_rfl⟩
theorem f41_0 : TField Try.prog 41 0 0 := tfield_of Try.underlying41 rfl rfl ⟨0, by kernel_rfl⟩
theorem f41_1 : TField Try.prog 41 1 1 := tfield_of Try.underlying41 rfl rfl ⟨0, by kernel_rfl⟩
theorem f41_2 : TField Try.prog 41 2 2 := tfield_of Try.underlying41 rfl rfl ⟨0, by kernel_rfl⟩
theorem sz54 : (Try.prog.info? 54).map (·.size) = some 1 := by kernel_rfl
theorem sl54 : TSlice Try.prog 54 5 1 := ⟨by kernel_rfl, by kernel_rfl⟩
theorem one54 : TOne Try.prog 54 := fun _ => by kernel_rfl
theorem sz67 : (Try.prog.info? 67).map (·.size) = some 1 := by kernel_rfl
theorem sl67 : TSlice Try.prog 67 39 1 := ⟨by kernel_rfl, by kernel_rfl⟩
theorem one67 : TOne Try.prog 67 := fun _ => by kernel_rfl
theorem sz69 : (Try.prog.info? 69).map (·.size) = some 1 := by kernel_rfl
theorem one69 : TOne Try.prog 69 := fun _ => by kernel_rfl
theorem sz70 : (Try.prog.info? 70).map (·.size) = some 2 := by kernel_rfl
theorem agg70 : TAgg Try.prog 70 2 := ⟨fun _ => by kernel_rfl, by kernel_rfl⟩
theorem f70_0 : TField Try.prog 70 0 0 := tfield_of Try.underlying70 rfl rfl ⟨0, by kernel_rfl⟩
theorem f70_1 : TField Try.prog 70 1 1 := tfield_of Try.underlying70 rfl rfl ⟨0, by kernel_rfl⟩
theorem sz71 : (Try.prog.info? 71).map (·.size) = some 2 := by kernel_rfl
theorem agg71 : TAgg Try.prog 71 2 := ⟨fun _ => by kernel_rfl, by kernel_rfl⟩
theorem f71_0 : TField Try.prog 71 0 0 := tfield_of Try.underlying71 rfl rfl ⟨0, by kernel_rfl⟩
theorem f71_1 : TField Try.prog 71 1 1 := tfield_of Try.underlying71 rfl rfl ⟨0, by kernel_rfl⟩
theorem sz73 : (Try.prog.info? 73).map (·.size) = some 2 := by kernel_rfl
theorem agg73 : TAgg Try.prog 73 2 := ⟨fun _ => by kernel_rfl, by kernel_rfl⟩
theorem f73_0 : TField Try.prog 73 0 0 := tfield_of Try.underlying73 rfl rfl ⟨0, by kernel_rfl⟩
theorem f73_1 : TField Try.prog 73 1 1 := tfield_of Try.underlying73 rfl rfl ⟨0, by kernel_rfl⟩
theorem one81 : TOne Try.prog 81 := fun _ => by kernel_rfl
theorem sz84 : (Try.prog.info? 84).map (·.size) = some 2 := by kernel_rfl
theorem arr84 : TArr Try.prog 84 2 2 1 := ⟨by kernel_rfl, by kernel_rfl⟩
theorem agg84 : TAgg Try.prog 84 2 := ⟨fun _ => by kernel_rfl, by kernel_rfl⟩
theorem sz85 : (Try.prog.info? 85).map (·.size) = some 2 := by kernel_rfl
theorem arr85 : TArr Try.prog 85 2 2 1 := ⟨by kernel_rfl, by kernel_rfl⟩
theorem agg85 : TAgg Try.prog 85 2 := ⟨fun _ => by kernel_rfl, by kernel_rfl⟩
theorem one87 : TOne Try.prog 87 := fun _ => by kernel_rfl
theorem sz91 : (Try.prog.info? 91).map (·.size) = some 1 := by kernel_rfl
theorem sl91 : TSlice Try.prog 91 94 3 := ⟨by kernel_rfl, by kernel_rfl⟩
theorem one91 : TOne Try.prog 91 := fun _ => by kernel_rfl
theorem sz93 : (Try.prog.info? 93).map (·.size) = some 3 := by kernel_rfl
theorem agg93 : TAgg Try.prog 93 3 := ⟨fun _ => by kernel_rfl, by kernel_rfl⟩
theorem f93_0 : TField Try.prog 93 0 0 := tfield_of Try.underlying93 rfl rfl ⟨0, by kernel_rfl⟩
theorem f93_1 : TField Try.prog 93 1 1 := tfield_of Try.underlying93 rfl rfl ⟨0, by kernel_rfl⟩
theorem f93_2 : TField Try.prog 93 2 2 := tfield_of Try.underlying93 rfl rfl ⟨0, by kernel_rfl⟩
theorem sz94 : (Try.prog.info? 94).map (·.size) = some 3 := by kernel_rfl
theorem agg94 : TAgg Try.prog 94 3 := ⟨fun _ => by kernel_rfl, by kernel_rfl⟩
theorem f94_0 : TField Try.prog 94 0 0 := tfield_of Try.underlying94 rfl rfl ⟨0, by kernel_rfl⟩
theorem f94_1 : TField Try.prog 94 1 1 := tfield_of Try.underlying94 rfl rfl ⟨0, by kernel_rfl⟩
theorem f94_2 : TField Try.prog 94 2 2 := tfield_of Try.underlying94 rfl rfl ⟨0, by kernel_rfl⟩
theorem one96 : TOne Try.prog 96 := fun _ => by kernel_rfl
theorem sz98 : (Try.prog.info? 98).map (·.size) = some 1 := by kernel_rfl
theorem one98 : TOne Try.prog 98 := fun _ => by kernel_rfl
theorem sz101 : (Try.prog.info? 101).map (·.size) = some 1 := by kernel_rfl
theorem one101 : TOne Try.prog 101 := fun _ => by kernel_rfl
theorem sz102 : (Try.prog.info? 102).map (·.size) = some 4 := by kernel_rfl
theorem agg102 : TAgg Try.prog 102 4 := ⟨fun _ => by kernel_rfl, by kernel_rfl⟩
theorem f102_0 : TField Try.prog 102 0 0 := tfield_of Try.underlying102 rfl rfl ⟨2, by kernel_rfl⟩
theorem f102_1 : TField Try.prog 102 1 3 := tfield_of Try.underlying102 rfl rfl ⟨0, by kernel_rfl⟩
theorem sz103 : (Try.prog.info? 103).map (·.size) = some 4 := by kernel_rfl
theorem agg103 : TAgg Try.prog 103 4 := ⟨fun _ => by kernel_rfl, by kernel_rfl⟩
theorem f103_0 : TField Try.prog 103 0 0 := tfield_of Try.underlying103 rfl rfl ⟨2, by kernel_rfl⟩
theorem f103_1 : TField Try.prog 103 1 3 := tfield_of Try.underlying103 rfl rfl ⟨0, by kernel_rfl⟩
theorem sz104 : (Try.prog.info? 104).map (·.size) = some 1 := by kernel_rfl
theorem agg104 : TAgg Try.prog 104 1 := ⟨fun _ => by kernel_rfl, by kernel_rfl⟩
theorem f104_0 : TField Try.prog 104 0 0 := tfield_of Try.underlying104 rfl rfl ⟨0, by kernel_rfl⟩
theorem sz105 : (Try.prog.info? 105).map (·.size) = some 1 := by kernel_rfl
theorem agg105 : TAgg Try.prog 105 1 := ⟨fun _ => by kernel_rfl, by kernel_rfl⟩
theorem f105_0 : TField Try.prog 105 0 0 := tfield_of Try.underlying105 rfl rfl ⟨0, by kernel_rfl⟩
theorem one109 : TOne Try.prog 109 := fun _ => by kernel_rfl
theorem one112 : TOne Try.prog 112 := fun _ => by kernel_rfl
theorem one113 : TOne Try.prog 113 := fun _ => by kernel_rfl
theorem sz116 : (Try.prog.info? 116).map (·.size) = some 1 := by kernel_rfl
theorem sl116 : TSlice Try.prog 116 2 1 := ⟨by kernel_rfl, by kernel_rfl⟩
theorem one116 : TOne Try.prog 116 := fun _ => by kernel_rfl
theorem one119 : TOne Try.prog 119 := fun _ => by kernel_rfl
theorem one122 : TOne Try.prog 122 := fun _ => by kernel_rfl
theorem one128 : TOne Try.prog 128 := fun _ => by kernel_rfl
theorem sz134 : (Try.prog.info? 134).map (·.size) = some 1 := by kernel_rfl
theorem one134 : TOne Try.prog 134 := fun _ => by kernel_rfl
theorem el22_encP : El Try.prog 22 71 2 encP := el_of (z := (.agg #[(.int .i64 0), (.int .i64 0)])) (bytes := 16) (by kernel_rfl) (by kernel_rfl) rfl rfl rfl (fun _ => rfl) (by simp [encP, Value.oneCell'])
theorem el23_encP : El Try.prog 23 73 2 encP := el_of (z := (.agg #[(.int .i64 0), (.int .i64 0)])) (bytes := 16) (by kernel_rfl) (by kernel_rfl) rfl rfl rfl (fun _ => rfl) (by simp [encP, Value.oneCell'])
theorem el39_encI : El Try.prog 39 3 1 encI := el_of (z := (.int .i64 0)) (bytes := 8) (by kernel_rfl) (by kernel_rfl) rfl rfl rfl (fun _ => rfl) (by simp [encI, Value.oneCell'])
theorem el54_encB : El Try.prog 54 5 1 encB := el_of (z := (.int .u8 0)) (bytes := 1) (by kernel_rfl) (by kernel_rfl) rfl rfl rfl (fun _ => rfl) (by simp [encB, Value.oneCell'])
theorem el91_encN : El Try.prog 91 94 3 encN := el_of (z := (.agg #[(.int .i64 0), (.int .i64 0), (.int .i64 0)])) (bytes := 24) (by kernel_rfl) (by kernel_rfl) rfl rfl rfl (fun _ => rfl) (by simp [encN, Value.oneCell'])
theorem el116_encI : El Try.prog 116 2 1 encI := el_of (z := (.int .i64 0)) (bytes := 8) (by kernel_rfl) (by kernel_rfl) rfl rfl rfl (fun _ => rfl) (by simp [encI, Value.oneCell'])
theorem eqi73 : EqI Try.prog 73 2 := eqi_struct' (by kernel_rfl) (by kernel_rfl) (by kernel_rfl) (by kernel_rfl) (by kernel_rfl)
theorem eqi85 : EqI Try.prog 85 2 := eqi_arr2 (i := Try.t2) Try.underlying85 (by kernel_rfl) (by kernel_rfl) (fun _ => by kernel_rfl) (by kernel_rfl) (by kernel_rfl)
theorem m101 : MapT Try.prog 101 105 2 (fun n : Int => .agg #[.int .i64 n]) (fun n : Int => .int .i64 n) 0 := mapT_one' (by kernel_rfl) Try.underlying105 (by kernel_rfl) (by kernel_rfl) (by kernel_rfl) (fun _ => by kernel_rfl)
theorem m134 : MapT Try.prog 134 105 3 (fun n : Int => .agg #[.int .i64 n]) (fun n : Int => .int .i64 n) 0 := mapT_one' (by kernel_rfl) Try.underlying105 (by kernel_rfl) (by kernel_rfl) (by kernel_rfl) (fun _ => by kernel_rfl)
theorem z23_encP : ∀ i, Try.prog.info? 73 = some i → i.zero.map (·.cells.toList) = some (encP (0, 0)) := z_of (z := (.agg #[(.int .i64 0), (.int .i64 0)])) (by kernel_rfl) rfl
theorem z39_encI : ∀ i, Try.prog.info? 3 = some i → i.zero.map (·.cells.toList) = some (encI 0) := z_of (z := (.int .i64 0)) (by kernel_rfl) rfl
theorem z116_encI : ∀ i, Try.prog.info? 2 = some i → i.zero.map (·.cells.toList) = some (encI 0) := z_of (z := (.int .i64 0)) (by kernel_rfl) rfl
end T
end Go.Fip
