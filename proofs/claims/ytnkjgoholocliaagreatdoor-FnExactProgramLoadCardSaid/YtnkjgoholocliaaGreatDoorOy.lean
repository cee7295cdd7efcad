/-
  Lemmas for the law of ProgramLoad, no statement of their own: closed facts on types and functions.
-/
import Derived.Test.YtnkjgoholocliaaGreatDoorRows
import Derived.Test.YtnkjgoholocliaaGreatDoorOb
import Derived.KernelRfl
namespace Go.Proofs.YtnkjgoholocliaaGreatDoor
open Go
theorem nm100 : (Tryz.f100.name == "runtime.NumGoroutine") = false := by kernel_rfl
theorem nm101 : (Tryz.f101.name == "runtime.NumGoroutine") = false := by kernel_rfl
theorem nm102 : (Tryz.f102.name == "runtime.NumGoroutine") = false := by kernel_rfl
theorem nm103 : (Tryz.f103.name == "runtime.NumGoroutine") = false := by kernel_rfl
theorem nm104 : (Tryz.f104.name == "runtime.NumGoroutine") = false := by kernel_rfl
theorem nm105 : (Tryz.f105.name == "runtime.NumGoroutine") = false := by kernel_rfl
theorem nm106 : (Tryz.f106.name == "runtime.NumGoroutine") = false := by kernel_rfl
theorem nm107 : (Tryz.f107.name == "runtime.NumGoroutine") = false := by kernel_rfl
theorem nm108 : (Tryz.f108.name == "runtime.NumGoroutine") = false := by kernel_rfl
theorem nm109 : (Tryz.f109.name == "runtime.NumGoroutine") = false := by kernel_rfl
theorem nm112 : (Tryz.f112.name == "runtime.NumGoroutine") = false := by kernel_rfl
theorem nm113 : (Tryz.f113.name == "runtime.NumGoroutine") = false := by kernel_rfl
theorem nm116 : (Tryz.f116.name == "runtime.NumGoroutine") = false := by kernel_rfl
theorem nm117 : (Tryz.f117.name == "runtime.NumGoroutine") = false := by kernel_rfl
theorem nm12 : (Tryz.f12.name == "runtime.NumGoroutine") = false := by kernel_rfl
theorem nm120 : (Tryz.f120.name == "runtime.NumGoroutine") = false := by kernel_rfl
theorem nm121 : (Tryz.f121.name == "runtime.NumGoroutine") = false := by kernel_rfl
theorem nm122 : (Tryz.f122.name == "runtime.NumGoroutine") = false := by kernel_rfl
theorem nm124 : (Tryz.f124.name == "runtime.NumGoroutine") = false := by kernel_rfl
theorem nm125 : (Tryz.f125.name == "runtime.NumGoroutine") = false := by kernel_rfl
theorem nm126 : (Tryz.f126.name == "runtime.NumGoroutine") = false := by kernel_rfl
theorem nm127 : (Tryz.f127.name == "runtime.NumGoroutine") = false := by kernel_rfl
theorem nm130 : (Tryz.f130.name == "runtime.NumGoroutine") = false := by kernel_rfl
theorem nm131 : (Tryz.f131.name == "runtime.NumGoroutine") = false := by kernel_rfl
theorem nm132 : (Tryz.f132.name == "runtime.NumGoroutine") = false := by kernel_rfl
theorem nm133 : (Tryz.f133.name == "runtime.NumGoroutine") = false := by kernel_rfl
theorem nm134 : (Tryz.f134.name == "runtime.NumGoroutine") = false := by kernel_rfl
theorem nm135 : (Tryz.f135.name == "runtime.NumGoroutine") = false := by kernel_rfl
theorem nm136 : (Tryz.f136.name == "runtime.NumGoroutine") = false := by kernel_rfl
theorem nm137 : (Tryz.f137.name == "runtime.NumGoroutine") = false := by kernel_rfl
theorem nm138 : (Tryz.f138.name == "runtime.NumGoroutine") = false := by kernel_rfl
theorem nm139 : (Tryz.f139.name == "runtime.NumGoroutine") = false := by kernel_rfl
theorem nm140 : (Tryz.f140.name == "runtime.NumGoroutine") = false := by kernel_rfl
theorem nm141 : (Tryz.f141.name == "runtime.NumGoroutine") = false := by kernel_rfl
theorem nm142 : (Tryz.f142.name == "runtime.NumGoroutine") = false := by kernel_rfl
theorem nm143 : (Tryz.f143.name == "runtime.NumGoroutine") = false := by kernel_rfl
theorem nm144 : (Tryz.f144.name == "runtime.NumGoroutine") = false := by kernel_rfl
theorem nm145 : (Tryz.f145.name == "runtime.NumGoroutine") = false := by kernel_rfl
theorem nm146 : (Tryz.f146.name == "runtime.NumGoroutine") = false := by kernel_rfl
theorem nm147 : (Tryz.f147.name == "runtime.NumGoroutine") = false := by kernel_rfl
theorem nm148 : (Tryz.f148.name == "runtime.NumGoroutine") = false := by kernel_rfl
theorem nm149 : (Tryz.f149.name == "runtime.NumGoroutine") = false := by kernel_rfl
theorem nm150 : (Tryz.f150.name == "runtime.NumGoroutine") = false := by kernel_rfl
theorem nm151 : (Tryz.f151.name == "runtime.NumGoroutine") = false := by kernel_rfl
theorem nm152 : (Tryz.f152.name == "runtime.NumGoroutine") = false := by kernel_rfl
theorem nm154 : (Tryz.f154.name == "runtime.NumGoroutine") = false := by kernel_rfl
theorem nm155 : (Tryz.f155.name == "runtime.NumGoroutine") = false := by kernel_rfl
theorem nm156 : (Tryz.f156.name == "runtime.NumGoroutine") = false := by kernel_rfl
theorem nm157 : (Tryz.f157.name == "runtime.NumGoroutine") = false := by kernel_rfl
theorem nm158 : (Tryz.f158.name == "runtime.NumGoroutine") = false := by kernel_rfl
theorem nm159 : (Tryz.f159.name == "runtime.NumGoroutine") = false := by kernel_rfl
theorem nm160 : (Tryz.f160.name == "runtime.NumGoroutine") = false := by kernel_rfl
theorem nm162 : (Tryz.f162.name == "runtime.NumGoroutine") = false := by kernel_rfl
theorem nm163 : (Tryz.f163.name == "runtime.NumGoroutine") = false := by kernel_rfl
theorem nm164 : (Tryz.f164.name == "runtime.NumGoroutine") = false := by kernel_rfl
theorem nm165 : (Tryz.f165.name == "runtime.NumGoroutine") = false := by kernel_rfl
theorem nm166 : (Tryz.f166.name == "runtime.NumGoroutine") = false := by kernel_rfl
theorem nm167 : (Tryz.f167.name == "runtime.NumGoroutine") = false := by kernel_rfl
theorem nm169 : (Tryz.f169.name == "runtime.NumGoroutine") = false := by kernel_rfl
theorem nm170 : (Tryz.f170.name == "runtime.NumGoroutine") = false := by kernel_rfl
theorem nm171 : (Tryz.f171.name == "runtime.NumGoroutine") = false := by kernel_rfl
theorem nm175 : (Tryz.f175.name == "runtime.NumGoroutine") = false := by kernel_rfl
theorem nm177 : (Tryz.f177.name == "runtime.NumGoroutine") = false := by kernel_rfl
theorem nm178 : (Tryz.f178.name == "runtime.NumGoroutine") = false := by kernel_rfl
theorem nm179 : (Tryz.f179.name == "runtime.NumGoroutine") = false := by kernel_rfl
theorem nm180 : (Tryz.f180.name == "runtime.NumGoroutine") = false := by kernel_rfl
theorem nm182 : (Tryz.f182.name == "runtime.NumGoroutine") = false := by kernel_rfl
theorem nm183 : (Tryz.f183.name == "runtime.NumGoroutine") = false := by kernel_rfl
theorem nm184 : (Tryz.f184.name == "runtime.NumGoroutine") = false := by kernel_rfl
theorem nm19 : (Tryz.f19.name == "runtime.NumGoroutine") = false := by kernel_rfl
theorem nm195 : (Tryz.f195.name == "runtime.NumGoroutine") = false := by kernel_rfl
theorem nm197 : (Tryz.f197.name == "runtime.NumGoroutine") = false := by kernel_rfl
theorem nm198 : (Tryz.f198.name == "runtime.NumGoroutine") = false := by kernel_rfl
theorem nm20 : (Tryz.f20.name == "runtime.NumGoroutine") = false := by kernel_rfl
theorem nm21 : (Tryz.f21.name == "runtime.NumGoroutine") = false := by kernel_rfl
theorem nm22 : (Tryz.f22.name == "runtime.NumGoroutine") = false := by kernel_rfl
theorem nm23 : (Tryz.f23.name == "runtime.NumGoroutine") = false := by kernel_rfl
theorem nm28 : (Tryz.f28.name == "runtime.NumGoroutine") = false := by kernel_rfl
theorem nm29 : (Tryz.f29.name == "runtime.NumGoroutine") = false := by kernel_rfl
theorem nm30 : (Tryz.f30.name == "runtime.NumGoroutine") = false := by kernel_rfl
theorem nm41 : (Tryz.f41.name == "runtime.NumGoroutine") = false := by kernel_rfl
theorem nm42 : (Tryz.f42.name == "runtime.NumGoroutine") = false := by kernel_rfl
theorem nm51 : (Tryz.f51.name == "runtime.NumGoroutine") = false := by kernel_rfl
theorem nm53 : (Tryz.f53.name == "runtime.NumGoroutine") = false := by kernel_rfl
theorem nm54 : (Tryz.f54.name == "runtime.NumGoroutine") = false := by kernel_rfl
theorem nm55 : (Tryz.f55.name == "runtime.NumGoroutine") = false := by kernel_rfl
theorem nm56 : (Tryz.f56.name == "runtime.NumGoroutine") = false := by kernel_rfl
theorem nm57 : (Tryz.f57.name == "runtime.NumGoroutine") = false := by kernel_rfl
theorem nm58 : (Tryz.f58.name == "runtime.NumGoroutine") = false := by kernel_rfl
theorem nm59 : (Tryz.f59.name == "runtime.NumGoroutine") = false := by kernel_rfl
theorem nm60 : (Tryz.f60.name == "runtime.NumGoroutine") = false := by kernel_rfl
theorem nm61 : (Tryz.f61.name == "runtime.NumGoroutine") = false := by kernel_rfl
theorem nm62 : (Tryz.f62.name == "runtime.NumGoroutine") = false := by kernel_rfl
theorem nm63 : (Tryz.f63.name == "runtime.NumGoroutine") = false := by kernel_rfl
theorem nm64 : (Tryz.f64.name == "runtime.NumGoroutine") = false := by kernel_rfl
theorem nm67 : (Tryz.f67.name == "runtime.NumGoroutine") = false := by kernel_rfl
theorem nm68 : (Tryz.f68.name == "runtime.NumGoroutine") = false := by kernel_rfl
theorem nm71 : (Tryz.f71.name == "runtime.NumGoroutine") = false := by kernel_rfl
theorem nm74 : (Tryz.f74.name == "runtime.NumGoroutine") = false := by kernel_rfl
theorem nm79 : (Tryz.f79.name == "runtime.NumGoroutine") = false := by kernel_rfl
theorem nm81 : (Tryz.f81.name == "runtime.NumGoroutine") = false := by kernel_rfl
theorem nm84 : (Tryz.f84.name == "runtime.NumGoroutine") = false := by kernel_rfl
theorem nm85 : (Tryz.f85.name == "runtime.NumGoroutine") = false := by kernel_rfl
theorem nm86 : (Tryz.f86.name == "runtime.NumGoroutine") = false := by kernel_rfl
theorem nm87 : (Tryz.f87.name == "runtime.NumGoroutine") = false := by kernel_rfl
theorem nm88 : (Tryz.f88.name == "runtime.NumGoroutine") = false := by kernel_rfl
theorem nm91 : (Tryz.f91.name == "runtime.NumGoroutine") = false := by kernel_rfl
theorem nm94 : (Tryz.f94.name == "runtime.NumGoroutine") = false := by kernel_rfl
theorem nm97 : (Tryz.f97.name == "runtime.NumGoroutine") = false := by kernel_rfl
theorem nm98 : (Tryz.f98.name == "runtime.NumGoroutine") = false := by kernel_rfl
theorem tAgg55 : aggB Tryz.prog 55 = true := by kernel_rfl
theorem tAgg63 : aggB Tryz.prog 63 = true := by kernel_rfl
theorem tAgg67 : aggB Tryz.prog 67 = true := by kernel_rfl
theorem tAgg73 : aggB Tryz.prog 73 = true := by kernel_rfl
theorem tAr137 : Tryz.prog.underlying 137 = some (.array 40 4) := by kernel_rfl
theorem tAr151 : Tryz.prog.underlying 151 = some (.array 40 73) := by kernel_rfl
theorem tB153_3 : ∀ (x3f : Fn) (x3a x3b : Array Value) (w : World), (Instr.build 153 #[(3, (.func x3f x3a x3b))]).run Tryz.prog w = .ok (.agg #[.string ⟨#[]⟩, .slice none 0 0, .string ⟨#[]⟩, .slice none 0 0, .string ⟨#[]⟩, .slice none 0 0, .string ⟨#[]⟩, .slice none 0 0, .string ⟨#[]⟩, .slice none 0 0, .string ⟨#[]⟩, .slice none 0 0, .string ⟨#[]⟩, .slice none 0 0, .string ⟨#[]⟩, .slice none 0 0, .string ⟨#[]⟩, .slice none 0 0, .string ⟨#[]⟩, .slice none 0 0, .string ⟨#[]⟩, .slice none 0 0, .string ⟨#[]⟩, .slice none 0 0, .string ⟨#[]⟩, .slice none 0 0, .string ⟨#[]⟩, .slice none 0 0, .string ⟨#[]⟩, .slice none 0 0, .string ⟨#[]⟩, .slice none 0 0, .string ⟨#[]⟩, .slice none 0 0, .string ⟨#[]⟩, .slice none 0 0, .string ⟨#[]⟩, .slice none 0 0, .string ⟨#[]⟩, .slice none 0 0, .string ⟨#[]⟩, .slice none 0 0, .string ⟨#[]⟩, .slice none 0 0, .string ⟨#[]⟩, .slice none 0 0, .string ⟨#[]⟩, .slice none 0 0, .string ⟨#[]⟩, .slice none 0 0, .string ⟨#[]⟩, .slice none 0 0, .string ⟨#[]⟩, .slice none 0 0, .string ⟨#[]⟩, .slice none 0 0, .string ⟨#[]⟩, .slice none 0 0, .string ⟨#[]⟩, .slice none 0 0, .string ⟨#[]⟩, .slice none 0 0, .string ⟨#[]⟩, .slice none 0 0, .string ⟨#[]⟩, .slice none 0 0, .string ⟨#[]⟩, .slice none 0 0, .string ⟨#[]⟩, .slice none 0 0, .string ⟨#[]⟩, .slice none 0 0, .string ⟨#[]⟩, .slice none 0 0, .string ⟨#[]⟩, .slice none 0 0, .string ⟨#[]⟩, .slice none 0 0, .string ⟨#[]⟩, .slice none 0 0, .bool false, .bool false, .bool false, .bool false, .bool false, .bool false, .bool false, .bool false, .bool false, .bool false, .bool false, .bool false, .bool false, .bool false, .bool false, .bool false, .bool false, .bool false, .bool false, .bool false, .bool false, .bool false, .bool false, .bool false, .bool false, .bool false, .bool false, .bool false, .bool false, .bool false, .bool false, .bool false, .bool false, .bool false, .bool false, .bool false, .bool false, .bool false, .bool false, .bool false, .int .i64 0, .func x3f x3a x3b]) w := by intros; kernel_rfl
theorem tB55_ : ∀  (w : World), (Instr.build 55 #[]).run Tryz.prog w = .ok (.agg #[.string ⟨#[]⟩, .slice none 0 0, .slice none 0 0]) w := by intros; kernel_rfl
theorem tB55_0_1_2 : ∀ (x0 : ByteArray) (x1a : Option Addr) (x1n x1c : Nat) (x2a : Option Addr) (x2n x2c : Nat) (w : World), (Instr.build 55 #[(0, (.string x0)), (1, (.slice x1a x1n x1c)), (2, (.slice x2a x2n x2c))]).run Tryz.prog w = .ok (.agg #[.string x0, .slice x1a x1n x1c, .slice x2a x2n x2c]) w := by intros; kernel_rfl
theorem tB63_ : ∀  (w : World), (Instr.build 63 #[]).run Tryz.prog w = .ok (.agg #[.string ⟨#[]⟩, .slice none 0 0, .slice none 0 0]) w := by intros; kernel_rfl
theorem tB63_0 : ∀ (x0 : ByteArray) (w : World), (Instr.build 63 #[(0, (.string x0))]).run Tryz.prog w = .ok (.agg #[.string x0, .slice none 0 0, .slice none 0 0]) w := by intros; kernel_rfl
theorem tB67_ : ∀  (w : World), (Instr.build 67 #[]).run Tryz.prog w = .ok (.agg #[.string ⟨#[]⟩, .slice none 0 0]) w := by intros; kernel_rfl
theorem tB67_0 : ∀ (x0 : ByteArray) (w : World), (Instr.build 67 #[(0, (.string x0))]).run Tryz.prog w = .ok (.agg #[.string x0, .slice none 0 0]) w := by intros; kernel_rfl
theorem tB73_ : ∀  (w : World), (Instr.build 73 #[]).run Tryz.prog w = .ok (.agg #[.string ⟨#[]⟩, .slice none 0 0]) w := by intros; kernel_rfl
theorem tB73_0 : ∀ (x0 : ByteArray) (w : World), (Instr.build 73 #[(0, (.string x0))]).run Tryz.prog w = .ok (.agg #[.string x0, .slice none 0 0]) w := by intros; kernel_rfl
theorem tB73_1 : ∀ (x1a : Option Addr) (x1n x1c : Nat) (w : World), (Instr.build 73 #[(1, (.slice x1a x1n x1c))]).run Tryz.prog w = .ok (.agg #[.string ⟨#[]⟩, .slice x1a x1n x1c]) w := by intros; kernel_rfl
theorem tBool4 : Tryz.prog.underlying 4 = some .bool := by kernel_rfl
theorem tF153_0 : fieldOff Tryz.prog 153 0 = some 0 := by kernel_rfl
theorem tF153_1 : fieldOff Tryz.prog 153 1 = some 80 := by kernel_rfl
theorem tF153_2 : fieldOff Tryz.prog 153 2 = some 120 := by kernel_rfl
theorem tF153_3 : fieldOff Tryz.prog 153 3 = some 121 := by kernel_rfl
theorem tF55_0 : fieldOff Tryz.prog 55 0 = some 0 := by kernel_rfl
theorem tF55_1 : fieldOff Tryz.prog 55 1 = some 1 := by kernel_rfl
theorem tF55_2 : fieldOff Tryz.prog 55 2 = some 2 := by kernel_rfl
theorem tF63_0 : fieldOff Tryz.prog 63 0 = some 0 := by kernel_rfl
theorem tF63_1 : fieldOff Tryz.prog 63 1 = some 1 := by kernel_rfl
theorem tF63_2 : fieldOff Tryz.prog 63 2 = some 2 := by kernel_rfl
theorem tF67_0 : fieldOff Tryz.prog 67 0 = some 0 := by kernel_rfl
theorem tF67_1 : fieldOff Tryz.prog 67 1 = some 1 := by kernel_rfl
theorem tF73_0 : fieldOff Tryz.prog 73 0 = some 0 := by kernel_rfl
theorem tF73_1 : fieldOff Tryz.prog 73 1 = some 1 := by kernel_rfl
theorem tI118 : TI Tryz.prog 118 2 32 (.agg #[.pointer none, .slice none 0 0]) := by unfold TI; kernel_rfl
theorem tI3 : TI Tryz.prog 3 1 8 (.int .i64 0) := by unfold TI; kernel_rfl
theorem tI4 : TI Tryz.prog 4 1 1 (.bool false) := by unfold TI; kernel_rfl
theorem tI5 : TI Tryz.prog 5 1 1 (.int .u8 0) := by unfold TI; kernel_rfl
theorem tI55 : TI Tryz.prog 55 3 64 (.agg #[.string ⟨#[]⟩, .slice none 0 0, .slice none 0 0]) := by unfold TI; kernel_rfl
theorem tI61 : TI Tryz.prog 61 1 24 (.slice none 0 0) := by unfold TI; kernel_rfl
theorem tI63 : TI Tryz.prog 63 3 64 (.agg #[.string ⟨#[]⟩, .slice none 0 0, .slice none 0 0]) := by unfold TI; kernel_rfl
theorem tI65 : TI Tryz.prog 65 1 24 (.slice none 0 0) := by unfold TI; kernel_rfl
theorem tI67 : TI Tryz.prog 67 2 40 (.agg #[.string ⟨#[]⟩, .slice none 0 0]) := by unfold TI; kernel_rfl
theorem tI73 : TI Tryz.prog 73 2 40 (.agg #[.string ⟨#[]⟩, .slice none 0 0]) := by unfold TI; kernel_rfl
theorem tI9 : TI Tryz.prog 9 1 16 (.string ⟨#[]⟩) := by unfold TI; kernel_rfl
theorem tInt168 : Tryz.prog.underlying 168 = some (.int .u64) := by kernel_rfl
theorem tInt3 : Tryz.prog.underlying 3 = some (.int .i64) := by kernel_rfl
theorem tInt5 : Tryz.prog.underlying 5 = some (.int .u8) := by kernel_rfl
theorem tMixed : Tryz.prog.follows .mixedOrders = true := by kernel_rfl
theorem tOne133 : oneB Tryz.prog 133 = true := by kernel_rfl
theorem tOne3 : oneB Tryz.prog 3 = true := by kernel_rfl
theorem tOne35 : oneB Tryz.prog 35 = true := by kernel_rfl
theorem tOne4 : oneB Tryz.prog 4 = true := by kernel_rfl
theorem tOne61 : oneB Tryz.prog 61 = true := by kernel_rfl
theorem tOne65 : oneB Tryz.prog 65 = true := by kernel_rfl
theorem tOne9 : oneB Tryz.prog 9 = true := by kernel_rfl
theorem tSl114 : Tryz.prog.underlying 114 = some (.slice 5) := by kernel_rfl
theorem tSl25 : Tryz.prog.underlying 25 = some (.slice 55) := by kernel_rfl
theorem tSl35 : Tryz.prog.underlying 35 = some (.slice 9) := by kernel_rfl
theorem tSl58 : Tryz.prog.underlying 58 = some (.slice 63) := by kernel_rfl
theorem tSl61 : Tryz.prog.underlying 61 = some (.slice 73) := by kernel_rfl
theorem tSl65 : Tryz.prog.underlying 65 = some (.slice 67) := by kernel_rfl
theorem tStr9 : Tryz.prog.underlying 9 = some .string := by kernel_rfl
end Go.Proofs.YtnkjgoholocliaaGreatDoor
