/- Facts about this seat's operations, one per kind and type, and the rewriting step (written by wip/sim/tyfacts.py). -/
import Derived.Test.YtmpmbnmldmpmiaaGreatDoorSimU
import Derived.Test.YtmpmbnmldmpmiaaGreatDoorProg
import Derived.KernelRfl
set_option linter.unusedVariables false
set_option linter.unusedSimpArgs false
set_option maxRecDepth 100000
namespace Go.Proofs.YtmpmbnmldmpmiaaGreatDoor.Sim
open Go Go.RowKit
theorem al129  : allocX Tryz.prog 129 = some (mkRow 129 [.s (.pointer none), .s (.pointer none), .s (.int .u64 0)]) := by kernel_rfl
theorem al27  : allocX Tryz.prog 27 = some (mkRow 27 [.s (.int .i64 0), .s (.float .f64 0), .s (.string (⟨#[]⟩ : ByteArray)), .s (.slice none 0 0), .s (.slice none 0 0)]) := by kernel_rfl
theorem al31  : allocX Tryz.prog 31 = some (mkRow 31 [.s (.bool false), .s (.int .i64 0), .s (.float .f64 0), .s (.string (⟨#[]⟩ : ByteArray)), .s (.slice none 0 0), .s (.slice none 0 0)]) := by kernel_rfl
theorem al55  : allocX Tryz.prog 55 = some (mkRow 55 [.s (.int .i64 0), .s (.float .f64 0), .s (.string (⟨#[]⟩ : ByteArray)), .s (.slice none 0 0), .s (.slice none 0 0), .s (.int .i64 0), .s (.float .f64 0), .s (.string (⟨#[]⟩ : ByteArray)), .s (.slice none 0 0), .s (.slice none 0 0)]) := by kernel_rfl
theorem al62  : allocX Tryz.prog 62 = some (mkRow 62 [.s (.int .i64 0), .s (.int .i64 0)]) := by kernel_rfl
theorem al69  : allocX Tryz.prog 69 = some (mkRow 69 [.s (.slice none 0 0)]) := by kernel_rfl
theorem al75  : allocX Tryz.prog 75 = some (mkRow 75 [.s (.string (⟨#[]⟩ : ByteArray)), .s (.string (⟨#[]⟩ : ByteArray)), .s (.string (⟨#[]⟩ : ByteArray)), .s (.string (⟨#[]⟩ : ByteArray)), .s (.string (⟨#[]⟩ : ByteArray)), .s (.string (⟨#[]⟩ : ByteArray)), .s (.string (⟨#[]⟩ : ByteArray))]) := by kernel_rfl
theorem al79  : allocX Tryz.prog 79 = some (mkRow 79 [.s (.pointer none), .s (.slice none 0 0)]) := by kernel_rfl
theorem ap24_24 (T : Nat → Option (List Value)) (s x : V) (S : St) : appendX Tryz.prog T #[24, 24] s x S = appendW T 27 5 80 s (srcX T 5 x S.heap) S := append_eq 27 (by kernel_rfl) (by kernel_rfl) (by kernel_rfl) (by kernel_rfl) (by kernel_rfl)
theorem ap25_25 (T : Nat → Option (List Value)) (s x : V) (S : St) : appendX Tryz.prog T #[25, 25] s x S = appendW T 9 1 16 s (srcX T 1 x S.heap) S := append_eq 9 (by kernel_rfl) (by kernel_rfl) (by kernel_rfl) (by kernel_rfl) (by kernel_rfl)
theorem ap69_69 (T : Nat → Option (List Value)) (s x : V) (S : St) : appendX Tryz.prog T #[69, 69] s x S = appendW T 3 1 8 s (srcX T 1 x S.heap) S := append_eq 3 (by kernel_rfl) (by kernel_rfl) (by kernel_rfl) (by kernel_rfl) (by kernel_rfl)
theorem ap77_77 (T : Nat → Option (List Value)) (s x : V) (S : St) : appendX Tryz.prog T #[77, 77] s x S = appendW T 5 1 1 s (srcX T 1 x S.heap) S := append_eq 5 (by kernel_rfl) (by kernel_rfl) (by kernel_rfl) (by kernel_rfl) (by kernel_rfl)
theorem ap77_9 (T : Nat → Option (List Value)) (s x : V) (S : St) : appendX Tryz.prog T #[77, 9] s x S = appendW T 5 1 1 s (srcX T 1 x S.heap) S := append_eq 5 (by kernel_rfl) (by kernel_rfl) (by kernel_rfl) (by kernel_rfl) (by kernel_rfl)
theorem len24 (A : Option Addr) (n c : Nat) (ty : TypeId) (S : St) : lenX Tryz.prog #[24] ty (.s (.slice A n c)) S = some (.s (.int .i64 n), .no) := by kernel_rfl
theorem lex24 (id off n : Nat) (c : Option Nat) (ty : TypeId) (S : St) : lenX Tryz.prog #[24] ty (.slc id off n c) S = some (.s (.int .i64 n), .no) := by kernel_rfl
theorem len25 (A : Option Addr) (n c : Nat) (ty : TypeId) (S : St) : lenX Tryz.prog #[25] ty (.s (.slice A n c)) S = some (.s (.int .i64 n), .no) := by kernel_rfl
theorem lex25 (id off n : Nat) (c : Option Nat) (ty : TypeId) (S : St) : lenX Tryz.prog #[25] ty (.slc id off n c) S = some (.s (.int .i64 n), .no) := by kernel_rfl
theorem len69 (A : Option Addr) (n c : Nat) (ty : TypeId) (S : St) : lenX Tryz.prog #[69] ty (.s (.slice A n c)) S = some (.s (.int .i64 n), .no) := by kernel_rfl
theorem lex69 (id off n : Nat) (c : Option Nat) (ty : TypeId) (S : St) : lenX Tryz.prog #[69] ty (.slc id off n c) S = some (.s (.int .i64 n), .no) := by kernel_rfl
theorem len77 (A : Option Addr) (n c : Nat) (ty : TypeId) (S : St) : lenX Tryz.prog #[77] ty (.s (.slice A n c)) S = some (.s (.int .i64 n), .no) := by kernel_rfl
theorem lex77 (id off n : Nat) (c : Option Nat) (ty : TypeId) (S : St) : lenX Tryz.prog #[77] ty (.slc id off n c) S = some (.s (.int .i64 n), .no) := by kernel_rfl
theorem len9 (s : ByteArray) (ty : TypeId) (S : St) : lenX Tryz.prog #[9] ty (.s (.string s)) S = some (.s (.int .i64 s.size), .no) := by kernel_rfl
theorem max3 (a b : Int) : pureV Tryz.prog (Builtin.max_ #[3, 3] 3 #[.int .i64 a, .int .i64 b]) = some (.s (.int .i64 (if a < b then b else a)), .no) := by kernel_rfl
theorem min3 (a b : Int) : pureV Tryz.prog (Builtin.min_ #[3, 3] 3 #[.int .i64 a, .int .i64 b]) = some (.s (.int .i64 (if b < a then b else a)), .no) := by kernel_rfl
theorem bo_add_3 (p q : Operand) (a b : Int) : binX Tryz.prog .add 3 p q (.s (.int .i64 a)) (.s (.int .i64 b)) = some (.s (.int .i64 (IntKind.i64.wrap (a + b))), .no) := by kernel_rfl
theorem bo_eql_22 (p q : Operand) (a b : Int) : binX Tryz.prog .eql 22 p q (.s (.int .i64 a)) (.s (.int .i64 b)) = some (.s (.bool (a == b)), .no) := by kernel_rfl
theorem bo_eql_23 (p q : Operand) (a b : Nat) : binX Tryz.prog .eql 23 p q (.s (.float .f64 a)) (.s (.float .f64 b)) = some (.s (.bool (FloatKind.f64.format.order a b == some Ordering.eq)), .no) := by kernel_rfl
theorem bo_eql_3 (p q : Operand) (a b : Int) : binX Tryz.prog .eql 3 p q (.s (.int .i64 a)) (.s (.int .i64 b)) = some (.s (.bool (a == b)), .no) := by kernel_rfl
theorem bo_eql_4 (p q : Operand) (a b : Bool) : binX Tryz.prog .eql 4 p q (.s (.bool a)) (.s (.bool b)) = some (.s (.bool (a == b)), .no) := by kernel_rfl
theorem bo_eql_5 (p q : Operand) (a b : Int) : binX Tryz.prog .eql 5 p q (.s (.int .u8 a)) (.s (.int .u8 b)) = some (.s (.bool (a == b)), .no) := by kernel_rfl
theorem bo_eql_86 (p q : Operand) (a b : Int) : binX Tryz.prog .eql 86 p q (.s (.int .u64 a)) (.s (.int .u64 b)) = some (.s (.bool (a == b)), .no) := by kernel_rfl
theorem bo_eql_9 (p q : Operand) (a b : ByteArray) : binX Tryz.prog .eql 9 p q (.s (.string a)) (.s (.string b)) = some (.s (.bool (a.toList == b.toList)), .no) := by kernel_rfl
theorem bo_geq_23 (p q : Operand) (a b : Nat) : binX Tryz.prog .geq 23 p q (.s (.float .f64 a)) (.s (.float .f64 b)) = some (.s (.bool (FloatKind.f64.format.order a b == some Ordering.gt || FloatKind.f64.format.order a b == some Ordering.eq)), .no) := by kernel_rfl
theorem bo_geq_3 (p q : Operand) (a b : Int) : binX Tryz.prog .geq 3 p q (.s (.int .i64 a)) (.s (.int .i64 b)) = some (.s (.bool (decide (a ≥ b))), .no) := by kernel_rfl
theorem bo_geq_5 (p q : Operand) (a b : Int) : binX Tryz.prog .geq 5 p q (.s (.int .u8 a)) (.s (.int .u8 b)) = some (.s (.bool (decide (a ≥ b))), .no) := by kernel_rfl
theorem bo_gtr_22 (p q : Operand) (a b : Int) : binX Tryz.prog .gtr 22 p q (.s (.int .i64 a)) (.s (.int .i64 b)) = some (.s (.bool (decide (a > b))), .no) := by kernel_rfl
theorem bo_gtr_23 (p q : Operand) (a b : Nat) : binX Tryz.prog .gtr 23 p q (.s (.float .f64 a)) (.s (.float .f64 b)) = some (.s (.bool (FloatKind.f64.format.order a b == some Ordering.gt)), .no) := by kernel_rfl
theorem bo_gtr_3 (p q : Operand) (a b : Int) : binX Tryz.prog .gtr 3 p q (.s (.int .i64 a)) (.s (.int .i64 b)) = some (.s (.bool (decide (a > b))), .no) := by kernel_rfl
theorem bo_gtr_9 (p q : Operand) (a b : ByteArray) : binX Tryz.prog .gtr 9 p q (.s (.string a)) (.s (.string b)) = some (.s (.bool (!(Op.bytesLess a.toList b.toList || a.toList == b.toList))), .no) := by kernel_rfl
theorem bo_leq_23 (p q : Operand) (a b : Nat) : binX Tryz.prog .leq 23 p q (.s (.float .f64 a)) (.s (.float .f64 b)) = some (.s (.bool (FloatKind.f64.format.order a b == some Ordering.lt || FloatKind.f64.format.order a b == some Ordering.eq)), .no) := by kernel_rfl
theorem bo_leq_3 (p q : Operand) (a b : Int) : binX Tryz.prog .leq 3 p q (.s (.int .i64 a)) (.s (.int .i64 b)) = some (.s (.bool (decide (a ≤ b))), .no) := by kernel_rfl
theorem bo_leq_9 (p q : Operand) (a b : ByteArray) : binX Tryz.prog .leq 9 p q (.s (.string a)) (.s (.string b)) = some (.s (.bool (Op.bytesLess a.toList b.toList || a.toList == b.toList)), .no) := by kernel_rfl
theorem bo_lss_116 (p q : Operand) (a b : Int) : binX Tryz.prog .lss 116 p q (.s (.int .u64 a)) (.s (.int .u64 b)) = some (.s (.bool (decide (a < b))), .no) := by kernel_rfl
theorem bo_lss_22 (p q : Operand) (a b : Int) : binX Tryz.prog .lss 22 p q (.s (.int .i64 a)) (.s (.int .i64 b)) = some (.s (.bool (decide (a < b))), .no) := by kernel_rfl
theorem bo_lss_23 (p q : Operand) (a b : Nat) : binX Tryz.prog .lss 23 p q (.s (.float .f64 a)) (.s (.float .f64 b)) = some (.s (.bool (FloatKind.f64.format.order a b == some Ordering.lt)), .no) := by kernel_rfl
theorem bo_lss_3 (p q : Operand) (a b : Int) : binX Tryz.prog .lss 3 p q (.s (.int .i64 a)) (.s (.int .i64 b)) = some (.s (.bool (decide (a < b))), .no) := by kernel_rfl
theorem bo_lss_5 (p q : Operand) (a b : Int) : binX Tryz.prog .lss 5 p q (.s (.int .u8 a)) (.s (.int .u8 b)) = some (.s (.bool (decide (a < b))), .no) := by kernel_rfl
theorem bo_lss_9 (p q : Operand) (a b : ByteArray) : binX Tryz.prog .lss 9 p q (.s (.string a)) (.s (.string b)) = some (.s (.bool (Op.bytesLess a.toList b.toList)), .no) := by kernel_rfl
theorem bo_neq_121 (p q : Operand) (a b : Int) : binX Tryz.prog .neq 121 p q (.s (.int .i64 a)) (.s (.int .i64 b)) = some (.s (.bool (a != b)), .no) := by kernel_rfl
theorem bo_neq_22 (p q : Operand) (a b : Int) : binX Tryz.prog .neq 22 p q (.s (.int .i64 a)) (.s (.int .i64 b)) = some (.s (.bool (a != b)), .no) := by kernel_rfl
theorem bo_neq_23 (p q : Operand) (a b : Nat) : binX Tryz.prog .neq 23 p q (.s (.float .f64 a)) (.s (.float .f64 b)) = some (.s (.bool (!(FloatKind.f64.format.order a b == some Ordering.eq))), .no) := by kernel_rfl
theorem bo_neq_3 (p q : Operand) (a b : Int) : binX Tryz.prog .neq 3 p q (.s (.int .i64 a)) (.s (.int .i64 b)) = some (.s (.bool (a != b)), .no) := by kernel_rfl
theorem bo_neq_5 (p q : Operand) (a b : Int) : binX Tryz.prog .neq 5 p q (.s (.int .u8 a)) (.s (.int .u8 b)) = some (.s (.bool (a != b)), .no) := by kernel_rfl
theorem bo_neq_9 (p q : Operand) (a b : ByteArray) : binX Tryz.prog .neq 9 p q (.s (.string a)) (.s (.string b)) = some (.s (.bool (!(a.toList == b.toList))), .no) := by kernel_rfl
theorem bo_sub_116 (p q : Operand) (a b : Int) : binX Tryz.prog .sub 116 p q (.s (.int .u64 a)) (.s (.int .u64 b)) = some (.s (.int .u64 (IntKind.u64.wrap (a - b))), .no) := by kernel_rfl
theorem bo_sub_3 (p q : Operand) (a b : Int) : binX Tryz.prog .sub 3 p q (.s (.int .i64 a)) (.s (.int .i64 b)) = some (.s (.int .i64 (IntKind.i64.wrap (a - b))), .no) := by kernel_rfl
theorem bo_sub_86 (p q : Operand) (a b : Int) : binX Tryz.prog .sub 86 p q (.s (.int .u64 a)) (.s (.int .u64 b)) = some (.s (.int .u64 (IntKind.u64.wrap (a - b))), .no) := by kernel_rfl
noncomputable def ti137 : TypeInfo := (Tryz.prog.info? 137).getD default
theorem info137  : Tryz.prog.info? 137 = some ti137 := by kernel_rfl
theorem size137  : ti137.size = 2 := by kernel_rfl
theorem zero137  : ti137.zero = some (.agg #[.nilFunc, .nilFunc]) := by kernel_rfl
theorem pl137  : buildPlaces Tryz.prog 137 = some #[(0, 1), (1, 1)] := by kernel_rfl
theorem bd137 (ev : Operand → V) (ps : Array (Nat × Operand)) : buildX Tryz.prog ev 137 ps = buildWith #[(0, 1), (1, 1)] [.s (.nilFunc), .s (.nilFunc)] (ps.toList.map fun p => (p.1, ev p.2)) := build_eq pl137 info137 zero137 rfl ev ps
noncomputable def ti27 : TypeInfo := (Tryz.prog.info? 27).getD default
theorem info27  : Tryz.prog.info? 27 = some ti27 := by kernel_rfl
theorem size27  : ti27.size = 5 := by kernel_rfl
theorem zero27  : ti27.zero = some (.agg #[.int .i64 0, .float .f64 0, .string (⟨#[]⟩ : ByteArray), .slice none 0 0, .slice none 0 0]) := by kernel_rfl
theorem pl27  : buildPlaces Tryz.prog 27 = some #[(0, 1), (1, 1), (2, 1), (3, 1), (4, 1)] := by kernel_rfl
theorem bd27 (ev : Operand → V) (ps : Array (Nat × Operand)) : buildX Tryz.prog ev 27 ps = buildWith #[(0, 1), (1, 1), (2, 1), (3, 1), (4, 1)] [.s (.int .i64 0), .s (.float .f64 0), .s (.string (⟨#[]⟩ : ByteArray)), .s (.slice none 0 0), .s (.slice none 0 0)] (ps.toList.map fun p => (p.1, ev p.2)) := build_eq pl27 info27 zero27 rfl ev ps
noncomputable def ti31 : TypeInfo := (Tryz.prog.info? 31).getD default
theorem info31  : Tryz.prog.info? 31 = some ti31 := by kernel_rfl
theorem size31  : ti31.size = 6 := by kernel_rfl
theorem zero31  : ti31.zero = some (.agg #[.bool false, .int .i64 0, .float .f64 0, .string (⟨#[]⟩ : ByteArray), .slice none 0 0, .slice none 0 0]) := by kernel_rfl
theorem pl31  : buildPlaces Tryz.prog 31 = some #[(0, 1), (1, 5)] := by kernel_rfl
theorem bd31 (ev : Operand → V) (ps : Array (Nat × Operand)) : buildX Tryz.prog ev 31 ps = buildWith #[(0, 1), (1, 5)] [.s (.bool false), .s (.int .i64 0), .s (.float .f64 0), .s (.string (⟨#[]⟩ : ByteArray)), .s (.slice none 0 0), .s (.slice none 0 0)] (ps.toList.map fun p => (p.1, ev p.2)) := build_eq pl31 info31 zero31 rfl ev ps
noncomputable def ti55 : TypeInfo := (Tryz.prog.info? 55).getD default
theorem info55  : Tryz.prog.info? 55 = some ti55 := by kernel_rfl
theorem size55  : ti55.size = 10 := by kernel_rfl
theorem zero55  : ti55.zero = some (.agg #[.int .i64 0, .float .f64 0, .string (⟨#[]⟩ : ByteArray), .slice none 0 0, .slice none 0 0, .int .i64 0, .float .f64 0, .string (⟨#[]⟩ : ByteArray), .slice none 0 0, .slice none 0 0]) := by kernel_rfl
theorem pl55  : buildPlaces Tryz.prog 55 = some #[(0, 5), (5, 5)] := by kernel_rfl
theorem bd55 (ev : Operand → V) (ps : Array (Nat × Operand)) : buildX Tryz.prog ev 55 ps = buildWith #[(0, 5), (5, 5)] [.s (.int .i64 0), .s (.float .f64 0), .s (.string (⟨#[]⟩ : ByteArray)), .s (.slice none 0 0), .s (.slice none 0 0), .s (.int .i64 0), .s (.float .f64 0), .s (.string (⟨#[]⟩ : ByteArray)), .s (.slice none 0 0), .s (.slice none 0 0)] (ps.toList.map fun p => (p.1, ev p.2)) := build_eq pl55 info55 zero55 rfl ev ps
noncomputable def ti62 : TypeInfo := (Tryz.prog.info? 62).getD default
theorem info62  : Tryz.prog.info? 62 = some ti62 := by kernel_rfl
theorem size62  : ti62.size = 2 := by kernel_rfl
theorem zero62  : ti62.zero = some (.agg #[.int .i64 0, .int .i64 0]) := by kernel_rfl
theorem pl62  : buildPlaces Tryz.prog 62 = some #[(0, 1), (1, 1)] := by kernel_rfl
theorem bd62 (ev : Operand → V) (ps : Array (Nat × Operand)) : buildX Tryz.prog ev 62 ps = buildWith #[(0, 1), (1, 1)] [.s (.int .i64 0), .s (.int .i64 0)] (ps.toList.map fun p => (p.1, ev p.2)) := build_eq pl62 info62 zero62 rfl ev ps
noncomputable def ti75 : TypeInfo := (Tryz.prog.info? 75).getD default
theorem info75  : Tryz.prog.info? 75 = some ti75 := by kernel_rfl
theorem size75  : ti75.size = 7 := by kernel_rfl
theorem zero75  : ti75.zero = some (.agg #[.string (⟨#[]⟩ : ByteArray), .string (⟨#[]⟩ : ByteArray), .string (⟨#[]⟩ : ByteArray), .string (⟨#[]⟩ : ByteArray), .string (⟨#[]⟩ : ByteArray), .string (⟨#[]⟩ : ByteArray), .string (⟨#[]⟩ : ByteArray)]) := by kernel_rfl
noncomputable def ti9 : TypeInfo := (Tryz.prog.info? 9).getD default
theorem info9  : Tryz.prog.info? 9 = some ti9 := by kernel_rfl
theorem size9  : ti9.size = 1 := by kernel_rfl
theorem zero9  : ti9.zero = some (.string (⟨#[]⟩ : ByteArray)) := by kernel_rfl
theorem bs24_1 (ev : Operand → V) (ps : Array (Nat × Operand)) : buildSliceX Tryz.prog ev 24 1 ps = sliceWith 27 5 [.s (.int .i64 0), .s (.float .f64 0), .s (.string (⟨#[]⟩ : ByteArray)), .s (.slice none 0 0), .s (.slice none 0 0)] (ps.toList.map fun p => (p.1, ev p.2)) := slice_eq (by kernel_rfl) info27 size27 zero27 rfl rfl ev ps
theorem bs25_0 (ev : Operand → V) (ps : Array (Nat × Operand)) : buildSliceX Tryz.prog ev 25 0 ps = sliceWith 9 1 [] (ps.toList.map fun p => (p.1, ev p.2)) := slice_eq (by kernel_rfl) info9 size9 zero9 rfl rfl ev ps
theorem bs25_1 (ev : Operand → V) (ps : Array (Nat × Operand)) : buildSliceX Tryz.prog ev 25 1 ps = sliceWith 9 1 [.s (.string (⟨#[]⟩ : ByteArray))] (ps.toList.map fun p => (p.1, ev p.2)) := slice_eq (by kernel_rfl) info9 size9 zero9 rfl rfl ev ps
noncomputable def ti3 : TypeInfo := (Tryz.prog.info? 3).getD default
theorem info3  : Tryz.prog.info? 3 = some ti3 := by kernel_rfl
theorem size3  : ti3.size = 1 := by kernel_rfl
theorem zero3  : ti3.zero = some (.int .i64 0) := by kernel_rfl
theorem bs69_1 (ev : Operand → V) (ps : Array (Nat × Operand)) : buildSliceX Tryz.prog ev 69 1 ps = sliceWith 3 1 [.s (.int .i64 0)] (ps.toList.map fun p => (p.1, ev p.2)) := slice_eq (by kernel_rfl) info3 size3 zero3 rfl rfl ev ps
noncomputable def ti5 : TypeInfo := (Tryz.prog.info? 5).getD default
theorem info5  : Tryz.prog.info? 5 = some ti5 := by kernel_rfl
theorem size5  : ti5.size = 1 := by kernel_rfl
theorem zero5  : ti5.zero = some (.int .u8 0) := by kernel_rfl
theorem bs77_1 (ev : Operand → V) (ps : Array (Nat × Operand)) : buildSliceX Tryz.prog ev 77 1 ps = sliceWith 5 1 [.s (.int .u8 0)] (ps.toList.map fun p => (p.1, ev p.2)) := slice_eq (by kernel_rfl) info5 size5 zero5 rfl rfl ev ps
theorem bs77_2 (ev : Operand → V) (ps : Array (Nat × Operand)) : buildSliceX Tryz.prog ev 77 2 ps = sliceWith 5 1 [.s (.int .u8 0), .s (.int .u8 0)] (ps.toList.map fun p => (p.1, ev p.2)) := slice_eq (by kernel_rfl) info5 size5 zero5 rfl rfl ev ps
theorem bs77_6 (ev : Operand → V) (ps : Array (Nat × Operand)) : buildSliceX Tryz.prog ev 77 6 ps = sliceWith 5 1 [.s (.int .u8 0), .s (.int .u8 0), .s (.int .u8 0), .s (.int .u8 0), .s (.int .u8 0), .s (.int .u8 0)] (ps.toList.map fun p => (p.1, ev p.2)) := slice_eq (by kernel_rfl) info5 size5 zero5 rfl rfl ev ps
theorem cv2_23 (n : Int) (S : St) : convX Tryz.prog 2 23 (.s (.int .i64 n)) S = some (.s (.float .f64 (FloatKind.f64.nearest n)), .no) := by kernel_rfl
theorem cv22_23 (n : Int) (S : St) : convX Tryz.prog 22 23 (.s (.int .i64 n)) S = some (.s (.float .f64 (FloatKind.f64.nearest n)), .no) := by kernel_rfl
theorem cv3_116 (n : Int) (S : St) : convX Tryz.prog 3 116 (.s (.int .i64 n)) S = some (.s (.int .u64 (IntKind.u64.wrap n)), .no) := by kernel_rfl
theorem cv3_23 (n : Int) (S : St) : convX Tryz.prog 3 23 (.s (.int .i64 n)) S = some (.s (.float .f64 (FloatKind.f64.nearest n)), .no) := by kernel_rfl
theorem cv5_3 (n : Int) (S : St) : convX Tryz.prog 5 3 (.s (.int .u8 n)) S = some (.s (.int .i64 (IntKind.i64.wrap n)), .no) := by kernel_rfl
theorem cv86_2 (n : Int) (S : St) : convX Tryz.prog 86 2 (.s (.int .u64 n)) S = some (.s (.int .i64 (IntKind.i64.wrap n)), .no) := by kernel_rfl
theorem fa27_0 (id off : Nat) : fieldAddrX Tryz.prog 27 (.ptr id off) 0 = some (.ptr id off, .no) := by kernel_rfl
theorem fb27_0 (k off : Nat) : fieldAddrX Tryz.prog 27 (.s (.pointer (some ⟨k, off, none⟩))) 0 = some (.s (.pointer (some ⟨k, off, none⟩)), .no) := by kernel_rfl
theorem fa27_1 (id off : Nat) : fieldAddrX Tryz.prog 27 (.ptr id off) 1 = some (.ptr id (off + 1), .no) := by kernel_rfl
theorem fb27_1 (k off : Nat) : fieldAddrX Tryz.prog 27 (.s (.pointer (some ⟨k, off, none⟩))) 1 = some (.s (.pointer (some ⟨k, off + 1, none⟩)), .no) := by kernel_rfl
theorem fa27_2 (id off : Nat) : fieldAddrX Tryz.prog 27 (.ptr id off) 2 = some (.ptr id (off + 2), .no) := by kernel_rfl
theorem fb27_2 (k off : Nat) : fieldAddrX Tryz.prog 27 (.s (.pointer (some ⟨k, off, none⟩))) 2 = some (.s (.pointer (some ⟨k, off + 2, none⟩)), .no) := by kernel_rfl
theorem fa27_3 (id off : Nat) : fieldAddrX Tryz.prog 27 (.ptr id off) 3 = some (.ptr id (off + 3), .no) := by kernel_rfl
theorem fb27_3 (k off : Nat) : fieldAddrX Tryz.prog 27 (.s (.pointer (some ⟨k, off, none⟩))) 3 = some (.s (.pointer (some ⟨k, off + 3, none⟩)), .no) := by kernel_rfl
theorem fa27_4 (id off : Nat) : fieldAddrX Tryz.prog 27 (.ptr id off) 4 = some (.ptr id (off + 4), .no) := by kernel_rfl
theorem fb27_4 (k off : Nat) : fieldAddrX Tryz.prog 27 (.s (.pointer (some ⟨k, off, none⟩))) 4 = some (.s (.pointer (some ⟨k, off + 4, none⟩)), .no) := by kernel_rfl
theorem fa31_0 (id off : Nat) : fieldAddrX Tryz.prog 31 (.ptr id off) 0 = some (.ptr id off, .no) := by kernel_rfl
theorem fb31_0 (k off : Nat) : fieldAddrX Tryz.prog 31 (.s (.pointer (some ⟨k, off, none⟩))) 0 = some (.s (.pointer (some ⟨k, off, none⟩)), .no) := by kernel_rfl
theorem fa31_1 (id off : Nat) : fieldAddrX Tryz.prog 31 (.ptr id off) 1 = some (.ptr id (off + 1), .no) := by kernel_rfl
theorem fb31_1 (k off : Nat) : fieldAddrX Tryz.prog 31 (.s (.pointer (some ⟨k, off, none⟩))) 1 = some (.s (.pointer (some ⟨k, off + 1, none⟩)), .no) := by kernel_rfl
theorem fa55_0 (id off : Nat) : fieldAddrX Tryz.prog 55 (.ptr id off) 0 = some (.ptr id off, .no) := by kernel_rfl
theorem fb55_0 (k off : Nat) : fieldAddrX Tryz.prog 55 (.s (.pointer (some ⟨k, off, none⟩))) 0 = some (.s (.pointer (some ⟨k, off, none⟩)), .no) := by kernel_rfl
theorem fa55_1 (id off : Nat) : fieldAddrX Tryz.prog 55 (.ptr id off) 1 = some (.ptr id (off + 5), .no) := by kernel_rfl
theorem fb55_1 (k off : Nat) : fieldAddrX Tryz.prog 55 (.s (.pointer (some ⟨k, off, none⟩))) 1 = some (.s (.pointer (some ⟨k, off + 5, none⟩)), .no) := by kernel_rfl
theorem fa62_0 (id off : Nat) : fieldAddrX Tryz.prog 62 (.ptr id off) 0 = some (.ptr id off, .no) := by kernel_rfl
theorem fb62_0 (k off : Nat) : fieldAddrX Tryz.prog 62 (.s (.pointer (some ⟨k, off, none⟩))) 0 = some (.s (.pointer (some ⟨k, off, none⟩)), .no) := by kernel_rfl
theorem fa62_1 (id off : Nat) : fieldAddrX Tryz.prog 62 (.ptr id off) 1 = some (.ptr id (off + 1), .no) := by kernel_rfl
theorem fb62_1 (k off : Nat) : fieldAddrX Tryz.prog 62 (.s (.pointer (some ⟨k, off, none⟩))) 1 = some (.s (.pointer (some ⟨k, off + 1, none⟩)), .no) := by kernel_rfl
theorem fa79_1 (id off : Nat) : fieldAddrX Tryz.prog 79 (.ptr id off) 1 = some (.ptr id (off + 1), .no) := by kernel_rfl
theorem fb79_1 (k off : Nat) : fieldAddrX Tryz.prog 79 (.s (.pointer (some ⟨k, off, none⟩))) 1 = some (.s (.pointer (some ⟨k, off + 1, none⟩)), .no) := by kernel_rfl
theorem ia24 (id off len : Nat) (c : Option Nat) (kd : IntKind) (i : Int) : indexAddrX Tryz.prog 24 (.slc id off len c) (.s (.int kd i)) = bif decide (0 ≤ i) && decide (i < (len : Int)) then some (.ptr id (off + i.toNat * 5), .no) else none := by kernel_rfl
theorem ib24 (k off len c : Nat) (i : Int) : indexAddrX Tryz.prog 24 (.s (.slice (some ⟨k, off, none⟩) len c)) (.s (.int .i64 i)) = bif decide (0 ≤ i) && decide (i < (len : Int)) then some (.s (.pointer (some ⟨k, off + i.toNat * 5, none⟩)), .no) else none := indexAddr_base 27 (by kernel_rfl) (by kernel_rfl)
theorem ia25 (id off len : Nat) (c : Option Nat) (kd : IntKind) (i : Int) : indexAddrX Tryz.prog 25 (.slc id off len c) (.s (.int kd i)) = bif decide (0 ≤ i) && decide (i < (len : Int)) then some (.ptr id (off + i.toNat * 1), .no) else none := by kernel_rfl
theorem ib25 (k off len c : Nat) (i : Int) : indexAddrX Tryz.prog 25 (.s (.slice (some ⟨k, off, none⟩) len c)) (.s (.int .i64 i)) = bif decide (0 ≤ i) && decide (i < (len : Int)) then some (.s (.pointer (some ⟨k, off + i.toNat * 1, none⟩)), .no) else none := indexAddr_base 9 (by kernel_rfl) (by kernel_rfl)
theorem ia69 (id off len : Nat) (c : Option Nat) (kd : IntKind) (i : Int) : indexAddrX Tryz.prog 69 (.slc id off len c) (.s (.int kd i)) = bif decide (0 ≤ i) && decide (i < (len : Int)) then some (.ptr id (off + i.toNat * 1), .no) else none := by kernel_rfl
theorem ib69 (k off len c : Nat) (i : Int) : indexAddrX Tryz.prog 69 (.s (.slice (some ⟨k, off, none⟩) len c)) (.s (.int .i64 i)) = bif decide (0 ≤ i) && decide (i < (len : Int)) then some (.s (.pointer (some ⟨k, off + i.toNat * 1, none⟩)), .no) else none := indexAddr_base 3 (by kernel_rfl) (by kernel_rfl)
theorem ip75 (id off : Nat) (kd : IntKind) (i : Int) : indexAddrX Tryz.prog 75 (.ptr id off) (.s (.int kd i)) = bif decide (0 ≤ i) && decide (i < ((7 : Nat) : Int)) then some (.ptr id (off + i.toNat * 1), .no) else none := by kernel_rfl
theorem ld129 (T : Nat → Option (List Value)) (id off : Nat) (H : Heap) : loadX Tryz.prog T 129 (.ptr id off) H = (rowL (find id H)).bind fun cs => aggAt cs off 3 := load_agg (by kernel_rfl) (by kernel_rfl)
theorem lb129 (T : Nat → Option (List Value)) (k off : Nat) (H : Heap) : loadX Tryz.prog T 129 (.s (.pointer (some ⟨k, off, none⟩))) H = (T k).bind fun cs => aggAt (cs.map .s) off 3 := load_aggb (by kernel_rfl) (by kernel_rfl)
theorem ld22 (T : Nat → Option (List Value)) (id off : Nat) (H : Heap) : loadX Tryz.prog T 22 (.ptr id off) H = (rowL (find id H)).bind fun cs => cs[off]? := load_one (by kernel_rfl) (by kernel_rfl)
theorem lb22 (T : Nat → Option (List Value)) (k off : Nat) (H : Heap) : loadX Tryz.prog T 22 (.s (.pointer (some ⟨k, off, none⟩))) H = (cellT T k off).map .s := load_oneb (by kernel_rfl) (by kernel_rfl)
theorem ld23 (T : Nat → Option (List Value)) (id off : Nat) (H : Heap) : loadX Tryz.prog T 23 (.ptr id off) H = (rowL (find id H)).bind fun cs => cs[off]? := load_one (by kernel_rfl) (by kernel_rfl)
theorem lb23 (T : Nat → Option (List Value)) (k off : Nat) (H : Heap) : loadX Tryz.prog T 23 (.s (.pointer (some ⟨k, off, none⟩))) H = (cellT T k off).map .s := load_oneb (by kernel_rfl) (by kernel_rfl)
theorem ld24 (T : Nat → Option (List Value)) (id off : Nat) (H : Heap) : loadX Tryz.prog T 24 (.ptr id off) H = (rowL (find id H)).bind fun cs => cs[off]? := load_one (by kernel_rfl) (by kernel_rfl)
theorem lb24 (T : Nat → Option (List Value)) (k off : Nat) (H : Heap) : loadX Tryz.prog T 24 (.s (.pointer (some ⟨k, off, none⟩))) H = (cellT T k off).map .s := load_oneb (by kernel_rfl) (by kernel_rfl)
theorem ld25 (T : Nat → Option (List Value)) (id off : Nat) (H : Heap) : loadX Tryz.prog T 25 (.ptr id off) H = (rowL (find id H)).bind fun cs => cs[off]? := load_one (by kernel_rfl) (by kernel_rfl)
theorem lb25 (T : Nat → Option (List Value)) (k off : Nat) (H : Heap) : loadX Tryz.prog T 25 (.s (.pointer (some ⟨k, off, none⟩))) H = (cellT T k off).map .s := load_oneb (by kernel_rfl) (by kernel_rfl)
theorem ld27 (T : Nat → Option (List Value)) (id off : Nat) (H : Heap) : loadX Tryz.prog T 27 (.ptr id off) H = (rowL (find id H)).bind fun cs => aggAt cs off 5 := load_agg (by kernel_rfl) (by kernel_rfl)
theorem lb27 (T : Nat → Option (List Value)) (k off : Nat) (H : Heap) : loadX Tryz.prog T 27 (.s (.pointer (some ⟨k, off, none⟩))) H = (T k).bind fun cs => aggAt (cs.map .s) off 5 := load_aggb (by kernel_rfl) (by kernel_rfl)
theorem ld3 (T : Nat → Option (List Value)) (id off : Nat) (H : Heap) : loadX Tryz.prog T 3 (.ptr id off) H = (rowL (find id H)).bind fun cs => cs[off]? := load_one (by kernel_rfl) (by kernel_rfl)
theorem lb3 (T : Nat → Option (List Value)) (k off : Nat) (H : Heap) : loadX Tryz.prog T 3 (.s (.pointer (some ⟨k, off, none⟩))) H = (cellT T k off).map .s := load_oneb (by kernel_rfl) (by kernel_rfl)
theorem ld31 (T : Nat → Option (List Value)) (id off : Nat) (H : Heap) : loadX Tryz.prog T 31 (.ptr id off) H = (rowL (find id H)).bind fun cs => aggAt cs off 6 := load_agg (by kernel_rfl) (by kernel_rfl)
theorem lb31 (T : Nat → Option (List Value)) (k off : Nat) (H : Heap) : loadX Tryz.prog T 31 (.s (.pointer (some ⟨k, off, none⟩))) H = (T k).bind fun cs => aggAt (cs.map .s) off 6 := load_aggb (by kernel_rfl) (by kernel_rfl)
theorem ld4 (T : Nat → Option (List Value)) (id off : Nat) (H : Heap) : loadX Tryz.prog T 4 (.ptr id off) H = (rowL (find id H)).bind fun cs => cs[off]? := load_one (by kernel_rfl) (by kernel_rfl)
theorem lb4 (T : Nat → Option (List Value)) (k off : Nat) (H : Heap) : loadX Tryz.prog T 4 (.s (.pointer (some ⟨k, off, none⟩))) H = (cellT T k off).map .s := load_oneb (by kernel_rfl) (by kernel_rfl)
theorem ld55 (T : Nat → Option (List Value)) (id off : Nat) (H : Heap) : loadX Tryz.prog T 55 (.ptr id off) H = (rowL (find id H)).bind fun cs => aggAt cs off 10 := load_agg (by kernel_rfl) (by kernel_rfl)
theorem lb55 (T : Nat → Option (List Value)) (k off : Nat) (H : Heap) : loadX Tryz.prog T 55 (.s (.pointer (some ⟨k, off, none⟩))) H = (T k).bind fun cs => aggAt (cs.map .s) off 10 := load_aggb (by kernel_rfl) (by kernel_rfl)
theorem ld69 (T : Nat → Option (List Value)) (id off : Nat) (H : Heap) : loadX Tryz.prog T 69 (.ptr id off) H = (rowL (find id H)).bind fun cs => cs[off]? := load_one (by kernel_rfl) (by kernel_rfl)
theorem lb69 (T : Nat → Option (List Value)) (k off : Nat) (H : Heap) : loadX Tryz.prog T 69 (.s (.pointer (some ⟨k, off, none⟩))) H = (cellT T k off).map .s := load_oneb (by kernel_rfl) (by kernel_rfl)
theorem ld77 (T : Nat → Option (List Value)) (id off : Nat) (H : Heap) : loadX Tryz.prog T 77 (.ptr id off) H = (rowL (find id H)).bind fun cs => cs[off]? := load_one (by kernel_rfl) (by kernel_rfl)
theorem lb77 (T : Nat → Option (List Value)) (k off : Nat) (H : Heap) : loadX Tryz.prog T 77 (.s (.pointer (some ⟨k, off, none⟩))) H = (cellT T k off).map .s := load_oneb (by kernel_rfl) (by kernel_rfl)
theorem ld9 (T : Nat → Option (List Value)) (id off : Nat) (H : Heap) : loadX Tryz.prog T 9 (.ptr id off) H = (rowL (find id H)).bind fun cs => cs[off]? := load_one (by kernel_rfl) (by kernel_rfl)
theorem lb9 (T : Nat → Option (List Value)) (k off : Nat) (H : Heap) : loadX Tryz.prog T 9 (.s (.pointer (some ⟨k, off, none⟩))) H = (cellT T k off).map .s := load_oneb (by kernel_rfl) (by kernel_rfl)
theorem mi69 (v : Value) : mkIfcX Tryz.prog 69 (.s v) = some (.s (.iface 69 v), .no) := by kernel_rfl
theorem mj69 (id off n : Nat) (c : Option Nat) : mkIfcX Tryz.prog 69 (.slc id off n c) = some (.ifc 69 (.slc id off n c), .no) := by kernel_rfl
theorem ms24 (l c : Int) : makeSliceX Tryz.prog 24 (.s (.int .i64 l)) (.s (.int .i64 c)) = bif decide (0 ≤ l) && decide (l ≤ c) && decide (c ≤ 281474976710656) && Nat.ble (80 * c.toNat) 281474976710656 then some (mkRow 27 (zeros #[.int .i64 0, .float .f64 0, .string (⟨#[]⟩ : ByteArray), .slice none 0 0, .slice none 0 0] (c.toNat * 5)), l.toNat, c.toNat) else none := by kernel_rfl
theorem ms25 (l c : Int) : makeSliceX Tryz.prog 25 (.s (.int .i64 l)) (.s (.int .i64 c)) = bif decide (0 ≤ l) && decide (l ≤ c) && decide (c ≤ 281474976710656) && Nat.ble (16 * c.toNat) 281474976710656 then some (mkRow 9 (zeros #[.string (⟨#[]⟩ : ByteArray)] (c.toNat * 1)), l.toNat, c.toNat) else none := by kernel_rfl
theorem ms69 (l c : Int) : makeSliceX Tryz.prog 69 (.s (.int .i64 l)) (.s (.int .i64 c)) = bif decide (0 ≤ l) && decide (l ≤ c) && decide (c ≤ 281474976710656) && Nat.ble (8 * c.toNat) 281474976710656 then some (mkRow 3 (zeros #[.int .i64 0] (c.toNat * 1)), l.toNat, c.toNat) else none := by kernel_rfl
theorem st129 (id off : Nat) (v : V) (S : St) : storeX Tryz.prog 129 (.ptr id off) v S = bif Nat.beq (cellsV v).length 3 then putX id off (cellsV v) S else none := by kernel_rfl
theorem st24 (id off : Nat) (v : V) (S : St) : storeX Tryz.prog 24 (.ptr id off) v S = bif Nat.beq (cellsV v).length 1 then putX id off (cellsV v) S else none := by kernel_rfl
theorem st25 (id off : Nat) (v : V) (S : St) : storeX Tryz.prog 25 (.ptr id off) v S = bif Nat.beq (cellsV v).length 1 then putX id off (cellsV v) S else none := by kernel_rfl
theorem st27 (id off : Nat) (v : V) (S : St) : storeX Tryz.prog 27 (.ptr id off) v S = bif Nat.beq (cellsV v).length 5 then putX id off (cellsV v) S else none := by kernel_rfl
theorem st3 (id off : Nat) (v : V) (S : St) : storeX Tryz.prog 3 (.ptr id off) v S = bif Nat.beq (cellsV v).length 1 then putX id off (cellsV v) S else none := by kernel_rfl
theorem st31 (id off : Nat) (v : V) (S : St) : storeX Tryz.prog 31 (.ptr id off) v S = bif Nat.beq (cellsV v).length 6 then putX id off (cellsV v) S else none := by kernel_rfl
theorem st55 (id off : Nat) (v : V) (S : St) : storeX Tryz.prog 55 (.ptr id off) v S = bif Nat.beq (cellsV v).length 10 then putX id off (cellsV v) S else none := by kernel_rfl
theorem st62 (id off : Nat) (v : V) (S : St) : storeX Tryz.prog 62 (.ptr id off) v S = bif Nat.beq (cellsV v).length 2 then putX id off (cellsV v) S else none := by kernel_rfl
theorem st69 (id off : Nat) (v : V) (S : St) : storeX Tryz.prog 69 (.ptr id off) v S = bif Nat.beq (cellsV v).length 1 then putX id off (cellsV v) S else none := by kernel_rfl
theorem st75 (id off : Nat) (v : V) (S : St) : storeX Tryz.prog 75 (.ptr id off) v S = bif Nat.beq (cellsV v).length 7 then putX id off (cellsV v) S else none := by kernel_rfl
theorem st77 (id off : Nat) (v : V) (S : St) : storeX Tryz.prog 77 (.ptr id off) v S = bif Nat.beq (cellsV v).length 1 then putX id off (cellsV v) S else none := by kernel_rfl
theorem un_not (b : Bool) : pureV Tryz.prog (Op.unary .not (.bool b)) = some (.s (.bool (!b)), .no) := by kernel_rfl
theorem rs3  : Tryz.f3.results.toList = [.tmp 4] := rfl
theorem rs4  : Tryz.f4.results.toList = [.tmp 2] := rfl
theorem rs5  : Tryz.f5.results.toList = [.tmp 4] := rfl
theorem rs6  : Tryz.f6.results.toList = [.tmp 2] := rfl
theorem rs7  : Tryz.f7.results.toList = [.tmp 6] := rfl
theorem rs8  : Tryz.f8.results.toList = [.tmp 4] := rfl
theorem rs9  : Tryz.f9.results.toList = [.tmp 6] := rfl
theorem rs10  : Tryz.f10.results.toList = [.tmp 6] := rfl
theorem rs11  : Tryz.f11.results.toList = [.tmp 2] := rfl
theorem rs12  : Tryz.f12.results.toList = [.tmp 0] := rfl
theorem rs13  : Tryz.f13.results.toList = [.cell 6 27, .cell 7 31] := rfl
theorem rs14  : Tryz.f14.results.toList = [.cell 4 27, .tmp 5] := rfl
theorem rs15  : Tryz.f15.results.toList = [.tmp 4] := rfl
theorem rs16  : Tryz.f16.results.toList = [.cell 2 27] := rfl
theorem rs17  : Tryz.f17.results.toList = [.tmp 2] := rfl
theorem rs18  : Tryz.f18.results.toList = [.tmp 2] := rfl
theorem rs19  : Tryz.f19.results.toList = [.tmp 2] := rfl
theorem rs20  : Tryz.f20.results.toList = [.tmp 4] := rfl
theorem rs21  : Tryz.f21.results.toList = [.tmp 4] := rfl
theorem rs22  : Tryz.f22.results.toList = [.tmp 4] := rfl
theorem rs23  : Tryz.f23.results.toList = [.tmp 4] := rfl
theorem rs24  : Tryz.f24.results.toList = [.tmp 2] := rfl
theorem rs25  : Tryz.f25.results.toList = [.tmp 2] := rfl
theorem rs26  : Tryz.f26.results.toList = [.tmp 2] := rfl
theorem rs27  : Tryz.f27.results.toList = [.tmp 2] := rfl
theorem rs28  : Tryz.f28.results.toList = [.tmp 2] := rfl
theorem rs29  : Tryz.f29.results.toList = [.tmp 2] := rfl
theorem rs30  : Tryz.f30.results.toList = [.tmp 2] := rfl
theorem rs31  : Tryz.f31.results.toList = [.tmp 2] := rfl
theorem rs32  : Tryz.f32.results.toList = [.tmp 2] := rfl
theorem rs33  : Tryz.f33.results.toList = [.tmp 2] := rfl
theorem rs34  : Tryz.f34.results.toList = [.tmp 2] := rfl
theorem rs35  : Tryz.f35.results.toList = [.tmp 2] := rfl
theorem rs36  : Tryz.f36.results.toList = [.cell 6 27] := rfl
theorem rs37  : Tryz.f37.results.toList = [.cell 4 27, .tmp 5] := rfl
theorem rs38  : Tryz.f38.results.toList = [.tmp 2] := rfl
theorem rs39  : Tryz.f39.results.toList = [.cell 6 27] := rfl
theorem rs40  : Tryz.f40.results.toList = [.cell 4 27] := rfl
theorem rs41  : Tryz.f41.results.toList = [.tmp 4] := rfl
theorem rs42  : Tryz.f42.results.toList = [.tmp 2] := rfl
theorem rs43  : Tryz.f43.results.toList = [.cell 4 27] := rfl
theorem rs44  : Tryz.f44.results.toList = [.tmp 4] := rfl
theorem rs45  : Tryz.f45.results.toList = [.cell 4 27] := rfl
theorem rs46  : Tryz.f46.results.toList = [.cell 2 27] := rfl
theorem rs47  : Tryz.f47.results.toList = [.cell 2 27] := rfl
theorem rs48  : Tryz.f48.results.toList = [.tmp 0] := rfl
theorem rs49  : Tryz.f49.results.toList = [.cell 2 27] := rfl
theorem rs50  : Tryz.f50.results.toList = [.cell 2 27, .cell 3 31] := rfl
theorem rs51  : Tryz.f51.results.toList = [.cell 2 27, .cell 3 31] := rfl
theorem rs52  : Tryz.f52.results.toList = [.cell 2 27, .cell 3 31] := rfl
theorem rs53  : Tryz.f53.results.toList = [.cell 2 27, .cell 3 31] := rfl
theorem rs54  : Tryz.f54.results.toList = [.cell 2 27, .cell 3 31] := rfl
theorem rs55  : Tryz.f55.results.toList = [.cell 2 27, .cell 3 31] := rfl
theorem rs56  : Tryz.f56.results.toList = [.tmp 4] := rfl
theorem rs57  : Tryz.f57.results.toList = [.tmp 4] := rfl
theorem rs58  : Tryz.f58.results.toList = [.tmp 4] := rfl
theorem rs59  : Tryz.f59.results.toList = [.tmp 4] := rfl
theorem rs60  : Tryz.f60.results.toList = [.tmp 6] := rfl
theorem rs61  : Tryz.f61.results.toList = [.tmp 8, .tmp 9] := rfl
theorem rs62  : Tryz.f62.results.toList = [.tmp 4] := rfl
theorem rs63  : Tryz.f63.results.toList = [.tmp 4] := rfl
theorem rs64  : Tryz.f64.results.toList = [.tmp 6] := rfl
theorem rs65  : Tryz.f65.results.toList = [.tmp 4] := rfl
theorem rs66  : Tryz.f66.results.toList = [.tmp 2] := rfl
theorem rs67  : Tryz.f67.results.toList = [.tmp 6] := rfl
theorem rs68  : Tryz.f68.results.toList = [.tmp 6] := rfl
theorem rs69  : Tryz.f69.results.toList = [.tmp 4] := rfl
theorem rs70  : Tryz.f70.results.toList = [.tmp 4] := rfl
theorem rs71  : Tryz.f71.results.toList = [.tmp 2] := rfl
theorem rs72  : Tryz.f72.results.toList = [.tmp 2] := rfl
theorem rs73  : Tryz.f73.results.toList = [] := rfl
theorem rs74  : Tryz.f74.results.toList = [.tmp 2] := rfl
theorem rs75  : Tryz.f75.results.toList = [.tmp 4] := rfl
theorem rs76  : Tryz.f76.results.toList = [.tmp 2] := rfl
theorem rs77  : Tryz.f77.results.toList = [.tmp 6] := rfl
theorem rs78  : Tryz.f78.results.toList = [.tmp 2] := rfl
theorem rs79  : Tryz.f79.results.toList = [.tmp 6] := rfl
theorem rs80  : Tryz.f80.results.toList = [] := rfl
theorem rs81  : Tryz.f81.results.toList = [] := rfl
theorem rs82  : Tryz.f82.results.toList = [] := rfl
theorem rs83  : Tryz.f83.results.toList = [.tmp 2] := rfl
theorem rs84  : Tryz.f84.results.toList = [.tmp 4, .tmp 5, .tmp 6] := rfl
theorem rs85  : Tryz.f85.results.toList = [.tmp 4] := rfl
theorem rs86  : Tryz.f86.results.toList = [.cell 2 27] := rfl
theorem rs87  : Tryz.f87.results.toList = [.tmp 2] := rfl
theorem rs88  : Tryz.f88.results.toList = [.tmp 2] := rfl
theorem rs89  : Tryz.f89.results.toList = [.tmp 2] := rfl
theorem rs90  : Tryz.f90.results.toList = [.tmp 4] := rfl
theorem rs91  : Tryz.f91.results.toList = [.cell 2 27, .cell 3 31] := rfl
theorem rs92  : Tryz.f92.results.toList = [.cell 2 27, .cell 3 31] := rfl
theorem rs93  : Tryz.f93.results.toList = [.cell 6 27] := rfl
theorem rs94  : Tryz.f94.results.toList = [.cell 4 27] := rfl
theorem rs95  : Tryz.f95.results.toList = [.cell 4 27, .cell 5 31] := rfl
theorem rs96  : Tryz.f96.results.toList = [.cell 4 27, .cell 5 31] := rfl
theorem rs97  : Tryz.f97.results.toList = [.cell 4 27] := rfl
theorem rs98  : Tryz.f98.results.toList = [.tmp 4] := rfl
theorem rs99  : Tryz.f99.results.toList = [.tmp 2] := rfl
theorem rs100  : Tryz.f100.results.toList = [.tmp 2, .tmp 3] := rfl
theorem rs101  : Tryz.f101.results.toList = [.tmp 2] := rfl
theorem rs102  : Tryz.f102.results.toList = [.tmp 2] := rfl
theorem rs103  : Tryz.f103.results.toList = [.tmp 2] := rfl
theorem rs104  : Tryz.f104.results.toList = [.tmp 4] := rfl
theorem rs105  : Tryz.f105.results.toList = [] := rfl
theorem rs106  : Tryz.f106.results.toList = [.tmp 6] := rfl
theorem rs107  : Tryz.f107.results.toList = [.tmp 4, .tmp 5] := rfl
theorem rs108  : Tryz.f108.results.toList = [.tmp 2] := rfl
theorem rs109  : Tryz.f109.results.toList = [] := rfl
theorem rs110  : Tryz.f110.results.toList = [] := rfl
theorem rs111  : Tryz.f111.results.toList = [.tmp 2] := rfl
theorem rs112  : Tryz.f112.results.toList = [.tmp 4] := rfl
theorem rs113  : Tryz.f113.results.toList = [.tmp 2] := rfl
theorem rs114  : Tryz.f114.results.toList = [.tmp 4] := rfl
theorem rs115  : Tryz.f115.results.toList = [.tmp 2] := rfl
theorem rs116  : Tryz.f116.results.toList = [.tmp 4] := rfl
theorem rs117  : Tryz.f117.results.toList = [.tmp 2] := rfl
theorem rs118  : Tryz.f118.results.toList = [.tmp 2] := rfl
theorem rs119  : Tryz.f119.results.toList = [.tmp 2] := rfl
theorem rs120  : Tryz.f120.results.toList = [.tmp 4, .tmp 5] := rfl
theorem rs121  : Tryz.f121.results.toList = [.tmp 2] := rfl
theorem rs122  : Tryz.f122.results.toList = [.tmp 4, .tmp 5, .tmp 6] := rfl
/- al129 al27 al31 al55 al62 al69 al75 al79 ap24_24 ap25_25 ap69_69 ap77_77 ap77_9 len24 lex24 len25 lex25 len69 lex69 len77 lex77 len9 max3 min3 bo_add_3 bo_eql_22 bo_eql_23 bo_eql_3 bo_eql_4 bo_eql_5 bo_eql_86 bo_eql_9 bo_geq_23 bo_geq_3 bo_geq_5 bo_gtr_22 bo_gtr_23 bo_gtr_3 bo_gtr_9 bo_leq_23 bo_leq_3 bo_leq_9 bo_lss_116 bo_lss_22 bo_lss_23 bo_lss_3 bo_lss_5 bo_lss_9 bo_neq_121 bo_neq_22 bo_neq_23 bo_neq_3 bo_neq_5 bo_neq_9 bo_sub_116 bo_sub_3 bo_sub_86 info137 size137 zero137 pl137 bd137 info27 size27 zero27 pl27 bd27 info31 size31 zero31 pl31 bd31 info55 size55 zero55 pl55 bd55 info62 size62 zero62 pl62 bd62 info75 size75 zero75 info9 size9 zero9 bs24_1 bs25_0 bs25_1 info3 size3 zero3 bs69_1 info5 size5 zero5 bs77_1 bs77_2 bs77_6 cv2_23 cv22_23 cv3_116 cv3_23 cv5_3 cv86_2 fa27_0 fb27_0 fa27_1 fb27_1 fa27_2 fb27_2 fa27_3 fb27_3 fa27_4 fb27_4 fa31_0 fb31_0 fa31_1 fb31_1 fa55_0 fb55_0 fa55_1 fb55_1 fa62_0 fb62_0 fa62_1 fb62_1 fa79_1 fb79_1 ia24 ib24 ia25 ib25 ia69 ib69 ip75 ld129 lb129 ld22 lb22 ld23 lb23 ld24 lb24 ld25 lb25 ld27 lb27 ld3 lb3 ld31 lb31 ld4 lb4 ld55 lb55 ld69 lb69 ld77 lb77 ld9 lb9 mi69 mj69 ms24 ms25 ms69 st129 st24 st25 st27 st3 st31 st55 st62 st69 st75 st77 un_not rs3 rs4 rs5 rs6 rs7 rs8 rs9 rs10 rs11 rs12 rs13 rs14 rs15 rs16 rs17 rs18 rs19 rs20 rs21 rs22 rs23 rs24 rs25 rs26 rs27 rs28 rs29 rs30 rs31 rs32 rs33 rs34 rs35 rs36 rs37 rs38 rs39 rs40 rs41 rs42 rs43 rs44 rs45 rs46 rs47 rs48 rs49 rs50 rs51 rs52 rs53 rs54 rs55 rs56 rs57 rs58 rs59 rs60 rs61 rs62 rs63 rs64 rs65 rs66 rs67 rs68 rs69 rs70 rs71 rs72 rs73 rs74 rs75 rs76 rs77 rs78 rs79 rs80 rs81 rs82 rs83 rs84 rs85 rs86 rs87 rs88 rs89 rs90 rs91 rs92 rs93 rs94 rs95 rs96 rs97 rs98 rs99 rs100 rs101 rs102 rs103 rs104 rs105 rs106 rs107 rs108 rs109 rs110 rs111 rs112 rs113 rs114 rs115 rs116 rs117 rs118 rs119 rs120 rs121 rs122 @Tryz.underlying3 @Tryz.underlying5 @Tryz.underlying9 @Tryz.underlying24 @Tryz.underlying25 @Tryz.underlying27 @Tryz.underlying31 @Tryz.underlying55 @Tryz.underlying62 @Tryz.underlying69 @Tryz.underlying75 @Tryz.underlying77 @Tryz.underlying119 @Tryz.underlying137 -/
set_option linter.unusedSimpArgs false
theorem ev {p q : Prop} (k : q) (h : p = q := by (conv => lhs; simp only [ad1, ad2, ad3, ad4, ad5, ad6, ad7, ad8, ad9, ad10, ad11, ad12, ad13, ad14, ad15, ad16, ad17, ad18, ad19, ad20, ad21, ad22, ad23, ad24, ad25, ad26, ad27, ad28, ad29, ad30, ad31, ad32, ad33, ad34, ad35, ad36, ad37, ad38, ad39, ad40, ad41, ad42, ad43, ad44, ad45, ad46, ad47, ad48, ad49, ad50, ad51, ad52, ad53, ad54, ad55, ad56, ad57, ad58, ad59, ad60, ad61, ad62, ad63, ad64, ad65, ad66, ad67, ad68, ad69, ad70, ad71, ad72, ad73, ad74, ad75, ad76, ad77, ad78, ad79, lt_off, le_off, ne_off, ne_off', gt_off, newsX_off, ext2_0, ext2_1, ext3_0, ext3_1, ext3_2, opAt, callOne_self, calleeX_s, calleeX_fn, EvL, EvB, EvO, FinB, gF, gS, gH, gB, gV, gVs, wantF, EvD, runSolo, runQuiet, runMix, StepK, visX, newsX, newAll, visY, keptY, leftY, seenV, seenA, chkY, farY, bit, List.filter_cons, List.filter_nil, Option.isSome_some, Option.isSome_none, Nat.add_left_cancel_iff, Nat.add_eq_left, Nat.add_le_add_iff_left, Nat.add_lt_add_iff_left, Nat.left_eq_add, Nat.testBit, Nat.reduceShiftRight, Nat.reduceAnd, Nat.reduceBneDiff, Nat.reduceBeqDiff, Nat.le_add_right, Nat.lt_add_right_iff_pos, add_le_self, add_lt_self, List.drop_nil, appendW, appendI, srcX_slc, srcX_empty, putX, Int.toNat_zero, Int.toNat_natCast, Int.le_refl, Nat.lt_add_one, Nat.lt_irrefl, List.length_map, List.map_append, List.take_succ_cons, List.take_zero, List.drop_succ_cons, List.drop_zero, List.zip_cons_cons, List.zip_nil_left, List.zip_nil_right, List.nil_append, List.append_nil, List.drop_nil, List.take_nil, List.cons_append, Nat.zero_mul, Nat.mul_zero, Nat.mul_one, Nat.one_mul, Nat.sub_self, Nat.sub_zero, Nat.le_refl, true_and, and_true, opX, builtinX, unitX, evF_tmp, evF_const, evF_func, evF_global, putF_none, run_no, run_new, run_put, run_eat, mkRow, extractX, mkTup, Nat.min_self, Nat.min_def, cv_int, cv_bool, cv_float, cv_string, cv_slice, cv_pointer, cv_sagg, cv_agg, cv_ptr, cv_slc, cv_slu, cv_map, cv_fn, cv_ifc, set_nil, set_zero, set_succ, rowL, aggAt, find_cons, find_nil, upd_cons, upd_nil, del_cons, del_nil, beq_eq, ble_eq, blt_dec, lower_eq, putF_some, one, oneCell, sliceWith, fillX, buildWith, Option.map_some, Option.map_none, Option.bind_some, Option.bind_none, List.map_cons, List.map_nil, List.toList_toArray, List.all_cons, List.all_nil, List.length_cons, List.length_nil, Nat.reduceEqDiff, Nat.reduceAdd, Nat.reduceMul, Nat.reduceLeDiff, Nat.reduceLT, Int.reduceBEq, Int.reduceBNe, Int.reduceLT, Int.reduceLE, Int.reduceEq, Int.reduceToNat, Int.reduceNeg, if_true, if_false, ite_true, ite_false, reduceIte, cond_true, cond_false, Bool.and_true, Bool.true_and, Bool.false_and, Bool.and_false, Bool.or_true, Bool.or_false, Bool.true_or, Bool.false_or, Bool.not_true, Bool.not_false, beq_self_eq_true, Nat.beq_refl, List.getElem?_toArray, List.getElem?_cons_succ, List.getElem?_cons_zero, List.getElem?_nil, decide_true, decide_false, decide_eq_true_eq, eq_self_iff_true, reduceCtorEq, Option.getD_some, argF, lits, mkAgg, Nat.zero_add, Nat.add_zero, nilCheckX, Fz.ok, beq_true, beq_false, al129, al27, al31, al55, al62, al69, al75, al79, ap24_24, ap25_25, ap69_69, ap77_77, ap77_9, len24, lex24, len25, lex25, len69, lex69, len77, lex77, len9, max3, min3, bo_add_3, bo_eql_22, bo_eql_23, bo_eql_3, bo_eql_4, bo_eql_5, bo_eql_86, bo_eql_9, bo_geq_23, bo_geq_3, bo_geq_5, bo_gtr_22, bo_gtr_23, bo_gtr_3, bo_gtr_9, bo_leq_23, bo_leq_3, bo_leq_9, bo_lss_116, bo_lss_22, bo_lss_23, bo_lss_3, bo_lss_5, bo_lss_9, bo_neq_121, bo_neq_22, bo_neq_23, bo_neq_3, bo_neq_5, bo_neq_9, bo_sub_116, bo_sub_3, bo_sub_86, info137, size137, zero137, pl137, bd137, info27, size27, zero27, pl27, bd27, info31, size31, zero31, pl31, bd31, info55, size55, zero55, pl55, bd55, info62, size62, zero62, pl62, bd62, info75, size75, zero75, info9, size9, zero9, bs24_1, bs25_0, bs25_1, info3, size3, zero3, bs69_1, info5, size5, zero5, bs77_1, bs77_2, bs77_6, cv2_23, cv22_23, cv3_116, cv3_23, cv5_3, cv86_2, fa27_0, fb27_0, fa27_1, fb27_1, fa27_2, fb27_2, fa27_3, fb27_3, fa27_4, fb27_4, fa31_0, fb31_0, fa31_1, fb31_1, fa55_0, fb55_0, fa55_1, fb55_1, fa62_0, fb62_0, fa62_1, fb62_1, fa79_1, fb79_1, ia24, ib24, ia25, ib25, ia69, ib69, ip75, ld129, lb129, ld22, lb22, ld23, lb23, ld24, lb24, ld25, lb25, ld27, lb27, ld3, lb3, ld31, lb31, ld4, lb4, ld55, lb55, ld69, lb69, ld77, lb77, ld9, lb9, mi69, mj69, ms24, ms25, ms69, st129, st24, st25, st27, st3, st31, st55, st62, st69, st75, st77, un_not, rs3, rs4, rs5, rs6, rs7, rs8, rs9, rs10, rs11, rs12, rs13, rs14, rs15, rs16, rs17, rs18, rs19, rs20, rs21, rs22, rs23, rs24, rs25, rs26, rs27, rs28, rs29, rs30, rs31, rs32, rs33, rs34, rs35, rs36, rs37, rs38, rs39, rs40, rs41, rs42, rs43, rs44, rs45, rs46, rs47, rs48, rs49, rs50, rs51, rs52, rs53, rs54, rs55, rs56, rs57, rs58, rs59, rs60, rs61, rs62, rs63, rs64, rs65, rs66, rs67, rs68, rs69, rs70, rs71, rs72, rs73, rs74, rs75, rs76, rs77, rs78, rs79, rs80, rs81, rs82, rs83, rs84, rs85, rs86, rs87, rs88, rs89, rs90, rs91, rs92, rs93, rs94, rs95, rs96, rs97, rs98, rs99, rs100, rs101, rs102, rs103, rs104, rs105, rs106, rs107, rs108, rs109, rs110, rs111, rs112, rs113, rs114, rs115, rs116, rs117, rs118, rs119, rs120, rs121, rs122, @Tryz.underlying3, @Tryz.underlying5, @Tryz.underlying9, @Tryz.underlying24, @Tryz.underlying25, @Tryz.underlying27, @Tryz.underlying31, @Tryz.underlying55, @Tryz.underlying62, @Tryz.underlying69, @Tryz.underlying75, @Tryz.underlying77, @Tryz.underlying119, @Tryz.underlying137])) : p := by rw [h]; exact k
theorem evh {p q : Prop} (k : q) (h : p = q := by (conv => lhs; simp only [ad1, ad2, ad3, ad4, ad5, ad6, ad7, ad8, ad9, ad10, ad11, ad12, ad13, ad14, ad15, ad16, ad17, ad18, ad19, ad20, ad21, ad22, ad23, ad24, ad25, ad26, ad27, ad28, ad29, ad30, ad31, ad32, ad33, ad34, ad35, ad36, ad37, ad38, ad39, ad40, ad41, ad42, ad43, ad44, ad45, ad46, ad47, ad48, ad49, ad50, ad51, ad52, ad53, ad54, ad55, ad56, ad57, ad58, ad59, ad60, ad61, ad62, ad63, ad64, ad65, ad66, ad67, ad68, ad69, ad70, ad71, ad72, ad73, ad74, ad75, ad76, ad77, ad78, ad79, lt_off, le_off, ne_off, ne_off', gt_off, newsX_off, ext2_0, ext2_1, ext3_0, ext3_1, ext3_2, opAt, callOne_self, calleeX_s, calleeX_fn, EvL, EvB, EvO, FinB, gF, gS, gH, gB, gV, gVs, wantF, EvD, runSolo, runQuiet, runMix, StepK, visX, newsX, newAll, visY, keptY, leftY, seenV, seenA, chkY, farY, bit, List.filter_cons, List.filter_nil, Option.isSome_some, Option.isSome_none, Nat.add_left_cancel_iff, Nat.add_eq_left, Nat.add_le_add_iff_left, Nat.add_lt_add_iff_left, Nat.left_eq_add, Nat.testBit, Nat.reduceShiftRight, Nat.reduceAnd, Nat.reduceBneDiff, Nat.reduceBeqDiff, Nat.le_add_right, Nat.lt_add_right_iff_pos, add_le_self, add_lt_self, List.drop_nil, appendW, appendI, srcX_slc, srcX_empty, putX, Int.toNat_zero, Int.toNat_natCast, Int.le_refl, Nat.lt_add_one, Nat.lt_irrefl, List.length_map, List.map_append, List.take_succ_cons, List.take_zero, List.drop_succ_cons, List.drop_zero, List.zip_cons_cons, List.zip_nil_left, List.zip_nil_right, List.nil_append, List.append_nil, List.drop_nil, List.take_nil, List.cons_append, Nat.zero_mul, Nat.mul_zero, Nat.mul_one, Nat.one_mul, Nat.sub_self, Nat.sub_zero, Nat.le_refl, true_and, and_true, opX, builtinX, unitX, evF_tmp, evF_const, evF_func, evF_global, putF_none, run_no, run_new, run_put, run_eat, mkRow, extractX, mkTup, Nat.min_self, Nat.min_def, cv_int, cv_bool, cv_float, cv_string, cv_slice, cv_pointer, cv_sagg, cv_agg, cv_ptr, cv_slc, cv_slu, cv_map, cv_fn, cv_ifc, set_nil, set_zero, set_succ, rowL, aggAt, find_cons, find_nil, upd_cons, upd_nil, del_cons, del_nil, beq_eq, ble_eq, blt_dec, lower_eq, putF_some, one, oneCell, sliceWith, fillX, buildWith, Option.map_some, Option.map_none, Option.bind_some, Option.bind_none, List.map_cons, List.map_nil, List.toList_toArray, List.all_cons, List.all_nil, List.length_cons, List.length_nil, Nat.reduceEqDiff, Nat.reduceAdd, Nat.reduceMul, Nat.reduceLeDiff, Nat.reduceLT, Int.reduceBEq, Int.reduceBNe, Int.reduceLT, Int.reduceLE, Int.reduceEq, Int.reduceToNat, Int.reduceNeg, if_true, if_false, ite_true, ite_false, reduceIte, cond_true, cond_false, Bool.and_true, Bool.true_and, Bool.false_and, Bool.and_false, Bool.or_true, Bool.or_false, Bool.true_or, Bool.false_or, Bool.not_true, Bool.not_false, beq_self_eq_true, Nat.beq_refl, List.getElem?_toArray, List.getElem?_cons_succ, List.getElem?_cons_zero, List.getElem?_nil, decide_true, decide_false, decide_eq_true_eq, eq_self_iff_true, reduceCtorEq, Option.getD_some, argF, lits, mkAgg, Nat.zero_add, Nat.add_zero, nilCheckX, Fz.ok, beq_true, beq_false, al129, al27, al31, al55, al62, al69, al75, al79, ap24_24, ap25_25, ap69_69, ap77_77, ap77_9, len24, lex24, len25, lex25, len69, lex69, len77, lex77, len9, max3, min3, bo_add_3, bo_eql_22, bo_eql_23, bo_eql_3, bo_eql_4, bo_eql_5, bo_eql_86, bo_eql_9, bo_geq_23, bo_geq_3, bo_geq_5, bo_gtr_22, bo_gtr_23, bo_gtr_3, bo_gtr_9, bo_leq_23, bo_leq_3, bo_leq_9, bo_lss_116, bo_lss_22, bo_lss_23, bo_lss_3, bo_lss_5, bo_lss_9, bo_neq_121, bo_neq_22, bo_neq_23, bo_neq_3, bo_neq_5, bo_neq_9, bo_sub_116, bo_sub_3, bo_sub_86, info137, size137, zero137, pl137, bd137, info27, size27, zero27, pl27, bd27, info31, size31, zero31, pl31, bd31, info55, size55, zero55, pl55, bd55, info62, size62, zero62, pl62, bd62, info75, size75, zero75, info9, size9, zero9, bs24_1, bs25_0, bs25_1, info3, size3, zero3, bs69_1, info5, size5, zero5, bs77_1, bs77_2, bs77_6, cv2_23, cv22_23, cv3_116, cv3_23, cv5_3, cv86_2, fa27_0, fb27_0, fa27_1, fb27_1, fa27_2, fb27_2, fa27_3, fb27_3, fa27_4, fb27_4, fa31_0, fb31_0, fa31_1, fb31_1, fa55_0, fb55_0, fa55_1, fb55_1, fa62_0, fb62_0, fa62_1, fb62_1, fa79_1, fb79_1, ia24, ib24, ia25, ib25, ia69, ib69, ip75, ld129, lb129, ld22, lb22, ld23, lb23, ld24, lb24, ld25, lb25, ld27, lb27, ld3, lb3, ld31, lb31, ld4, lb4, ld55, lb55, ld69, lb69, ld77, lb77, ld9, lb9, mi69, mj69, ms24, ms25, ms69, st129, st24, st25, st27, st3, st31, st55, st62, st69, st75, st77, un_not, rs3, rs4, rs5, rs6, rs7, rs8, rs9, rs10, rs11, rs12, rs13, rs14, rs15, rs16, rs17, rs18, rs19, rs20, rs21, rs22, rs23, rs24, rs25, rs26, rs27, rs28, rs29, rs30, rs31, rs32, rs33, rs34, rs35, rs36, rs37, rs38, rs39, rs40, rs41, rs42, rs43, rs44, rs45, rs46, rs47, rs48, rs49, rs50, rs51, rs52, rs53, rs54, rs55, rs56, rs57, rs58, rs59, rs60, rs61, rs62, rs63, rs64, rs65, rs66, rs67, rs68, rs69, rs70, rs71, rs72, rs73, rs74, rs75, rs76, rs77, rs78, rs79, rs80, rs81, rs82, rs83, rs84, rs85, rs86, rs87, rs88, rs89, rs90, rs91, rs92, rs93, rs94, rs95, rs96, rs97, rs98, rs99, rs100, rs101, rs102, rs103, rs104, rs105, rs106, rs107, rs108, rs109, rs110, rs111, rs112, rs113, rs114, rs115, rs116, rs117, rs118, rs119, rs120, rs121, rs122, @Tryz.underlying3, @Tryz.underlying5, @Tryz.underlying9, @Tryz.underlying24, @Tryz.underlying25, @Tryz.underlying27, @Tryz.underlying31, @Tryz.underlying55, @Tryz.underlying62, @Tryz.underlying69, @Tryz.underlying75, @Tryz.underlying77, @Tryz.underlying119, @Tryz.underlying137, *])) : p := by rw [h]; exact k
theorem evr {p q : Prop} (k : q) (h : p = q := by (conv => lhs; simp only [Fin, FinQ, resF, packX_one, packX_two, ad1, ad2, ad3, ad4, ad5, ad6, ad7, ad8, ad9, ad10, ad11, ad12, ad13, ad14, ad15, ad16, ad17, ad18, ad19, ad20, ad21, ad22, ad23, ad24, ad25, ad26, ad27, ad28, ad29, ad30, ad31, ad32, ad33, ad34, ad35, ad36, ad37, ad38, ad39, ad40, ad41, ad42, ad43, ad44, ad45, ad46, ad47, ad48, ad49, ad50, ad51, ad52, ad53, ad54, ad55, ad56, ad57, ad58, ad59, ad60, ad61, ad62, ad63, ad64, ad65, ad66, ad67, ad68, ad69, ad70, ad71, ad72, ad73, ad74, ad75, ad76, ad77, ad78, ad79, lt_off, le_off, ne_off, ne_off', gt_off, newsX_off, ext2_0, ext2_1, ext3_0, ext3_1, ext3_2, opAt, callOne_self, calleeX_s, calleeX_fn, EvL, EvB, EvO, FinB, gF, gS, gH, gB, gV, gVs, wantF, EvD, runSolo, runQuiet, runMix, StepK, visX, newsX, newAll, visY, keptY, leftY, seenV, seenA, chkY, farY, bit, List.filter_cons, List.filter_nil, Option.isSome_some, Option.isSome_none, Nat.add_left_cancel_iff, Nat.add_eq_left, Nat.add_le_add_iff_left, Nat.add_lt_add_iff_left, Nat.left_eq_add, Nat.testBit, Nat.reduceShiftRight, Nat.reduceAnd, Nat.reduceBneDiff, Nat.reduceBeqDiff, Nat.le_add_right, Nat.lt_add_right_iff_pos, add_le_self, add_lt_self, List.drop_nil, appendW, appendI, srcX_slc, srcX_empty, putX, Int.toNat_zero, Int.toNat_natCast, Int.le_refl, Nat.lt_add_one, Nat.lt_irrefl, List.length_map, List.map_append, List.take_succ_cons, List.take_zero, List.drop_succ_cons, List.drop_zero, List.zip_cons_cons, List.zip_nil_left, List.zip_nil_right, List.nil_append, List.append_nil, List.drop_nil, List.take_nil, List.cons_append, Nat.zero_mul, Nat.mul_zero, Nat.mul_one, Nat.one_mul, Nat.sub_self, Nat.sub_zero, Nat.le_refl, true_and, and_true, opX, builtinX, unitX, evF_tmp, evF_const, evF_func, evF_global, putF_none, run_no, run_new, run_put, run_eat, mkRow, extractX, mkTup, Nat.min_self, Nat.min_def, cv_int, cv_bool, cv_float, cv_string, cv_slice, cv_pointer, cv_sagg, cv_agg, cv_ptr, cv_slc, cv_slu, cv_map, cv_fn, cv_ifc, set_nil, set_zero, set_succ, rowL, aggAt, find_cons, find_nil, upd_cons, upd_nil, del_cons, del_nil, beq_eq, ble_eq, blt_dec, lower_eq, putF_some, one, oneCell, sliceWith, fillX, buildWith, Option.map_some, Option.map_none, Option.bind_some, Option.bind_none, List.map_cons, List.map_nil, List.toList_toArray, List.all_cons, List.all_nil, List.length_cons, List.length_nil, Nat.reduceEqDiff, Nat.reduceAdd, Nat.reduceMul, Nat.reduceLeDiff, Nat.reduceLT, Int.reduceBEq, Int.reduceBNe, Int.reduceLT, Int.reduceLE, Int.reduceEq, Int.reduceToNat, Int.reduceNeg, if_true, if_false, ite_true, ite_false, reduceIte, cond_true, cond_false, Bool.and_true, Bool.true_and, Bool.false_and, Bool.and_false, Bool.or_true, Bool.or_false, Bool.true_or, Bool.false_or, Bool.not_true, Bool.not_false, beq_self_eq_true, Nat.beq_refl, List.getElem?_toArray, List.getElem?_cons_succ, List.getElem?_cons_zero, List.getElem?_nil, decide_true, decide_false, decide_eq_true_eq, eq_self_iff_true, reduceCtorEq, Option.getD_some, argF, lits, mkAgg, Nat.zero_add, Nat.add_zero, nilCheckX, Fz.ok, beq_true, beq_false, al129, al27, al31, al55, al62, al69, al75, al79, ap24_24, ap25_25, ap69_69, ap77_77, ap77_9, len24, lex24, len25, lex25, len69, lex69, len77, lex77, len9, max3, min3, bo_add_3, bo_eql_22, bo_eql_23, bo_eql_3, bo_eql_4, bo_eql_5, bo_eql_86, bo_eql_9, bo_geq_23, bo_geq_3, bo_geq_5, bo_gtr_22, bo_gtr_23, bo_gtr_3, bo_gtr_9, bo_leq_23, bo_leq_3, bo_leq_9, bo_lss_116, bo_lss_22, bo_lss_23, bo_lss_3, bo_lss_5, bo_lss_9, bo_neq_121, bo_neq_22, bo_neq_23, bo_neq_3, bo_neq_5, bo_neq_9, bo_sub_116, bo_sub_3, bo_sub_86, info137, size137, zero137, pl137, bd137, info27, size27, zero27, pl27, bd27, info31, size31, zero31, pl31, bd31, info55, size55, zero55, pl55, bd55, info62, size62, zero62, pl62, bd62, info75, size75, zero75, info9, size9, zero9, bs24_1, bs25_0, bs25_1, info3, size3, zero3, bs69_1, info5, size5, zero5, bs77_1, bs77_2, bs77_6, cv2_23, cv22_23, cv3_116, cv3_23, cv5_3, cv86_2, fa27_0, fb27_0, fa27_1, fb27_1, fa27_2, fb27_2, fa27_3, fb27_3, fa27_4, fb27_4, fa31_0, fb31_0, fa31_1, fb31_1, fa55_0, fb55_0, fa55_1, fb55_1, fa62_0, fb62_0, fa62_1, fb62_1, fa79_1, fb79_1, ia24, ib24, ia25, ib25, ia69, ib69, ip75, ld129, lb129, ld22, lb22, ld23, lb23, ld24, lb24, ld25, lb25, ld27, lb27, ld3, lb3, ld31, lb31, ld4, lb4, ld55, lb55, ld69, lb69, ld77, lb77, ld9, lb9, mi69, mj69, ms24, ms25, ms69, st129, st24, st25, st27, st3, st31, st55, st62, st69, st75, st77, un_not, rs3, rs4, rs5, rs6, rs7, rs8, rs9, rs10, rs11, rs12, rs13, rs14, rs15, rs16, rs17, rs18, rs19, rs20, rs21, rs22, rs23, rs24, rs25, rs26, rs27, rs28, rs29, rs30, rs31, rs32, rs33, rs34, rs35, rs36, rs37, rs38, rs39, rs40, rs41, rs42, rs43, rs44, rs45, rs46, rs47, rs48, rs49, rs50, rs51, rs52, rs53, rs54, rs55, rs56, rs57, rs58, rs59, rs60, rs61, rs62, rs63, rs64, rs65, rs66, rs67, rs68, rs69, rs70, rs71, rs72, rs73, rs74, rs75, rs76, rs77, rs78, rs79, rs80, rs81, rs82, rs83, rs84, rs85, rs86, rs87, rs88, rs89, rs90, rs91, rs92, rs93, rs94, rs95, rs96, rs97, rs98, rs99, rs100, rs101, rs102, rs103, rs104, rs105, rs106, rs107, rs108, rs109, rs110, rs111, rs112, rs113, rs114, rs115, rs116, rs117, rs118, rs119, rs120, rs121, rs122, @Tryz.underlying3, @Tryz.underlying5, @Tryz.underlying9, @Tryz.underlying24, @Tryz.underlying25, @Tryz.underlying27, @Tryz.underlying31, @Tryz.underlying55, @Tryz.underlying62, @Tryz.underlying69, @Tryz.underlying75, @Tryz.underlying77, @Tryz.underlying119, @Tryz.underlying137, *])) : p := by rw [h]; exact k
end Go.Proofs.YtmpmbnmldmpmiaaGreatDoor.Sim
