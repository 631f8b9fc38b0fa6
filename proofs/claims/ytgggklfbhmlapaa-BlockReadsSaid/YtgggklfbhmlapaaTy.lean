/-
What the program says of its types. Printed by a program; Lean checks each row.
-/
import Derived.Test.YtgggklfbhmlapaaChecked
import Derived.Test.YtgggklfbhmlapaaValB
import Derived.KernelRfl
set_option linter.unusedVariables false
set_option linter.unusedSimpArgs false
set_option maxRecDepth 100000
namespace Go.Proofs.Ytgggklfbhmlapaa
open Go.Abs
theorem u_int64 : Try.prog.underlying 2 = some (TypeDesc.int IntKind.i64) := by kernel_rfl
theorem s_int64 : szOf Try.prog 2 = some 1 := by kernel_rfl
theorem b_int64 : bytesOf Try.prog 2 = some 8 := by kernel_rfl
theorem o_int64 : zeroOf Try.prog 2 = (some (Value.int IntKind.i64 0)) := by kernel_rfl
theorem g_int64 : isAgg? Try.prog 2 = some false := by kernel_rfl
theorem u_int : Try.prog.underlying 3 = some (TypeDesc.int IntKind.i64) := by kernel_rfl
theorem s_int : szOf Try.prog 3 = some 1 := by kernel_rfl
theorem b_int : bytesOf Try.prog 3 = some 8 := by kernel_rfl
theorem o_int : zeroOf Try.prog 3 = (some (Value.int IntKind.i64 0)) := by kernel_rfl
theorem g_int : isAgg? Try.prog 3 = some false := by kernel_rfl
theorem u_bool : Try.prog.underlying 4 = some TypeDesc.bool := by kernel_rfl
theorem s_bool : szOf Try.prog 4 = some 1 := by kernel_rfl
theorem b_bool : bytesOf Try.prog 4 = some 1 := by kernel_rfl
theorem o_bool : zeroOf Try.prog 4 = (some (Value.bool false)) := by kernel_rfl
theorem g_bool : isAgg? Try.prog 4 = some false := by kernel_rfl
theorem u_uint8 : Try.prog.underlying 5 = some (TypeDesc.int IntKind.u8) := by kernel_rfl
theorem s_uint8 : szOf Try.prog 5 = some 1 := by kernel_rfl
theorem b_uint8 : bytesOf Try.prog 5 = some 1 := by kernel_rfl
theorem o_uint8 : zeroOf Try.prog 5 = (some (Value.int IntKind.u8 0)) := by kernel_rfl
theorem g_uint8 : isAgg? Try.prog 5 = some false := by kernel_rfl
theorem u_abi_BoundsErrorCode : Try.prog.underlying 6 = some (TypeDesc.int IntKind.u8) := by kernel_rfl
theorem s_abi_BoundsErrorCode : szOf Try.prog 6 = some 1 := by kernel_rfl
theorem b_abi_BoundsErrorCode : bytesOf Try.prog 6 = some 1 := by kernel_rfl
theorem o_abi_BoundsErrorCode : zeroOf Try.prog 6 = (some (Value.int IntKind.u8 0)) := by kernel_rfl
theorem g_abi_BoundsErrorCode : isAgg? Try.prog 6 = some false := by kernel_rfl
theorem u_t7 : Try.prog.underlying 7 = some (TypeDesc.struct #[{ name := "x", type := 2, offset := 0, embedded := false, tag := "", pkgPath := "runtime", byteOffset := 0 }, { name := "y", type := 3, offset := 1, embedded := false, tag := "", pkgPath := "runtime", byteOffset := 8 }, { name := "signed", type := 4, offset := 2, embedded := false, tag := "", pkgPath := "runtime", byteOffset := 16 }, { name := "code", type := 6, offset := 3, embedded := false, tag := "", pkgPath := "runtime", byteOffset := 17 }]) := by kernel_rfl
theorem s_t7 : szOf Try.prog 7 = some 4 := by kernel_rfl
theorem b_t7 : bytesOf Try.prog 7 = some 24 := by kernel_rfl
theorem o_t7 : zeroOf Try.prog 7 = (some (Value.agg #[(Value.int IntKind.i64 0), (Value.int IntKind.i64 0), (Value.bool false), (Value.int IntKind.u8 0)])) := by kernel_rfl
theorem g_t7 : isAgg? Try.prog 7 = some true := by kernel_rfl
theorem u_runtime_boundsError : Try.prog.underlying 8 = some (TypeDesc.struct #[{ name := "x", type := 2, offset := 0, embedded := false, tag := "", pkgPath := "runtime", byteOffset := 0 }, { name := "y", type := 3, offset := 1, embedded := false, tag := "", pkgPath := "runtime", byteOffset := 8 }, { name := "signed", type := 4, offset := 2, embedded := false, tag := "", pkgPath := "runtime", byteOffset := 16 }, { name := "code", type := 6, offset := 3, embedded := false, tag := "", pkgPath := "runtime", byteOffset := 17 }]) := by kernel_rfl
theorem s_runtime_boundsError : szOf Try.prog 8 = some 4 := by kernel_rfl
theorem b_runtime_boundsError : bytesOf Try.prog 8 = some 24 := by kernel_rfl
theorem o_runtime_boundsError : zeroOf Try.prog 8 = (some (Value.agg #[(Value.int IntKind.i64 0), (Value.int IntKind.i64 0), (Value.bool false), (Value.int IntKind.u8 0)])) := by kernel_rfl
theorem g_runtime_boundsError : isAgg? Try.prog 8 = some true := by kernel_rfl
theorem u_string : Try.prog.underlying 9 = some TypeDesc.string := by kernel_rfl
theorem s_string : szOf Try.prog 9 = some 1 := by kernel_rfl
theorem b_string : bytesOf Try.prog 9 = some 16 := by kernel_rfl
theorem o_string : zeroOf Try.prog 9 = (some (Value.string { data := #[] })) := by kernel_rfl
theorem g_string : isAgg? Try.prog 9 = some false := by kernel_rfl
theorem u_runtime_errorString : Try.prog.underlying 10 = some TypeDesc.string := by kernel_rfl
theorem s_runtime_errorString : szOf Try.prog 10 = some 1 := by kernel_rfl
theorem b_runtime_errorString : bytesOf Try.prog 10 = some 16 := by kernel_rfl
theorem o_runtime_errorString : zeroOf Try.prog 10 = (some (Value.string { data := #[] })) := by kernel_rfl
theorem g_runtime_errorString : isAgg? Try.prog 10 = some false := by kernel_rfl
theorem u_runtime_plainError : Try.prog.underlying 11 = some TypeDesc.string := by kernel_rfl
theorem s_runtime_plainError : szOf Try.prog 11 = some 1 := by kernel_rfl
theorem b_runtime_plainError : bytesOf Try.prog 11 = some 16 := by kernel_rfl
theorem o_runtime_plainError : zeroOf Try.prog 11 = (some (Value.string { data := #[] })) := by kernel_rfl
theorem g_runtime_plainError : isAgg? Try.prog 11 = some false := by kernel_rfl
theorem u_uintptr : Try.prog.underlying 12 = some (TypeDesc.int IntKind.u64) := by kernel_rfl
theorem s_uintptr : szOf Try.prog 12 = some 1 := by kernel_rfl
theorem b_uintptr : bytesOf Try.prog 12 = some 8 := by kernel_rfl
theorem o_uintptr : zeroOf Try.prog 12 = (some (Value.int IntKind.u64 0)) := by kernel_rfl
theorem g_uintptr : isAgg? Try.prog 12 = some false := by kernel_rfl
theorem u_t13 : Try.prog.underlying 13 = some (TypeDesc.struct #[{ name := "msg", type := 9, offset := 0, embedded := false, tag := "", pkgPath := "runtime", byteOffset := 0 }, { name := "addr", type := 12, offset := 1, embedded := false, tag := "", pkgPath := "runtime", byteOffset := 16 }]) := by kernel_rfl
theorem s_t13 : szOf Try.prog 13 = some 2 := by kernel_rfl
theorem b_t13 : bytesOf Try.prog 13 = some 24 := by kernel_rfl
theorem o_t13 : zeroOf Try.prog 13 = (some (Value.agg #[(Value.string { data := #[] }), (Value.int IntKind.u64 0)])) := by kernel_rfl
theorem g_t13 : isAgg? Try.prog 13 = some true := by kernel_rfl
theorem u_runtime_errorAddressString : Try.prog.underlying 14 = some (TypeDesc.struct #[{ name := "msg", type := 9, offset := 0, embedded := false, tag := "", pkgPath := "runtime", byteOffset := 0 }, { name := "addr", type := 12, offset := 1, embedded := false, tag := "", pkgPath := "runtime", byteOffset := 16 }]) := by kernel_rfl
theorem s_runtime_errorAddressString : szOf Try.prog 14 = some 2 := by kernel_rfl
theorem b_runtime_errorAddressString : bytesOf Try.prog 14 = some 24 := by kernel_rfl
theorem o_runtime_errorAddressString : zeroOf Try.prog 14 = (some (Value.agg #[(Value.string { data := #[] }), (Value.int IntKind.u64 0)])) := by kernel_rfl
theorem g_runtime_errorAddressString : isAgg? Try.prog 14 = some true := by kernel_rfl
theorem u_P_runtime_TypeAssertionError : Try.prog.underlying 15 = some (TypeDesc.pointer 81) := by kernel_rfl
theorem s_P_runtime_TypeAssertionError : szOf Try.prog 15 = some 1 := by kernel_rfl
theorem b_P_runtime_TypeAssertionError : bytesOf Try.prog 15 = some 8 := by kernel_rfl
theorem o_P_runtime_TypeAssertionError : zeroOf Try.prog 15 = (some (Value.pointer none)) := by kernel_rfl
theorem g_P_runtime_TypeAssertionError : isAgg? Try.prog 15 = some false := by kernel_rfl
theorem u_P_runtime_PanicNilError : Try.prog.underlying 16 = some (TypeDesc.pointer 84) := by kernel_rfl
theorem s_P_runtime_PanicNilError : szOf Try.prog 16 = some 1 := by kernel_rfl
theorem b_P_runtime_PanicNilError : bytesOf Try.prog 16 = some 8 := by kernel_rfl
theorem o_P_runtime_PanicNilError : zeroOf Try.prog 16 = (some (Value.pointer none)) := by kernel_rfl
theorem g_P_runtime_PanicNilError : isAgg? Try.prog 16 = some false := by kernel_rfl
theorem u_P_abi_Type : Try.prog.underlying 17 = some (TypeDesc.pointer 94) := by kernel_rfl
theorem s_P_abi_Type : szOf Try.prog 17 = some 1 := by kernel_rfl
theorem b_P_abi_Type : bytesOf Try.prog 17 = some 8 := by kernel_rfl
theorem o_P_abi_Type : zeroOf Try.prog 17 = (some (Value.pointer none)) := by kernel_rfl
theorem g_P_abi_Type : isAgg? Try.prog 17 = some false := by kernel_rfl
theorem u_t18 : Try.prog.underlying 18 = some (TypeDesc.struct #[{ name := "typ", type := 17, offset := 0, embedded := false, tag := "", pkgPath := "internal/runtime/maps", byteOffset := 0 }]) := by kernel_rfl
theorem s_t18 : szOf Try.prog 18 = some 1 := by kernel_rfl
theorem b_t18 : bytesOf Try.prog 18 = some 8 := by kernel_rfl
theorem o_t18 : zeroOf Try.prog 18 = (some (Value.agg #[(Value.pointer none)])) := by kernel_rfl
theorem g_t18 : isAgg? Try.prog 18 = some true := by kernel_rfl
theorem u_maps_unhashableTypeError : Try.prog.underlying 19 = some (TypeDesc.struct #[{ name := "typ", type := 17, offset := 0, embedded := false, tag := "", pkgPath := "internal/runtime/maps", byteOffset := 0 }]) := by kernel_rfl
theorem s_maps_unhashableTypeError : szOf Try.prog 19 = some 1 := by kernel_rfl
theorem b_maps_unhashableTypeError : bytesOf Try.prog 19 = some 8 := by kernel_rfl
theorem o_maps_unhashableTypeError : zeroOf Try.prog 19 = (some (Value.agg #[(Value.pointer none)])) := by kernel_rfl
theorem g_maps_unhashableTypeError : isAgg? Try.prog 19 = some true := by kernel_rfl
theorem u_int32 : Try.prog.underlying 21 = some (TypeDesc.int IntKind.i32) := by kernel_rfl
theorem s_int32 : szOf Try.prog 21 = some 1 := by kernel_rfl
theorem b_int32 : bytesOf Try.prog 21 = some 4 := by kernel_rfl
theorem o_int32 : zeroOf Try.prog 21 = (some (Value.int IntKind.i32 0)) := by kernel_rfl
theorem g_int32 : isAgg? Try.prog 21 = some false := by kernel_rfl
theorem u_L_api_Tx : Try.prog.underlying 27 = some (TypeDesc.slice 47) := by kernel_rfl
theorem s_L_api_Tx : szOf Try.prog 27 = some 1 := by kernel_rfl
theorem b_L_api_Tx : bytesOf Try.prog 27 = some 24 := by kernel_rfl
theorem o_L_api_Tx : zeroOf Try.prog 27 = (some (Value.slice none 0 0)) := by kernel_rfl
theorem g_L_api_Tx : isAgg? Try.prog 27 = some false := by kernel_rfl
theorem u_t28 : Try.prog.underlying 28 = some (TypeDesc.struct #[{ name := "Slot", type := 3, offset := 0, embedded := false, tag := "", pkgPath := "", byteOffset := 0 }, { name := "Miner", type := 3, offset := 1, embedded := false, tag := "", pkgPath := "", byteOffset := 8 }, { name := "Variant", type := 3, offset := 2, embedded := false, tag := "", pkgPath := "", byteOffset := 16 }, { name := "Parent", type := 3, offset := 3, embedded := false, tag := "", pkgPath := "", byteOffset := 24 }, { name := "Txs", type := 27, offset := 4, embedded := false, tag := "", pkgPath := "", byteOffset := 32 }]) := by kernel_rfl
theorem s_t28 : szOf Try.prog 28 = some 5 := by kernel_rfl
theorem b_t28 : bytesOf Try.prog 28 = some 56 := by kernel_rfl
theorem o_t28 : zeroOf Try.prog 28 = (some (Value.agg #[(Value.int IntKind.i64 0), (Value.int IntKind.i64 0), (Value.int IntKind.i64 0), (Value.int IntKind.i64 0), (Value.slice none 0 0)])) := by kernel_rfl
theorem g_t28 : isAgg? Try.prog 28 = some true := by kernel_rfl
theorem u_api_Block : Try.prog.underlying 29 = some (TypeDesc.struct #[{ name := "Slot", type := 3, offset := 0, embedded := false, tag := "", pkgPath := "", byteOffset := 0 }, { name := "Miner", type := 3, offset := 1, embedded := false, tag := "", pkgPath := "", byteOffset := 8 }, { name := "Variant", type := 3, offset := 2, embedded := false, tag := "", pkgPath := "", byteOffset := 16 }, { name := "Parent", type := 3, offset := 3, embedded := false, tag := "", pkgPath := "", byteOffset := 24 }, { name := "Txs", type := 27, offset := 4, embedded := false, tag := "", pkgPath := "", byteOffset := 32 }]) := by kernel_rfl
theorem s_api_Block : szOf Try.prog 29 = some 5 := by kernel_rfl
theorem b_api_Block : bytesOf Try.prog 29 = some 56 := by kernel_rfl
theorem o_api_Block : zeroOf Try.prog 29 = (some (Value.agg #[(Value.int IntKind.i64 0), (Value.int IntKind.i64 0), (Value.int IntKind.i64 0), (Value.int IntKind.i64 0), (Value.slice none 0 0)])) := by kernel_rfl
theorem g_api_Block : isAgg? Try.prog 29 = some true := by kernel_rfl
theorem u_L_uint8 : Try.prog.underlying 33 = some (TypeDesc.slice 5) := by kernel_rfl
theorem s_L_uint8 : szOf Try.prog 33 = some 1 := by kernel_rfl
theorem b_L_uint8 : bytesOf Try.prog 33 = some 24 := by kernel_rfl
theorem o_L_uint8 : zeroOf Try.prog 33 = (some (Value.slice none 0 0)) := by kernel_rfl
theorem g_L_uint8 : isAgg? Try.prog 33 = some false := by kernel_rfl
theorem u_api_Errno : Try.prog.underlying 34 = some (TypeDesc.int IntKind.i64) := by kernel_rfl
theorem s_api_Errno : szOf Try.prog 34 = some 1 := by kernel_rfl
theorem b_api_Errno : bytesOf Try.prog 34 = some 8 := by kernel_rfl
theorem o_api_Errno : zeroOf Try.prog 34 = (some (Value.int IntKind.i64 0)) := by kernel_rfl
theorem g_api_Errno : isAgg? Try.prog 34 = some false := by kernel_rfl
theorem u_t46 : Try.prog.underlying 46 = some (TypeDesc.struct #[{ name := "ID", type := 3, offset := 0, embedded := false, tag := "", pkgPath := "", byteOffset := 0 }, { name := "Fee", type := 3, offset := 1, embedded := false, tag := "", pkgPath := "", byteOffset := 8 }]) := by kernel_rfl
theorem s_t46 : szOf Try.prog 46 = some 2 := by kernel_rfl
theorem b_t46 : bytesOf Try.prog 46 = some 16 := by kernel_rfl
theorem o_t46 : zeroOf Try.prog 46 = (some (Value.agg #[(Value.int IntKind.i64 0), (Value.int IntKind.i64 0)])) := by kernel_rfl
theorem g_t46 : isAgg? Try.prog 46 = some true := by kernel_rfl
theorem u_api_Tx : Try.prog.underlying 47 = some (TypeDesc.struct #[{ name := "ID", type := 3, offset := 0, embedded := false, tag := "", pkgPath := "", byteOffset := 0 }, { name := "Fee", type := 3, offset := 1, embedded := false, tag := "", pkgPath := "", byteOffset := 8 }]) := by kernel_rfl
theorem s_api_Tx : szOf Try.prog 47 = some 2 := by kernel_rfl
theorem b_api_Tx : bytesOf Try.prog 47 = some 16 := by kernel_rfl
theorem o_api_Tx : zeroOf Try.prog 47 = (some (Value.agg #[(Value.int IntKind.i64 0), (Value.int IntKind.i64 0)])) := by kernel_rfl
theorem g_api_Tx : isAgg? Try.prog 47 = some true := by kernel_rfl
theorem u_L_int : Try.prog.underlying 53 = some (TypeDesc.slice 3) := by kernel_rfl
theorem s_L_int : szOf Try.prog 53 = some 1 := by kernel_rfl
theorem b_L_int : bytesOf Try.prog 53 = some 24 := by kernel_rfl
theorem o_L_int : zeroOf Try.prog 53 = (some (Value.slice none 0 0)) := by kernel_rfl
theorem g_L_int : isAgg? Try.prog 53 = some false := by kernel_rfl
theorem u_uint64 : Try.prog.underlying 68 = some (TypeDesc.int IntKind.u64) := by kernel_rfl
theorem s_uint64 : szOf Try.prog 68 = some 1 := by kernel_rfl
theorem b_uint64 : bytesOf Try.prog 68 = some 8 := by kernel_rfl
theorem o_uint64 : zeroOf Try.prog 68 = (some (Value.int IntKind.u64 0)) := by kernel_rfl
theorem g_uint64 : isAgg? Try.prog 68 = some false := by kernel_rfl
theorem u_M_int_bool : Try.prog.underlying 77 = some (TypeDesc.map 3 4) := by kernel_rfl
theorem s_M_int_bool : szOf Try.prog 77 = some 1 := by kernel_rfl
theorem b_M_int_bool : bytesOf Try.prog 77 = some 8 := by kernel_rfl
theorem o_M_int_bool : zeroOf Try.prog 77 = (some (Value.map none)) := by kernel_rfl
theorem g_M_int_bool : isAgg? Try.prog 77 = some false := by kernel_rfl
theorem u_uint : Try.prog.underlying 78 = some (TypeDesc.int IntKind.u64) := by kernel_rfl
theorem s_uint : szOf Try.prog 78 = some 1 := by kernel_rfl
theorem b_uint : bytesOf Try.prog 78 = some 8 := by kernel_rfl
theorem o_uint : zeroOf Try.prog 78 = (some (Value.int IntKind.u64 0)) := by kernel_rfl
theorem g_uint : isAgg? Try.prog 78 = some false := by kernel_rfl
theorem u_t80 : Try.prog.underlying 80 = some (TypeDesc.struct #[{ name := "_interface", type := 17, offset := 0, embedded := false, tag := "", pkgPath := "runtime", byteOffset := 0 }, { name := "concrete", type := 17, offset := 1, embedded := false, tag := "", pkgPath := "runtime", byteOffset := 8 }, { name := "asserted", type := 17, offset := 2, embedded := false, tag := "", pkgPath := "runtime", byteOffset := 16 }, { name := "missingMethod", type := 9, offset := 3, embedded := false, tag := "", pkgPath := "runtime", byteOffset := 24 }]) := by kernel_rfl
theorem s_t80 : szOf Try.prog 80 = some 4 := by kernel_rfl
theorem b_t80 : bytesOf Try.prog 80 = some 40 := by kernel_rfl
theorem o_t80 : zeroOf Try.prog 80 = (some (Value.agg #[(Value.pointer none), (Value.pointer none), (Value.pointer none), (Value.string { data := #[] })])) := by kernel_rfl
theorem g_t80 : isAgg? Try.prog 80 = some true := by kernel_rfl
theorem u_runtime_TypeAssertionError : Try.prog.underlying 81 = some (TypeDesc.struct #[{ name := "_interface", type := 17, offset := 0, embedded := false, tag := "", pkgPath := "runtime", byteOffset := 0 }, { name := "concrete", type := 17, offset := 1, embedded := false, tag := "", pkgPath := "runtime", byteOffset := 8 }, { name := "asserted", type := 17, offset := 2, embedded := false, tag := "", pkgPath := "runtime", byteOffset := 16 }, { name := "missingMethod", type := 9, offset := 3, embedded := false, tag := "", pkgPath := "runtime", byteOffset := 24 }]) := by kernel_rfl
theorem s_runtime_TypeAssertionError : szOf Try.prog 81 = some 4 := by kernel_rfl
theorem b_runtime_TypeAssertionError : bytesOf Try.prog 81 = some 40 := by kernel_rfl
theorem o_runtime_TypeAssertionError : zeroOf Try.prog 81 = (some (Value.agg #[(Value.pointer none), (Value.pointer none), (Value.pointer none), (Value.string { data := #[] })])) := by kernel_rfl
theorem g_runtime_TypeAssertionError : isAgg? Try.prog 81 = some true := by kernel_rfl
theorem u_A0_P_runtime_PanicNilError : Try.prog.underlying 82 = some (TypeDesc.array 0 16) := by kernel_rfl
theorem s_A0_P_runtime_PanicNilError : szOf Try.prog 82 = some 0 := by kernel_rfl
theorem b_A0_P_runtime_PanicNilError : bytesOf Try.prog 82 = some 0 := by kernel_rfl
theorem o_A0_P_runtime_PanicNilError : zeroOf Try.prog 82 = (some (Value.agg #[])) := by kernel_rfl
theorem g_A0_P_runtime_PanicNilError : isAgg? Try.prog 82 = some true := by kernel_rfl
theorem u_t83 : Try.prog.underlying 83 = some (TypeDesc.struct #[{ name := "_", type := 82, offset := 0, embedded := false, tag := "", pkgPath := "runtime", byteOffset := 0 }]) := by kernel_rfl
theorem s_t83 : szOf Try.prog 83 = some 0 := by kernel_rfl
theorem b_t83 : bytesOf Try.prog 83 = some 0 := by kernel_rfl
theorem o_t83 : zeroOf Try.prog 83 = (some (Value.agg #[])) := by kernel_rfl
theorem g_t83 : isAgg? Try.prog 83 = some true := by kernel_rfl
theorem u_runtime_PanicNilError : Try.prog.underlying 84 = some (TypeDesc.struct #[{ name := "_", type := 82, offset := 0, embedded := false, tag := "", pkgPath := "runtime", byteOffset := 0 }]) := by kernel_rfl
theorem s_runtime_PanicNilError : szOf Try.prog 84 = some 0 := by kernel_rfl
theorem b_runtime_PanicNilError : bytesOf Try.prog 84 = some 0 := by kernel_rfl
theorem o_runtime_PanicNilError : zeroOf Try.prog 84 = (some (Value.agg #[])) := by kernel_rfl
theorem g_runtime_PanicNilError : isAgg? Try.prog 84 = some true := by kernel_rfl
theorem u_uint32 : Try.prog.underlying 86 = some (TypeDesc.int IntKind.u32) := by kernel_rfl
theorem s_uint32 : szOf Try.prog 86 = some 1 := by kernel_rfl
theorem b_uint32 : bytesOf Try.prog 86 = some 4 := by kernel_rfl
theorem o_uint32 : zeroOf Try.prog 86 = (some (Value.int IntKind.u32 0)) := by kernel_rfl
theorem g_uint32 : isAgg? Try.prog 86 = some false := by kernel_rfl
theorem u_abi_TFlag : Try.prog.underlying 87 = some (TypeDesc.int IntKind.u8) := by kernel_rfl
theorem s_abi_TFlag : szOf Try.prog 87 = some 1 := by kernel_rfl
theorem b_abi_TFlag : bytesOf Try.prog 87 = some 1 := by kernel_rfl
theorem o_abi_TFlag : zeroOf Try.prog 87 = (some (Value.int IntKind.u8 0)) := by kernel_rfl
theorem g_abi_TFlag : isAgg? Try.prog 87 = some false := by kernel_rfl
theorem u_abi_Kind : Try.prog.underlying 88 = some (TypeDesc.int IntKind.u8) := by kernel_rfl
theorem s_abi_Kind : szOf Try.prog 88 = some 1 := by kernel_rfl
theorem b_abi_Kind : bytesOf Try.prog 88 = some 1 := by kernel_rfl
theorem o_abi_Kind : zeroOf Try.prog 88 = (some (Value.int IntKind.u8 0)) := by kernel_rfl
theorem g_abi_Kind : isAgg? Try.prog 88 = some false := by kernel_rfl
theorem u_P_uint8 : Try.prog.underlying 90 = some (TypeDesc.pointer 5) := by kernel_rfl
theorem s_P_uint8 : szOf Try.prog 90 = some 1 := by kernel_rfl
theorem b_P_uint8 : bytesOf Try.prog 90 = some 8 := by kernel_rfl
theorem o_P_uint8 : zeroOf Try.prog 90 = (some (Value.pointer none)) := by kernel_rfl
theorem g_P_uint8 : isAgg? Try.prog 90 = some false := by kernel_rfl
theorem u_abi_NameOff : Try.prog.underlying 91 = some (TypeDesc.int IntKind.i32) := by kernel_rfl
theorem s_abi_NameOff : szOf Try.prog 91 = some 1 := by kernel_rfl
theorem b_abi_NameOff : bytesOf Try.prog 91 = some 4 := by kernel_rfl
theorem o_abi_NameOff : zeroOf Try.prog 91 = (some (Value.int IntKind.i32 0)) := by kernel_rfl
theorem g_abi_NameOff : isAgg? Try.prog 91 = some false := by kernel_rfl
theorem u_abi_TypeOff : Try.prog.underlying 92 = some (TypeDesc.int IntKind.i32) := by kernel_rfl
theorem s_abi_TypeOff : szOf Try.prog 92 = some 1 := by kernel_rfl
theorem b_abi_TypeOff : bytesOf Try.prog 92 = some 4 := by kernel_rfl
theorem o_abi_TypeOff : zeroOf Try.prog 92 = (some (Value.int IntKind.i32 0)) := by kernel_rfl
theorem g_abi_TypeOff : isAgg? Try.prog 92 = some false := by kernel_rfl
theorem u_t93 : Try.prog.underlying 93 = some (TypeDesc.struct #[{ name := "Size_", type := 12, offset := 0, embedded := false, tag := "", pkgPath := "", byteOffset := 0 }, { name := "PtrBytes", type := 12, offset := 1, embedded := false, tag := "", pkgPath := "", byteOffset := 8 }, { name := "Hash", type := 86, offset := 2, embedded := false, tag := "", pkgPath := "", byteOffset := 16 }, { name := "TFlag", type := 87, offset := 3, embedded := false, tag := "", pkgPath := "", byteOffset := 20 }, { name := "Align_", type := 5, offset := 4, embedded := false, tag := "", pkgPath := "", byteOffset := 21 }, { name := "FieldAlign_", type := 5, offset := 5, embedded := false, tag := "", pkgPath := "", byteOffset := 22 }, { name := "Kind_", type := 88, offset := 6, embedded := false, tag := "", pkgPath := "", byteOffset := 23 }, { name := "Equal", type := 89, offset := 7, embedded := false, tag := "", pkgPath := "", byteOffset := 24 }, { name := "GCData", type := 90, offset := 8, embedded := false, tag := "", pkgPath := "", byteOffset := 32 }, { name := "Str", type := 91, offset := 9, embedded := false, tag := "", pkgPath := "", byteOffset := 40 }, { name := "PtrToThis", type := 92, offset := 10, embedded := false, tag := "", pkgPath := "", byteOffset := 44 }]) := by kernel_rfl
theorem s_t93 : szOf Try.prog 93 = some 11 := by kernel_rfl
theorem b_t93 : bytesOf Try.prog 93 = some 48 := by kernel_rfl
theorem o_t93 : zeroOf Try.prog 93 = (some (Value.agg #[(Value.int IntKind.u64 0), (Value.int IntKind.u64 0), (Value.int IntKind.u32 0), (Value.int IntKind.u8 0), (Value.int IntKind.u8 0), (Value.int IntKind.u8 0), (Value.int IntKind.u8 0), Value.nilFunc, (Value.pointer none), (Value.int IntKind.i32 0), (Value.int IntKind.i32 0)])) := by kernel_rfl
theorem g_t93 : isAgg? Try.prog 93 = some true := by kernel_rfl
theorem u_abi_Type : Try.prog.underlying 94 = some (TypeDesc.struct #[{ name := "Size_", type := 12, offset := 0, embedded := false, tag := "", pkgPath := "", byteOffset := 0 }, { name := "PtrBytes", type := 12, offset := 1, embedded := false, tag := "", pkgPath := "", byteOffset := 8 }, { name := "Hash", type := 86, offset := 2, embedded := false, tag := "", pkgPath := "", byteOffset := 16 }, { name := "TFlag", type := 87, offset := 3, embedded := false, tag := "", pkgPath := "", byteOffset := 20 }, { name := "Align_", type := 5, offset := 4, embedded := false, tag := "", pkgPath := "", byteOffset := 21 }, { name := "FieldAlign_", type := 5, offset := 5, embedded := false, tag := "", pkgPath := "", byteOffset := 22 }, { name := "Kind_", type := 88, offset := 6, embedded := false, tag := "", pkgPath := "", byteOffset := 23 }, { name := "Equal", type := 89, offset := 7, embedded := false, tag := "", pkgPath := "", byteOffset := 24 }, { name := "GCData", type := 90, offset := 8, embedded := false, tag := "", pkgPath := "", byteOffset := 32 }, { name := "Str", type := 91, offset := 9, embedded := false, tag := "", pkgPath := "", byteOffset := 40 }, { name := "PtrToThis", type := 92, offset := 10, embedded := false, tag := "", pkgPath := "", byteOffset := 44 }]) := by kernel_rfl
theorem s_abi_Type : szOf Try.prog 94 = some 11 := by kernel_rfl
theorem b_abi_Type : bytesOf Try.prog 94 = some 48 := by kernel_rfl
theorem o_abi_Type : zeroOf Try.prog 94 = (some (Value.agg #[(Value.int IntKind.u64 0), (Value.int IntKind.u64 0), (Value.int IntKind.u32 0), (Value.int IntKind.u8 0), (Value.int IntKind.u8 0), (Value.int IntKind.u8 0), (Value.int IntKind.u8 0), Value.nilFunc, (Value.pointer none), (Value.int IntKind.i32 0), (Value.int IntKind.i32 0)])) := by kernel_rfl
theorem g_abi_Type : isAgg? Try.prog 94 = some true := by kernel_rfl
theorem u_unsafe_Pointer : Try.prog.underlying 95 = some TypeDesc.unsafePointer := by kernel_rfl
theorem s_unsafe_Pointer : szOf Try.prog 95 = some 1 := by kernel_rfl
theorem b_unsafe_Pointer : bytesOf Try.prog 95 = some 8 := by kernel_rfl
theorem o_unsafe_Pointer : zeroOf Try.prog 95 = (some (Value.pointer none)) := by kernel_rfl
theorem g_unsafe_Pointer : isAgg? Try.prog 95 = some false := by kernel_rfl
theorem fa_api_Block_0 (q o : Nat) (S : AHeap) : vFieldAddr Try.prog 29 (.pointer (some ⟨q, o, none⟩)) 0 S = some (.pointer (some ⟨q, o + 0, none⟩), S) := by kernel_rfl
theorem fa_api_Block_1 (q o : Nat) (S : AHeap) : vFieldAddr Try.prog 29 (.pointer (some ⟨q, o, none⟩)) 1 S = some (.pointer (some ⟨q, o + 1, none⟩), S) := by kernel_rfl
theorem fa_api_Block_2 (q o : Nat) (S : AHeap) : vFieldAddr Try.prog 29 (.pointer (some ⟨q, o, none⟩)) 2 S = some (.pointer (some ⟨q, o + 2, none⟩), S) := by kernel_rfl
theorem fa_api_Block_3 (q o : Nat) (S : AHeap) : vFieldAddr Try.prog 29 (.pointer (some ⟨q, o, none⟩)) 3 S = some (.pointer (some ⟨q, o + 3, none⟩), S) := by kernel_rfl
theorem fa_api_Block_4 (q o : Nat) (S : AHeap) : vFieldAddr Try.prog 29 (.pointer (some ⟨q, o, none⟩)) 4 S = some (.pointer (some ⟨q, o + 4, none⟩), S) := by kernel_rfl
theorem fa_api_Tx_0 (q o : Nat) (S : AHeap) : vFieldAddr Try.prog 47 (.pointer (some ⟨q, o, none⟩)) 0 S = some (.pointer (some ⟨q, o + 0, none⟩), S) := by kernel_rfl
theorem fa_api_Tx_1 (q o : Nat) (S : AHeap) : vFieldAddr Try.prog 47 (.pointer (some ⟨q, o, none⟩)) 1 S = some (.pointer (some ⟨q, o + 1, none⟩), S) := by kernel_rfl
theorem le_api_Block {fx : Bool} {x0 x1 x2 x3 x4 : Value} {S : AHeap} : vLoad Try.prog fx 29 (EP [x0, x1, x2, x3, x4]) S = some (.agg [x0, x1, x2, x3, x4].toArray, S) := vLoad_agg g_api_Block s_api_Block rfl
theorem lm_api_Block {q : Nat} {x0 x1 x2 x3 x4 : Value} {own : Own} {e : Nat} {S : AHeap} (h : S.get q = some (.cells [x0, x1, x2, x3, x4] own e)) : vLoad Try.prog false 29 (.pointer (some ⟨q, 0, none⟩)) S = some (.agg [dem1 x0, dem1 x1, dem1 x2, dem1 x3, dem1 x4].toArray, S) := (load_agg (o := 0) h g_api_Block s_api_Block (by simp)).trans (by simp)
theorem fe_api_Block_0 {x0 x1 x2 x3 x4 : Value} {S : AHeap} : vFieldAddr Try.prog 29 (EP [x0, x1, x2, x3, x4]) 0 S = some (EP [x0], S) := by kernel_rfl
theorem fe_api_Block_1 {x0 x1 x2 x3 x4 : Value} {S : AHeap} : vFieldAddr Try.prog 29 (EP [x0, x1, x2, x3, x4]) 1 S = some (EP [x1], S) := by kernel_rfl
theorem fe_api_Block_2 {x0 x1 x2 x3 x4 : Value} {S : AHeap} : vFieldAddr Try.prog 29 (EP [x0, x1, x2, x3, x4]) 2 S = some (EP [x2], S) := by kernel_rfl
theorem fe_api_Block_3 {x0 x1 x2 x3 x4 : Value} {S : AHeap} : vFieldAddr Try.prog 29 (EP [x0, x1, x2, x3, x4]) 3 S = some (EP [x3], S) := by kernel_rfl
theorem fe_api_Block_4 {x0 x1 x2 x3 x4 : Value} {S : AHeap} : vFieldAddr Try.prog 29 (EP [x0, x1, x2, x3, x4]) 4 S = some (EP [x4], S) := by kernel_rfl
theorem le_api_Tx {fx : Bool} {x0 x1 : Value} {S : AHeap} : vLoad Try.prog fx 47 (EP [x0, x1]) S = some (.agg [x0, x1].toArray, S) := vLoad_agg g_api_Tx s_api_Tx rfl
theorem lm_api_Tx {q : Nat} {x0 x1 : Value} {own : Own} {e : Nat} {S : AHeap} (h : S.get q = some (.cells [x0, x1] own e)) : vLoad Try.prog false 47 (.pointer (some ⟨q, 0, none⟩)) S = some (.agg [dem1 x0, dem1 x1].toArray, S) := (load_agg (o := 0) h g_api_Tx s_api_Tx (by simp)).trans (by simp)
theorem fe_api_Tx_0 {x0 x1 : Value} {S : AHeap} : vFieldAddr Try.prog 47 (EP [x0, x1]) 0 S = some (EP [x0], S) := by kernel_rfl
theorem fe_api_Tx_1 {x0 x1 : Value} {S : AHeap} : vFieldAddr Try.prog 47 (EP [x0, x1]) 1 S = some (EP [x1], S) := by kernel_rfl
theorem bd_api_Block  (S : AHeap) : aBuild Try.prog 29 [] S = some (.agg [(Value.int IntKind.i64 0), (Value.int IntKind.i64 0), (Value.int IntKind.i64 0), (Value.int IntKind.i64 0), (Value.slice none 0 0)].toArray, S) := by
  kernel_rfl
theorem bd_api_Block_0_1_2 {y0 y1 y2 : Value} (h0 : y0.cells = #[y0]) (h1 : y1.cells = #[y1]) (h2 : y2.cells = #[y2]) (S : AHeap) : aBuild Try.prog 29 [(0, y0), (1, y1), (2, y2)] S = some (.agg [y0, y1, y2, (Value.int IntKind.i64 0), (Value.slice none 0 0)].toArray, S) := by
  rw [show aBuild Try.prog 29 [(0, y0), (1, y1), (2, y2)] S = (match fillL ([(0, 1), (1, 1), (2, 1), (3, 1), (4, 1)][·]?) [(Value.int IntKind.i64 0), (Value.int IntKind.i64 0), (Value.int IntKind.i64 0), (Value.int IntKind.i64 0), (Value.slice none 0 0)] [(0, y0), (1, y1), (2, y2)] with | some l => some (.agg l.toArray, S) | none => none) from by kernel_rfl]
  simp [fillL, splice, cells_agg, h0, h1, h2]
theorem bd_api_Block_0_1_2_3_4 {y0 y1 y2 y3 y4 : Value} (h0 : y0.cells = #[y0]) (h1 : y1.cells = #[y1]) (h2 : y2.cells = #[y2]) (h3 : y3.cells = #[y3]) (h4 : y4.cells = #[y4]) (S : AHeap) : aBuild Try.prog 29 [(0, y0), (1, y1), (2, y2), (3, y3), (4, y4)] S = some (.agg [y0, y1, y2, y3, y4].toArray, S) := by
  rw [show aBuild Try.prog 29 [(0, y0), (1, y1), (2, y2), (3, y3), (4, y4)] S = (match fillL ([(0, 1), (1, 1), (2, 1), (3, 1), (4, 1)][·]?) [(Value.int IntKind.i64 0), (Value.int IntKind.i64 0), (Value.int IntKind.i64 0), (Value.int IntKind.i64 0), (Value.slice none 0 0)] [(0, y0), (1, y1), (2, y2), (3, y3), (4, y4)] with | some l => some (.agg l.toArray, S) | none => none) from by kernel_rfl]
  simp [fillL, splice, cells_agg, h0, h1, h2, h3, h4]
theorem bd_api_Block_0_1_3 {y0 y1 y3 : Value} (h0 : y0.cells = #[y0]) (h1 : y1.cells = #[y1]) (h3 : y3.cells = #[y3]) (S : AHeap) : aBuild Try.prog 29 [(0, y0), (1, y1), (3, y3)] S = some (.agg [y0, y1, (Value.int IntKind.i64 0), y3, (Value.slice none 0 0)].toArray, S) := by
  rw [show aBuild Try.prog 29 [(0, y0), (1, y1), (3, y3)] S = (match fillL ([(0, 1), (1, 1), (2, 1), (3, 1), (4, 1)][·]?) [(Value.int IntKind.i64 0), (Value.int IntKind.i64 0), (Value.int IntKind.i64 0), (Value.int IntKind.i64 0), (Value.slice none 0 0)] [(0, y0), (1, y1), (3, y3)] with | some l => some (.agg l.toArray, S) | none => none) from by kernel_rfl]
  simp [fillL, splice, cells_agg, h0, h1, h3]
theorem bd_api_Tx  (S : AHeap) : aBuild Try.prog 47 [] S = some (.agg [(Value.int IntKind.i64 0), (Value.int IntKind.i64 0)].toArray, S) := by
  kernel_rfl
theorem bd_api_Tx_0_1 {y0 y1 : Value} (h0 : y0.cells = #[y0]) (h1 : y1.cells = #[y1]) (S : AHeap) : aBuild Try.prog 47 [(0, y0), (1, y1)] S = some (.agg [y0, y1].toArray, S) := by
  rw [show aBuild Try.prog 47 [(0, y0), (1, y1)] S = (match fillL ([(0, 1), (1, 1)][·]?) [(Value.int IntKind.i64 0), (Value.int IntKind.i64 0)] [(0, y0), (1, y1)] with | some l => some (.agg l.toArray, S) | none => none) from by kernel_rfl]
  simp [fillL, splice, cells_agg, h0, h1]
@[simp] theorem cv_int_uint64 (k : IntKind) (n : Int) (H : AHeap) : aConv Try.prog 3 68 (.int k n) H = some (.int IntKind.u64 (IntKind.wrap IntKind.u64 n), H) := aConv_int u_int u_uint64 k n
@[simp] theorem cv_uint8_uint64 (k : IntKind) (n : Int) (H : AHeap) : aConv Try.prog 5 68 (.int k n) H = some (.int IntKind.u64 (IntKind.wrap IntKind.u64 n), H) := aConv_int u_uint8 u_uint64 k n
@[simp] theorem cv_uint64_int (k : IntKind) (n : Int) (H : AHeap) : aConv Try.prog 68 3 (.int k n) H = some (.int IntKind.i64 (IntKind.wrap IntKind.i64 n), H) := aConv_int u_uint64 u_int k n
@[simp] theorem cv_uint64_uint8 (k : IntKind) (n : Int) (H : AHeap) : aConv Try.prog 68 5 (.int k n) H = some (.int IntKind.u8 (IntKind.wrap IntKind.u8 n), H) := aConv_int u_uint64 u_uint8 k n
theorem bs_L_api_Tx_0 (S : AHeap) : vBuildSlice Try.prog 27 0 [] S = some (sv 2 2 0 [], S) := by kernel_rfl
theorem bs_L_uint8_0 (S : AHeap) : vBuildSlice Try.prog 33 0 [] S = some (sv 2 1 0 [], S) := by kernel_rfl
theorem bs_L_uint8_1 (x0 : Int) (S : AHeap) : vBuildSlice Try.prog 33 1 [(0, .int IntKind.u8 x0)] S = some (sv 2 1 1 [.int IntKind.u8 x0], S) := by kernel_rfl
theorem bs_L_int_0 (S : AHeap) : vBuildSlice Try.prog 53 0 [] S = some (sv 2 1 0 [], S) := by kernel_rfl
theorem bs_L_int_1 (x0 : Int) (S : AHeap) : vBuildSlice Try.prog 53 1 [(0, .int IntKind.i64 x0)] S = some (sv 2 1 1 [.int IntKind.i64 x0], S) := by kernel_rfl
theorem bs_L_int_2 (x0 x1 : Int) (S : AHeap) : vBuildSlice Try.prog 53 2 [(0, .int IntKind.i64 x0), (1, .int IntKind.i64 x1)] S = some (sv 2 1 2 [.int IntKind.i64 x0, .int IntKind.i64 x1], S) := by kernel_rfl
theorem bs_L_int_4 (x0 x1 x2 x3 : Int) (S : AHeap) : vBuildSlice Try.prog 53 4 [(0, .int IntKind.i64 x0), (1, .int IntKind.i64 x1), (2, .int IntKind.i64 x2), (3, .int IntKind.i64 x3)] S = some (sv 2 1 4 [.int IntKind.i64 x0, .int IntKind.i64 x1, .int IntKind.i64 x2, .int IntKind.i64 x3], S) := by kernel_rfl
theorem by_len {k : Nat} {l : List UInt8} {S : AHeap} (h : Okl k l) : vLen Try.prog 33 (by_ k l) S = some (goInt l.length, S) := vs_len u_L_uint8 h
theorem by_at {k : Nat} {l : List UInt8} {S : AHeap} {ki : IntKind} {i : Int} (h : Okl k l) (h0 : 0 ≤ i) (hi : i < l.length) : vIndexAddr Try.prog 33 (by_ k l) (.int ki i) S = some (EP [.int .u8 (l[i.toNat]'(by omega)).toNat], S) := vs_at u_L_uint8 s_uint8 cb_len h h0 hi
theorem by_load {fx : Bool} {v : Value} {S : AHeap} : vLoad Try.prog fx 5 (EP [v]) S = some (v, S) := vLoad_one g_uint8
theorem by_slice {k : Nat} {l : List UInt8} {S : AHeap} {lo hi : Option Value} {i j : Int} (h : Okl k l) (hlo : intOr 0 lo = some i) (hhi : intOr l.length hi = some j) (h0 : 0 ≤ i) (hij : i ≤ j) (hj : j ≤ l.length) : vSlice Try.prog 33 (by_ k l) lo hi S = some (by_ (if k = 2 then 1 else k) ((l.drop i.toNat).take (j.toNat - i.toNat)), S) := vs_slice u_L_uint8 s_uint8 cb_len h hlo hhi h0 hij hj
theorem by_append {k : Nat} {l : List UInt8} {S : AHeap} {j : Nat} {m : List UInt8} (h : Okl k l) (hk : k ≠ 1) (hm : Okl j m) (hl : l.length + m.length ≤ 140737488355328) : vAppend Try.prog 33 33 (by_ k l) (by_ j m) S = some (by_ (if k = 0 ∧ m.length = 0 then 0 else 2) (l ++ m), S) := vs_append u_L_uint8 s_uint8 o_uint8 rfl b_uint8 (by omega) u_L_uint8 cb_len cb_one h hk hm (by omega) (by omega)
theorem by_copy {k : Nat} {l : List UInt8} {S : AHeap} (h : Okl k l) (hl : l.length ≤ 140737488355328) : vAppend Try.prog 33 33 (by_ 2 []) (by_ k l) S = some (by_ 2 l, S) := by
  rw [by_append Okl.own (by decide) h (by simpa using hl)]; rfl
theorem by_isNil {k : Nat} {l : List UInt8} {S : AHeap} (h : Okl k l) : vBin Try.prog .eql 33 (by_ k l) (.slice none 0 0) S = some (.bool (decide (k = 0)), S) := vs_isNil u_L_uint8 h
theorem by_str {k : Nat} {l : List UInt8} {S : AHeap} (h : Okl k l) : vConv Try.prog 33 9 (by_ k l) S = some (.string ⟨l.toArray⟩, S) := by_string u_L_uint8 u_uint8 u_string h
theorem str_by (s : ByteArray) (S : AHeap) : vConv Try.prog 9 33 (.string s) S = some (by_ 2 s.data.toList, S) := text_by u_string u_L_uint8 u_uint8 s
theorem iz_len {k : Nat} {l : List Int} {S : AHeap} (h : Okl k l) : vLen Try.prog 53 (iz k l) S = some (goInt l.length, S) := vs_len u_L_int h
theorem iz_at {k : Nat} {l : List Int} {S : AHeap} {ki : IntKind} {i : Int} (h : Okl k l) (h0 : 0 ≤ i) (hi : i < l.length) : vIndexAddr Try.prog 53 (iz k l) (.int ki i) S = some (EP [.int .i64 (l[i.toNat]'(by omega))], S) := vs_at u_L_int s_int ci_len h h0 hi
theorem iz_load {fx : Bool} {v : Value} {S : AHeap} : vLoad Try.prog fx 3 (EP [v]) S = some (v, S) := vLoad_one g_int
theorem iz_slice {k : Nat} {l : List Int} {S : AHeap} {lo hi : Option Value} {i j : Int} (h : Okl k l) (hlo : intOr 0 lo = some i) (hhi : intOr l.length hi = some j) (h0 : 0 ≤ i) (hij : i ≤ j) (hj : j ≤ l.length) : vSlice Try.prog 53 (iz k l) lo hi S = some (iz (if k = 2 then 1 else k) ((l.drop i.toNat).take (j.toNat - i.toNat)), S) := vs_slice u_L_int s_int ci_len h hlo hhi h0 hij hj
theorem iz_append {k : Nat} {l : List Int} {S : AHeap} {j : Nat} {m : List Int} (h : Okl k l) (hk : k ≠ 1) (hm : Okl j m) (hl : l.length + m.length ≤ 17592186044416) : vAppend Try.prog 53 53 (iz k l) (iz j m) S = some (iz (if k = 0 ∧ m.length = 0 then 0 else 2) (l ++ m), S) := vs_append u_L_int s_int o_int rfl b_int (by omega) u_L_int ci_len ci_one h hk hm (by omega) (by omega)
theorem iz_copy {k : Nat} {l : List Int} {S : AHeap} (h : Okl k l) (hl : l.length ≤ 17592186044416) : vAppend Try.prog 53 53 (iz 2 []) (iz k l) S = some (iz 2 l, S) := by
  rw [iz_append Okl.own (by decide) h (by simpa using hl)]; rfl
theorem iz_isNil {k : Nat} {l : List Int} {S : AHeap} (h : Okl k l) : vBin Try.prog .eql 53 (iz k l) (.slice none 0 0) S = some (.bool (decide (k = 0)), S) := vs_isNil u_L_int h
/-- The walk's laws. -/
theorem wk : type_of% (And.intro @vcodeV_seq (And.intro @vcodeV_region (And.intro @vcodeV_block (And.intro @vcodeV_skip (And.intro @vcodeV_ret (And.intro @vcodeV_exit (And.intro @vcodeV_cond (And.intro @vcodeV_loop (And.intro @andThen_some (And.intro @regV_some (And.intro @seqV_normal (And.intro @seqV_exit (And.intro @seqV_ret (And.intro @blockV_normal (And.intro @blockV_ret (And.intro @blockV_exit (And.intro @condK_true (And.intro @condK_false (And.intro @andK_some (And.intro @gdK_tt (And.intro @gdK_ff (And.intro @gdK_tf (And.intro @gdK_ft (And.intro @gdK_ut (And.intro @gdCK_tt (And.intro @gdCK_ff (And.intro @gdCK_tf (And.intro @gdCK_ft (And.intro @gdCK_ut (And.intro @ckK_true (And.intro @stillQ_undef (And.intro @stillQ_EP (And.intro @Bool.and_true (And.intro @Bool.true_and (And.intro @Bool.and_self (And.intro @okK_bool (And.intro @okK_int (And.intro @okK_string (And.intro @okK_slice (And.intro @okK_pointer (And.intro @okK_SL (And.intro @okK_EP (And.intro @okK_sv (And.intro @okK_vs (And.intro @gd_tt (And.intro @gd_ff (And.intro @gd_tf (And.intro @gd_ft (And.intro @gd_ut (And.intro @gdC_tt (And.intro @gdC_ff (And.intro @gdC_tf (And.intro @gdC_ft (And.intro @gdC_ut (And.intro @ret_run (And.intro @vPick_bool (And.intro @Bool.false_eq_true (And.intro @okC_bool (And.intro @okC_int (And.intro @okC_string (And.intro @okC_slice (And.intro @okC_iface (And.intro @okC_vs (And.intro @okC_sv (And.intro @okC_EP (And.intro @dem_undef (And.intro @dem_int (And.intro @dem_bool (And.intro @dem_string (And.intro @dem_nil (And.intro @dem_agg (And.intro @dem_func (And.intro @dem_pointer (And.intro @dem_slice (And.intro @dem_map (And.intro @dem_vs (And.intro @dem_sv (And.intro @dem_dem (And.intro @vBin_int (And.intro @vBin_string (And.intro @vBin_bool (And.intro @vConv_int (And.intro @vConvF_int (And.intro @vConvF_string (And.intro @vConvF_stringH (And.intro @vConvF_sv (And.intro @vConvF_vs (And.intro @vSliceF_sv (And.intro @vSliceF_vs (And.intro @vSliceF_string (And.intro @vcodeV_regionH (And.intro @vExtract_tuple (And.intro @aBin_add (And.intro @aBin_sub (And.intro @aBin_mul (And.intro @aBin_eql (And.intro @aBin_neq (And.intro @aBin_lss (And.intro @aBin_leq (And.intro @aBin_gtr (And.intro @aBin_geq (And.intro @aUn_not (And.intro @Bool.not_true (And.intro @Bool.not_false (And.intro @Bool.true_eq_false (And.intro @decide_true (And.intro @decide_false (And.intro @exd_0_1 (And.intro @exd_0_2 (And.intro @exd_1_2 (And.intro @exd_0_3 (And.intro @exd_1_3 (And.intro @exd_2_3 (And.intro @exd_0_4 (And.intro @exd_1_4 (And.intro @exd_2_4 (And.intro @exd_3_4 (And.intro @exd_0_5 (And.intro @exd_1_5 (And.intro @exd_2_5 (And.intro @exd_3_5 (@exd_4_5)))))))))))))))))))))))))))))))))))))))))))))))))))))))))))))))))))))))))))))))))))))))))))))))))))))))))))))))))))))))))) := And.intro @vcodeV_seq (And.intro @vcodeV_region (And.intro @vcodeV_block (And.intro @vcodeV_skip (And.intro @vcodeV_ret (And.intro @vcodeV_exit (And.intro @vcodeV_cond (And.intro @vcodeV_loop (And.intro @andThen_some (And.intro @regV_some (And.intro @seqV_normal (And.intro @seqV_exit (And.intro @seqV_ret (And.intro @blockV_normal (And.intro @blockV_ret (And.intro @blockV_exit (And.intro @condK_true (And.intro @condK_false (And.intro @andK_some (And.intro @gdK_tt (And.intro @gdK_ff (And.intro @gdK_tf (And.intro @gdK_ft (And.intro @gdK_ut (And.intro @gdCK_tt (And.intro @gdCK_ff (And.intro @gdCK_tf (And.intro @gdCK_ft (And.intro @gdCK_ut (And.intro @ckK_true (And.intro @stillQ_undef (And.intro @stillQ_EP (And.intro @Bool.and_true (And.intro @Bool.true_and (And.intro @Bool.and_self (And.intro @okK_bool (And.intro @okK_int (And.intro @okK_string (And.intro @okK_slice (And.intro @okK_pointer (And.intro @okK_SL (And.intro @okK_EP (And.intro @okK_sv (And.intro @okK_vs (And.intro @gd_tt (And.intro @gd_ff (And.intro @gd_tf (And.intro @gd_ft (And.intro @gd_ut (And.intro @gdC_tt (And.intro @gdC_ff (And.intro @gdC_tf (And.intro @gdC_ft (And.intro @gdC_ut (And.intro @ret_run (And.intro @vPick_bool (And.intro @Bool.false_eq_true (And.intro @okC_bool (And.intro @okC_int (And.intro @okC_string (And.intro @okC_slice (And.intro @okC_iface (And.intro @okC_vs (And.intro @okC_sv (And.intro @okC_EP (And.intro @dem_undef (And.intro @dem_int (And.intro @dem_bool (And.intro @dem_string (And.intro @dem_nil (And.intro @dem_agg (And.intro @dem_func (And.intro @dem_pointer (And.intro @dem_slice (And.intro @dem_map (And.intro @dem_vs (And.intro @dem_sv (And.intro @dem_dem (And.intro @vBin_int (And.intro @vBin_string (And.intro @vBin_bool (And.intro @vConv_int (And.intro @vConvF_int (And.intro @vConvF_string (And.intro @vConvF_stringH (And.intro @vConvF_sv (And.intro @vConvF_vs (And.intro @vSliceF_sv (And.intro @vSliceF_vs (And.intro @vSliceF_string (And.intro @vcodeV_regionH (And.intro @vExtract_tuple (And.intro @aBin_add (And.intro @aBin_sub (And.intro @aBin_mul (And.intro @aBin_eql (And.intro @aBin_neq (And.intro @aBin_lss (And.intro @aBin_leq (And.intro @aBin_gtr (And.intro @aBin_geq (And.intro @aUn_not (And.intro @Bool.not_true (And.intro @Bool.not_false (And.intro @Bool.true_eq_false (And.intro @decide_true (And.intro @decide_false (And.intro @exd_0_1 (And.intro @exd_0_2 (And.intro @exd_1_2 (And.intro @exd_0_3 (And.intro @exd_1_3 (And.intro @exd_2_3 (And.intro @exd_0_4 (And.intro @exd_1_4 (And.intro @exd_2_4 (And.intro @exd_3_4 (And.intro @exd_0_5 (And.intro @exd_1_5 (And.intro @exd_2_5 (And.intro @exd_3_5 (@exd_4_5)))))))))))))))))))))))))))))))))))))))))))))))))))))))))))))))))))))))))))))))))))))))))))))))))))))))))))))))))))))))))
end Go.Proofs.Ytgggklfbhmlapaa
