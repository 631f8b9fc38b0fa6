/-
What the program says of its types. Printed by a program; Lean checks each row.
-/
import Derived.Test.YtjlhjebmbllkiaaChecked
import Derived.Test.YtjlhjebmbllkiaaOra
import Derived.KernelRfl
set_option linter.unusedVariables false
set_option maxRecDepth 100000
namespace Go.Proofs.Ytjlhjebmbllkiaa
open Go.Abs
theorem u_int64 : Try.prog.underlying 2 = some (TypeDesc.int IntKind.i64) := by kernel_rfl
theorem s_int64 : szOf Try.prog 2 = some 1 := by kernel_rfl
theorem b_int64 : bytesOf Try.prog 2 = some 8 := by kernel_rfl
theorem o_int64 : zeroOf Try.prog 2 = (some (Value.int IntKind.i64 0)) := by kernel_rfl
theorem g_int64 : isAgg? Try.prog 2 = some false := by kernel_rfl
theorem u_int : Try.prog.underlying 3 = some (TypeDesc.int IntKind.i64) := by kernel_rfl
theorem s_int : szOf Try.prog 3 = some 1 := by kernel_rfl
theorem b_int : bytesOf Try.prog 3 = some 8 := by kernel_rfl
theorem o_int : zeroOf Try.prog 3 = (some (Value.int IntKind.i64 0)) := by kernel_rfl
theorem g_int : isAgg? Try.prog 3 = some false := by kernel_rfl
theorem u_bool : Try.prog.underlying 4 = some TypeDesc.bool := by kernel_rfl
theorem s_bool : szOf Try.prog 4 = some 1 := by kernel_rfl
theorem b_bool : bytesOf Try.prog 4 = some 1 := by kernel_rfl
theorem o_bool : zeroOf Try.prog 4 = (some (Value.bool false)) := by kernel_rfl
theorem g_bool : isAgg? Try.prog 4 = some false := by kernel_rfl
theorem u_uint8 : Try.prog.underlying 5 = some (TypeDesc.int IntKind.u8) := by kernel_rfl
theorem s_uint8 : szOf Try.prog 5 = some 1 := by kernel_rfl
theorem b_uint8 : bytesOf Try.prog 5 = some 1 := by kernel_rfl
theorem o_uint8 : zeroOf Try.prog 5 = (some (Value.int IntKind.u8 0)) := by kernel_rfl
theorem g_uint8 : isAgg? Try.prog 5 = some false := by kernel_rfl
theorem u_abi_BoundsErrorCode : Try.prog.underlying 6 = some (TypeDesc.int IntKind.u8) := by kernel_rfl
theorem s_abi_BoundsErrorCode : szOf Try.prog 6 = some 1 := by kernel_rfl
theorem b_abi_BoundsErrorCode : bytesOf Try.prog 6 = some 1 := by kernel_rfl
theorem o_abi_BoundsErrorCode : zeroOf Try.prog 6 = (some (Value.int IntKind.u8 0)) := by kernel_rfl
theorem g_abi_BoundsErrorCode : isAgg? Try.prog 6 = some false := by kernel_rfl
theorem u_t7 : Try.prog.underlying 7 = some (TypeDesc.struct #[{ name := "x", type := 2, offset := 0, embedded := false, tag := "", pkgPath := "runtime", byteOffset := 0 }, { name := "y", type := 3, offset := 1, embedded := false, tag := "", pkgPath := "runtime", byteOffset := 8 }, { name := "signed", type := 4, offset := 2, embedded := false, tag := "", pkgPath := "runtime", byteOffset := 16 }, { name := "code", type := 6, offset := 3, embedded := false, tag := "", pkgPath := "runtime", byteOffset := 17 }]) := by kernel_rfl
theorem s_t7 : szOf Try.prog 7 = some 4 := by kernel_rfl
theorem b_t7 : bytesOf Try.prog 7 = some 24 := by kernel_rfl
theorem o_t7 : zeroOf Try.prog 7 = (some (Value.agg #[(Value.int IntKind.i64 0), (Value.int IntKind.i64 0), (Value.bool false), (Value.int IntKind.u8 0)])) := by kernel_rfl
theorem g_t7 : isAgg? Try.prog 7 = some true := by kernel_rfl
theorem u_runtime_boundsError : Try.prog.underlying 8 = some (TypeDesc.struct #[{ name := "x", type := 2, offset := 0, embedded := false, tag := "", pkgPath := "runtime", byteOffset := 0 }, { name := "y", type := 3, offset := 1, embedded := false, tag := "", pkgPath := "runtime", byteOffset := 8 }, { name := "signed", type := 4, offset := 2, embedded := false, tag := "", pkgPath := "runtime", byteOffset := 16 }, { name := "code", type := 6, offset := 3, embedded := false, tag := "", pkgPath := "runtime", byteOffset := 17 }]) := by kernel_rfl
theorem s_runtime_boundsError : szOf Try.prog 8 = some 4 := by kernel_rfl
theorem b_runtime_boundsError : bytesOf Try.prog 8 = some 24 := by kernel_rfl
theorem o_runtime_boundsError : zeroOf Try.prog 8 = (some (Value.agg #[(Value.int IntKind.i64 0), (Value.int IntKind.i64 0), (Value.bool false), (Value.int IntKind.u8 0)])) := by kernel_rfl
theorem g_runtime_boundsError : isAgg? Try.prog 8 = some true := by kernel_rfl
theorem u_string : Try.prog.underlying 9 = some TypeDesc.string := by kernel_rfl
theorem s_string : szOf Try.prog 9 = some 1 := by kernel_rfl
theorem b_string : bytesOf Try.prog 9 = some 16 := by kernel_rfl
theorem o_string : zeroOf Try.prog 9 = (some (Value.string { data := #[] })) := by kernel_rfl
theorem g_string : isAgg? Try.prog 9 = some false := by kernel_rfl
theorem u_runtime_errorString : Try.prog.underlying 10 = some TypeDesc.string := by kernel_rfl
theorem s_runtime_errorString : szOf Try.prog 10 = some 1 := by kernel_rfl
theorem b_runtime_errorString : bytesOf Try.prog 10 = some 16 := by kernel_rfl
theorem o_runtime_errorString : zeroOf Try.prog 10 = (some (Value.string { data := #[] })) := by kernel_rfl
theorem g_runtime_errorString : isAgg? Try.prog 10 = some false := by kernel_rfl
theorem u_runtime_plainError : Try.prog.underlying 11 = some TypeDesc.string := by kernel_rfl
theorem s_runtime_plainError : szOf Try.prog 11 = some 1 := by kernel_rfl
theorem b_runtime_plainError : bytesOf Try.prog 11 = some 16 := by kernel_rfl
theorem o_runtime_plainError : zeroOf Try.prog 11 = (some (Value.string { data := #[] })) := by kernel_rfl
theorem g_runtime_plainError : isAgg? Try.prog 11 = some false := by kernel_rfl
theorem u_uintptr : Try.prog.underlying 12 = some (TypeDesc.int IntKind.u64) := by kernel_rfl
theorem s_uintptr : szOf Try.prog 12 = some 1 := by kernel_rfl
theorem b_uintptr : bytesOf Try.prog 12 = some 8 := by kernel_rfl
theorem o_uintptr : zeroOf Try.prog 12 = (some (Value.int IntKind.u64 0)) := by kernel_rfl
theorem g_uintptr : isAgg? Try.prog 12 = some false := by kernel_rfl
theorem u_t13 : Try.prog.underlying 13 = some (TypeDesc.struct #[{ name := "msg", type := 9, offset := 0, embedded := false, tag := "", pkgPath := "runtime", byteOffset := 0 }, { name := "addr", type := 12, offset := 1, embedded := false, tag := "", pkgPath := "runtime", byteOffset := 16 }]) := by kernel_rfl
theorem s_t13 : szOf Try.prog 13 = some 2 := by kernel_rfl
theorem b_t13 : bytesOf Try.prog 13 = some 24 := by kernel_rfl
theorem o_t13 : zeroOf Try.prog 13 = (some (Value.agg #[(Value.string { data := #[] }), (Value.int IntKind.u64 0)])) := by kernel_rfl
theorem g_t13 : isAgg? Try.prog 13 = some true := by kernel_rfl
theorem u_runtime_errorAddressString : Try.prog.underlying 14 = some (TypeDesc.struct #[{ name := "msg", type := 9, offset := 0, embedded := false, tag := "", pkgPath := "runtime", byteOffset := 0 }, { name := "addr", type := 12, offset := 1, embedded := false, tag := "", pkgPath := "runtime", byteOffset := 16 }]) := by kernel_rfl
theorem s_runtime_errorAddressString : szOf Try.prog 14 = some 2 := by kernel_rfl
theorem b_runtime_errorAddressString : bytesOf Try.prog 14 = some 24 := by kernel_rfl
theorem o_runtime_errorAddressString : zeroOf Try.prog 14 = (some (Value.agg #[(Value.string { data := #[] }), (Value.int IntKind.u64 0)])) := by kernel_rfl
theorem g_runtime_errorAddressString : isAgg? Try.prog 14 = some true := by kernel_rfl
theorem u_P_runtime_TypeAssertionError : Try.prog.underlying 15 = some (TypeDesc.pointer 57) := by kernel_rfl
theorem s_P_runtime_TypeAssertionError : szOf Try.prog 15 = some 1 := by kernel_rfl
theorem b_P_runtime_TypeAssertionError : bytesOf Try.prog 15 = some 8 := by kernel_rfl
theorem o_P_runtime_TypeAssertionError : zeroOf Try.prog 15 = (some (Value.pointer none)) := by kernel_rfl
theorem g_P_runtime_TypeAssertionError : isAgg? Try.prog 15 = some false := by kernel_rfl
theorem u_P_runtime_PanicNilError : Try.prog.underlying 16 = some (TypeDesc.pointer 60) := by kernel_rfl
theorem s_P_runtime_PanicNilError : szOf Try.prog 16 = some 1 := by kernel_rfl
theorem b_P_runtime_PanicNilError : bytesOf Try.prog 16 = some 8 := by kernel_rfl
theorem o_P_runtime_PanicNilError : zeroOf Try.prog 16 = (some (Value.pointer none)) := by kernel_rfl
theorem g_P_runtime_PanicNilError : isAgg? Try.prog 16 = some false := by kernel_rfl
theorem u_P_abi_Type : Try.prog.underlying 17 = some (TypeDesc.pointer 70) := by kernel_rfl
theorem s_P_abi_Type : szOf Try.prog 17 = some 1 := by kernel_rfl
theorem b_P_abi_Type : bytesOf Try.prog 17 = some 8 := by kernel_rfl
theorem o_P_abi_Type : zeroOf Try.prog 17 = (some (Value.pointer none)) := by kernel_rfl
theorem g_P_abi_Type : isAgg? Try.prog 17 = some false := by kernel_rfl
theorem u_t18 : Try.prog.underlying 18 = some (TypeDesc.struct #[{ name := "typ", type := 17, offset := 0, embedded := false, tag := "", pkgPath := "internal/runtime/maps", byteOffset := 0 }]) := by kernel_rfl
theorem s_t18 : szOf Try.prog 18 = some 1 := by kernel_rfl
theorem b_t18 : bytesOf Try.prog 18 = some 8 := by kernel_rfl
theorem o_t18 : zeroOf Try.prog 18 = (some (Value.agg #[(Value.pointer none)])) := by kernel_rfl
theorem g_t18 : isAgg? Try.prog 18 = some true := by kernel_rfl
theorem u_maps_unhashableTypeError : Try.prog.underlying 19 = some (TypeDesc.struct #[{ name := "typ", type := 17, offset := 0, embedded := false, tag := "", pkgPath := "internal/runtime/maps", byteOffset := 0 }]) := by kernel_rfl
theorem s_maps_unhashableTypeError : szOf Try.prog 19 = some 1 := by kernel_rfl
theorem b_maps_unhashableTypeError : bytesOf Try.prog 19 = some 8 := by kernel_rfl
theorem o_maps_unhashableTypeError : zeroOf Try.prog 19 = (some (Value.agg #[(Value.pointer none)])) := by kernel_rfl
theorem g_maps_unhashableTypeError : isAgg? Try.prog 19 = some true := by kernel_rfl
theorem u_int32 : Try.prog.underlying 21 = some (TypeDesc.int IntKind.i32) := by kernel_rfl
theorem s_int32 : szOf Try.prog 21 = some 1 := by kernel_rfl
theorem b_int32 : bytesOf Try.prog 21 = some 4 := by kernel_rfl
theorem o_int32 : zeroOf Try.prog 21 = (some (Value.int IntKind.i32 0)) := by kernel_rfl
theorem g_int32 : isAgg? Try.prog 21 = some false := by kernel_rfl
theorem u_uint64 : Try.prog.underlying 22 = some (TypeDesc.int IntKind.u64) := by kernel_rfl
theorem s_uint64 : szOf Try.prog 22 = some 1 := by kernel_rfl
theorem b_uint64 : bytesOf Try.prog 22 = some 8 := by kernel_rfl
theorem o_uint64 : zeroOf Try.prog 22 = (some (Value.int IntKind.u64 0)) := by kernel_rfl
theorem g_uint64 : isAgg? Try.prog 22 = some false := by kernel_rfl
theorem u_L_uint8 : Try.prog.underlying 23 = some (TypeDesc.slice 5) := by kernel_rfl
theorem s_L_uint8 : szOf Try.prog 23 = some 1 := by kernel_rfl
theorem b_L_uint8 : bytesOf Try.prog 23 = some 24 := by kernel_rfl
theorem o_L_uint8 : zeroOf Try.prog 23 = (some (Value.slice none 0 0)) := by kernel_rfl
theorem g_L_uint8 : isAgg? Try.prog 23 = some false := by kernel_rfl
theorem u_api_Errno : Try.prog.underlying 24 = some (TypeDesc.int IntKind.i64) := by kernel_rfl
theorem s_api_Errno : szOf Try.prog 24 = some 1 := by kernel_rfl
theorem b_api_Errno : bytesOf Try.prog 24 = some 8 := by kernel_rfl
theorem o_api_Errno : zeroOf Try.prog 24 = (some (Value.int IntKind.i64 0)) := by kernel_rfl
theorem g_api_Errno : isAgg? Try.prog 24 = some false := by kernel_rfl
theorem u_L_int : Try.prog.underlying 43 = some (TypeDesc.slice 3) := by kernel_rfl
theorem s_L_int : szOf Try.prog 43 = some 1 := by kernel_rfl
theorem b_L_int : bytesOf Try.prog 43 = some 24 := by kernel_rfl
theorem o_L_int : zeroOf Try.prog 43 = (some (Value.slice none 0 0)) := by kernel_rfl
theorem g_L_int : isAgg? Try.prog 43 = some false := by kernel_rfl
theorem u_uint : Try.prog.underlying 54 = some (TypeDesc.int IntKind.u64) := by kernel_rfl
theorem s_uint : szOf Try.prog 54 = some 1 := by kernel_rfl
theorem b_uint : bytesOf Try.prog 54 = some 8 := by kernel_rfl
theorem o_uint : zeroOf Try.prog 54 = (some (Value.int IntKind.u64 0)) := by kernel_rfl
theorem g_uint : isAgg? Try.prog 54 = some false := by kernel_rfl
theorem u_t56 : Try.prog.underlying 56 = some (TypeDesc.struct #[{ name := "_interface", type := 17, offset := 0, embedded := false, tag := "", pkgPath := "runtime", byteOffset := 0 }, { name := "concrete", type := 17, offset := 1, embedded := false, tag := "", pkgPath := "runtime", byteOffset := 8 }, { name := "asserted", type := 17, offset := 2, embedded := false, tag := "", pkgPath := "runtime", byteOffset := 16 }, { name := "missingMethod", type := 9, offset := 3, embedded := false, tag := "", pkgPath := "runtime", byteOffset := 24 }]) := by kernel_rfl
theorem s_t56 : szOf Try.prog 56 = some 4 := by kernel_rfl
theorem b_t56 : bytesOf Try.prog 56 = some 40 := by kernel_rfl
theorem o_t56 : zeroOf Try.prog 56 = (some (Value.agg #[(Value.pointer none), (Value.pointer none), (Value.pointer none), (Value.string { data := #[] })])) := by kernel_rfl
theorem g_t56 : isAgg? Try.prog 56 = some true := by kernel_rfl
theorem u_runtime_TypeAssertionError : Try.prog.underlying 57 = some (TypeDesc.struct #[{ name := "_interface", type := 17, offset := 0, embedded := false, tag := "", pkgPath := "runtime", byteOffset := 0 }, { name := "concrete", type := 17, offset := 1, embedded := false, tag := "", pkgPath := "runtime", byteOffset := 8 }, { name := "asserted", type := 17, offset := 2, embedded := false, tag := "", pkgPath := "runtime", byteOffset := 16 }, { name := "missingMethod", type := 9, offset := 3, embedded := false, tag := "", pkgPath := "runtime", byteOffset := 24 }]) := by kernel_rfl
theorem s_runtime_TypeAssertionError : szOf Try.prog 57 = some 4 := by kernel_rfl
theorem b_runtime_TypeAssertionError : bytesOf Try.prog 57 = some 40 := by kernel_rfl
theorem o_runtime_TypeAssertionError : zeroOf Try.prog 57 = (some (Value.agg #[(Value.pointer none), (Value.pointer none), (Value.pointer none), (Value.string { data := #[] })])) := by kernel_rfl
theorem g_runtime_TypeAssertionError : isAgg? Try.prog 57 = some true := by kernel_rfl
theorem u_A0_P_runtime_PanicNilError : Try.prog.underlying 58 = some (TypeDesc.array 0 16) := by kernel_rfl
theorem s_A0_P_runtime_PanicNilError : szOf Try.prog 58 = some 0 := by kernel_rfl
theorem b_A0_P_runtime_PanicNilError : bytesOf Try.prog 58 = some 0 := by kernel_rfl
theorem o_A0_P_runtime_PanicNilError : zeroOf Try.prog 58 = (some (Value.agg #[])) := by kernel_rfl
theorem g_A0_P_runtime_PanicNilError : isAgg? Try.prog 58 = some true := by kernel_rfl
theorem u_t59 : Try.prog.underlying 59 = some (TypeDesc.struct #[{ name := "_", type := 58, offset := 0, embedded := false, tag := "", pkgPath := "runtime", byteOffset := 0 }]) := by kernel_rfl
theorem s_t59 : szOf Try.prog 59 = some 0 := by kernel_rfl
theorem b_t59 : bytesOf Try.prog 59 = some 0 := by kernel_rfl
theorem o_t59 : zeroOf Try.prog 59 = (some (Value.agg #[])) := by kernel_rfl
theorem g_t59 : isAgg? Try.prog 59 = some true := by kernel_rfl
theorem u_runtime_PanicNilError : Try.prog.underlying 60 = some (TypeDesc.struct #[{ name := "_", type := 58, offset := 0, embedded := false, tag := "", pkgPath := "runtime", byteOffset := 0 }]) := by kernel_rfl
theorem s_runtime_PanicNilError : szOf Try.prog 60 = some 0 := by kernel_rfl
theorem b_runtime_PanicNilError : bytesOf Try.prog 60 = some 0 := by kernel_rfl
theorem o_runtime_PanicNilError : zeroOf Try.prog 60 = (some (Value.agg #[])) := by kernel_rfl
theorem g_runtime_PanicNilError : isAgg? Try.prog 60 = some true := by kernel_rfl
theorem u_uint32 : Try.prog.underlying 62 = some (TypeDesc.int IntKind.u32) := by kernel_rfl
theorem s_uint32 : szOf Try.prog 62 = some 1 := by kernel_rfl
theorem b_uint32 : bytesOf Try.prog 62 = some 4 := by kernel_rfl
theorem o_uint32 : zeroOf Try.prog 62 = (some (Value.int IntKind.u32 0)) := by kernel_rfl
theorem g_uint32 : isAgg? Try.prog 62 = some false := by kernel_rfl
theorem u_abi_TFlag : Try.prog.underlying 63 = some (TypeDesc.int IntKind.u8) := by kernel_rfl
theorem s_abi_TFlag : szOf Try.prog 63 = some 1 := by kernel_rfl
theorem b_abi_TFlag : bytesOf Try.prog 63 = some 1 := by kernel_rfl
theorem o_abi_TFlag : zeroOf Try.prog 63 = (some (Value.int IntKind.u8 0)) := by kernel_rfl
theorem g_abi_TFlag : isAgg? Try.prog 63 = some false := by kernel_rfl
theorem u_abi_Kind : Try.prog.underlying 64 = some (TypeDesc.int IntKind.u8) := by kernel_rfl
theorem s_abi_Kind : szOf Try.prog 64 = some 1 := by kernel_rfl
theorem b_abi_Kind : bytesOf Try.prog 64 = some 1 := by kernel_rfl
theorem o_abi_Kind : zeroOf Try.prog 64 = (some (Value.int IntKind.u8 0)) := by kernel_rfl
theorem g_abi_Kind : isAgg? Try.prog 64 = some false := by kernel_rfl
theorem u_P_uint8 : Try.prog.underlying 66 = some (TypeDesc.pointer 5) := by kernel_rfl
theorem s_P_uint8 : szOf Try.prog 66 = some 1 := by kernel_rfl
theorem b_P_uint8 : bytesOf Try.prog 66 = some 8 := by kernel_rfl
theorem o_P_uint8 : zeroOf Try.prog 66 = (some (Value.pointer none)) := by kernel_rfl
theorem g_P_uint8 : isAgg? Try.prog 66 = some false := by kernel_rfl
theorem u_abi_NameOff : Try.prog.underlying 67 = some (TypeDesc.int IntKind.i32) := by kernel_rfl
theorem s_abi_NameOff : szOf Try.prog 67 = some 1 := by kernel_rfl
theorem b_abi_NameOff : bytesOf Try.prog 67 = some 4 := by kernel_rfl
theorem o_abi_NameOff : zeroOf Try.prog 67 = (some (Value.int IntKind.i32 0)) := by kernel_rfl
theorem g_abi_NameOff : isAgg? Try.prog 67 = some false := by kernel_rfl
theorem u_abi_TypeOff : Try.prog.underlying 68 = some (TypeDesc.int IntKind.i32) := by kernel_rfl
theorem s_abi_TypeOff : szOf Try.prog 68 = some 1 := by kernel_rfl
theorem b_abi_TypeOff : bytesOf Try.prog 68 = some 4 := by kernel_rfl
theorem o_abi_TypeOff : zeroOf Try.prog 68 = (some (Value.int IntKind.i32 0)) := by kernel_rfl
theorem g_abi_TypeOff : isAgg? Try.prog 68 = some false := by kernel_rfl
theorem u_t69 : Try.prog.underlying 69 = some (TypeDesc.struct #[{ name := "Size_", type := 12, offset := 0, embedded := false, tag := "", pkgPath := "", byteOffset := 0 }, { name := "PtrBytes", type := 12, offset := 1, embedded := false, tag := "", pkgPath := "", byteOffset := 8 }, { name := "Hash", type := 62, offset := 2, embedded := false, tag := "", pkgPath := "", byteOffset := 16 }, { name := "TFlag", type := 63, offset := 3, embedded := false, tag := "", pkgPath := "", byteOffset := 20 }, { name := "Align_", type := 5, offset := 4, embedded := false, tag := "", pkgPath := "", byteOffset := 21 }, { name := "FieldAlign_", type := 5, offset := 5, embedded := false, tag := "", pkgPath := "", byteOffset := 22 }, { name := "Kind_", type := 64, offset := 6, embedded := false, tag := "", pkgPath := "", byteOffset := 23 }, { name := "Equal", type := 65, offset := 7, embedded := false, tag := "", pkgPath := "", byteOffset := 24 }, { name := "GCData", type := 66, offset := 8, embedded := false, tag := "", pkgPath := "", byteOffset := 32 }, { name := "Str", type := 67, offset := 9, embedded := false, tag := "", pkgPath := "", byteOffset := 40 }, { name := "PtrToThis", type := 68, offset := 10, embedded := false, tag := "", pkgPath := "", byteOffset := 44 }]) := by kernel_rfl
theorem s_t69 : szOf Try.prog 69 = some 11 := by kernel_rfl
theorem b_t69 : bytesOf Try.prog 69 = some 48 := by kernel_rfl
theorem o_t69 : zeroOf Try.prog 69 = (some (Value.agg #[(Value.int IntKind.u64 0), (Value.int IntKind.u64 0), (Value.int IntKind.u32 0), (Value.int IntKind.u8 0), (Value.int IntKind.u8 0), (Value.int IntKind.u8 0), (Value.int IntKind.u8 0), Value.nilFunc, (Value.pointer none), (Value.int IntKind.i32 0), (Value.int IntKind.i32 0)])) := by kernel_rfl
theorem g_t69 : isAgg? Try.prog 69 = some true := by kernel_rfl
theorem u_abi_Type : Try.prog.underlying 70 = some (TypeDesc.struct #[{ name := "Size_", type := 12, offset := 0, embedded := false, tag := "", pkgPath := "", byteOffset := 0 }, { name := "PtrBytes", type := 12, offset := 1, embedded := false, tag := "", pkgPath := "", byteOffset := 8 }, { name := "Hash", type := 62, offset := 2, embedded := false, tag := "", pkgPath := "", byteOffset := 16 }, { name := "TFlag", type := 63, offset := 3, embedded := false, tag := "", pkgPath := "", byteOffset := 20 }, { name := "Align_", type := 5, offset := 4, embedded := false, tag := "", pkgPath := "", byteOffset := 21 }, { name := "FieldAlign_", type := 5, offset := 5, embedded := false, tag := "", pkgPath := "", byteOffset := 22 }, { name := "Kind_", type := 64, offset := 6, embedded := false, tag := "", pkgPath := "", byteOffset := 23 }, { name := "Equal", type := 65, offset := 7, embedded := false, tag := "", pkgPath := "", byteOffset := 24 }, { name := "GCData", type := 66, offset := 8, embedded := false, tag := "", pkgPath := "", byteOffset := 32 }, { name := "Str", type := 67, offset := 9, embedded := false, tag := "", pkgPath := "", byteOffset := 40 }, { name := "PtrToThis", type := 68, offset := 10, embedded := false, tag := "", pkgPath := "", byteOffset := 44 }]) := by kernel_rfl
theorem s_abi_Type : szOf Try.prog 70 = some 11 := by kernel_rfl
theorem b_abi_Type : bytesOf Try.prog 70 = some 48 := by kernel_rfl
theorem o_abi_Type : zeroOf Try.prog 70 = (some (Value.agg #[(Value.int IntKind.u64 0), (Value.int IntKind.u64 0), (Value.int IntKind.u32 0), (Value.int IntKind.u8 0), (Value.int IntKind.u8 0), (Value.int IntKind.u8 0), (Value.int IntKind.u8 0), Value.nilFunc, (Value.pointer none), (Value.int IntKind.i32 0), (Value.int IntKind.i32 0)])) := by kernel_rfl
theorem g_abi_Type : isAgg? Try.prog 70 = some true := by kernel_rfl
theorem u_unsafe_Pointer : Try.prog.underlying 71 = some TypeDesc.unsafePointer := by kernel_rfl
theorem s_unsafe_Pointer : szOf Try.prog 71 = some 1 := by kernel_rfl
theorem b_unsafe_Pointer : bytesOf Try.prog 71 = some 8 := by kernel_rfl
theorem o_unsafe_Pointer : zeroOf Try.prog 71 = (some (Value.pointer none)) := by kernel_rfl
theorem g_unsafe_Pointer : isAgg? Try.prog 71 = some false := by kernel_rfl
@[simp] theorem cv_int_uint64 (k : IntKind) (n : Int) (H : AHeap) : aConv Try.prog 3 22 (.int k n) H = some (.int IntKind.u64 (IntKind.wrap IntKind.u64 n), H) := aConv_int u_int u_uint64 k n
@[simp] theorem cv_uint8_uint64 (k : IntKind) (n : Int) (H : AHeap) : aConv Try.prog 5 22 (.int k n) H = some (.int IntKind.u64 (IntKind.wrap IntKind.u64 n), H) := aConv_int u_uint8 u_uint64 k n
@[simp] theorem cv_uint64_int (k : IntKind) (n : Int) (H : AHeap) : aConv Try.prog 22 3 (.int k n) H = some (.int IntKind.i64 (IntKind.wrap IntKind.i64 n), H) := aConv_int u_uint64 u_int k n
@[simp] theorem cv_uint64_uint8 (k : IntKind) (n : Int) (H : AHeap) : aConv Try.prog 22 5 (.int k n) H = some (.int IntKind.u8 (IntKind.wrap IntKind.u8 n), H) := aConv_int u_uint64 u_uint8 k n
theorem bs_L_uint8_0 (S : AHeap) : vBuildSlice Try.prog 23 0 [] S = some (sv 2 1 0 [], S) := by kernel_rfl
theorem bs_L_uint8_1 (x0 : Int) (S : AHeap) : vBuildSlice Try.prog 23 1 [(0, .int IntKind.u8 x0)] S = some (sv 2 1 1 [.int IntKind.u8 x0], S) := by kernel_rfl
theorem bs_L_uint8_2 (x0 x1 : Int) (S : AHeap) : vBuildSlice Try.prog 23 2 [(0, .int IntKind.u8 x0), (1, .int IntKind.u8 x1)] S = some (sv 2 1 2 [.int IntKind.u8 x0, .int IntKind.u8 x1], S) := by kernel_rfl
theorem bs_L_uint8_3 (x0 x1 x2 : Int) (S : AHeap) : vBuildSlice Try.prog 23 3 [(0, .int IntKind.u8 x0), (1, .int IntKind.u8 x1), (2, .int IntKind.u8 x2)] S = some (sv 2 1 3 [.int IntKind.u8 x0, .int IntKind.u8 x1, .int IntKind.u8 x2], S) := by kernel_rfl
theorem bs_L_int_0 (S : AHeap) : vBuildSlice Try.prog 43 0 [] S = some (sv 2 1 0 [], S) := by kernel_rfl
theorem bs_L_int_1 (x0 : Int) (S : AHeap) : vBuildSlice Try.prog 43 1 [(0, .int IntKind.i64 x0)] S = some (sv 2 1 1 [.int IntKind.i64 x0], S) := by kernel_rfl
theorem by_len {k : Nat} {l : List UInt8} {S : AHeap} (h : Okl k l) : vLen Try.prog 23 (by_ k l) S = some (goInt l.length, S) := vs_len u_L_uint8 h
theorem by_at {k : Nat} {l : List UInt8} {S : AHeap} {ki : IntKind} {i : Int} (h : Okl k l) (h0 : 0 ≤ i) (hi : i < l.length) : vIndexAddr Try.prog 23 (by_ k l) (.int ki i) S = some (EP [.int .u8 (l[i.toNat]'(by omega)).toNat], S) := vs_at u_L_uint8 s_uint8 cb_len h h0 hi
theorem by_load {fx : Bool} {v : Value} {S : AHeap} : vLoad Try.prog fx 5 (EP [v]) S = some (v, S) := vLoad_one g_uint8
theorem by_slice {k : Nat} {l : List UInt8} {S : AHeap} {lo hi : Option Value} {i j : Int} (h : Okl k l) (hlo : intOr 0 lo = some i) (hhi : intOr l.length hi = some j) (h0 : 0 ≤ i) (hij : i ≤ j) (hj : j ≤ l.length) : vSlice Try.prog 23 (by_ k l) lo hi S = some (by_ (if k = 2 then 1 else k) ((l.drop i.toNat).take (j.toNat - i.toNat)), S) := vs_slice u_L_uint8 s_uint8 cb_len h hlo hhi h0 hij hj
theorem by_append {k : Nat} {l : List UInt8} {S : AHeap} {j : Nat} {m : List UInt8} (h : Okl k l) (hk : k ≠ 1) (hm : Okl j m) (hl : l.length + m.length ≤ 140737488355328) : vAppend Try.prog 23 23 (by_ k l) (by_ j m) S = some (by_ (if k = 0 ∧ m.length = 0 then 0 else 2) (l ++ m), S) := vs_append u_L_uint8 s_uint8 o_uint8 rfl b_uint8 (by omega) u_L_uint8 cb_len cb_one h hk hm (by omega) (by omega)
theorem by_copy {k : Nat} {l : List UInt8} {S : AHeap} (h : Okl k l) (hl : l.length ≤ 140737488355328) : vAppend Try.prog 23 23 (by_ 2 []) (by_ k l) S = some (by_ 2 l, S) := by
  rw [by_append Okl.own (by decide) h (by simpa using hl)]; rfl
theorem by_isNil {k : Nat} {l : List UInt8} {S : AHeap} (h : Okl k l) : vBin Try.prog .eql 23 (by_ k l) (.slice none 0 0) S = some (.bool (decide (k = 0)), S) := vs_isNil u_L_uint8 h
theorem by_str {k : Nat} {l : List UInt8} {S : AHeap} (h : Okl k l) : vConv Try.prog 23 9 (by_ k l) S = some (.string ⟨l.toArray⟩, S) := by_string u_L_uint8 u_uint8 u_string h
theorem str_by (s : ByteArray) (S : AHeap) : vConv Try.prog 9 23 (.string s) S = some (by_ 2 s.data.toList, S) := text_by u_string u_L_uint8 u_uint8 s
theorem iz_len {k : Nat} {l : List Int} {S : AHeap} (h : Okl k l) : vLen Try.prog 43 (iz k l) S = some (goInt l.length, S) := vs_len u_L_int h
theorem iz_at {k : Nat} {l : List Int} {S : AHeap} {ki : IntKind} {i : Int} (h : Okl k l) (h0 : 0 ≤ i) (hi : i < l.length) : vIndexAddr Try.prog 43 (iz k l) (.int ki i) S = some (EP [.int .i64 (l[i.toNat]'(by omega))], S) := vs_at u_L_int s_int ci_len h h0 hi
theorem iz_load {fx : Bool} {v : Value} {S : AHeap} : vLoad Try.prog fx 3 (EP [v]) S = some (v, S) := vLoad_one g_int
theorem iz_slice {k : Nat} {l : List Int} {S : AHeap} {lo hi : Option Value} {i j : Int} (h : Okl k l) (hlo : intOr 0 lo = some i) (hhi : intOr l.length hi = some j) (h0 : 0 ≤ i) (hij : i ≤ j) (hj : j ≤ l.length) : vSlice Try.prog 43 (iz k l) lo hi S = some (iz (if k = 2 then 1 else k) ((l.drop i.toNat).take (j.toNat - i.toNat)), S) := vs_slice u_L_int s_int ci_len h hlo hhi h0 hij hj
theorem iz_append {k : Nat} {l : List Int} {S : AHeap} {j : Nat} {m : List Int} (h : Okl k l) (hk : k ≠ 1) (hm : Okl j m) (hl : l.length + m.length ≤ 17592186044416) : vAppend Try.prog 43 43 (iz k l) (iz j m) S = some (iz (if k = 0 ∧ m.length = 0 then 0 else 2) (l ++ m), S) := vs_append u_L_int s_int o_int rfl b_int (by omega) u_L_int ci_len ci_one h hk hm (by omega) (by omega)
theorem iz_copy {k : Nat} {l : List Int} {S : AHeap} (h : Okl k l) (hl : l.length ≤ 17592186044416) : vAppend Try.prog 43 43 (iz 2 []) (iz k l) S = some (iz 2 l, S) := by
  rw [iz_append Okl.own (by decide) h (by simpa using hl)]; rfl
theorem iz_isNil {k : Nat} {l : List Int} {S : AHeap} (h : Okl k l) : vBin Try.prog .eql 43 (iz k l) (.slice none 0 0) S = some (.bool (decide (k = 0)), S) := vs_isNil u_L_int h
end Go.Proofs.Ytjlhjebmbllkiaa
