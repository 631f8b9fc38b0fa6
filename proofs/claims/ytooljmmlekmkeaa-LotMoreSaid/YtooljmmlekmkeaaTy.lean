/-
What the program says of its types. Printed by a program; Lean checks each row.
-/
import Derived.Test.YtooljmmlekmkeaaChecked
import Derived.Test.YtooljmmlekmkeaaValB
import Derived.KernelRfl
set_option linter.unusedVariables false
set_option linter.unusedSimpArgs false
set_option maxRecDepth 100000
namespace Go.Proofs.Ytooljmmlekmkeaa
open Go.Abs
theorem u_int64 : Try.prog.underlying 2 = some (TypeDesc.int IntKind.i64) := by kernel_rfl
theorem s_int64 : szOf Try.prog 2 = some 1 := by kernel_rfl
theorem b_int64 : bytesOf Try.prog 2 = some 8 := by kernel_rfl
theorem o_int64 : zeroOf Try.prog 2 = (some (Value.int IntKind.i64 0)) := by kernel_rfl
theorem g_int64 : isAgg? Try.prog 2 = some false := by kernel_rfl
theorem u_int : Try.prog.underlying 3 = some (TypeDesc.int IntKind.i64) := by kernel_rfl
theorem s_int : szOf Try.prog 3 = some 1 := by kernel_rfl
theorem b_int : bytesOf Try.prog 3 = some 8 := by kernel_rfl
theorem o_int : zeroOf Try.prog 3 = (some (Value.int IntKind.i64 0)) := by kernel_rfl
theorem g_int : isAgg? Try.prog 3 = some false := by kernel_rfl
theorem u_bool : Try.prog.underlying 4 = some TypeDesc.bool := by kernel_rfl
theorem s_bool : szOf Try.prog 4 = some 1 := by kernel_rfl
theorem b_bool : bytesOf Try.prog 4 = some 1 := by kernel_rfl
theorem o_bool : zeroOf Try.prog 4 = (some (Value.bool false)) := by kernel_rfl
theorem g_bool : isAgg? Try.prog 4 = some false := by kernel_rfl
theorem u_uint8 : Try.prog.underlying 5 = some (TypeDesc.int IntKind.u8) := by kernel_rfl
theorem s_uint8 : szOf Try.prog 5 = some 1 := by kernel_rfl
theorem b_uint8 : bytesOf Try.prog 5 = some 1 := by kernel_rfl
theorem o_uint8 : zeroOf Try.prog 5 = (some (Value.int IntKind.u8 0)) := by kernel_rfl
theorem g_uint8 : isAgg? Try.prog 5 = some false := by kernel_rfl
theorem u_abi_BoundsErrorCode : Try.prog.underlying 6 = some (TypeDesc.int IntKind.u8) := by kernel_rfl
theorem s_abi_BoundsErrorCode : szOf Try.prog 6 = some 1 := by kernel_rfl
theorem b_abi_BoundsErrorCode : bytesOf Try.prog 6 = some 1 := by kernel_rfl
theorem o_abi_BoundsErrorCode : zeroOf Try.prog 6 = (some (Value.int IntKind.u8 0)) := by kernel_rfl
theorem g_abi_BoundsErrorCode : isAgg? Try.prog 6 = some false := by kernel_rfl
theorem u_t7 : Try.prog.underlying 7 = some (TypeDesc.struct #[{ name := "x", type := 2, offset := 0, embedded := false, tag := "", pkgPath := "runtime", byteOffset := 0 }, { name := "y", type := 3, offset := 1, embedded := false, tag := "", pkgPath := "runtime", byteOffset := 8 }, { name := "signed", type := 4, offset := 2, embedded := false, tag := "", pkgPath := "runtime", byteOffset := 16 }, { name := "code", type := 6, offset := 3, embedded := false, tag := "", pkgPath := "runtime", byteOffset := 17 }]) := by kernel_rfl
theorem s_t7 : szOf Try.prog 7 = some 4 := by kernel_rfl
theorem b_t7 : bytesOf Try.prog 7 = some 24 := by kernel_rfl
theorem o_t7 : zeroOf Try.prog 7 = (some (Value.agg #[(Value.int IntKind.i64 0), (Value.int IntKind.i64 0), (Value.bool false), (Value.int IntKind.u8 0)])) := by kernel_rfl
theorem g_t7 : isAgg? Try.prog 7 = some true := by kernel_rfl
theorem u_runtime_boundsError : Try.prog.underlying 8 = some (TypeDesc.struct #[{ name := "x", type := 2, offset := 0, embedded := false, tag := "", pkgPath := "runtime", byteOffset := 0 }, { name := "y", type := 3, offset := 1, embedded := false, tag := "", pkgPath := "runtime", byteOffset := 8 }, { name := "signed", type := 4, offset := 2, embedded := false, tag := "", pkgPath := "runtime", byteOffset := 16 }, { name := "code", type := 6, offset := 3, embedded := false, tag := "", pkgPath := "runtime", byteOffset := 17 }]) := by kernel_rfl
theorem s_runtime_boundsError : szOf Try.prog 8 = some 4 := by kernel_rfl
theorem b_runtime_boundsError : bytesOf Try.prog 8 = some 24 := by kernel_rfl
theorem o_runtime_boundsError : zeroOf Try.prog 8 = (some (Value.agg #[(Value.int IntKind.i64 0), (Value.int IntKind.i64 0), (Value.bool false), (Value.int IntKind.u8 0)])) := by kernel_rfl
theorem g_runtime_boundsError : isAgg? Try.prog 8 = some true := by kernel_rfl
theorem u_string : Try.prog.underlying 9 = some TypeDesc.string := by kernel_rfl
theorem s_string : szOf Try.prog 9 = some 1 := by kernel_rfl
theorem b_string : bytesOf Try.prog 9 = some 16 := by kernel_rfl
theorem o_string : zeroOf Try.prog 9 = (some (Value.string { data := #[] })) := by kernel_rfl
theorem g_string : isAgg? Try.prog 9 = some false := by kernel_rfl
theorem u_runtime_errorString : Try.prog.underlying 10 = some TypeDesc.string := by kernel_rfl
theorem s_runtime_errorString : szOf Try.prog 10 = some 1 := by kernel_rfl
theorem b_runtime_errorString : bytesOf Try.prog 10 = some 16 := by kernel_rfl
theorem o_runtime_errorString : zeroOf Try.prog 10 = (some (Value.string { data := #[] })) := by kernel_rfl
theorem g_runtime_errorString : isAgg? Try.prog 10 = some false := by kernel_rfl
theorem u_runtime_plainError : Try.prog.underlying 11 = some TypeDesc.string := by kernel_rfl
theorem s_runtime_plainError : szOf Try.prog 11 = some 1 := by kernel_rfl
theorem b_runtime_plainError : bytesOf Try.prog 11 = some 16 := by kernel_rfl
theorem o_runtime_plainError : zeroOf Try.prog 11 = (some (Value.string { data := #[] })) := by kernel_rfl
theorem g_runtime_plainError : isAgg? Try.prog 11 = some false := by kernel_rfl
theorem u_uintptr : Try.prog.underlying 12 = some (TypeDesc.int IntKind.u64) := by kernel_rfl
theorem s_uintptr : szOf Try.prog 12 = some 1 := by kernel_rfl
theorem b_uintptr : bytesOf Try.prog 12 = some 8 := by kernel_rfl
theorem o_uintptr : zeroOf Try.prog 12 = (some (Value.int IntKind.u64 0)) := by kernel_rfl
theorem g_uintptr : isAgg? Try.prog 12 = some false := by kernel_rfl
theorem u_t13 : Try.prog.underlying 13 = some (TypeDesc.struct #[{ name := "msg", type := 9, offset := 0, embedded := false, tag := "", pkgPath := "runtime", byteOffset := 0 }, { name := "addr", type := 12, offset := 1, embedded := false, tag := "", pkgPath := "runtime", byteOffset := 16 }]) := by kernel_rfl
theorem s_t13 : szOf Try.prog 13 = some 2 := by kernel_rfl
theorem b_t13 : bytesOf Try.prog 13 = some 24 := by kernel_rfl
theorem o_t13 : zeroOf Try.prog 13 = (some (Value.agg #[(Value.string { data := #[] }), (Value.int IntKind.u64 0)])) := by kernel_rfl
theorem g_t13 : isAgg? Try.prog 13 = some true := by kernel_rfl
theorem u_runtime_errorAddressString : Try.prog.underlying 14 = some (TypeDesc.struct #[{ name := "msg", type := 9, offset := 0, embedded := false, tag := "", pkgPath := "runtime", byteOffset := 0 }, { name := "addr", type := 12, offset := 1, embedded := false, tag := "", pkgPath := "runtime", byteOffset := 16 }]) := by kernel_rfl
theorem s_runtime_errorAddressString : szOf Try.prog 14 = some 2 := by kernel_rfl
theorem b_runtime_errorAddressString : bytesOf Try.prog 14 = some 24 := by kernel_rfl
theorem o_runtime_errorAddressString : zeroOf Try.prog 14 = (some (Value.agg #[(Value.string { data := #[] }), (Value.int IntKind.u64 0)])) := by kernel_rfl
theorem g_runtime_errorAddressString : isAgg? Try.prog 14 = some true := by kernel_rfl
theorem u_P_runtime_TypeAssertionError : Try.prog.underlying 15 = some (TypeDesc.pointer 40) := by kernel_rfl
theorem s_P_runtime_TypeAssertionError : szOf Try.prog 15 = some 1 := by kernel_rfl
theorem b_P_runtime_TypeAssertionError : bytesOf Try.prog 15 = some 8 := by kernel_rfl
theorem o_P_runtime_TypeAssertionError : zeroOf Try.prog 15 = (some (Value.pointer none)) := by kernel_rfl
theorem g_P_runtime_TypeAssertionError : isAgg? Try.prog 15 = some false := by kernel_rfl
theorem u_P_runtime_PanicNilError : Try.prog.underlying 16 = some (TypeDesc.pointer 43) := by kernel_rfl
theorem s_P_runtime_PanicNilError : szOf Try.prog 16 = some 1 := by kernel_rfl
theorem b_P_runtime_PanicNilError : bytesOf Try.prog 16 = some 8 := by kernel_rfl
theorem o_P_runtime_PanicNilError : zeroOf Try.prog 16 = (some (Value.pointer none)) := by kernel_rfl
theorem g_P_runtime_PanicNilError : isAgg? Try.prog 16 = some false := by kernel_rfl
theorem u_P_abi_Type : Try.prog.underlying 17 = some (TypeDesc.pointer 53) := by kernel_rfl
theorem s_P_abi_Type : szOf Try.prog 17 = some 1 := by kernel_rfl
theorem b_P_abi_Type : bytesOf Try.prog 17 = some 8 := by kernel_rfl
theorem o_P_abi_Type : zeroOf Try.prog 17 = (some (Value.pointer none)) := by kernel_rfl
theorem g_P_abi_Type : isAgg? Try.prog 17 = some false := by kernel_rfl
theorem u_t18 : Try.prog.underlying 18 = some (TypeDesc.struct #[{ name := "typ", type := 17, offset := 0, embedded := false, tag := "", pkgPath := "internal/runtime/maps", byteOffset := 0 }]) := by kernel_rfl
theorem s_t18 : szOf Try.prog 18 = some 1 := by kernel_rfl
theorem b_t18 : bytesOf Try.prog 18 = some 8 := by kernel_rfl
theorem o_t18 : zeroOf Try.prog 18 = (some (Value.agg #[(Value.pointer none)])) := by kernel_rfl
theorem g_t18 : isAgg? Try.prog 18 = some true := by kernel_rfl
theorem u_maps_unhashableTypeError : Try.prog.underlying 19 = some (TypeDesc.struct #[{ name := "typ", type := 17, offset := 0, embedded := false, tag := "", pkgPath := "internal/runtime/maps", byteOffset := 0 }]) := by kernel_rfl
theorem s_maps_unhashableTypeError : szOf Try.prog 19 = some 1 := by kernel_rfl
theorem b_maps_unhashableTypeError : bytesOf Try.prog 19 = some 8 := by kernel_rfl
theorem o_maps_unhashableTypeError : zeroOf Try.prog 19 = (some (Value.agg #[(Value.pointer none)])) := by kernel_rfl
theorem g_maps_unhashableTypeError : isAgg? Try.prog 19 = some true := by kernel_rfl
theorem u_int32 : Try.prog.underlying 21 = some (TypeDesc.int IntKind.i32) := by kernel_rfl
theorem s_int32 : szOf Try.prog 21 = some 1 := by kernel_rfl
theorem b_int32 : bytesOf Try.prog 21 = some 4 := by kernel_rfl
theorem o_int32 : zeroOf Try.prog 21 = (some (Value.int IntKind.i32 0)) := by kernel_rfl
theorem g_int32 : isAgg? Try.prog 21 = some false := by kernel_rfl
theorem u_L_int : Try.prog.underlying 22 = some (TypeDesc.slice 3) := by kernel_rfl
theorem s_L_int : szOf Try.prog 22 = some 1 := by kernel_rfl
theorem b_L_int : bytesOf Try.prog 22 = some 24 := by kernel_rfl
theorem o_L_int : zeroOf Try.prog 22 = (some (Value.slice none 0 0)) := by kernel_rfl
theorem g_L_int : isAgg? Try.prog 22 = some false := by kernel_rfl
theorem u_api_Errno : Try.prog.underlying 26 = some (TypeDesc.int IntKind.i64) := by kernel_rfl
theorem s_api_Errno : szOf Try.prog 26 = some 1 := by kernel_rfl
theorem b_api_Errno : bytesOf Try.prog 26 = some 8 := by kernel_rfl
theorem o_api_Errno : zeroOf Try.prog 26 = (some (Value.int IntKind.i64 0)) := by kernel_rfl
theorem g_api_Errno : isAgg? Try.prog 26 = some false := by kernel_rfl
theorem u_A201_int : Try.prog.underlying 30 = some (TypeDesc.array 201 3) := by kernel_rfl
theorem s_A201_int : szOf Try.prog 30 = some 201 := by kernel_rfl
theorem b_A201_int : bytesOf Try.prog 30 = some 1608 := by kernel_rfl
theorem o_A201_int : zeroOf Try.prog 30 = some (.agg (List.replicate 201 (.int .i64 0)).toArray) := by kernel_rfl
theorem g_A201_int : isAgg? Try.prog 30 = some true := by kernel_rfl
theorem u_A7_int : Try.prog.underlying 35 = some (TypeDesc.array 7 3) := by kernel_rfl
theorem s_A7_int : szOf Try.prog 35 = some 7 := by kernel_rfl
theorem b_A7_int : bytesOf Try.prog 35 = some 56 := by kernel_rfl
theorem o_A7_int : zeroOf Try.prog 35 = (some (Value.agg #[(Value.int IntKind.i64 0), (Value.int IntKind.i64 0), (Value.int IntKind.i64 0), (Value.int IntKind.i64 0), (Value.int IntKind.i64 0), (Value.int IntKind.i64 0), (Value.int IntKind.i64 0)])) := by kernel_rfl
theorem g_A7_int : isAgg? Try.prog 35 = some true := by kernel_rfl
theorem u_t39 : Try.prog.underlying 39 = some (TypeDesc.struct #[{ name := "_interface", type := 17, offset := 0, embedded := false, tag := "", pkgPath := "runtime", byteOffset := 0 }, { name := "concrete", type := 17, offset := 1, embedded := false, tag := "", pkgPath := "runtime", byteOffset := 8 }, { name := "asserted", type := 17, offset := 2, embedded := false, tag := "", pkgPath := "runtime", byteOffset := 16 }, { name := "missingMethod", type := 9, offset := 3, embedded := false, tag := "", pkgPath := "runtime", byteOffset := 24 }]) := by kernel_rfl
theorem s_t39 : szOf Try.prog 39 = some 4 := by kernel_rfl
theorem b_t39 : bytesOf Try.prog 39 = some 40 := by kernel_rfl
theorem o_t39 : zeroOf Try.prog 39 = (some (Value.agg #[(Value.pointer none), (Value.pointer none), (Value.pointer none), (Value.string { data := #[] })])) := by kernel_rfl
theorem g_t39 : isAgg? Try.prog 39 = some true := by kernel_rfl
theorem u_runtime_TypeAssertionError : Try.prog.underlying 40 = some (TypeDesc.struct #[{ name := "_interface", type := 17, offset := 0, embedded := false, tag := "", pkgPath := "runtime", byteOffset := 0 }, { name := "concrete", type := 17, offset := 1, embedded := false, tag := "", pkgPath := "runtime", byteOffset := 8 }, { name := "asserted", type := 17, offset := 2, embedded := false, tag := "", pkgPath := "runtime", byteOffset := 16 }, { name := "missingMethod", type := 9, offset := 3, embedded := false, tag := "", pkgPath := "runtime", byteOffset := 24 }]) := by kernel_rfl
theorem s_runtime_TypeAssertionError : szOf Try.prog 40 = some 4 := by kernel_rfl
theorem b_runtime_TypeAssertionError : bytesOf Try.prog 40 = some 40 := by kernel_rfl
theorem o_runtime_TypeAssertionError : zeroOf Try.prog 40 = (some (Value.agg #[(Value.pointer none), (Value.pointer none), (Value.pointer none), (Value.string { data := #[] })])) := by kernel_rfl
theorem g_runtime_TypeAssertionError : isAgg? Try.prog 40 = some true := by kernel_rfl
theorem u_A0_P_runtime_PanicNilError : Try.prog.underlying 41 = some (TypeDesc.array 0 16) := by kernel_rfl
theorem s_A0_P_runtime_PanicNilError : szOf Try.prog 41 = some 0 := by kernel_rfl
theorem b_A0_P_runtime_PanicNilError : bytesOf Try.prog 41 = some 0 := by kernel_rfl
theorem o_A0_P_runtime_PanicNilError : zeroOf Try.prog 41 = (some (Value.agg #[])) := by kernel_rfl
theorem g_A0_P_runtime_PanicNilError : isAgg? Try.prog 41 = some true := by kernel_rfl
theorem u_t42 : Try.prog.underlying 42 = some (TypeDesc.struct #[{ name := "_", type := 41, offset := 0, embedded := false, tag := "", pkgPath := "runtime", byteOffset := 0 }]) := by kernel_rfl
theorem s_t42 : szOf Try.prog 42 = some 0 := by kernel_rfl
theorem b_t42 : bytesOf Try.prog 42 = some 0 := by kernel_rfl
theorem o_t42 : zeroOf Try.prog 42 = (some (Value.agg #[])) := by kernel_rfl
theorem g_t42 : isAgg? Try.prog 42 = some true := by kernel_rfl
theorem u_runtime_PanicNilError : Try.prog.underlying 43 = some (TypeDesc.struct #[{ name := "_", type := 41, offset := 0, embedded := false, tag := "", pkgPath := "runtime", byteOffset := 0 }]) := by kernel_rfl
theorem s_runtime_PanicNilError : szOf Try.prog 43 = some 0 := by kernel_rfl
theorem b_runtime_PanicNilError : bytesOf Try.prog 43 = some 0 := by kernel_rfl
theorem o_runtime_PanicNilError : zeroOf Try.prog 43 = (some (Value.agg #[])) := by kernel_rfl
theorem g_runtime_PanicNilError : isAgg? Try.prog 43 = some true := by kernel_rfl
theorem u_uint32 : Try.prog.underlying 45 = some (TypeDesc.int IntKind.u32) := by kernel_rfl
theorem s_uint32 : szOf Try.prog 45 = some 1 := by kernel_rfl
theorem b_uint32 : bytesOf Try.prog 45 = some 4 := by kernel_rfl
theorem o_uint32 : zeroOf Try.prog 45 = (some (Value.int IntKind.u32 0)) := by kernel_rfl
theorem g_uint32 : isAgg? Try.prog 45 = some false := by kernel_rfl
theorem u_abi_TFlag : Try.prog.underlying 46 = some (TypeDesc.int IntKind.u8) := by kernel_rfl
theorem s_abi_TFlag : szOf Try.prog 46 = some 1 := by kernel_rfl
theorem b_abi_TFlag : bytesOf Try.prog 46 = some 1 := by kernel_rfl
theorem o_abi_TFlag : zeroOf Try.prog 46 = (some (Value.int IntKind.u8 0)) := by kernel_rfl
theorem g_abi_TFlag : isAgg? Try.prog 46 = some false := by kernel_rfl
theorem u_abi_Kind : Try.prog.underlying 47 = some (TypeDesc.int IntKind.u8) := by kernel_rfl
theorem s_abi_Kind : szOf Try.prog 47 = some 1 := by kernel_rfl
theorem b_abi_Kind : bytesOf Try.prog 47 = some 1 := by kernel_rfl
theorem o_abi_Kind : zeroOf Try.prog 47 = (some (Value.int IntKind.u8 0)) := by kernel_rfl
theorem g_abi_Kind : isAgg? Try.prog 47 = some false := by kernel_rfl
theorem u_P_uint8 : Try.prog.underlying 49 = some (TypeDesc.pointer 5) := by kernel_rfl
theorem s_P_uint8 : szOf Try.prog 49 = some 1 := by kernel_rfl
theorem b_P_uint8 : bytesOf Try.prog 49 = some 8 := by kernel_rfl
theorem o_P_uint8 : zeroOf Try.prog 49 = (some (Value.pointer none)) := by kernel_rfl
theorem g_P_uint8 : isAgg? Try.prog 49 = some false := by kernel_rfl
theorem u_abi_NameOff : Try.prog.underlying 50 = some (TypeDesc.int IntKind.i32) := by kernel_rfl
theorem s_abi_NameOff : szOf Try.prog 50 = some 1 := by kernel_rfl
theorem b_abi_NameOff : bytesOf Try.prog 50 = some 4 := by kernel_rfl
theorem o_abi_NameOff : zeroOf Try.prog 50 = (some (Value.int IntKind.i32 0)) := by kernel_rfl
theorem g_abi_NameOff : isAgg? Try.prog 50 = some false := by kernel_rfl
theorem u_abi_TypeOff : Try.prog.underlying 51 = some (TypeDesc.int IntKind.i32) := by kernel_rfl
theorem s_abi_TypeOff : szOf Try.prog 51 = some 1 := by kernel_rfl
theorem b_abi_TypeOff : bytesOf Try.prog 51 = some 4 := by kernel_rfl
theorem o_abi_TypeOff : zeroOf Try.prog 51 = (some (Value.int IntKind.i32 0)) := by kernel_rfl
theorem g_abi_TypeOff : isAgg? Try.prog 51 = some false := by kernel_rfl
theorem u_t52 : Try.prog.underlying 52 = some (TypeDesc.struct #[{ name := "Size_", type := 12, offset := 0, embedded := false, tag := "", pkgPath := "", byteOffset := 0 }, { name := "PtrBytes", type := 12, offset := 1, embedded := false, tag := "", pkgPath := "", byteOffset := 8 }, { name := "Hash", type := 45, offset := 2, embedded := false, tag := "", pkgPath := "", byteOffset := 16 }, { name := "TFlag", type := 46, offset := 3, embedded := false, tag := "", pkgPath := "", byteOffset := 20 }, { name := "Align_", type := 5, offset := 4, embedded := false, tag := "", pkgPath := "", byteOffset := 21 }, { name := "FieldAlign_", type := 5, offset := 5, embedded := false, tag := "", pkgPath := "", byteOffset := 22 }, { name := "Kind_", type := 47, offset := 6, embedded := false, tag := "", pkgPath := "", byteOffset := 23 }, { name := "Equal", type := 48, offset := 7, embedded := false, tag := "", pkgPath := "", byteOffset := 24 }, { name := "GCData", type := 49, offset := 8, embedded := false, tag := "", pkgPath := "", byteOffset := 32 }, { name := "Str", type := 50, offset := 9, embedded := false, tag := "", pkgPath := "", byteOffset := 40 }, { name := "PtrToThis", type := 51, offset := 10, embedded := false, tag := "", pkgPath := "", byteOffset := 44 }]) := by kernel_rfl
theorem s_t52 : szOf Try.prog 52 = some 11 := by kernel_rfl
theorem b_t52 : bytesOf Try.prog 52 = some 48 := by kernel_rfl
theorem o_t52 : zeroOf Try.prog 52 = (some (Value.agg #[(Value.int IntKind.u64 0), (Value.int IntKind.u64 0), (Value.int IntKind.u32 0), (Value.int IntKind.u8 0), (Value.int IntKind.u8 0), (Value.int IntKind.u8 0), (Value.int IntKind.u8 0), Value.nilFunc, (Value.pointer none), (Value.int IntKind.i32 0), (Value.int IntKind.i32 0)])) := by kernel_rfl
theorem g_t52 : isAgg? Try.prog 52 = some true := by kernel_rfl
theorem u_abi_Type : Try.prog.underlying 53 = some (TypeDesc.struct #[{ name := "Size_", type := 12, offset := 0, embedded := false, tag := "", pkgPath := "", byteOffset := 0 }, { name := "PtrBytes", type := 12, offset := 1, embedded := false, tag := "", pkgPath := "", byteOffset := 8 }, { name := "Hash", type := 45, offset := 2, embedded := false, tag := "", pkgPath := "", byteOffset := 16 }, { name := "TFlag", type := 46, offset := 3, embedded := false, tag := "", pkgPath := "", byteOffset := 20 }, { name := "Align_", type := 5, offset := 4, embedded := false, tag := "", pkgPath := "", byteOffset := 21 }, { name := "FieldAlign_", type := 5, offset := 5, embedded := false, tag := "", pkgPath := "", byteOffset := 22 }, { name := "Kind_", type := 47, offset := 6, embedded := false, tag := "", pkgPath := "", byteOffset := 23 }, { name := "Equal", type := 48, offset := 7, embedded := false, tag := "", pkgPath := "", byteOffset := 24 }, { name := "GCData", type := 49, offset := 8, embedded := false, tag := "", pkgPath := "", byteOffset := 32 }, { name := "Str", type := 50, offset := 9, embedded := false, tag := "", pkgPath := "", byteOffset := 40 }, { name := "PtrToThis", type := 51, offset := 10, embedded := false, tag := "", pkgPath := "", byteOffset := 44 }]) := by kernel_rfl
theorem s_abi_Type : szOf Try.prog 53 = some 11 := by kernel_rfl
theorem b_abi_Type : bytesOf Try.prog 53 = some 48 := by kernel_rfl
theorem o_abi_Type : zeroOf Try.prog 53 = (some (Value.agg #[(Value.int IntKind.u64 0), (Value.int IntKind.u64 0), (Value.int IntKind.u32 0), (Value.int IntKind.u8 0), (Value.int IntKind.u8 0), (Value.int IntKind.u8 0), (Value.int IntKind.u8 0), Value.nilFunc, (Value.pointer none), (Value.int IntKind.i32 0), (Value.int IntKind.i32 0)])) := by kernel_rfl
theorem g_abi_Type : isAgg? Try.prog 53 = some true := by kernel_rfl
theorem u_unsafe_Pointer : Try.prog.underlying 54 = some TypeDesc.unsafePointer := by kernel_rfl
theorem s_unsafe_Pointer : szOf Try.prog 54 = some 1 := by kernel_rfl
theorem b_unsafe_Pointer : bytesOf Try.prog 54 = some 8 := by kernel_rfl
theorem o_unsafe_Pointer : zeroOf Try.prog 54 = (some (Value.pointer none)) := by kernel_rfl
theorem g_unsafe_Pointer : isAgg? Try.prog 54 = some false := by kernel_rfl
theorem bs_L_int_0 (S : AHeap) : vBuildSlice Try.prog 22 0 [] S = some (sv 2 1 0 [], S) := by kernel_rfl
theorem bs_L_int_1 (x0 : Int) (S : AHeap) : vBuildSlice Try.prog 22 1 [(0, .int IntKind.i64 x0)] S = some (sv 2 1 1 [.int IntKind.i64 x0], S) := by kernel_rfl
theorem bs_L_int_2 (x0 x1 : Int) (S : AHeap) : vBuildSlice Try.prog 22 2 [(0, .int IntKind.i64 x0), (1, .int IntKind.i64 x1)] S = some (sv 2 1 2 [.int IntKind.i64 x0, .int IntKind.i64 x1], S) := by kernel_rfl
theorem bs_L_int_3 (x0 x1 x2 : Int) (S : AHeap) : vBuildSlice Try.prog 22 3 [(0, .int IntKind.i64 x0), (1, .int IntKind.i64 x1), (2, .int IntKind.i64 x2)] S = some (sv 2 1 3 [.int IntKind.i64 x0, .int IntKind.i64 x1, .int IntKind.i64 x2], S) := by kernel_rfl
theorem bs_L_int_7 (x0 x1 x2 x3 x4 x5 x6 : Int) (S : AHeap) : vBuildSlice Try.prog 22 7 [(0, .int IntKind.i64 x0), (1, .int IntKind.i64 x1), (2, .int IntKind.i64 x2), (3, .int IntKind.i64 x3), (4, .int IntKind.i64 x4), (5, .int IntKind.i64 x5), (6, .int IntKind.i64 x6)] S = some (sv 2 1 7 [.int IntKind.i64 x0, .int IntKind.i64 x1, .int IntKind.i64 x2, .int IntKind.i64 x3, .int IntKind.i64 x4, .int IntKind.i64 x5, .int IntKind.i64 x6], S) := by kernel_rfl
theorem iz_len {k : Nat} {l : List Int} {S : AHeap} (h : Okl k l) : vLen Try.prog 22 (iz k l) S = some (goInt l.length, S) := vs_len u_L_int h
theorem iz_at {k : Nat} {l : List Int} {S : AHeap} {ki : IntKind} {i : Int} (h : Okl k l) (h0 : 0 ≤ i) (hi : i < l.length) : vIndexAddr Try.prog 22 (iz k l) (.int ki i) S = some (EP [.int .i64 (l[i.toNat]'(by omega))], S) := vs_at u_L_int s_int ci_len h h0 hi
theorem iz_load {fx : Bool} {v : Value} {S : AHeap} : vLoad Try.prog fx 3 (EP [v]) S = some (v, S) := vLoad_one g_int
theorem iz_slice {k : Nat} {l : List Int} {S : AHeap} {lo hi : Option Value} {i j : Int} (h : Okl k l) (hlo : intOr 0 lo = some i) (hhi : intOr l.length hi = some j) (h0 : 0 ≤ i) (hij : i ≤ j) (hj : j ≤ l.length) : vSlice Try.prog 22 (iz k l) lo hi S = some (iz (if k = 2 then 1 else k) ((l.drop i.toNat).take (j.toNat - i.toNat)), S) := vs_slice u_L_int s_int ci_len h hlo hhi h0 hij hj
theorem iz_append {k : Nat} {l : List Int} {S : AHeap} {j : Nat} {m : List Int} (h : Okl k l) (hk : k ≠ 1) (hm : Okl j m) (hl : l.length + m.length ≤ 17592186044416) : vAppend Try.prog 22 22 (iz k l) (iz j m) S = some (iz (if k = 0 ∧ m.length = 0 then 0 else 2) (l ++ m), S) := vs_append u_L_int s_int o_int rfl b_int (by omega) u_L_int ci_len ci_one h hk hm (by omega) (by omega)
theorem iz_copy {k : Nat} {l : List Int} {S : AHeap} (h : Okl k l) (hl : l.length ≤ 17592186044416) : vAppend Try.prog 22 22 (iz 2 []) (iz k l) S = some (iz 2 l, S) := by
  rw [iz_append Okl.own (by decide) h (by simpa using hl)]; rfl
theorem iz_isNil {k : Nat} {l : List Int} {S : AHeap} (h : Okl k l) : vBin Try.prog .eql 22 (iz k l) (.slice none 0 0) S = some (.bool (decide (k = 0)), S) := vs_isNil u_L_int h
/-- The walk's laws. -/
theorem wk : type_of% (And.intro @vcodeV_seq (And.intro @vcodeV_region (And.intro @vcodeV_block (And.intro @vcodeV_skip (And.intro @vcodeV_ret (And.intro @vcodeV_exit (And.intro @vcodeV_cond (And.intro @vcodeV_loop (And.intro @andThen_some (And.intro @regV_some (And.intro @seqV_normal (And.intro @seqV_exit (And.intro @seqV_ret (And.intro @blockV_normal (And.intro @blockV_ret (And.intro @blockV_exit (And.intro @condK_true (And.intro @condK_false (And.intro @andK_some (And.intro @gdK_tt (And.intro @gdK_ff (And.intro @gdK_tf (And.intro @gdK_ft (And.intro @gdK_ut (And.intro @gdCK_tt (And.intro @gdCK_ff (And.intro @gdCK_tf (And.intro @gdCK_ft (And.intro @gdCK_ut (And.intro @ckK_true (And.intro @stillQ_undef (And.intro @stillQ_EP (And.intro @Bool.and_true (And.intro @Bool.true_and (And.intro @Bool.and_self (And.intro @okK_bool (And.intro @okK_int (And.intro @okK_string (And.intro @okK_slice (And.intro @okK_pointer (And.intro @okK_SL (And.intro @okK_EP (And.intro @okK_sv (And.intro @okK_vs (And.intro @gd_tt (And.intro @gd_ff (And.intro @gd_tf (And.intro @gd_ft (And.intro @gd_ut (And.intro @gdC_tt (And.intro @gdC_ff (And.intro @gdC_tf (And.intro @gdC_ft (And.intro @gdC_ut (And.intro @ret_run (And.intro @vPick_bool (And.intro @Bool.false_eq_true (And.intro @okC_bool (And.intro @okC_int (And.intro @okC_string (And.intro @okC_slice (And.intro @okC_iface (And.intro @okC_vs (And.intro @okC_sv (And.intro @okC_EP (And.intro @dem_undef (And.intro @dem_int (And.intro @dem_bool (And.intro @dem_string (And.intro @dem_nil (And.intro @dem_agg (And.intro @dem_func (And.intro @dem_pointer (And.intro @dem_slice (And.intro @dem_map (And.intro @dem_vs (And.intro @dem_sv (And.intro @dem_dem (And.intro @vBin_int (And.intro @vBin_string (And.intro @vBin_bool (And.intro @vConv_int (And.intro @vConvF_int (And.intro @vConvF_string (And.intro @vConvF_stringH (And.intro @vConvF_sv (And.intro @vConvF_vs (And.intro @vSliceF_sv (And.intro @vSliceF_vs (And.intro @vSliceF_string (And.intro @vcodeV_regionH (And.intro @vExtract_tuple (And.intro @aBin_add (And.intro @aBin_sub (And.intro @aBin_mul (And.intro @aBin_eql (And.intro @aBin_neq (And.intro @aBin_lss (And.intro @aBin_leq (And.intro @aBin_gtr (And.intro @aBin_geq (And.intro @aUn_not (And.intro @Bool.not_true (And.intro @Bool.not_false (And.intro @Bool.true_eq_false (And.intro @decide_true (And.intro @decide_false (And.intro @exd_0_1 (And.intro @exd_0_2 (And.intro @exd_1_2 (And.intro @exd_0_3 (And.intro @exd_1_3 (And.intro @exd_2_3 (And.intro @exd_0_4 (And.intro @exd_1_4 (And.intro @exd_2_4 (And.intro @exd_3_4 (And.intro @exd_0_5 (And.intro @exd_1_5 (And.intro @exd_2_5 (And.intro @exd_3_5 (@exd_4_5)))))))))))))))))))))))))))))))))))))))))))))))))))))))))))))))))))))))))))))))))))))))))))))))))))))))))))))))))))))))))) := And.intro @vcodeV_seq (And.intro @vcodeV_region (And.intro @vcodeV_block (And.intro @vcodeV_skip (And.intro @vcodeV_ret (And.intro @vcodeV_exit (And.intro @vcodeV_cond (And.intro @vcodeV_loop (And.intro @andThen_some (And.intro @regV_some (And.intro @seqV_normal (And.intro @seqV_exit (And.intro @seqV_ret (And.intro @blockV_normal (And.intro @blockV_ret (And.intro @blockV_exit (And.intro @condK_true (And.intro @condK_false (And.intro @andK_some (And.intro @gdK_tt (And.intro @gdK_ff (And.intro @gdK_tf (And.intro @gdK_ft (And.intro @gdK_ut (And.intro @gdCK_tt (And.intro @gdCK_ff (And.intro @gdCK_tf (And.intro @gdCK_ft (And.intro @gdCK_ut (And.intro @ckK_true (And.intro @stillQ_undef (And.intro @stillQ_EP (And.intro @Bool.and_true (And.intro @Bool.true_and (And.intro @Bool.and_self (And.intro @okK_bool (And.intro @okK_int (And.intro @okK_string (And.intro @okK_slice (And.intro @okK_pointer (And.intro @okK_SL (And.intro @okK_EP (And.intro @okK_sv (And.intro @okK_vs (And.intro @gd_tt (And.intro @gd_ff (And.intro @gd_tf (And.intro @gd_ft (And.intro @gd_ut (And.intro @gdC_tt (And.intro @gdC_ff (And.intro @gdC_tf (And.intro @gdC_ft (And.intro @gdC_ut (And.intro @ret_run (And.intro @vPick_bool (And.intro @Bool.false_eq_true (And.intro @okC_bool (And.intro @okC_int (And.intro @okC_string (And.intro @okC_slice (And.intro @okC_iface (And.intro @okC_vs (And.intro @okC_sv (And.intro @okC_EP (And.intro @dem_undef (And.intro @dem_int (And.intro @dem_bool (And.intro @dem_string (And.intro @dem_nil (And.intro @dem_agg (And.intro @dem_func (And.intro @dem_pointer (And.intro @dem_slice (And.intro @dem_map (And.intro @dem_vs (And.intro @dem_sv (And.intro @dem_dem (And.intro @vBin_int (And.intro @vBin_string (And.intro @vBin_bool (And.intro @vConv_int (And.intro @vConvF_int (And.intro @vConvF_string (And.intro @vConvF_stringH (And.intro @vConvF_sv (And.intro @vConvF_vs (And.intro @vSliceF_sv (And.intro @vSliceF_vs (And.intro @vSliceF_string (And.intro @vcodeV_regionH (And.intro @vExtract_tuple (And.intro @aBin_add (And.intro @aBin_sub (And.intro @aBin_mul (And.intro @aBin_eql (And.intro @aBin_neq (And.intro @aBin_lss (And.intro @aBin_leq (And.intro @aBin_gtr (And.intro @aBin_geq (And.intro @aUn_not (And.intro @Bool.not_true (And.intro @Bool.not_false (And.intro @Bool.true_eq_false (And.intro @decide_true (And.intro @decide_false (And.intro @exd_0_1 (And.intro @exd_0_2 (And.intro @exd_1_2 (And.intro @exd_0_3 (And.intro @exd_1_3 (And.intro @exd_2_3 (And.intro @exd_0_4 (And.intro @exd_1_4 (And.intro @exd_2_4 (And.intro @exd_3_4 (And.intro @exd_0_5 (And.intro @exd_1_5 (And.intro @exd_2_5 (And.intro @exd_3_5 (@exd_4_5)))))))))))))))))))))))))))))))))))))))))))))))))))))))))))))))))))))))))))))))))))))))))))))))))))))))))))))))))))))))))
end Go.Proofs.Ytooljmmlekmkeaa
