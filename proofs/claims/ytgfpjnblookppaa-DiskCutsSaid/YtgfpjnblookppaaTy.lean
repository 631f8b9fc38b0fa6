/-
What the program says of its types. Printed by a program; Lean checks each row.
-/
import Derived.Test.YtgfpjnblookppaaChecked
import Derived.Test.YtgfpjnblookppaaValB
import Derived.KernelRfl
set_option linter.unusedVariables false
set_option maxRecDepth 100000
namespace Go.Proofs.Ytgfpjnblookppaa
open Go.Abs
theorem u_int64 : Try.prog.underlying 2 = some (TypeDesc.int IntKind.i64) := by kernel_rfl
theorem s_int64 : szOf Try.prog 2 = some 1 := by kernel_rfl
theorem b_int64 : bytesOf Try.prog 2 = some 8 := by kernel_rfl
theorem o_int64 : zeroOf Try.prog 2 = (some (Value.int IntKind.i64 0)) := by kernel_rfl
theorem g_int64 : isAgg? Try.prog 2 = some false := by kernel_rfl
theorem u_int : Try.prog.underlying 3 = some (TypeDesc.int IntKind.i64) := by kernel_rfl
theorem s_int : szOf Try.prog 3 = some 1 := by kernel_rfl
theorem b_int : bytesOf Try.prog 3 = some 8 := by kernel_rfl
theorem o_int : zeroOf Try.prog 3 = (some (Value.int IntKind.i64 0)) := by kernel_rfl
theorem g_int : isAgg? Try.prog 3 = some false := by kernel_rfl
theorem u_bool : Try.prog.underlying 4 = some TypeDesc.bool := by kernel_rfl
theorem s_bool : szOf Try.prog 4 = some 1 := by kernel_rfl
theorem b_bool : bytesOf Try.prog 4 = some 1 := by kernel_rfl
theorem o_bool : zeroOf Try.prog 4 = (some (Value.bool false)) := by kernel_rfl
theorem g_bool : isAgg? Try.prog 4 = some false := by kernel_rfl
theorem u_uint8 : Try.prog.underlying 5 = some (TypeDesc.int IntKind.u8) := by kernel_rfl
theorem s_uint8 : szOf Try.prog 5 = some 1 := by kernel_rfl
theorem b_uint8 : bytesOf Try.prog 5 = some 1 := by kernel_rfl
theorem o_uint8 : zeroOf Try.prog 5 = (some (Value.int IntKind.u8 0)) := by kernel_rfl
theorem g_uint8 : isAgg? Try.prog 5 = some false := by kernel_rfl
theorem u_abi_BoundsErrorCode : Try.prog.underlying 6 = some (TypeDesc.int IntKind.u8) := by kernel_rfl
theorem s_abi_BoundsErrorCode : szOf Try.prog 6 = some 1 := by kernel_rfl
theorem b_abi_BoundsErrorCode : bytesOf Try.prog 6 = some 1 := by kernel_rfl
theorem o_abi_BoundsErrorCode : zeroOf Try.prog 6 = (some (Value.int IntKind.u8 0)) := by kernel_rfl
theorem g_abi_BoundsErrorCode : isAgg? Try.prog 6 = some false := by kernel_rfl
theorem u_t7 : Try.prog.underlying 7 = some (TypeDesc.struct #[{ name := "x", type := 2, offset := 0, embedded := false, tag := "", pkgPath := "runtime", byteOffset := 0 }, { name := "y", type := 3, offset := 1, embedded := false, tag := "", pkgPath := "runtime", byteOffset := 8 }, { name := "signed", type := 4, offset := 2, embedded := false, tag := "", pkgPath := "runtime", byteOffset := 16 }, { name := "code", type := 6, offset := 3, embedded := false, tag := "", pkgPath := "runtime", byteOffset := 17 }]) := by kernel_rfl
theorem s_t7 : szOf Try.prog 7 = some 4 := by kernel_rfl
theorem b_t7 : bytesOf Try.prog 7 = some 24 := by kernel_rfl
theorem o_t7 : zeroOf Try.prog 7 = (some (Value.agg #[(Value.int IntKind.i64 0), (Value.int IntKind.i64 0), (Value.bool false), (Value.int IntKind.u8 0)])) := by kernel_rfl
theorem g_t7 : isAgg? Try.prog 7 = some true := by kernel_rfl
theorem u_runtime_boundsError : Try.prog.underlying 8 = some (TypeDesc.struct #[{ name := "x", type := 2, offset := 0, embedded := false, tag := "", pkgPath := "runtime", byteOffset := 0 }, { name := "y", type := 3, offset := 1, embedded := false, tag := "", pkgPath := "runtime", byteOffset := 8 }, { name := "signed", type := 4, offset := 2, embedded := false, tag := "", pkgPath := "runtime", byteOffset := 16 }, { name := "code", type := 6, offset := 3, embedded := false, tag := "", pkgPath := "runtime", byteOffset := 17 }]) := by kernel_rfl
theorem s_runtime_boundsError : szOf Try.prog 8 = some 4 := by kernel_rfl
theorem b_runtime_boundsError : bytesOf Try.prog 8 = some 24 := by kernel_rfl
theorem o_runtime_boundsError : zeroOf Try.prog 8 = (some (Value.agg #[(Value.int IntKind.i64 0), (Value.int IntKind.i64 0), (Value.bool false), (Value.int IntKind.u8 0)])) := by kernel_rfl
theorem g_runtime_boundsError : isAgg? Try.prog 8 = some true := by kernel_rfl
theorem u_string : Try.prog.underlying 9 = some TypeDesc.string := by kernel_rfl
theorem s_string : szOf Try.prog 9 = some 1 := by kernel_rfl
theorem b_string : bytesOf Try.prog 9 = some 16 := by kernel_rfl
theorem o_string : zeroOf Try.prog 9 = (some (Value.string { data := #[] })) := by kernel_rfl
theorem g_string : isAgg? Try.prog 9 = some false := by kernel_rfl
theorem u_runtime_errorString : Try.prog.underlying 10 = some TypeDesc.string := by kernel_rfl
theorem s_runtime_errorString : szOf Try.prog 10 = some 1 := by kernel_rfl
theorem b_runtime_errorString : bytesOf Try.prog 10 = some 16 := by kernel_rfl
theorem o_runtime_errorString : zeroOf Try.prog 10 = (some (Value.string { data := #[] })) := by kernel_rfl
theorem g_runtime_errorString : isAgg? Try.prog 10 = some false := by kernel_rfl
theorem u_runtime_plainError : Try.prog.underlying 11 = some TypeDesc.string := by kernel_rfl
theorem s_runtime_plainError : szOf Try.prog 11 = some 1 := by kernel_rfl
theorem b_runtime_plainError : bytesOf Try.prog 11 = some 16 := by kernel_rfl
theorem o_runtime_plainError : zeroOf Try.prog 11 = (some (Value.string { data := #[] })) := by kernel_rfl
theorem g_runtime_plainError : isAgg? Try.prog 11 = some false := by kernel_rfl
theorem u_uintptr : Try.prog.underlying 12 = some (TypeDesc.int IntKind.u64) := by kernel_rfl
theorem s_uintptr : szOf Try.prog 12 = some 1 := by kernel_rfl
theorem b_uintptr : bytesOf Try.prog 12 = some 8 := by kernel_rfl
theorem o_uintptr : zeroOf Try.prog 12 = (some (Value.int IntKind.u64 0)) := by kernel_rfl
theorem g_uintptr : isAgg? Try.prog 12 = some false := by kernel_rfl
theorem u_t13 : Try.prog.underlying 13 = some (TypeDesc.struct #[{ name := "msg", type := 9, offset := 0, embedded := false, tag := "", pkgPath := "runtime", byteOffset := 0 }, { name := "addr", type := 12, offset := 1, embedded := false, tag := "", pkgPath := "runtime", byteOffset := 16 }]) := by kernel_rfl
theorem s_t13 : szOf Try.prog 13 = some 2 := by kernel_rfl
theorem b_t13 : bytesOf Try.prog 13 = some 24 := by kernel_rfl
theorem o_t13 : zeroOf Try.prog 13 = (some (Value.agg #[(Value.string { data := #[] }), (Value.int IntKind.u64 0)])) := by kernel_rfl
theorem g_t13 : isAgg? Try.prog 13 = some true := by kernel_rfl
theorem u_runtime_errorAddressString : Try.prog.underlying 14 = some (TypeDesc.struct #[{ name := "msg", type := 9, offset := 0, embedded := false, tag := "", pkgPath := "runtime", byteOffset := 0 }, { name := "addr", type := 12, offset := 1, embedded := false, tag := "", pkgPath := "runtime", byteOffset := 16 }]) := by kernel_rfl
theorem s_runtime_errorAddressString : szOf Try.prog 14 = some 2 := by kernel_rfl
theorem b_runtime_errorAddressString : bytesOf Try.prog 14 = some 24 := by kernel_rfl
theorem o_runtime_errorAddressString : zeroOf Try.prog 14 = (some (Value.agg #[(Value.string { data := #[] }), (Value.int IntKind.u64 0)])) := by kernel_rfl
theorem g_runtime_errorAddressString : isAgg? Try.prog 14 = some true := by kernel_rfl
theorem u_P_runtime_TypeAssertionError : Try.prog.underlying 15 = some (TypeDesc.pointer 52) := by kernel_rfl
theorem s_P_runtime_TypeAssertionError : szOf Try.prog 15 = some 1 := by kernel_rfl
theorem b_P_runtime_TypeAssertionError : bytesOf Try.prog 15 = some 8 := by kernel_rfl
theorem o_P_runtime_TypeAssertionError : zeroOf Try.prog 15 = (some (Value.pointer none)) := by kernel_rfl
theorem g_P_runtime_TypeAssertionError : isAgg? Try.prog 15 = some false := by kernel_rfl
theorem u_P_runtime_PanicNilError : Try.prog.underlying 16 = some (TypeDesc.pointer 55) := by kernel_rfl
theorem s_P_runtime_PanicNilError : szOf Try.prog 16 = some 1 := by kernel_rfl
theorem b_P_runtime_PanicNilError : bytesOf Try.prog 16 = some 8 := by kernel_rfl
theorem o_P_runtime_PanicNilError : zeroOf Try.prog 16 = (some (Value.pointer none)) := by kernel_rfl
theorem g_P_runtime_PanicNilError : isAgg? Try.prog 16 = some false := by kernel_rfl
theorem u_P_abi_Type : Try.prog.underlying 17 = some (TypeDesc.pointer 64) := by kernel_rfl
theorem s_P_abi_Type : szOf Try.prog 17 = some 1 := by kernel_rfl
theorem b_P_abi_Type : bytesOf Try.prog 17 = some 8 := by kernel_rfl
theorem o_P_abi_Type : zeroOf Try.prog 17 = (some (Value.pointer none)) := by kernel_rfl
theorem g_P_abi_Type : isAgg? Try.prog 17 = some false := by kernel_rfl
theorem u_t18 : Try.prog.underlying 18 = some (TypeDesc.struct #[{ name := "typ", type := 17, offset := 0, embedded := false, tag := "", pkgPath := "internal/runtime/maps", byteOffset := 0 }]) := by kernel_rfl
theorem s_t18 : szOf Try.prog 18 = some 1 := by kernel_rfl
theorem b_t18 : bytesOf Try.prog 18 = some 8 := by kernel_rfl
theorem o_t18 : zeroOf Try.prog 18 = (some (Value.agg #[(Value.pointer none)])) := by kernel_rfl
theorem g_t18 : isAgg? Try.prog 18 = some true := by kernel_rfl
theorem u_maps_unhashableTypeError : Try.prog.underlying 19 = some (TypeDesc.struct #[{ name := "typ", type := 17, offset := 0, embedded := false, tag := "", pkgPath := "internal/runtime/maps", byteOffset := 0 }]) := by kernel_rfl
theorem s_maps_unhashableTypeError : szOf Try.prog 19 = some 1 := by kernel_rfl
theorem b_maps_unhashableTypeError : bytesOf Try.prog 19 = some 8 := by kernel_rfl
theorem o_maps_unhashableTypeError : zeroOf Try.prog 19 = (some (Value.agg #[(Value.pointer none)])) := by kernel_rfl
theorem g_maps_unhashableTypeError : isAgg? Try.prog 19 = some true := by kernel_rfl
theorem u_int32 : Try.prog.underlying 21 = some (TypeDesc.int IntKind.i32) := by kernel_rfl
theorem s_int32 : szOf Try.prog 21 = some 1 := by kernel_rfl
theorem b_int32 : bytesOf Try.prog 21 = some 4 := by kernel_rfl
theorem o_int32 : zeroOf Try.prog 21 = (some (Value.int IntKind.i32 0)) := by kernel_rfl
theorem g_int32 : isAgg? Try.prog 21 = some false := by kernel_rfl
theorem u_api_Errno : Try.prog.underlying 23 = some (TypeDesc.int IntKind.i64) := by kernel_rfl
theorem s_api_Errno : szOf Try.prog 23 = some 1 := by kernel_rfl
theorem b_api_Errno : bytesOf Try.prog 23 = some 8 := by kernel_rfl
theorem o_api_Errno : zeroOf Try.prog 23 = (some (Value.int IntKind.i64 0)) := by kernel_rfl
theorem g_api_Errno : isAgg? Try.prog 23 = some false := by kernel_rfl
theorem u_P_disk_Disk : Try.prog.underlying 24 = some (TypeDesc.pointer 49) := by kernel_rfl
theorem s_P_disk_Disk : szOf Try.prog 24 = some 1 := by kernel_rfl
theorem b_P_disk_Disk : bytesOf Try.prog 24 = some 8 := by kernel_rfl
theorem o_P_disk_Disk : zeroOf Try.prog 24 = (some (Value.pointer none)) := by kernel_rfl
theorem g_P_disk_Disk : isAgg? Try.prog 24 = some false := by kernel_rfl
theorem u_L_uint8 : Try.prog.underlying 27 = some (TypeDesc.slice 5) := by kernel_rfl
theorem s_L_uint8 : szOf Try.prog 27 = some 1 := by kernel_rfl
theorem b_L_uint8 : bytesOf Try.prog 27 = some 24 := by kernel_rfl
theorem o_L_uint8 : zeroOf Try.prog 27 = (some (Value.slice none 0 0)) := by kernel_rfl
theorem g_L_uint8 : isAgg? Try.prog 27 = some false := by kernel_rfl
theorem u_L_neaptidelaw04_Act : Try.prog.underlying 29 = some (TypeDesc.slice 31) := by kernel_rfl
theorem s_L_neaptidelaw04_Act : szOf Try.prog 29 = some 1 := by kernel_rfl
theorem b_L_neaptidelaw04_Act : bytesOf Try.prog 29 = some 24 := by kernel_rfl
theorem o_L_neaptidelaw04_Act : zeroOf Try.prog 29 = (some (Value.slice none 0 0)) := by kernel_rfl
theorem g_L_neaptidelaw04_Act : isAgg? Try.prog 29 = some false := by kernel_rfl
theorem u_t30 : Try.prog.underlying 30 = some (TypeDesc.struct #[{ name := "Kind", type := 3, offset := 0, embedded := false, tag := "", pkgPath := "", byteOffset := 0 }, { name := "N", type := 3, offset := 1, embedded := false, tag := "", pkgPath := "", byteOffset := 8 }, { name := "Data", type := 27, offset := 2, embedded := false, tag := "", pkgPath := "", byteOffset := 16 }]) := by kernel_rfl
theorem s_t30 : szOf Try.prog 30 = some 3 := by kernel_rfl
theorem b_t30 : bytesOf Try.prog 30 = some 40 := by kernel_rfl
theorem o_t30 : zeroOf Try.prog 30 = (some (Value.agg #[(Value.int IntKind.i64 0), (Value.int IntKind.i64 0), (Value.slice none 0 0)])) := by kernel_rfl
theorem g_t30 : isAgg? Try.prog 30 = some true := by kernel_rfl
theorem u_neaptidelaw04_Act : Try.prog.underlying 31 = some (TypeDesc.struct #[{ name := "Kind", type := 3, offset := 0, embedded := false, tag := "", pkgPath := "", byteOffset := 0 }, { name := "N", type := 3, offset := 1, embedded := false, tag := "", pkgPath := "", byteOffset := 8 }, { name := "Data", type := 27, offset := 2, embedded := false, tag := "", pkgPath := "", byteOffset := 16 }]) := by kernel_rfl
theorem s_neaptidelaw04_Act : szOf Try.prog 31 = some 3 := by kernel_rfl
theorem b_neaptidelaw04_Act : bytesOf Try.prog 31 = some 40 := by kernel_rfl
theorem o_neaptidelaw04_Act : zeroOf Try.prog 31 = (some (Value.agg #[(Value.int IntKind.i64 0), (Value.int IntKind.i64 0), (Value.slice none 0 0)])) := by kernel_rfl
theorem g_neaptidelaw04_Act : isAgg? Try.prog 31 = some true := by kernel_rfl
theorem u_L_L_uint8 : Try.prog.underlying 35 = some (TypeDesc.slice 27) := by kernel_rfl
theorem s_L_L_uint8 : szOf Try.prog 35 = some 1 := by kernel_rfl
theorem b_L_L_uint8 : bytesOf Try.prog 35 = some 24 := by kernel_rfl
theorem o_L_L_uint8 : zeroOf Try.prog 35 = (some (Value.slice none 0 0)) := by kernel_rfl
theorem g_L_L_uint8 : isAgg? Try.prog 35 = some false := by kernel_rfl
theorem u_A2_int : Try.prog.underlying 37 = some (TypeDesc.array 2 3) := by kernel_rfl
theorem s_A2_int : szOf Try.prog 37 = some 2 := by kernel_rfl
theorem b_A2_int : bytesOf Try.prog 37 = some 16 := by kernel_rfl
theorem o_A2_int : zeroOf Try.prog 37 = (some (Value.agg #[(Value.int IntKind.i64 0), (Value.int IntKind.i64 0)])) := by kernel_rfl
theorem g_A2_int : isAgg? Try.prog 37 = some true := by kernel_rfl
theorem u_t39 : Try.prog.underlying 39 = some (TypeDesc.struct #[{ name := "Data", type := 27, offset := 0, embedded := false, tag := "", pkgPath := "", byteOffset := 0 }, { name := "Synced", type := 3, offset := 1, embedded := false, tag := "", pkgPath := "", byteOffset := 24 }, { name := "Limit", type := 3, offset := 2, embedded := false, tag := "", pkgPath := "", byteOffset := 32 }]) := by kernel_rfl
theorem s_t39 : szOf Try.prog 39 = some 3 := by kernel_rfl
theorem b_t39 : bytesOf Try.prog 39 = some 40 := by kernel_rfl
theorem o_t39 : zeroOf Try.prog 39 = (some (Value.agg #[(Value.slice none 0 0), (Value.int IntKind.i64 0), (Value.int IntKind.i64 0)])) := by kernel_rfl
theorem g_t39 : isAgg? Try.prog 39 = some true := by kernel_rfl
theorem u_neaptideref04_Disk : Try.prog.underlying 40 = some (TypeDesc.struct #[{ name := "Data", type := 27, offset := 0, embedded := false, tag := "", pkgPath := "", byteOffset := 0 }, { name := "Synced", type := 3, offset := 1, embedded := false, tag := "", pkgPath := "", byteOffset := 24 }, { name := "Limit", type := 3, offset := 2, embedded := false, tag := "", pkgPath := "", byteOffset := 32 }]) := by kernel_rfl
theorem s_neaptideref04_Disk : szOf Try.prog 40 = some 3 := by kernel_rfl
theorem b_neaptideref04_Disk : bytesOf Try.prog 40 = some 40 := by kernel_rfl
theorem o_neaptideref04_Disk : zeroOf Try.prog 40 = (some (Value.agg #[(Value.slice none 0 0), (Value.int IntKind.i64 0), (Value.int IntKind.i64 0)])) := by kernel_rfl
theorem g_neaptideref04_Disk : isAgg? Try.prog 40 = some true := by kernel_rfl
theorem u_t48 : Try.prog.underlying 48 = some (TypeDesc.struct #[{ name := "data", type := 27, offset := 0, embedded := false, tag := "", pkgPath := "neaptide/disk", byteOffset := 0 }, { name := "synced", type := 3, offset := 1, embedded := false, tag := "", pkgPath := "neaptide/disk", byteOffset := 24 }, { name := "room", type := 3, offset := 2, embedded := false, tag := "", pkgPath := "neaptide/disk", byteOffset := 32 }]) := by kernel_rfl
theorem s_t48 : szOf Try.prog 48 = some 3 := by kernel_rfl
theorem b_t48 : bytesOf Try.prog 48 = some 40 := by kernel_rfl
theorem o_t48 : zeroOf Try.prog 48 = (some (Value.agg #[(Value.slice none 0 0), (Value.int IntKind.i64 0), (Value.int IntKind.i64 0)])) := by kernel_rfl
theorem g_t48 : isAgg? Try.prog 48 = some true := by kernel_rfl
theorem u_disk_Disk : Try.prog.underlying 49 = some (TypeDesc.struct #[{ name := "data", type := 27, offset := 0, embedded := false, tag := "", pkgPath := "neaptide/disk", byteOffset := 0 }, { name := "synced", type := 3, offset := 1, embedded := false, tag := "", pkgPath := "neaptide/disk", byteOffset := 24 }, { name := "room", type := 3, offset := 2, embedded := false, tag := "", pkgPath := "neaptide/disk", byteOffset := 32 }]) := by kernel_rfl
theorem s_disk_Disk : szOf Try.prog 49 = some 3 := by kernel_rfl
theorem b_disk_Disk : bytesOf Try.prog 49 = some 40 := by kernel_rfl
theorem o_disk_Disk : zeroOf Try.prog 49 = (some (Value.agg #[(Value.slice none 0 0), (Value.int IntKind.i64 0), (Value.int IntKind.i64 0)])) := by kernel_rfl
theorem g_disk_Disk : isAgg? Try.prog 49 = some true := by kernel_rfl
theorem u_t51 : Try.prog.underlying 51 = some (TypeDesc.struct #[{ name := "_interface", type := 17, offset := 0, embedded := false, tag := "", pkgPath := "runtime", byteOffset := 0 }, { name := "concrete", type := 17, offset := 1, embedded := false, tag := "", pkgPath := "runtime", byteOffset := 8 }, { name := "asserted", type := 17, offset := 2, embedded := false, tag := "", pkgPath := "runtime", byteOffset := 16 }, { name := "missingMethod", type := 9, offset := 3, embedded := false, tag := "", pkgPath := "runtime", byteOffset := 24 }]) := by kernel_rfl
theorem s_t51 : szOf Try.prog 51 = some 4 := by kernel_rfl
theorem b_t51 : bytesOf Try.prog 51 = some 40 := by kernel_rfl
theorem o_t51 : zeroOf Try.prog 51 = (some (Value.agg #[(Value.pointer none), (Value.pointer none), (Value.pointer none), (Value.string { data := #[] })])) := by kernel_rfl
theorem g_t51 : isAgg? Try.prog 51 = some true := by kernel_rfl
theorem u_runtime_TypeAssertionError : Try.prog.underlying 52 = some (TypeDesc.struct #[{ name := "_interface", type := 17, offset := 0, embedded := false, tag := "", pkgPath := "runtime", byteOffset := 0 }, { name := "concrete", type := 17, offset := 1, embedded := false, tag := "", pkgPath := "runtime", byteOffset := 8 }, { name := "asserted", type := 17, offset := 2, embedded := false, tag := "", pkgPath := "runtime", byteOffset := 16 }, { name := "missingMethod", type := 9, offset := 3, embedded := false, tag := "", pkgPath := "runtime", byteOffset := 24 }]) := by kernel_rfl
theorem s_runtime_TypeAssertionError : szOf Try.prog 52 = some 4 := by kernel_rfl
theorem b_runtime_TypeAssertionError : bytesOf Try.prog 52 = some 40 := by kernel_rfl
theorem o_runtime_TypeAssertionError : zeroOf Try.prog 52 = (some (Value.agg #[(Value.pointer none), (Value.pointer none), (Value.pointer none), (Value.string { data := #[] })])) := by kernel_rfl
theorem g_runtime_TypeAssertionError : isAgg? Try.prog 52 = some true := by kernel_rfl
theorem u_A0_P_runtime_PanicNilError : Try.prog.underlying 53 = some (TypeDesc.array 0 16) := by kernel_rfl
theorem s_A0_P_runtime_PanicNilError : szOf Try.prog 53 = some 0 := by kernel_rfl
theorem b_A0_P_runtime_PanicNilError : bytesOf Try.prog 53 = some 0 := by kernel_rfl
theorem o_A0_P_runtime_PanicNilError : zeroOf Try.prog 53 = (some (Value.agg #[])) := by kernel_rfl
theorem g_A0_P_runtime_PanicNilError : isAgg? Try.prog 53 = some true := by kernel_rfl
theorem u_t54 : Try.prog.underlying 54 = some (TypeDesc.struct #[{ name := "_", type := 53, offset := 0, embedded := false, tag := "", pkgPath := "runtime", byteOffset := 0 }]) := by kernel_rfl
theorem s_t54 : szOf Try.prog 54 = some 0 := by kernel_rfl
theorem b_t54 : bytesOf Try.prog 54 = some 0 := by kernel_rfl
theorem o_t54 : zeroOf Try.prog 54 = (some (Value.agg #[])) := by kernel_rfl
theorem g_t54 : isAgg? Try.prog 54 = some true := by kernel_rfl
theorem u_runtime_PanicNilError : Try.prog.underlying 55 = some (TypeDesc.struct #[{ name := "_", type := 53, offset := 0, embedded := false, tag := "", pkgPath := "runtime", byteOffset := 0 }]) := by kernel_rfl
theorem s_runtime_PanicNilError : szOf Try.prog 55 = some 0 := by kernel_rfl
theorem b_runtime_PanicNilError : bytesOf Try.prog 55 = some 0 := by kernel_rfl
theorem o_runtime_PanicNilError : zeroOf Try.prog 55 = (some (Value.agg #[])) := by kernel_rfl
theorem g_runtime_PanicNilError : isAgg? Try.prog 55 = some true := by kernel_rfl
theorem u_uint32 : Try.prog.underlying 56 = some (TypeDesc.int IntKind.u32) := by kernel_rfl
theorem s_uint32 : szOf Try.prog 56 = some 1 := by kernel_rfl
theorem b_uint32 : bytesOf Try.prog 56 = some 4 := by kernel_rfl
theorem o_uint32 : zeroOf Try.prog 56 = (some (Value.int IntKind.u32 0)) := by kernel_rfl
theorem g_uint32 : isAgg? Try.prog 56 = some false := by kernel_rfl
theorem u_abi_TFlag : Try.prog.underlying 57 = some (TypeDesc.int IntKind.u8) := by kernel_rfl
theorem s_abi_TFlag : szOf Try.prog 57 = some 1 := by kernel_rfl
theorem b_abi_TFlag : bytesOf Try.prog 57 = some 1 := by kernel_rfl
theorem o_abi_TFlag : zeroOf Try.prog 57 = (some (Value.int IntKind.u8 0)) := by kernel_rfl
theorem g_abi_TFlag : isAgg? Try.prog 57 = some false := by kernel_rfl
theorem u_abi_Kind : Try.prog.underlying 58 = some (TypeDesc.int IntKind.u8) := by kernel_rfl
theorem s_abi_Kind : szOf Try.prog 58 = some 1 := by kernel_rfl
theorem b_abi_Kind : bytesOf Try.prog 58 = some 1 := by kernel_rfl
theorem o_abi_Kind : zeroOf Try.prog 58 = (some (Value.int IntKind.u8 0)) := by kernel_rfl
theorem g_abi_Kind : isAgg? Try.prog 58 = some false := by kernel_rfl
theorem u_P_uint8 : Try.prog.underlying 60 = some (TypeDesc.pointer 5) := by kernel_rfl
theorem s_P_uint8 : szOf Try.prog 60 = some 1 := by kernel_rfl
theorem b_P_uint8 : bytesOf Try.prog 60 = some 8 := by kernel_rfl
theorem o_P_uint8 : zeroOf Try.prog 60 = (some (Value.pointer none)) := by kernel_rfl
theorem g_P_uint8 : isAgg? Try.prog 60 = some false := by kernel_rfl
theorem u_abi_NameOff : Try.prog.underlying 61 = some (TypeDesc.int IntKind.i32) := by kernel_rfl
theorem s_abi_NameOff : szOf Try.prog 61 = some 1 := by kernel_rfl
theorem b_abi_NameOff : bytesOf Try.prog 61 = some 4 := by kernel_rfl
theorem o_abi_NameOff : zeroOf Try.prog 61 = (some (Value.int IntKind.i32 0)) := by kernel_rfl
theorem g_abi_NameOff : isAgg? Try.prog 61 = some false := by kernel_rfl
theorem u_abi_TypeOff : Try.prog.underlying 62 = some (TypeDesc.int IntKind.i32) := by kernel_rfl
theorem s_abi_TypeOff : szOf Try.prog 62 = some 1 := by kernel_rfl
theorem b_abi_TypeOff : bytesOf Try.prog 62 = some 4 := by kernel_rfl
theorem o_abi_TypeOff : zeroOf Try.prog 62 = (some (Value.int IntKind.i32 0)) := by kernel_rfl
theorem g_abi_TypeOff : isAgg? Try.prog 62 = some false := by kernel_rfl
theorem u_t63 : Try.prog.underlying 63 = some (TypeDesc.struct #[{ name := "Size_", type := 12, offset := 0, embedded := false, tag := "", pkgPath := "", byteOffset := 0 }, { name := "PtrBytes", type := 12, offset := 1, embedded := false, tag := "", pkgPath := "", byteOffset := 8 }, { name := "Hash", type := 56, offset := 2, embedded := false, tag := "", pkgPath := "", byteOffset := 16 }, { name := "TFlag", type := 57, offset := 3, embedded := false, tag := "", pkgPath := "", byteOffset := 20 }, { name := "Align_", type := 5, offset := 4, embedded := false, tag := "", pkgPath := "", byteOffset := 21 }, { name := "FieldAlign_", type := 5, offset := 5, embedded := false, tag := "", pkgPath := "", byteOffset := 22 }, { name := "Kind_", type := 58, offset := 6, embedded := false, tag := "", pkgPath := "", byteOffset := 23 }, { name := "Equal", type := 59, offset := 7, embedded := false, tag := "", pkgPath := "", byteOffset := 24 }, { name := "GCData", type := 60, offset := 8, embedded := false, tag := "", pkgPath := "", byteOffset := 32 }, { name := "Str", type := 61, offset := 9, embedded := false, tag := "", pkgPath := "", byteOffset := 40 }, { name := "PtrToThis", type := 62, offset := 10, embedded := false, tag := "", pkgPath := "", byteOffset := 44 }]) := by kernel_rfl
theorem s_t63 : szOf Try.prog 63 = some 11 := by kernel_rfl
theorem b_t63 : bytesOf Try.prog 63 = some 48 := by kernel_rfl
theorem o_t63 : zeroOf Try.prog 63 = (some (Value.agg #[(Value.int IntKind.u64 0), (Value.int IntKind.u64 0), (Value.int IntKind.u32 0), (Value.int IntKind.u8 0), (Value.int IntKind.u8 0), (Value.int IntKind.u8 0), (Value.int IntKind.u8 0), Value.nilFunc, (Value.pointer none), (Value.int IntKind.i32 0), (Value.int IntKind.i32 0)])) := by kernel_rfl
theorem g_t63 : isAgg? Try.prog 63 = some true := by kernel_rfl
theorem u_abi_Type : Try.prog.underlying 64 = some (TypeDesc.struct #[{ name := "Size_", type := 12, offset := 0, embedded := false, tag := "", pkgPath := "", byteOffset := 0 }, { name := "PtrBytes", type := 12, offset := 1, embedded := false, tag := "", pkgPath := "", byteOffset := 8 }, { name := "Hash", type := 56, offset := 2, embedded := false, tag := "", pkgPath := "", byteOffset := 16 }, { name := "TFlag", type := 57, offset := 3, embedded := false, tag := "", pkgPath := "", byteOffset := 20 }, { name := "Align_", type := 5, offset := 4, embedded := false, tag := "", pkgPath := "", byteOffset := 21 }, { name := "FieldAlign_", type := 5, offset := 5, embedded := false, tag := "", pkgPath := "", byteOffset := 22 }, { name := "Kind_", type := 58, offset := 6, embedded := false, tag := "", pkgPath := "", byteOffset := 23 }, { name := "Equal", type := 59, offset := 7, embedded := false, tag := "", pkgPath := "", byteOffset := 24 }, { name := "GCData", type := 60, offset := 8, embedded := false, tag := "", pkgPath := "", byteOffset := 32 }, { name := "Str", type := 61, offset := 9, embedded := false, tag := "", pkgPath := "", byteOffset := 40 }, { name := "PtrToThis", type := 62, offset := 10, embedded := false, tag := "", pkgPath := "", byteOffset := 44 }]) := by kernel_rfl
theorem s_abi_Type : szOf Try.prog 64 = some 11 := by kernel_rfl
theorem b_abi_Type : bytesOf Try.prog 64 = some 48 := by kernel_rfl
theorem o_abi_Type : zeroOf Try.prog 64 = (some (Value.agg #[(Value.int IntKind.u64 0), (Value.int IntKind.u64 0), (Value.int IntKind.u32 0), (Value.int IntKind.u8 0), (Value.int IntKind.u8 0), (Value.int IntKind.u8 0), (Value.int IntKind.u8 0), Value.nilFunc, (Value.pointer none), (Value.int IntKind.i32 0), (Value.int IntKind.i32 0)])) := by kernel_rfl
theorem g_abi_Type : isAgg? Try.prog 64 = some true := by kernel_rfl
theorem u_unsafe_Pointer : Try.prog.underlying 65 = some TypeDesc.unsafePointer := by kernel_rfl
theorem s_unsafe_Pointer : szOf Try.prog 65 = some 1 := by kernel_rfl
theorem b_unsafe_Pointer : bytesOf Try.prog 65 = some 8 := by kernel_rfl
theorem o_unsafe_Pointer : zeroOf Try.prog 65 = (some (Value.pointer none)) := by kernel_rfl
theorem g_unsafe_Pointer : isAgg? Try.prog 65 = some false := by kernel_rfl
theorem fa_neaptidelaw04_Act_0 (q o : Nat) (S : AHeap) : vFieldAddr Try.prog 31 (.pointer (some ⟨q, o, none⟩)) 0 S = some (.pointer (some ⟨q, o + 0, none⟩), S) := by kernel_rfl
theorem fa_neaptidelaw04_Act_1 (q o : Nat) (S : AHeap) : vFieldAddr Try.prog 31 (.pointer (some ⟨q, o, none⟩)) 1 S = some (.pointer (some ⟨q, o + 1, none⟩), S) := by kernel_rfl
theorem fa_neaptidelaw04_Act_2 (q o : Nat) (S : AHeap) : vFieldAddr Try.prog 31 (.pointer (some ⟨q, o, none⟩)) 2 S = some (.pointer (some ⟨q, o + 2, none⟩), S) := by kernel_rfl
theorem fa_neaptideref04_Disk_0 (q o : Nat) (S : AHeap) : vFieldAddr Try.prog 40 (.pointer (some ⟨q, o, none⟩)) 0 S = some (.pointer (some ⟨q, o + 0, none⟩), S) := by kernel_rfl
theorem fa_neaptideref04_Disk_1 (q o : Nat) (S : AHeap) : vFieldAddr Try.prog 40 (.pointer (some ⟨q, o, none⟩)) 1 S = some (.pointer (some ⟨q, o + 1, none⟩), S) := by kernel_rfl
theorem fa_neaptideref04_Disk_2 (q o : Nat) (S : AHeap) : vFieldAddr Try.prog 40 (.pointer (some ⟨q, o, none⟩)) 2 S = some (.pointer (some ⟨q, o + 2, none⟩), S) := by kernel_rfl
theorem fa_disk_Disk_0 (q o : Nat) (S : AHeap) : vFieldAddr Try.prog 49 (.pointer (some ⟨q, o, none⟩)) 0 S = some (.pointer (some ⟨q, o + 0, none⟩), S) := by kernel_rfl
theorem fa_disk_Disk_1 (q o : Nat) (S : AHeap) : vFieldAddr Try.prog 49 (.pointer (some ⟨q, o, none⟩)) 1 S = some (.pointer (some ⟨q, o + 1, none⟩), S) := by kernel_rfl
theorem fa_disk_Disk_2 (q o : Nat) (S : AHeap) : vFieldAddr Try.prog 49 (.pointer (some ⟨q, o, none⟩)) 2 S = some (.pointer (some ⟨q, o + 2, none⟩), S) := by kernel_rfl
theorem le_neaptidelaw04_Act {fx : Bool} {x0 x1 x2 : Value} {S : AHeap} : vLoad Try.prog fx 31 (EP [x0, x1, x2]) S = some (.agg [x0, x1, x2].toArray, S) := vLoad_agg g_neaptidelaw04_Act s_neaptidelaw04_Act rfl
theorem lm_neaptidelaw04_Act {q : Nat} {x0 x1 x2 : Value} {own : Own} {e : Nat} {S : AHeap} (h : S.get q = some (.cells [x0, x1, x2] own e)) : vLoad Try.prog false 31 (.pointer (some ⟨q, 0, none⟩)) S = some (.agg [dem1 x0, dem1 x1, dem1 x2].toArray, S) := (load_agg (o := 0) h g_neaptidelaw04_Act s_neaptidelaw04_Act (by simp)).trans (by simp)
theorem fe_neaptidelaw04_Act_0 {x0 x1 x2 : Value} {S : AHeap} : vFieldAddr Try.prog 31 (EP [x0, x1, x2]) 0 S = some (EP [x0], S) := by kernel_rfl
theorem fe_neaptidelaw04_Act_1 {x0 x1 x2 : Value} {S : AHeap} : vFieldAddr Try.prog 31 (EP [x0, x1, x2]) 1 S = some (EP [x1], S) := by kernel_rfl
theorem fe_neaptidelaw04_Act_2 {x0 x1 x2 : Value} {S : AHeap} : vFieldAddr Try.prog 31 (EP [x0, x1, x2]) 2 S = some (EP [x2], S) := by kernel_rfl
theorem le_neaptideref04_Disk {fx : Bool} {x0 x1 x2 : Value} {S : AHeap} : vLoad Try.prog fx 40 (EP [x0, x1, x2]) S = some (.agg [x0, x1, x2].toArray, S) := vLoad_agg g_neaptideref04_Disk s_neaptideref04_Disk rfl
theorem lm_neaptideref04_Disk {q : Nat} {x0 x1 x2 : Value} {own : Own} {e : Nat} {S : AHeap} (h : S.get q = some (.cells [x0, x1, x2] own e)) : vLoad Try.prog false 40 (.pointer (some ⟨q, 0, none⟩)) S = some (.agg [dem1 x0, dem1 x1, dem1 x2].toArray, S) := (load_agg (o := 0) h g_neaptideref04_Disk s_neaptideref04_Disk (by simp)).trans (by simp)
theorem fe_neaptideref04_Disk_0 {x0 x1 x2 : Value} {S : AHeap} : vFieldAddr Try.prog 40 (EP [x0, x1, x2]) 0 S = some (EP [x0], S) := by kernel_rfl
theorem fe_neaptideref04_Disk_1 {x0 x1 x2 : Value} {S : AHeap} : vFieldAddr Try.prog 40 (EP [x0, x1, x2]) 1 S = some (EP [x1], S) := by kernel_rfl
theorem fe_neaptideref04_Disk_2 {x0 x1 x2 : Value} {S : AHeap} : vFieldAddr Try.prog 40 (EP [x0, x1, x2]) 2 S = some (EP [x2], S) := by kernel_rfl
theorem le_disk_Disk {fx : Bool} {x0 x1 x2 : Value} {S : AHeap} : vLoad Try.prog fx 49 (EP [x0, x1, x2]) S = some (.agg [x0, x1, x2].toArray, S) := vLoad_agg g_disk_Disk s_disk_Disk rfl
theorem lm_disk_Disk {q : Nat} {x0 x1 x2 : Value} {own : Own} {e : Nat} {S : AHeap} (h : S.get q = some (.cells [x0, x1, x2] own e)) : vLoad Try.prog false 49 (.pointer (some ⟨q, 0, none⟩)) S = some (.agg [dem1 x0, dem1 x1, dem1 x2].toArray, S) := (load_agg (o := 0) h g_disk_Disk s_disk_Disk (by simp)).trans (by simp)
theorem fe_disk_Disk_0 {x0 x1 x2 : Value} {S : AHeap} : vFieldAddr Try.prog 49 (EP [x0, x1, x2]) 0 S = some (EP [x0], S) := by kernel_rfl
theorem fe_disk_Disk_1 {x0 x1 x2 : Value} {S : AHeap} : vFieldAddr Try.prog 49 (EP [x0, x1, x2]) 1 S = some (EP [x1], S) := by kernel_rfl
theorem fe_disk_Disk_2 {x0 x1 x2 : Value} {S : AHeap} : vFieldAddr Try.prog 49 (EP [x0, x1, x2]) 2 S = some (EP [x2], S) := by kernel_rfl
theorem bd_neaptideref04_Disk  (S : AHeap) : aBuild Try.prog 40 [] S = some (.agg [(Value.slice none 0 0), (Value.int IntKind.i64 0), (Value.int IntKind.i64 0)].toArray, S) := by
  kernel_rfl
theorem bd_neaptideref04_Disk_0_2 {y0 y2 : Value} (h0 : y0.cells = #[y0]) (h2 : y2.cells = #[y2]) (S : AHeap) : aBuild Try.prog 40 [(0, y0), (2, y2)] S = some (.agg [y0, (Value.int IntKind.i64 0), y2].toArray, S) := by
  rw [show aBuild Try.prog 40 [(0, y0), (2, y2)] S = (match fillL ([(0, 1), (1, 1), (2, 1)][·]?) [(Value.slice none 0 0), (Value.int IntKind.i64 0), (Value.int IntKind.i64 0)] [(0, y0), (2, y2)] with | some l => some (.agg l.toArray, S) | none => none) from by kernel_rfl]
  simp [fillL, splice, cells_agg, h0, h2]
theorem bd_disk_Disk  (S : AHeap) : aBuild Try.prog 49 [] S = some (.agg [(Value.slice none 0 0), (Value.int IntKind.i64 0), (Value.int IntKind.i64 0)].toArray, S) := by
  kernel_rfl
theorem bs_L_uint8_0 (S : AHeap) : vBuildSlice Try.prog 27 0 [] S = some (sv 2 1 0 [], S) := by kernel_rfl
theorem bs_L_uint8_1 (x0 : Int) (S : AHeap) : vBuildSlice Try.prog 27 1 [(0, .int IntKind.u8 x0)] S = some (sv 2 1 1 [.int IntKind.u8 x0], S) := by kernel_rfl
theorem bs_L_uint8_2 (x0 x1 : Int) (S : AHeap) : vBuildSlice Try.prog 27 2 [(0, .int IntKind.u8 x0), (1, .int IntKind.u8 x1)] S = some (sv 2 1 2 [.int IntKind.u8 x0, .int IntKind.u8 x1], S) := by kernel_rfl
theorem bs_L_uint8_3 (x0 x1 x2 : Int) (S : AHeap) : vBuildSlice Try.prog 27 3 [(0, .int IntKind.u8 x0), (1, .int IntKind.u8 x1), (2, .int IntKind.u8 x2)] S = some (sv 2 1 3 [.int IntKind.u8 x0, .int IntKind.u8 x1, .int IntKind.u8 x2], S) := by kernel_rfl
theorem by_len {k : Nat} {l : List UInt8} {S : AHeap} (h : Okl k l) : vLen Try.prog 27 (by_ k l) S = some (goInt l.length, S) := vs_len u_L_uint8 h
theorem by_at {k : Nat} {l : List UInt8} {S : AHeap} {ki : IntKind} {i : Int} (h : Okl k l) (h0 : 0 ≤ i) (hi : i < l.length) : vIndexAddr Try.prog 27 (by_ k l) (.int ki i) S = some (EP [.int .u8 (l[i.toNat]'(by omega)).toNat], S) := vs_at u_L_uint8 s_uint8 cb_len h h0 hi
theorem by_load {fx : Bool} {v : Value} {S : AHeap} : vLoad Try.prog fx 5 (EP [v]) S = some (v, S) := vLoad_one g_uint8
theorem by_slice {k : Nat} {l : List UInt8} {S : AHeap} {lo hi : Option Value} {i j : Int} (h : Okl k l) (hlo : intOr 0 lo = some i) (hhi : intOr l.length hi = some j) (h0 : 0 ≤ i) (hij : i ≤ j) (hj : j ≤ l.length) : vSlice Try.prog 27 (by_ k l) lo hi S = some (by_ (if k = 2 then 1 else k) ((l.drop i.toNat).take (j.toNat - i.toNat)), S) := vs_slice u_L_uint8 s_uint8 cb_len h hlo hhi h0 hij hj
theorem by_append {k : Nat} {l : List UInt8} {S : AHeap} {j : Nat} {m : List UInt8} (h : Okl k l) (hk : k ≠ 1) (hm : Okl j m) (hl : l.length + m.length ≤ 140737488355328) : vAppend Try.prog 27 27 (by_ k l) (by_ j m) S = some (by_ (if k = 0 ∧ m.length = 0 then 0 else 2) (l ++ m), S) := vs_append u_L_uint8 s_uint8 o_uint8 rfl b_uint8 (by omega) u_L_uint8 cb_len cb_one h hk hm (by omega) (by omega)
theorem by_copy {k : Nat} {l : List UInt8} {S : AHeap} (h : Okl k l) (hl : l.length ≤ 140737488355328) : vAppend Try.prog 27 27 (by_ 2 []) (by_ k l) S = some (by_ 2 l, S) := by
  rw [by_append Okl.own (by decide) h (by simpa using hl)]; rfl
theorem by_isNil {k : Nat} {l : List UInt8} {S : AHeap} (h : Okl k l) : vBin Try.prog .eql 27 (by_ k l) (.slice none 0 0) S = some (.bool (decide (k = 0)), S) := vs_isNil u_L_uint8 h
theorem by_str {k : Nat} {l : List UInt8} {S : AHeap} (h : Okl k l) : vConv Try.prog 27 9 (by_ k l) S = some (.string ⟨l.toArray⟩, S) := by_string u_L_uint8 u_uint8 u_string h
theorem str_by (s : ByteArray) (S : AHeap) : vConv Try.prog 9 27 (.string s) S = some (by_ 2 s.data.toList, S) := text_by u_string u_L_uint8 u_uint8 s
end Go.Proofs.Ytgfpjnblookppaa
