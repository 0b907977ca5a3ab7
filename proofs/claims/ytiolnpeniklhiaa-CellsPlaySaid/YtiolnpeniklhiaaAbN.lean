/- Numbers of functions and types, by name.
   Conditions: none. -/
import Derived.Test.YtiolnpeniklhiaaChecked
import Derived.Test.YtiolnpeniklhiaaAb2
import Derived.KernelRfl
namespace Go.Proofs.Ytiolnpeniklhiaa
open Go Go.Ab
set_option linter.unusedVariables false
set_option maxRecDepth 1000000
set_option maxHeartbeats 0
abbrev Fi.gosem_cut : Nat := 1
abbrev Fi.gosem_cut_init : Nat := 2
abbrev Fi.laybylaw02_CellsBack : Nat := 3
abbrev Fi.laybylaw02_CellsApart : Nat := 4
abbrev Fi.laybylaw02_CellsPlay : Nat := 5
abbrev Fi.laybylaw02_CellsVoid : Nat := 6
abbrev Fi.cells_New : Nat := 7
abbrev Fi.cells_Cells_Store : Nat := 8
abbrev Fi.cells_Byte : Nat := 9
abbrev Fi.cells_Cells_Add : Nat := 10
abbrev Fi.cells_Cells_Peek : Nat := 11
abbrev Fi.cells_Cells_CAS : Nat := 12
abbrev Fi.cells_Cells_Swap : Nat := 13
abbrev Fi.cells_Cells_Or : Nat := 14
abbrev Fi.cells_Cells_And : Nat := 15
abbrev Fi.laybylaw02_lives : Nat := 16
abbrev Fi.cells_Cells_Load : Nat := 17
abbrev Fi.cells_Cells_Last : Nat := 18
abbrev Fi.cells_Cells_Count : Nat := 19
abbrev Fi.laybyref02_New : Nat := 20
abbrev Fi.laybylaw02_Same : Nat := 21
abbrev Fi.laybylaw02_do : Nat := 22
abbrev Fi.laybyref02_Cells_Peek : Nat := 23
abbrev Fi.laybyref02_Byte : Nat := 24
abbrev Fi.cells_Cells_Words : Nat := 25
abbrev Fi.cells_Cells_access : Nat := 26
abbrev Fi.cells_operand_itself : Nat := 27
abbrev Fi.cells_among : Nat := 28
abbrev Fi.cells_operand_added : Nat := 29
abbrev Fi.cells_Cells_CAS_1 : Nat := 30
abbrev Fi.cells_operand_joined : Nat := 31
abbrev Fi.cells_operand_masked : Nat := 32
abbrev Fi.laybyref02_Cells_Store : Nat := 33
abbrev Fi.laybyref02_Cells_Load : Nat := 34
abbrev Fi.laybyref02_Cells_CAS : Nat := 35
abbrev Fi.laybyref02_Cells_Swap : Nat := 36
abbrev Fi.laybyref02_Cells_Add : Nat := 37
abbrev Fi.laybyref02_Cells_And : Nat := 38
abbrev Fi.laybyref02_Cells_Or : Nat := 39
abbrev Fi.slices_SortFunc_cells_Word_cells_Word : Nat := 40
abbrev Fi.cells_Cells_Words_1 : Nat := 41
abbrev Fi.cmp_Compare_api_Addr : Nat := 42
abbrev Fi.laybyref02_Cells_access : Nat := 43
abbrev Fi.slices_pdqsortCmpFunc_cells_Word : Nat := 44
abbrev Fi.math_bits_Len : Nat := 45
abbrev Fi.cmp_isNaN_api_Addr : Nat := 46
abbrev Fi.slices_insertionSortCmpFunc_cells_Word : Nat := 47
abbrev Fi.slices_heapSortCmpFunc_cells_Word : Nat := 48
abbrev Fi.slices_breakPatternsCmpFunc_cells_Word : Nat := 49
abbrev Fi.slices_choosePivotCmpFunc_cells_Word : Nat := 50
abbrev Fi.slices_reverseRangeCmpFunc_cells_Word : Nat := 51
abbrev Fi.slices_partialInsertionSortCmpFunc_cells_Word : Nat := 52
abbrev Fi.slices_partitionEqualCmpFunc_cells_Word : Nat := 53
abbrev Fi.slices_partitionCmpFunc_cells_Word : Nat := 54
abbrev Fi.math_bits_Len32 : Nat := 55
abbrev Fi.math_bits_Len64 : Nat := 56
abbrev Fi.slices_siftDownCmpFunc_cells_Word : Nat := 57
abbrev Fi.slices_nextPowerOfTwo : Nat := 58
abbrev Fi.slices_xorshift_Next : Nat := 59
abbrev Fi.slices_medianAdjacentCmpFunc_cells_Word : Nat := 60
abbrev Fi.slices_medianCmpFunc_cells_Word : Nat := 61
abbrev Fi.slices_order2CmpFunc_cells_Word : Nat := 62
abbrev Ty.int64 : Nat := 2
abbrev Ty.int : Nat := 3
abbrev Ty.bool : Nat := 4
abbrev Ty.uint8 : Nat := 5
abbrev Ty.abi_BoundsErrorCode : Nat := 6
abbrev Ty.runtime_boundsError : Nat := 8
abbrev Ty.string : Nat := 9
abbrev Ty.runtime_errorString : Nat := 10
abbrev Ty.runtime_plainError : Nat := 11
abbrev Ty.uintptr : Nat := 12
abbrev Ty.runtime_errorAddressString : Nat := 14
abbrev Ty.p_runtime_TypeAssertionError : Nat := 15
abbrev Ty.p_runtime_PanicNilError : Nat := 16
abbrev Ty.p_abi_Type : Nat := 17
abbrev Ty.maps_unhashableTypeError : Nat := 19
abbrev Ty.int32 : Nat := 21
abbrev Ty.uint32 : Nat := 22
abbrev Ty.api_Addr : Nat := 23
abbrev Ty.uint64 : Nat := 24
abbrev Ty.p_cells_Cells : Nat := 25
abbrev Ty.s_laybylaw02_Act : Nat := 34
abbrev Ty.laybylaw02_Act : Nat := 36
abbrev Ty.s_uint64 : Nat := 37
abbrev Ty.api_AcKind : Nat := 38
abbrev Ty.api_Access : Nat := 40
abbrev Ty.s_cells_Word : Nat := 44
abbrev Ty.s_laybyref02_Word : Nat := 45
abbrev Ty.cells_Word : Nat := 47
abbrev Ty.laybyref02_Word : Nat := 48
abbrev Ty.p_laybyref02_Cells : Nat := 49
abbrev Ty.cells_Cells : Nat := 57
abbrev Ty.laybyref02_Cells : Nat := 59
abbrev Ty.cells_operand : Nat := 63
abbrev Ty.uint : Nat := 71
abbrev Ty.slices_sortedHint : Nat := 73
abbrev Ty.slices_xorshift : Nat := 82
abbrev Ty.p_slices_xorshift : Nat := 88
abbrev Ty.runtime_TypeAssertionError : Nat := 93
abbrev Ty.runtime_PanicNilError : Nat := 96
abbrev Ty.abi_TFlag : Nat := 97
abbrev Ty.abi_Kind : Nat := 98
abbrev Ty.abi_NameOff : Nat := 101
abbrev Ty.abi_TypeOff : Nat := 102
abbrev Ty.abi_Type : Nat := 104
abbrev Ty.unsafe_Pointer : Nat := 105
end Go.Proofs.Ytiolnpeniklhiaa
