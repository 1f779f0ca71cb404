import Derived.Test.YtlleegglgebhbaaT1
import Derived.Test.YtlleegglgebhbaaProg
import Derived.KernelRfl
namespace Go.Eng.T
def fidL : List (Option Nat) := [none, none, none, none, none, none, none, none, none, none, none, none, none, none, none, none, some 27, none, none, none, none, none, none, none, none, none, none, none, none, none, none, some 30, none, none, none, none, none, none, none, none, none, none, none, none, none, none, none, some 33, some 21, none, none, none, some 38, some 22, none, none, none, some 40, some 23, none, none, none, none, some 9, none, none, none, none, none, some 19, none, some 24, none, some 7, none, none, none, none, none, none, none, none, none, none, none, none, none, none, none, none, none, none, none, none, none, none, none, none, none, some 11, none, none, none, none, none, none, none, none, none, none, none, none, none, none, some 25, some 20, none, none, none, none, none, none, none, none, none, none, none, none, none, none, none, none, none, none, some 37, some 13, none, some 39, some 41, none, some 26, none, none, none, some 10, none, none, none, none, none, none, none, none, none, none, some 28, none, none, none, none, none, none, none, none, none, none, some 42, none, none, none, none, some 29, none, none, none, some 12, none, none, none, none, none, none, none, none, none, none, none, none, some 43, none, none, none, none, none, none, none, none, none, none, none, none, none, none, none, some 47, some 32, some 44, none, none, none, none, none, none, none, none, none, none, none, none, none, none, none, none, none, none, none, some 45, none, none, some 31, none, none, none, none, none, none, none, none, none, none, none, none, none, none, none, none, none, none, none, some 46, none, none, none, none, none, none, none, none, none, none, none, none, none, none, none, none, none, none, none, none, none, none, none, none, none, none, none, none, none, none, none, none, none, none, none, none, none, none, none, none, none, none, none, none, none, none, none, none, none, none, none, none, none, none, none, none, none, none, none, none, none, none, none, none, none, none, none, none, none, none, none, none, none, none, none, none, none, none, none, none, none, none, none, none, none, none, none, none, none, none, none, none, none, none, none, none, none, none, none, none, none, none, none, none, none, none, none, none, none, none, none, none, none, none, none, none, none, none, none, none, none, none, none, none, none, none, some 3, some 8, some 4, some 5, some 14, some 16, some 15, some 17, some 18, some 6, some 34, some 35, some 36]
def fid : Nat → Option FuncId := fun g => fidL.getD g none
open Go.Proofs
theorem mslaws_FnExactEventName : mFn Try.prog fid slaws_FnExactEventName_t slaws_FnExactEventName Try.f3 = true := by kernel_rfl
theorem mslaws_FnExactIsBadDial : mFn Try.prog fid slaws_FnExactIsBadDial_t slaws_FnExactIsBadDial Try.f4 = true := by kernel_rfl
theorem mslaws_FnExactCountKind : mFn Try.prog fid slaws_FnExactCountKind_t slaws_FnExactCountKind Try.f5 = true := by kernel_rfl
theorem mslaws_FnExactExampleEnds : mFn Try.prog fid slaws_FnExactExampleEnds_t slaws_FnExactExampleEnds Try.f6 = true := by kernel_rfl
theorem msspec_EventName : mFn Try.prog fid sspec_EventName_t sspec_EventName Try.f7 = true := by kernel_rfl
theorem msimpl_EventName : mFn Try.prog fid simpl_EventName_t simpl_EventName Try.f8 = true := by kernel_rfl
theorem mslaws_szDialed : mFn Try.prog fid slaws_szDialed_t slaws_szDialed Try.f9 = true := by kernel_rfl
theorem msspec_IsBadDial : mFn Try.prog fid sspec_IsBadDial_t sspec_IsBadDial Try.f10 = true := by kernel_rfl
theorem mslaws_toDialed : mFn Try.prog fid slaws_toDialed_t slaws_toDialed Try.f11 = true := by kernel_rfl
theorem msimpl_IsBadDial : mFn Try.prog fid simpl_IsBadDial_t simpl_IsBadDial Try.f12 = true := by kernel_rfl
theorem mslaws_eqDialed : mFn Try.prog fid slaws_eqDialed_t slaws_eqDialed Try.f13 = true := by kernel_rfl
theorem mslaws_szEventS : mFn Try.prog fid slaws_szEventS_t slaws_szEventS Try.f14 = true := by kernel_rfl
theorem msspec_CountKind : mFn Try.prog fid sspec_CountKind_t sspec_CountKind Try.f15 = true := by kernel_rfl
theorem mslaws_toEventS : mFn Try.prog fid slaws_toEventS_t slaws_toEventS Try.f16 = true := by kernel_rfl
theorem msimpl_CountKind : mFn Try.prog fid simpl_CountKind_t simpl_CountKind Try.f17 = true := by kernel_rfl
theorem mslaws_eqEventS : mFn Try.prog fid slaws_eqEventS_t slaws_eqEventS Try.f18 = true := by kernel_rfl
theorem msspec_ExampleEnds : mFn Try.prog fid sspec_ExampleEnds_t sspec_ExampleEnds Try.f19 = true := by kernel_rfl
theorem msimpl_ExampleEnds : mFn Try.prog fid simpl_ExampleEnds_t simpl_ExampleEnds Try.f20 = true := by kernel_rfl
theorem mslaws_eqEndpointS : mFn Try.prog fid slaws_eqEndpointS_t slaws_eqEndpointS Try.f21 = true := by kernel_rfl
theorem mslaws_markEndpointS : mFn Try.prog fid slaws_markEndpointS_t slaws_markEndpointS Try.f22 = true := by kernel_rfl
theorem mslaws_heldEndpointS : mFn Try.prog fid slaws_heldEndpointS_t slaws_heldEndpointS Try.f23 = true := by kernel_rfl
theorem msspec_l1In : mFn Try.prog fid sspec_l1In_t sspec_l1In Try.f24 = true := by kernel_rfl
theorem msimpl_InRange : mFn Try.prog fid simpl_InRange_t simpl_InRange Try.f25 = true := by kernel_rfl
theorem mslaws_szDeal : mFn Try.prog fid slaws_szDeal_t slaws_szDeal Try.f26 = true := by kernel_rfl
theorem mslaws_szIntS : mFn Try.prog fid slaws_szIntS_t slaws_szIntS Try.f27 = true := by kernel_rfl
theorem msspec_MaskedBy : mFn Try.prog fid sspec_MaskedBy_t sspec_MaskedBy Try.f28 = true := by kernel_rfl
theorem mslaws_toDeal : mFn Try.prog fid slaws_toDeal_t slaws_toDeal Try.f29 = true := by kernel_rfl
theorem mslaws_toIntS : mFn Try.prog fid slaws_toIntS_t slaws_toIntS Try.f30 = true := by kernel_rfl
theorem msimpl_isBad : mFn Try.prog fid simpl_isBad_t simpl_isBad Try.f31 = true := by kernel_rfl
theorem mslaws_eqDeal : mFn Try.prog fid slaws_eqDeal_t slaws_eqDeal Try.f32 = true := by kernel_rfl
theorem mslaws_eqIntS : mFn Try.prog fid slaws_eqIntS_t slaws_eqIntS Try.f33 = true := by kernel_rfl
theorem mslaws_szEvent : mFn Try.prog fid slaws_szEvent_t slaws_szEvent Try.f34 = true := by kernel_rfl
theorem mslaws_toEvent : mFn Try.prog fid slaws_toEvent_t slaws_toEvent Try.f35 = true := by kernel_rfl
theorem mslaws_eqEvent : mFn Try.prog fid slaws_eqEvent_t slaws_eqEvent Try.f36 = true := by kernel_rfl
theorem mslaws_eqEndpoint : mFn Try.prog fid slaws_eqEndpoint_t slaws_eqEndpoint Try.f37 = true := by kernel_rfl
theorem mslaws_markIntS : mFn Try.prog fid slaws_markIntS_t slaws_markIntS Try.f38 = true := by kernel_rfl
theorem mslaws_markBoxS : mFn Try.prog fid slaws_markBoxS_t slaws_markBoxS Try.f39 = true := by kernel_rfl
theorem mslaws_heldIntS : mFn Try.prog fid slaws_heldIntS_t slaws_heldIntS Try.f40 = true := by kernel_rfl
theorem mslaws_heldBoxS : mFn Try.prog fid slaws_heldBoxS_t slaws_heldBoxS Try.f41 = true := by kernel_rfl
theorem msspec_l9Has : mFn Try.prog fid sspec_l9Has_t sspec_l9Has Try.f42 = true := by kernel_rfl
theorem mslaws_szBox : mFn Try.prog fid slaws_szBox_t slaws_szBox Try.f44 = true := by kernel_rfl
theorem mslaws_toBox : mFn Try.prog fid slaws_toBox_t slaws_toBox Try.f45 = true := by kernel_rfl
theorem mslaws_eqBox : mFn Try.prog fid slaws_eqBox_t slaws_eqBox Try.f46 = true := by kernel_rfl
theorem mslaws_eqBoxS : mFn Try.prog fid slaws_eqBoxS_t slaws_eqBoxS Try.f47 = true := by kernel_rfl
end Go.Eng.T
