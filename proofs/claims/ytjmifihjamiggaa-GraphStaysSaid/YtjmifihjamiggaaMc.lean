/- Part 3 of the proof: it joins the texts Sx. -/
import Derived.Test.YtjmifihjamiggaaMb
import Derived.Test.YtjmifihjamiggaaProg
section PSx
set_option maxRecDepth 100000
namespace Go.Ab
open Go.Proofs
theorem mixed : Try.prog.follows .mixedOrders = true := by kernel_rfl

abbrev t_int64 : Nat := 2
abbrev t_int : Nat := 3
abbrev t_bool : Nat := 4
abbrev t_uint8 : Nat := 5
abbrev t_abi_BoundsErrorCode : Nat := 6
abbrev t_runtime_boundsError : Nat := 8
abbrev t_string : Nat := 9
abbrev t_runtime_errorString : Nat := 10
abbrev t_runtime_plainError : Nat := 11
abbrev t_uintptr : Nat := 12
abbrev t_runtime_errorAddressString : Nat := 14
abbrev t_maps_unhashableTypeError : Nat := 19
abbrev t_int32 : Nat := 21
abbrev t_s_api_Node : Nat := 22
abbrev t_s_api_Edge : Nat := 23
abbrev t_api_Graph : Nat := 25
abbrev t_api_Value : Nat := 27
abbrev t_api_Op : Nat := 29
abbrev t_s_api_Op : Nat := 33
abbrev t_api_Errno : Nat := 35
abbrev t_s_string : Nat := 39
abbrev t_s_api_Prop : Nat := 40
abbrev t_api_Node : Nat := 42
abbrev t_s_api_Entry : Nat := 56
abbrev t_s_api_Fact : Nat := 70
abbrev t_s_api_Change : Nat := 76
abbrev t_api_Edge : Nat := 80
abbrev t_api_Prop : Nat := 95
abbrev t_graph_change : Nat := 103
abbrev t_api_Entry : Nat := 122
abbrev t_api_Fact : Nat := 133
abbrev t_facts_builder : Nat := 142
abbrev t_api_Change : Nat := 145
abbrev t_api_Edit : Nat := 165
abbrev t_s_api_Edit : Nat := 166
abbrev t_uint : Nat := 203
abbrev t_uint64 : Nat := 207
abbrev t_scan_Scan : Nat := 211
abbrev t_s_uint8 : Nat := 214
abbrev t_s_int : Nat := 217
abbrev t_slices_sortedHint : Nat := 233
abbrev t_uint32 : Nat := 240
abbrev t_slices_xorshift : Nat := 249
abbrev t_runtime_TypeAssertionError : Nat := 268
abbrev t_runtime_PanicNilError : Nat := 271
abbrev t_abi_TFlag : Nat := 272
abbrev t_abi_Kind : Nat := 273
abbrev t_abi_NameOff : Nat := 276
abbrev t_abi_TypeOff : Nat := 277
abbrev t_abi_Type : Nat := 279
abbrev t_unsafe_Pointer : Nat := 280
/-! pleach/pleachlaw26.GraphOps -/
abbrev n_pleachlaw26_GraphOps : Nat := 3
def b_pleachlaw26_GraphOps_0 : S :=
 (.seq (.ops [⟨none, some 63, .bin .lss (.t 62) (.t 61)⟩] [])
 (.seq (.cond (.t 63) .skip
  (.exit 0))
 (.seq (.block 1 (.seq (.ops [⟨none, some 64, .idxA 3 (.t 60) (.t 62)⟩,
    ⟨none, some 65, .load true 3 (.t 64)⟩,
    ⟨none, some 7, .allocB 3 [[.p (.str []), .p .nil, .p .nil]]⟩,
    ⟨none, none, .store 3 (.t 7) (.t 65)⟩] [.frz 7])
  (.seq (.ops [⟨none, some 67, .fieldA 1 1 (.t 7)⟩,
    ⟨none, some 68, .load false 1 (.t 67)⟩,
    ⟨none, some 69, .fieldA 2 1 (.t 7)⟩,
    ⟨none, some 70, .load false 1 (.t 69)⟩,
    ⟨none, some 71, .load true 8 (.t 3)⟩,
    ⟨none, some 72, .call 16 [(.t 68), (.t 70), (.t 71)]⟩,
    ⟨none, some 66, .move (.t 72)⟩,
    ⟨none, some 73, .extract (.t 66) 0⟩,
    ⟨none, some 74, .extract (.t 66) 1⟩,
    ⟨none, some 75, .extract (.t 66) 2⟩,
    ⟨none, some 8, .move (.t 73)⟩,
    ⟨none, some 9, .move (.t 74)⟩,
    ⟨none, some 10, .move (.t 75)⟩] [])
  (.seq (.ops [⟨none, some 77, .fieldA 1 1 (.t 7)⟩,
    ⟨none, some 78, .load false 1 (.t 77)⟩,
    ⟨none, some 79, .fieldA 2 1 (.t 7)⟩,
    ⟨none, some 80, .load false 1 (.t 79)⟩,
    ⟨none, some 81, .load true 8 (.t 3)⟩,
    ⟨none, some 82, .call 17 [(.t 78), (.t 80), (.t 81)]⟩,
    ⟨none, some 76, .move (.t 82)⟩,
    ⟨none, some 83, .extract (.t 76) 0⟩,
    ⟨none, some 84, .extract (.t 76) 1⟩,
    ⟨none, some 85, .extract (.t 76) 2⟩,
    ⟨none, some 11, .move (.t 83)⟩,
    ⟨none, some 12, .move (.t 84)⟩,
    ⟨none, some 13, .move (.t 85)⟩] [])
  (.seq (.ops [⟨none, some 86, .move (.t 10)⟩,
    ⟨none, some 87, .move (.t 13)⟩,
    ⟨none, some 88, .bin .neq (.t 86) (.t 87)⟩,
    ⟨none, some 89, .move (.t 88)⟩,
    ⟨some (89, false), some 90, .move (.t 8)⟩,
    ⟨some (89, false), some 91, .move (.t 11)⟩,
    ⟨some (89, false), some 92, .call 18 [(.t 90), (.t 91)]⟩,
    ⟨some (89, false), some 93, .un .not (.t 92)⟩,
    ⟨none, some 94, .pick (.t 89) (.k (.c (.p (.bool true)))) (.t 93)⟩,
    ⟨none, some 95, .move (.t 94)⟩,
    ⟨some (95, false), some 96, .move (.t 9)⟩,
    ⟨some (95, false), some 97, .move (.t 12)⟩,
    ⟨some (95, false), some 98, .call 19 [(.t 96), (.t 97)]⟩,
    ⟨some (95, false), some 99, .un .not (.t 98)⟩,
    ⟨none, some 100, .pick (.t 95) (.k (.c (.p (.bool true)))) (.t 99)⟩] [])
  (.cond (.t 100) (.seq (.ops [⟨none, some 4, .move (.k (.c (.p (.bool false))))⟩] [])
   .ret)
   .skip))))))
 (.ops [⟨none, some 101, .bin .add (.t 62) (.k (.c (.p (.int .i64 1))))⟩,
    ⟨none, some 62, .move (.t 101)⟩] []))))
def s_pleachlaw26_GraphOps : S :=
 (.seq (.ops [⟨none, some 2, .boxI (.t 0)⟩,
    ⟨none, some 3, .boxI (.t 1)⟩,
    ⟨none, some 4, .move (.k (.c (.p (.bool false))))⟩] [])
 (.seq (.seq (.ops [⟨none, some 14, .load true 2 (.t 2)⟩,
    ⟨none, some 15, .call 9 [(.t 14)]⟩,
    ⟨none, some 16, .un .not (.t 15)⟩,
    ⟨none, some 17, .move (.t 16)⟩,
    ⟨some (17, false), some 18, .load true 2 (.t 2)⟩,
    ⟨some (17, false), some 19, .call 10 [(.t 18)]⟩,
    ⟨some (17, false), some 20, .bin .neq (.t 19) (.k (.c (.p (.int .i64 0))))⟩,
    ⟨none, some 21, .pick (.t 17) (.k (.c (.p (.bool true)))) (.t 20)⟩,
    ⟨none, some 22, .move (.t 21)⟩,
    ⟨some (22, false), some 23, .load true 8 (.t 3)⟩,
    ⟨some (22, false), some 24, .lit 8 [[.p (.int .i64 0), .p (.str []), .p (.str []), .p (.str []), .p (.str []), .p (.int .i64 0), .p (.int .i64 0), .p (.str [])]] [(0, (.t 23))]⟩,
    ⟨some (22, false), some 25, .call 11 [(.t 24)]⟩,
    ⟨some (22, false), some 26, .un .not (.t 25)⟩,
    ⟨none, some 27, .pick (.t 22) (.k (.c (.p (.bool true)))) (.t 26)⟩] [])
 (.cond (.t 27) (.seq (.ops [⟨none, some 28, .call 12 []⟩,
    ⟨none, some 4, .move (.t 28)⟩] [])
  .ret)
  .skip))
 (.seq (.ops [⟨none, some 5, .move (.k (.c (.p (.int .i64 2))))⟩] [])
 (.seq (.seq (.ops [⟨none, some 29, .load true 8 (.t 3)⟩,
    ⟨none, some 30, .call 13 [(.t 29)]⟩] [])
 (.cond (.t 30) (.ops [⟨none, some 5, .move (.k (.c (.p (.int .i64 0))))⟩] [])
  .skip))
 (.seq (.seq (.draw [⟨none, some 31, .load true 8 (.t 3)⟩,
    ⟨none, some 32, .call 14 [(.t 31)]⟩,
    ⟨none, some 33, .move (.t 5)⟩,
    ⟨none, some 34, .bin .neq (.t 32) (.t 33)⟩,
    ⟨none, some 35, .move (.t 34)⟩,
    ⟨some (35, false), some 36, .fieldA 0 1 (.t 3)⟩,
    ⟨some (35, false), some 37, .load false 1 (.t 36)⟩,
    ⟨some (35, false), some 38, .call 15 [(.t 37)]⟩,
    ⟨some (35, false), some 39, .fieldA 0 1 (.t 3)⟩,
    ⟨some (35, false), some 40, .load false 1 (.t 39)⟩,
    ⟨some (35, false), some 41, .bin .eql (.t 40) (.k (.c (.p (.int .i64 7))))⟩,
    ⟨some (35, false), some 42, .move (.t 41)⟩,
    ⟨some (42, false), some 43, .fieldA 0 1 (.t 3)⟩,
    ⟨some (42, false), some 44, .load false 1 (.t 43)⟩,
    ⟨some (42, false), some 45, .bin .eql (.t 44) (.k (.c (.p (.int .i64 8))))⟩,
    ⟨some (35, false), some 46, .pick (.t 42) (.k (.c (.p (.bool true)))) (.t 45)⟩,
    ⟨some (35, false), some 47, .move (.t 46)⟩,
    ⟨some (47, false), some 48, .fieldA 0 1 (.t 3)⟩,
    ⟨some (47, false), some 49, .load false 1 (.t 48)⟩,
    ⟨some (47, false), some 50, .bin .eql (.t 49) (.k (.c (.p (.int .i64 11))))⟩,
    ⟨some (35, false), some 51, .pick (.t 47) (.k (.c (.p (.bool true)))) (.t 50)⟩,
    ⟨some (35, false), some 52, .move (.t 51)⟩,
    ⟨some (52, false), some 53, .fieldA 0 1 (.t 3)⟩,
    ⟨some (52, false), some 54, .load false 1 (.t 53)⟩,
    ⟨some (52, false), some 55, .bin .eql (.t 54) (.k (.c (.p (.int .i64 12))))⟩,
    ⟨some (35, false), some 56, .pick (.t 52) (.k (.c (.p (.bool true)))) (.t 55)⟩,
    ⟨some (35, false), some 57, .eqB true (.t 38) (.t 56)⟩,
    ⟨none, some 58, .pick (.t 35) (.k (.c (.p (.bool true)))) (.t 57)⟩]
 [0, 1, 0, 7, 15, 31, 63, 127, 31, 287, 799, 2047, 4095, 8191, 16383, 32767, 65535, 131071, 262143, 524287, 1048575, 2097151, 4194303, 8388607, 16777215, 33554431, 67108863, 134217727] [])
 (.cond (.t 58) (.seq (.ops [⟨none, some 4, .move (.k (.c (.p (.bool false))))⟩] [])
  .ret)
  .skip))
 (.seq (.seq (.ops [⟨none, some 59, .fieldA 0 1 (.t 2)⟩,
    ⟨none, some 60, .load false 1 (.t 59)⟩,
    ⟨none, some 61, .len (.t 60)⟩,
    ⟨none, some 62, .move (.k (.c (.p (.int .i64 0))))⟩] [])
 (.block 0 (.loop [3, 60, 61, 62] b_pleachlaw26_GraphOps_0)))
 (.seq (.ops [⟨none, some 102, .call 12 []⟩,
    ⟨none, some 4, .move (.t 102)⟩] [])
 .ret)))))))
theorem c_pleachlaw26_GraphOps : comp Try.prog { own := [], mt := [], lp := [(0, [3, 60, 61, 62])], gh := [(10, [.frz 7])] } 103 (Try.f3.body.getD .skip) = some s_pleachlaw26_GraphOps := by kernel_rfl
abbrev r_pleachlaw26_GraphOps : List RV := [.tmp 4]
theorem a_pleachlaw26_GraphOps {args : List AV} {H : List (Nat × Blk)} {nx : Nat} {K : AV → List (Nat × Blk) → Nat → Prop} (hal : args.length ≤ 103) (h : W Try.prog s_pleachlaw26_GraphOps (RETK r_pleachlaw26_GraphOps K) ⟨argE 0 args, H, nx⟩) : ACalls Try.prog 3 args H nx K :=
  acalls_of_W (drawOk mixed) Try.func3 rfl (by kernel_rfl) (of_decide_eq_true (by kernel_rfl)) (by kernel_rfl) c_pleachlaw26_GraphOps (by kernel_rfl) hal h
theorem p_pleachlaw26_GraphOps {args : List AV} {r : AV} (hal : args.length ≤ 103) (hp : args.all pureA = true) (hr : pureA r = true) (h : W Try.prog s_pleachlaw26_GraphOps (RETK r_pleachlaw26_GraphOps fun a H _ => FRZ r a H) ⟨argE 0 args, [], 0⟩) : PCalls Try.prog 3 args r := .of hp (a_pleachlaw26_GraphOps hal h) hr

/-! pleach/pleachref26.Few -/
abbrev n_pleachref26_Few : Nat := 9
def b_pleachref26_Few_0 : S :=
 (.seq (.seq (.ops [⟨none, some 17, .move (.t 4)⟩,
    ⟨none, some 18, .fieldA 0 1 (.t 1)⟩,
    ⟨none, some 19, .load false 1 (.t 18)⟩,
    ⟨none, some 20, .len (.t 19)⟩,
    ⟨none, some 21, .bin .lss (.t 17) (.t 20)⟩] [])
 (.cond (.t 21) .skip
  (.exit 0)))
 (.seq (.block 1 (.draw [⟨none, some 24, .move (.t 3)⟩,
    ⟨none, some 25, .fieldA 0 1 (.t 1)⟩,
    ⟨none, some 26, .load false 1 (.t 25)⟩,
    ⟨none, some 27, .move (.t 4)⟩,
    ⟨none, some 28, .idxA 3 (.t 26) (.t 27)⟩,
    ⟨none, some 29, .fieldA 0 1 (.t 28)⟩,
    ⟨none, some 30, .load false 1 (.t 29)⟩,
    ⟨none, some 31, .lenS (.t 30)⟩,
    ⟨none, some 32, .minI [(.t 31), (.k (.c (.p (.int .i64 5000))))]⟩,
    ⟨none, some 33, .bin .add (.t 24) (.t 32)⟩,
    ⟨none, some 34, .fieldA 0 1 (.t 1)⟩,
    ⟨none, some 35, .load false 1 (.t 34)⟩,
    ⟨none, some 36, .move (.t 4)⟩,
    ⟨none, some 37, .idxA 3 (.t 35) (.t 36)⟩,
    ⟨none, some 38, .fieldA 1 1 (.t 37)⟩,
    ⟨none, some 39, .load false 1 (.t 38)⟩,
    ⟨none, some 40, .fieldA 0 1 (.t 1)⟩,
    ⟨none, some 41, .load false 1 (.t 40)⟩,
    ⟨none, some 42, .move (.t 4)⟩,
    ⟨none, some 43, .idxA 3 (.t 41) (.t 42)⟩,
    ⟨none, some 44, .fieldA 2 1 (.t 43)⟩,
    ⟨none, some 45, .load false 1 (.t 44)⟩,
    ⟨none, some 46, .call 42 [(.t 39), (.t 45)]⟩,
    ⟨none, some 47, .bin .add (.t 33) (.t 46)⟩,
    ⟨none, some 3, .move (.t 47)⟩]
  [0, 0, 2, 0, 14, 30, 62, 126, 254, 511, 0, 1024, 0, 7168, 15360, 31744, 0, 65536, 0, 458752, 983040, 2031616, 4193280, 8388607, 16777215] []))
 (.ops [⟨none, some 22, .move (.t 4)⟩,
    ⟨none, some 23, .bin .add (.t 22) (.k (.c (.p (.int .i64 1))))⟩,
    ⟨none, some 4, .move (.t 23)⟩] [])))
def b_pleachref26_Few_2 : S :=
 (.seq (.seq (.ops [⟨none, some 48, .move (.t 5)⟩,
    ⟨none, some 49, .fieldA 1 1 (.t 1)⟩,
    ⟨none, some 50, .load false 1 (.t 49)⟩,
    ⟨none, some 51, .len (.t 50)⟩,
    ⟨none, some 52, .bin .lss (.t 48) (.t 51)⟩] [])
 (.cond (.t 52) .skip
  (.exit 2)))
 (.seq (.block 3 (.seq (.ops [⟨none, some 55, .fieldA 1 1 (.t 1)⟩,
    ⟨none, some 56, .load false 1 (.t 55)⟩,
    ⟨none, some 57, .move (.t 5)⟩,
    ⟨none, some 58, .idxA 5 (.t 56) (.t 57)⟩,
    ⟨none, some 59, .load true 5 (.t 58)⟩,
    ⟨none, some 6, .allocB 5 [[.p (.str []), .p (.str []), .p (.str []), .p .nil, .p .nil]]⟩,
    ⟨none, none, .store 5 (.t 6) (.t 59)⟩] [.frz 6])
  (.draw [⟨none, some 60, .move (.t 3)⟩,
    ⟨none, some 61, .fieldA 0 1 (.t 6)⟩,
    ⟨none, some 62, .load false 1 (.t 61)⟩,
    ⟨none, some 63, .lenS (.t 62)⟩,
    ⟨none, some 64, .minI [(.t 63), (.k (.c (.p (.int .i64 5000))))]⟩,
    ⟨none, some 65, .bin .add (.t 60) (.t 64)⟩,
    ⟨none, some 66, .fieldA 1 1 (.t 6)⟩,
    ⟨none, some 67, .load false 1 (.t 66)⟩,
    ⟨none, some 68, .lenS (.t 67)⟩,
    ⟨none, some 69, .minI [(.t 68), (.k (.c (.p (.int .i64 5000))))]⟩,
    ⟨none, some 70, .bin .add (.t 65) (.t 69)⟩,
    ⟨none, some 71, .fieldA 2 1 (.t 6)⟩,
    ⟨none, some 72, .load false 1 (.t 71)⟩,
    ⟨none, some 73, .lenS (.t 72)⟩,
    ⟨none, some 74, .minI [(.t 73), (.k (.c (.p (.int .i64 5000))))]⟩,
    ⟨none, some 75, .bin .add (.t 70) (.t 74)⟩,
    ⟨none, some 76, .fieldA 3 1 (.t 6)⟩,
    ⟨none, some 77, .load false 1 (.t 76)⟩,
    ⟨none, some 78, .fieldA 4 1 (.t 6)⟩,
    ⟨none, some 79, .load false 1 (.t 78)⟩,
    ⟨none, some 80, .call 42 [(.t 77), (.t 79)]⟩,
    ⟨none, some 81, .bin .add (.t 75) (.t 80)⟩,
    ⟨none, some 3, .move (.t 81)⟩]
  [0, 0, 2, 6, 14, 31, 0, 64, 192, 448, 1023, 0, 2048, 6144, 14336, 32767, 0, 65536, 0, 262144, 983040, 2097151, 4194303] [])))
 (.ops [⟨none, some 53, .move (.t 5)⟩,
    ⟨none, some 54, .bin .add (.t 53) (.k (.c (.p (.int .i64 1))))⟩,
    ⟨none, some 5, .move (.t 54)⟩] [])))
def s_pleachref26_Few : S :=
 (.seq (.ops [⟨none, some 1, .boxI (.t 0)⟩,
    ⟨none, some 2, .move (.k (.c (.p (.bool false))))⟩] [])
 (.seq (.seq (.ops [⟨none, some 7, .fieldA 0 1 (.t 1)⟩,
    ⟨none, some 8, .load false 1 (.t 7)⟩,
    ⟨none, some 9, .len (.t 8)⟩,
    ⟨none, some 10, .bin .gtr (.t 9) (.k (.c (.p (.int .i64 40))))⟩,
    ⟨none, some 11, .move (.t 10)⟩,
    ⟨some (11, false), some 12, .fieldA 1 1 (.t 1)⟩,
    ⟨some (11, false), some 13, .load false 1 (.t 12)⟩,
    ⟨some (11, false), some 14, .len (.t 13)⟩,
    ⟨some (11, false), some 15, .bin .gtr (.t 14) (.k (.c (.p (.int .i64 60))))⟩,
    ⟨none, some 16, .pick (.t 11) (.k (.c (.p (.bool true)))) (.t 15)⟩] [])
 (.cond (.t 16) (.seq (.ops [⟨none, some 2, .move (.k (.c (.p (.bool false))))⟩] [])
  .ret)
  .skip))
 (.seq (.ops [⟨none, some 3, .move (.k (.c (.p (.int .i64 0))))⟩] [])
 (.seq (.seq (.ops [⟨none, some 4, .move (.k (.c (.p (.int .i64 0))))⟩] [])
 (.block 0 (.loop [1, 3, 4] b_pleachref26_Few_0)))
 (.seq (.seq (.ops [⟨none, some 5, .move (.k (.c (.p (.int .i64 0))))⟩] [])
 (.block 2 (.loop [1, 3, 5] b_pleachref26_Few_2)))
 (.seq (.ops [⟨none, some 82, .move (.t 3)⟩,
    ⟨none, some 83, .bin .leq (.t 82) (.k (.c (.p (.int .i64 5000))))⟩,
    ⟨none, some 2, .move (.t 83)⟩] [])
 .ret))))))
theorem c_pleachref26_Few : comp Try.prog { own := [], mt := [], lp := [(0, [1, 3, 4]), (2, [1, 3, 5])], gh := [(11, [.frz 6])] } 84 (Try.f9.body.getD .skip) = some s_pleachref26_Few := by kernel_rfl
abbrev r_pleachref26_Few : List RV := [.tmp 2]
theorem a_pleachref26_Few {args : List AV} {H : List (Nat × Blk)} {nx : Nat} {K : AV → List (Nat × Blk) → Nat → Prop} (hal : args.length ≤ 84) (h : W Try.prog s_pleachref26_Few (RETK r_pleachref26_Few K) ⟨argE 0 args, H, nx⟩) : ACalls Try.prog 9 args H nx K :=
  acalls_of_W (drawOk mixed) Try.func9 rfl (by kernel_rfl) (of_decide_eq_true (by kernel_rfl)) (by kernel_rfl) c_pleachref26_Few (by kernel_rfl) hal h
theorem p_pleachref26_Few {args : List AV} {r : AV} (hal : args.length ≤ 84) (hp : args.all pureA = true) (hr : pureA r = true) (h : W Try.prog s_pleachref26_Few (RETK r_pleachref26_Few fun a H _ => FRZ r a H) ⟨argE 0 args, [], 0⟩) : PCalls Try.prog 9 args r := .of hp (a_pleachref26_Few hal h) hr

/-! pleach/pleachref26.Wrong -/
abbrev n_pleachref26_Wrong : Nat := 10
def b_pleachref26_Wrong_0 : S :=
 (.seq (.seq (.ops [⟨none, some 18, .move (.t 3)⟩,
    ⟨none, some 19, .fieldA 0 1 (.t 1)⟩,
    ⟨none, some 20, .load false 1 (.t 19)⟩,
    ⟨none, some 21, .len (.t 20)⟩,
    ⟨none, some 22, .bin .lss (.t 18) (.t 21)⟩] [])
 (.cond (.t 22) .skip
  (.exit 0)))
 (.seq (.block 1 (.seq (.ops [⟨none, some 25, .fieldA 0 1 (.t 1)⟩,
    ⟨none, some 26, .load false 1 (.t 25)⟩,
    ⟨none, some 27, .move (.t 3)⟩,
    ⟨none, some 28, .idxA 3 (.t 26) (.t 27)⟩,
    ⟨none, some 29, .load true 3 (.t 28)⟩,
    ⟨none, some 30, .call 43 [(.t 29)]⟩,
    ⟨none, some 4, .move (.t 30)⟩] [])
  (.seq (.seq (.ops [⟨none, some 31, .move (.t 4)⟩,
    ⟨none, some 32, .bin .neq (.t 31) (.k (.c (.p (.int .i64 0))))⟩] [])
  (.cond (.t 32) (.seq (.ops [⟨none, some 33, .move (.t 4)⟩,
    ⟨none, some 2, .move (.t 33)⟩] [])
   .ret)
   .skip))
  (.seq (.draw [⟨none, some 34, .move (.t 3)⟩,
    ⟨none, some 35, .bin .gtr (.t 34) (.k (.c (.p (.int .i64 0))))⟩,
    ⟨none, some 36, .move (.t 35)⟩,
    ⟨some (36, true), some 37, .fieldA 0 1 (.t 1)⟩,
    ⟨some (36, true), some 38, .load false 1 (.t 37)⟩,
    ⟨some (36, true), some 39, .move (.t 3)⟩,
    ⟨some (36, true), some 40, .idxA 3 (.t 38) (.t 39)⟩,
    ⟨some (36, true), some 41, .fieldA 0 1 (.t 40)⟩,
    ⟨some (36, true), some 42, .load false 1 (.t 41)⟩,
    ⟨some (36, true), some 43, .fieldA 0 1 (.t 1)⟩,
    ⟨some (36, true), some 44, .load false 1 (.t 43)⟩,
    ⟨some (36, true), some 45, .move (.t 3)⟩,
    ⟨some (36, true), some 46, .bin .sub (.t 45) (.k (.c (.p (.int .i64 1))))⟩,
    ⟨some (36, true), some 47, .idxA 3 (.t 44) (.t 46)⟩,
    ⟨some (36, true), some 48, .fieldA 0 1 (.t 47)⟩,
    ⟨some (36, true), some 49, .load false 1 (.t 48)⟩,
    ⟨some (36, true), some 50, .bin .leq (.t 42) (.t 49)⟩,
    ⟨none, some 51, .pick (.t 36) (.t 50) (.k (.c (.p (.bool false))))⟩]
  [0, 1, 3, 7, 15, 7, 63, 127, 255, 7, 519, 7, 2055, 7687, 15879, 32263, 65535, 131071] [])
  (.cond (.t 51) (.seq (.ops [⟨none, some 2, .move (.k (.c (.p (.int .i64 4))))⟩] [])
   .ret)
   .skip)))))
 (.ops [⟨none, some 23, .move (.t 3)⟩,
    ⟨none, some 24, .bin .add (.t 23) (.k (.c (.p (.int .i64 1))))⟩,
    ⟨none, some 3, .move (.t 24)⟩] [])))
def b_pleachref26_Wrong_2 : S :=
 (.seq (.seq (.ops [⟨none, some 52, .move (.t 5)⟩,
    ⟨none, some 53, .fieldA 1 1 (.t 1)⟩,
    ⟨none, some 54, .load false 1 (.t 53)⟩,
    ⟨none, some 55, .len (.t 54)⟩,
    ⟨none, some 56, .bin .lss (.t 52) (.t 55)⟩] [])
 (.cond (.t 56) .skip
  (.exit 2)))
 (.seq (.block 3 (.seq (.ops [⟨none, some 59, .fieldA 1 1 (.t 1)⟩,
    ⟨none, some 60, .load false 1 (.t 59)⟩,
    ⟨none, some 61, .move (.t 5)⟩,
    ⟨none, some 62, .idxA 5 (.t 60) (.t 61)⟩,
    ⟨none, some 63, .load true 5 (.t 62)⟩,
    ⟨none, some 6, .allocB 5 [[.p (.str []), .p (.str []), .p (.str []), .p .nil, .p .nil]]⟩,
    ⟨none, none, .store 5 (.t 6) (.t 63)⟩] [.frz 6])
  (.seq (.ops [⟨none, some 64, .load true 5 (.t 6)⟩,
    ⟨none, some 65, .call 44 [(.t 64)]⟩,
    ⟨none, some 7, .move (.t 65)⟩] [])
  (.seq (.seq (.ops [⟨none, some 66, .move (.t 7)⟩,
    ⟨none, some 67, .bin .neq (.t 66) (.k (.c (.p (.int .i64 0))))⟩] [])
  (.cond (.t 67) (.seq (.ops [⟨none, some 68, .move (.t 7)⟩,
    ⟨none, some 2, .move (.t 68)⟩] [])
   .ret)
   .skip))
  (.seq (.seq (.draw [⟨none, some 69, .move (.t 5)⟩,
    ⟨none, some 70, .bin .gtr (.t 69) (.k (.c (.p (.int .i64 0))))⟩,
    ⟨none, some 71, .move (.t 70)⟩,
    ⟨some (71, true), some 72, .fieldA 0 1 (.t 6)⟩,
    ⟨some (71, true), some 73, .load false 1 (.t 72)⟩,
    ⟨some (71, true), some 74, .fieldA 1 1 (.t 1)⟩,
    ⟨some (71, true), some 75, .load false 1 (.t 74)⟩,
    ⟨some (71, true), some 76, .move (.t 5)⟩,
    ⟨some (71, true), some 77, .bin .sub (.t 76) (.k (.c (.p (.int .i64 1))))⟩,
    ⟨some (71, true), some 78, .idxA 5 (.t 75) (.t 77)⟩,
    ⟨some (71, true), some 79, .fieldA 0 1 (.t 78)⟩,
    ⟨some (71, true), some 80, .load false 1 (.t 79)⟩,
    ⟨some (71, true), some 81, .bin .leq (.t 73) (.t 80)⟩,
    ⟨none, some 82, .pick (.t 71) (.t 81) (.k (.c (.p (.bool false))))⟩]
  [0, 1, 3, 7, 15, 7, 39, 7, 135, 487, 999, 2023, 4095, 8191] [])
  (.cond (.t 82) (.seq (.ops [⟨none, some 2, .move (.k (.c (.p (.int .i64 4))))⟩] [])
   .ret)
   .skip))
  (.seq (.ops [⟨none, some 83, .load true 2 (.t 1)⟩,
    ⟨none, some 84, .fieldA 1 1 (.t 6)⟩,
    ⟨none, some 85, .load false 1 (.t 84)⟩,
    ⟨none, some 86, .call 45 [(.t 83), (.t 85)]⟩,
    ⟨none, some 87, .bin .lss (.t 86) (.k (.c (.p (.int .i64 0))))⟩,
    ⟨none, some 88, .move (.t 87)⟩,
    ⟨some (88, false), some 89, .load true 2 (.t 1)⟩,
    ⟨some (88, false), some 90, .fieldA 2 1 (.t 6)⟩,
    ⟨some (88, false), some 91, .load false 1 (.t 90)⟩,
    ⟨some (88, false), some 92, .call 45 [(.t 89), (.t 91)]⟩,
    ⟨some (88, false), some 93, .bin .lss (.t 92) (.k (.c (.p (.int .i64 0))))⟩,
    ⟨none, some 94, .pick (.t 88) (.k (.c (.p (.bool true)))) (.t 93)⟩] [])
  (.cond (.t 94) (.seq (.ops [⟨none, some 2, .move (.k (.c (.p (.int .i64 9))))⟩] [])
   .ret)
   .skip)))))))
 (.ops [⟨none, some 57, .move (.t 5)⟩,
    ⟨none, some 58, .bin .add (.t 57) (.k (.c (.p (.int .i64 1))))⟩,
    ⟨none, some 5, .move (.t 58)⟩] [])))
def s_pleachref26_Wrong : S :=
 (.seq (.ops [⟨none, some 1, .boxI (.t 0)⟩,
    ⟨none, some 2, .move (.k (.c (.p (.int .i64 0))))⟩] [])
 (.seq (.seq (.ops [⟨none, some 8, .fieldA 0 1 (.t 1)⟩,
    ⟨none, some 9, .load false 1 (.t 8)⟩,
    ⟨none, some 10, .len (.t 9)⟩,
    ⟨none, some 11, .bin .gtr (.t 10) (.k (.c (.p (.int .i64 500))))⟩,
    ⟨none, some 12, .move (.t 11)⟩,
    ⟨some (12, false), some 13, .fieldA 1 1 (.t 1)⟩,
    ⟨some (12, false), some 14, .load false 1 (.t 13)⟩,
    ⟨some (12, false), some 15, .len (.t 14)⟩,
    ⟨some (12, false), some 16, .bin .gtr (.t 15) (.k (.c (.p (.int .i64 1000))))⟩,
    ⟨none, some 17, .pick (.t 12) (.k (.c (.p (.bool true)))) (.t 16)⟩] [])
 (.cond (.t 17) (.seq (.ops [⟨none, some 2, .move (.k (.c (.p (.int .i64 5))))⟩] [])
  .ret)
  .skip))
 (.seq (.seq (.ops [⟨none, some 3, .move (.k (.c (.p (.int .i64 0))))⟩] [])
 (.block 0 (.loop [1, 3] b_pleachref26_Wrong_0)))
 (.seq (.seq (.ops [⟨none, some 5, .move (.k (.c (.p (.int .i64 0))))⟩] [])
 (.block 2 (.loop [1, 5] b_pleachref26_Wrong_2)))
 (.seq (.ops [⟨none, some 2, .move (.k (.c (.p (.int .i64 0))))⟩] [])
 .ret)))))
theorem c_pleachref26_Wrong : comp Try.prog { own := [], mt := [], lp := [(0, [1, 3]), (2, [1, 5])], gh := [(14, [.frz 6])] } 95 (Try.f10.body.getD .skip) = some s_pleachref26_Wrong := by kernel_rfl
abbrev r_pleachref26_Wrong : List RV := [.tmp 2]
theorem a_pleachref26_Wrong {args : List AV} {H : List (Nat × Blk)} {nx : Nat} {K : AV → List (Nat × Blk) → Nat → Prop} (hal : args.length ≤ 95) (h : W Try.prog s_pleachref26_Wrong (RETK r_pleachref26_Wrong K) ⟨argE 0 args, H, nx⟩) : ACalls Try.prog 10 args H nx K :=
  acalls_of_W (drawOk mixed) Try.func10 rfl (by kernel_rfl) (of_decide_eq_true (by kernel_rfl)) (by kernel_rfl) c_pleachref26_Wrong (by kernel_rfl) hal h
theorem p_pleachref26_Wrong {args : List AV} {r : AV} (hal : args.length ≤ 95) (hp : args.all pureA = true) (hr : pureA r = true) (h : W Try.prog s_pleachref26_Wrong (RETK r_pleachref26_Wrong fun a H _ => FRZ r a H) ⟨argE 0 args, [], 0⟩) : PCalls Try.prog 10 args r := .of hp (a_pleachref26_Wrong hal h) hr

/-! pleach/pleachref26.FewOps -/
abbrev n_pleachref26_FewOps : Nat := 11
def b_pleachref26_FewOps_0 : S :=
 (.seq (.seq (.ops [⟨none, some 5, .move (.t 4)⟩,
    ⟨none, some 6, .move (.t 0)⟩,
    ⟨none, some 7, .len (.t 6)⟩,
    ⟨none, some 8, .bin .lss (.t 5) (.t 7)⟩,
    ⟨none, some 9, .move (.t 8)⟩,
    ⟨some (9, true), some 10, .move (.t 4)⟩,
    ⟨some (9, true), some 11, .bin .leq (.t 10) (.k (.c (.p (.int .i64 70))))⟩,
    ⟨none, some 12, .pick (.t 9) (.t 11) (.k (.c (.p (.bool false))))⟩] [])
 (.cond (.t 12) .skip
  (.exit 0)))
 (.seq (.block 1 (.draw [⟨none, some 15, .move (.t 3)⟩,
    ⟨none, some 16, .move (.t 0)⟩,
    ⟨none, some 17, .move (.t 4)⟩,
    ⟨none, some 18, .idxA 8 (.t 16) (.t 17)⟩,
    ⟨none, some 19, .fieldA 1 1 (.t 18)⟩,
    ⟨none, some 20, .load false 1 (.t 19)⟩,
    ⟨none, some 21, .lenS (.t 20)⟩,
    ⟨none, some 22, .minI [(.t 21), (.k (.c (.p (.int .i64 5000))))]⟩,
    ⟨none, some 23, .bin .add (.t 15) (.t 22)⟩,
    ⟨none, some 24, .move (.t 0)⟩,
    ⟨none, some 25, .move (.t 4)⟩,
    ⟨none, some 26, .idxA 8 (.t 24) (.t 25)⟩,
    ⟨none, some 27, .fieldA 2 1 (.t 26)⟩,
    ⟨none, some 28, .load false 1 (.t 27)⟩,
    ⟨none, some 29, .lenS (.t 28)⟩,
    ⟨none, some 30, .minI [(.t 29), (.k (.c (.p (.int .i64 5000))))]⟩,
    ⟨none, some 31, .bin .add (.t 23) (.t 30)⟩,
    ⟨none, some 32, .move (.t 0)⟩,
    ⟨none, some 33, .move (.t 4)⟩,
    ⟨none, some 34, .idxA 8 (.t 32) (.t 33)⟩,
    ⟨none, some 35, .fieldA 3 1 (.t 34)⟩,
    ⟨none, some 36, .load false 1 (.t 35)⟩,
    ⟨none, some 37, .lenS (.t 36)⟩,
    ⟨none, some 38, .minI [(.t 37), (.k (.c (.p (.int .i64 5000))))]⟩,
    ⟨none, some 39, .bin .add (.t 31) (.t 38)⟩,
    ⟨none, some 40, .move (.t 0)⟩,
    ⟨none, some 41, .move (.t 4)⟩,
    ⟨none, some 42, .idxA 8 (.t 40) (.t 41)⟩,
    ⟨none, some 43, .fieldA 4 1 (.t 42)⟩,
    ⟨none, some 44, .load false 1 (.t 43)⟩,
    ⟨none, some 45, .lenS (.t 44)⟩,
    ⟨none, some 46, .minI [(.t 45), (.k (.c (.p (.int .i64 5000))))]⟩,
    ⟨none, some 47, .bin .add (.t 39) (.t 46)⟩,
    ⟨none, some 48, .move (.t 0)⟩,
    ⟨none, some 49, .move (.t 4)⟩,
    ⟨none, some 50, .idxA 8 (.t 48) (.t 49)⟩,
    ⟨none, some 51, .fieldA 5 3 (.t 50)⟩,
    ⟨none, some 52, .fieldA 2 1 (.t 51)⟩,
    ⟨none, some 53, .load false 1 (.t 52)⟩,
    ⟨none, some 54, .lenS (.t 53)⟩,
    ⟨none, some 55, .minI [(.t 54), (.k (.c (.p (.int .i64 5000))))]⟩,
    ⟨none, some 56, .bin .add (.t 47) (.t 55)⟩,
    ⟨none, some 3, .move (.t 56)⟩]
  [0, 0, 0, 6, 14, 30, 62, 126, 255, 0, 0, 1536, 3584, 7680, 15872, 32256, 65535, 0, 0, 393216, 917504, 1966080, 4063232, 8257536, 16777215, 0, 0, 100663296, 234881024, 503316480, 1040187392, 2113929216, 4294967295, 0, 0, 25769803776, 60129542144, 128849018880, 266287972352, 541165879296, 1090921693184, 2199023255551, 4398046511103] []))
 (.ops [⟨none, some 13, .move (.t 4)⟩,
    ⟨none, some 14, .bin .add (.t 13) (.k (.c (.p (.int .i64 1))))⟩,
    ⟨none, some 4, .move (.t 14)⟩] [])))
def s_pleachref26_FewOps : S :=
 (.seq (.ops [⟨none, some 2, .move (.k (.c (.p (.bool false))))⟩] [])
 (.seq (.ops [⟨none, some 3, .move (.k (.c (.p (.int .i64 0))))⟩] [])
 (.seq (.seq (.ops [⟨none, some 4, .move (.k (.c (.p (.int .i64 0))))⟩] [])
 (.block 0 (.loop [0, 3, 4] b_pleachref26_FewOps_0)))
 (.seq (.ops [⟨none, some 57, .move (.t 0)⟩,
    ⟨none, some 58, .len (.t 57)⟩,
    ⟨none, some 59, .bin .leq (.t 58) (.k (.c (.p (.int .i64 70))))⟩,
    ⟨none, some 60, .move (.t 59)⟩,
    ⟨some (60, true), some 61, .move (.t 3)⟩,
    ⟨some (60, true), some 62, .bin .leq (.t 61) (.k (.c (.p (.int .i64 5000))))⟩,
    ⟨none, some 63, .pick (.t 60) (.t 62) (.k (.c (.p (.bool false))))⟩,
    ⟨none, some 2, .move (.t 63)⟩] [])
 .ret))))
theorem c_pleachref26_FewOps : comp Try.prog { own := [], mt := [], lp := [(0, [0, 3, 4])], gh := [] } 64 (Try.f11.body.getD .skip) = some s_pleachref26_FewOps := by kernel_rfl
abbrev r_pleachref26_FewOps : List RV := [.tmp 2]
theorem a_pleachref26_FewOps {args : List AV} {H : List (Nat × Blk)} {nx : Nat} {K : AV → List (Nat × Blk) → Nat → Prop} (hal : args.length ≤ 64) (h : W Try.prog s_pleachref26_FewOps (RETK r_pleachref26_FewOps K) ⟨argE 0 args, H, nx⟩) : ACalls Try.prog 11 args H nx K :=
  acalls_of_W (drawOk mixed) Try.func11 rfl (by kernel_rfl) (of_decide_eq_true (by kernel_rfl)) (by kernel_rfl) c_pleachref26_FewOps (by kernel_rfl) hal h
theorem p_pleachref26_FewOps {args : List AV} {r : AV} (hal : args.length ≤ 64) (hp : args.all pureA = true) (hr : pureA r = true) (h : W Try.prog s_pleachref26_FewOps (RETK r_pleachref26_FewOps fun a H _ => FRZ r a H) ⟨argE 0 args, [], 0⟩) : PCalls Try.prog 11 args r := .of hp (a_pleachref26_FewOps hal h) hr

/-! pleach/pleachlaw26.awake -/
abbrev n_pleachlaw26_awake : Nat := 12
def s_pleachlaw26_awake : S :=
 (.seq (.ops [⟨none, some 0, .move (.k (.c (.p (.bool false))))⟩] [])
 (.seq (.ops [⟨none, some 5, .build [.p .nil, .p .nil] []⟩,
    ⟨none, some 6, .build [.p (.int .i64 0), .p (.str []), .p (.str []), .p (.str []), .p (.str []), .p (.int .i64 0), .p (.int .i64 0), .p (.str [])] [(0, 1, (.k (.c (.p (.int .i64 3))))), (1, 1, (.k (.c (.p (.str [120]))))), (2, 1, (.k (.c (.p (.str [97]))))), (3, 1, (.k (.c (.p (.str [98])))))]⟩,
    ⟨none, some 7, .lit 8 [[.p (.int .i64 0), .p (.str []), .p (.str []), .p (.str []), .p (.str []), .p (.int .i64 0), .p (.int .i64 0), .p (.str [])]] [(0, (.t 6))]⟩,
    ⟨none, some 8, .call 20 [(.t 5), (.t 7)]⟩,
    ⟨none, some 4, .move (.t 8)⟩,
    ⟨none, some 9, .extract (.t 4) 0⟩,
    ⟨none, some 10, .extract (.t 4) 1⟩,
    ⟨none, some 11, .extract (.t 4) 2⟩,
    ⟨none, some 1, .allocB 2 [[.p .nil, .p .nil]]⟩,
    ⟨none, none, .store 2 (.t 1) (.t 9)⟩,
    ⟨none, some 2, .move (.t 10)⟩,
    ⟨none, some 3, .move (.t 11)⟩] [.frz 1])
 (.seq (.ops [⟨none, some 12, .move (.t 2)⟩,
    ⟨none, some 13, .bin .eql (.t 12) (.k (.c (.p (.int .i64 0))))⟩,
    ⟨none, some 14, .move (.t 13)⟩,
    ⟨some (14, true), some 15, .move (.t 3)⟩,
    ⟨some (14, true), some 16, .bin .eql (.t 15) (.k (.c (.p (.int .i64 9))))⟩,
    ⟨none, some 17, .pick (.t 14) (.t 16) (.k (.c (.p (.bool false))))⟩,
    ⟨none, some 0, .move (.t 17)⟩] [])
 .ret)))
theorem c_pleachlaw26_awake : comp Try.prog { own := [], mt := [], lp := [], gh := [(1, [.frz 1])] } 18 (Try.f12.body.getD .skip) = some s_pleachlaw26_awake := by kernel_rfl
abbrev r_pleachlaw26_awake : List RV := [.tmp 0]
theorem a_pleachlaw26_awake {args : List AV} {H : List (Nat × Blk)} {nx : Nat} {K : AV → List (Nat × Blk) → Nat → Prop} (hal : args.length ≤ 18) (h : W Try.prog s_pleachlaw26_awake (RETK r_pleachlaw26_awake K) ⟨argE 0 args, H, nx⟩) : ACalls Try.prog 12 args H nx K :=
  acalls_of_W (drawOk mixed) Try.func12 rfl (by kernel_rfl) (of_decide_eq_true (by kernel_rfl)) (by kernel_rfl) c_pleachlaw26_awake (by kernel_rfl) hal h
theorem p_pleachlaw26_awake {args : List AV} {r : AV} (hal : args.length ≤ 18) (hp : args.all pureA = true) (hr : pureA r = true) (h : W Try.prog s_pleachlaw26_awake (RETK r_pleachlaw26_awake fun a H _ => FRZ r a H) ⟨argE 0 args, [], 0⟩) : PCalls Try.prog 12 args r := .of hp (a_pleachlaw26_awake hal h) hr

/-! pleach/pleachref26.Right -/
abbrev n_pleachref26_Right : Nat := 13
def s_pleachref26_Right : S :=
 (.seq (.ops [⟨none, some 1, .boxI (.t 0)⟩,
    ⟨none, some 2, .move (.k (.c (.p (.bool false))))⟩] [])
 (.seq (.seq (.ops [⟨none, some 3, .fieldA 1 1 (.t 1)⟩,
    ⟨none, some 4, .load false 1 (.t 3)⟩,
    ⟨none, some 5, .call 46 [(.t 4)]⟩,
    ⟨none, some 6, .un .not (.t 5)⟩,
    ⟨none, some 7, .move (.t 6)⟩,
    ⟨some (7, false), some 8, .fieldA 0 1 (.t 1)⟩,
    ⟨some (7, false), some 9, .load false 1 (.t 8)⟩,
    ⟨some (7, false), some 10, .bin .lss (.t 9) (.k (.c (.p (.int .i64 1))))⟩,
    ⟨none, some 11, .pick (.t 7) (.k (.c (.p (.bool true)))) (.t 10)⟩,
    ⟨none, some 12, .move (.t 11)⟩,
    ⟨some (12, false), some 13, .fieldA 0 1 (.t 1)⟩,
    ⟨some (12, false), some 14, .load false 1 (.t 13)⟩,
    ⟨some (12, false), some 15, .bin .gtr (.t 14) (.k (.c (.p (.int .i64 12))))⟩,
    ⟨none, some 16, .pick (.t 12) (.k (.c (.p (.bool true)))) (.t 15)⟩] [])
 (.cond (.t 16) (.seq (.ops [⟨none, some 2, .move (.k (.c (.p (.bool false))))⟩] [])
  .ret)
  .skip))
 (.seq (.seq (.ops [⟨none, some 17, .fieldA 0 1 (.t 1)⟩,
    ⟨none, some 18, .load false 1 (.t 17)⟩,
    ⟨none, some 19, .bin .eql (.t 18) (.k (.c (.p (.int .i64 3))))⟩] [])
 (.cond (.t 19) (.seq (.ops [⟨none, some 20, .fieldA 2 1 (.t 1)⟩,
    ⟨none, some 21, .load false 1 (.t 20)⟩,
    ⟨none, some 22, .call 46 [(.t 21)]⟩,
    ⟨none, some 23, .move (.t 22)⟩,
    ⟨some (23, true), some 24, .fieldA 3 1 (.t 1)⟩,
    ⟨some (23, true), some 25, .load false 1 (.t 24)⟩,
    ⟨some (23, true), some 26, .call 46 [(.t 25)]⟩,
    ⟨none, some 27, .pick (.t 23) (.t 26) (.k (.c (.p (.bool false))))⟩,
    ⟨none, some 2, .move (.t 27)⟩] [])
  .ret)
  .skip))
 (.seq (.seq (.ops [⟨none, some 28, .fieldA 0 1 (.t 1)⟩,
    ⟨none, some 29, .load false 1 (.t 28)⟩,
    ⟨none, some 30, .bin .geq (.t 29) (.k (.c (.p (.int .i64 5))))⟩,
    ⟨none, some 31, .move (.t 30)⟩,
    ⟨some (31, true), some 32, .fieldA 4 1 (.t 1)⟩,
    ⟨some (31, true), some 33, .load false 1 (.t 32)⟩,
    ⟨some (31, true), some 34, .call 46 [(.t 33)]⟩,
    ⟨some (31, true), some 35, .un .not (.t 34)⟩,
    ⟨none, some 36, .pick (.t 31) (.t 35) (.k (.c (.p (.bool false))))⟩] [])
 (.cond (.t 36) (.seq (.ops [⟨none, some 2, .move (.k (.c (.p (.bool false))))⟩] [])
  .ret)
  .skip))
 (.seq (.ops [⟨none, some 37, .fieldA 0 1 (.t 1)⟩,
    ⟨none, some 38, .load false 1 (.t 37)⟩,
    ⟨none, some 39, .bin .neq (.t 38) (.k (.c (.p (.int .i64 9))))⟩,
    ⟨none, some 40, .move (.t 39)⟩,
    ⟨some (40, true), some 41, .fieldA 0 1 (.t 1)⟩,
    ⟨some (40, true), some 42, .load false 1 (.t 41)⟩,
    ⟨some (40, true), some 43, .bin .neq (.t 42) (.k (.c (.p (.int .i64 11))))⟩,
    ⟨none, some 44, .pick (.t 40) (.t 43) (.k (.c (.p (.bool false))))⟩,
    ⟨none, some 45, .move (.t 44)⟩,
    ⟨some (45, false), some 46, .fieldA 5 3 (.t 1)⟩,
    ⟨some (45, false), some 47, .load true 3 (.t 46)⟩,
    ⟨some (45, false), some 48, .call 47 [(.t 47)]⟩,
    ⟨none, some 49, .pick (.t 45) (.k (.c (.p (.bool true)))) (.t 48)⟩,
    ⟨none, some 2, .move (.t 49)⟩] [])
 .ret)))))
theorem c_pleachref26_Right : comp Try.prog { own := [], mt := [], lp := [], gh := [] } 50 (Try.f13.body.getD .skip) = some s_pleachref26_Right := by kernel_rfl
abbrev r_pleachref26_Right : List RV := [.tmp 2]
theorem a_pleachref26_Right {args : List AV} {H : List (Nat × Blk)} {nx : Nat} {K : AV → List (Nat × Blk) → Nat → Prop} (hal : args.length ≤ 50) (h : W Try.prog s_pleachref26_Right (RETK r_pleachref26_Right K) ⟨argE 0 args, H, nx⟩) : ACalls Try.prog 13 args H nx K :=
  acalls_of_W (drawOk mixed) Try.func13 rfl (by kernel_rfl) (of_decide_eq_true (by kernel_rfl)) (by kernel_rfl) c_pleachref26_Right (by kernel_rfl) hal h
theorem p_pleachref26_Right {args : List AV} {r : AV} (hal : args.length ≤ 50) (hp : args.all pureA = true) (hr : pureA r = true) (h : W Try.prog s_pleachref26_Right (RETK r_pleachref26_Right fun a H _ => FRZ r a H) ⟨argE 0 args, [], 0⟩) : PCalls Try.prog 13 args r := .of hp (a_pleachref26_Right hal h) hr

/-! pleach/graph.Right -/
abbrev n_graph_Right : Nat := 14
def s_graph_Right : S :=
 (.seq (.ops [⟨none, some 1, .boxI (.t 0)⟩,
    ⟨none, some 2, .move (.k (.c (.p (.int .i64 0))))⟩] [])
 (.seq (.seq (.ops [⟨none, some 6, .fieldA 1 1 (.t 1)⟩,
    ⟨none, some 7, .load false 1 (.t 6)⟩,
    ⟨none, some 8, .call 48 [(.t 7)]⟩,
    ⟨none, some 9, .bin .neq (.t 8) (.k (.c (.p (.int .i64 0))))⟩] [])
 (.cond (.t 9) (.seq (.ops [⟨none, some 2, .move (.k (.c (.p (.int .i64 2))))⟩] [])
  .ret)
  .skip))
 (.seq (.ops [⟨none, some 3, .move (.k (.c (.p (.bool true))))⟩] [])
 (.seq (.seq (.ops [⟨none, some 10, .fieldA 0 1 (.t 1)⟩,
    ⟨none, some 11, .load false 1 (.t 10)⟩] [])
 (.block 0 (.seq (.seq (.ops [⟨none, some 13, .bin .eql (.t 11) (.k (.c (.p (.int .i64 1))))⟩,
    ⟨none, some 12, .move (.t 13)⟩] [])
  (.cond (.t 12) .skip
   (.seq (.ops [⟨none, some 14, .bin .eql (.t 11) (.k (.c (.p (.int .i64 2))))⟩,
    ⟨none, some 12, .move (.t 14)⟩] [])
   (.cond (.t 12) .skip
    (.ops [⟨none, some 15, .bin .eql (.t 11) (.k (.c (.p (.int .i64 4))))⟩,
    ⟨none, some 12, .move (.t 15)⟩] [])))))
  (.cond (.t 12) .skip
   (.seq (.ops [⟨none, some 17, .bin .eql (.t 11) (.k (.c (.p (.int .i64 3))))⟩,
    ⟨none, some 16, .move (.t 17)⟩] [])
   (.cond (.t 16) (.ops [⟨none, some 18, .fieldA 2 1 (.t 1)⟩,
    ⟨none, some 19, .load false 1 (.t 18)⟩,
    ⟨none, some 20, .call 48 [(.t 19)]⟩,
    ⟨none, some 21, .bin .eql (.t 20) (.k (.c (.p (.int .i64 0))))⟩,
    ⟨none, some 22, .move (.t 21)⟩,
    ⟨some (22, true), some 23, .fieldA 3 1 (.t 1)⟩,
    ⟨some (22, true), some 24, .load false 1 (.t 23)⟩,
    ⟨some (22, true), some 25, .call 48 [(.t 24)]⟩,
    ⟨some (22, true), some 26, .bin .eql (.t 25) (.k (.c (.p (.int .i64 0))))⟩,
    ⟨none, some 27, .pick (.t 22) (.t 26) (.k (.c (.p (.bool false))))⟩,
    ⟨none, some 3, .move (.t 27)⟩] [])
    (.seq (.seq (.ops [⟨none, some 29, .bin .eql (.t 11) (.k (.c (.p (.int .i64 5))))⟩,
    ⟨none, some 28, .move (.t 29)⟩] [])
    (.cond (.t 28) .skip
     (.seq (.ops [⟨none, some 30, .bin .eql (.t 11) (.k (.c (.p (.int .i64 6))))⟩,
    ⟨none, some 28, .move (.t 30)⟩] [])
     (.cond (.t 28) .skip
      (.seq (.ops [⟨none, some 31, .bin .eql (.t 11) (.k (.c (.p (.int .i64 7))))⟩,
    ⟨none, some 28, .move (.t 31)⟩] [])
      (.cond (.t 28) .skip
       (.seq (.ops [⟨none, some 32, .bin .eql (.t 11) (.k (.c (.p (.int .i64 8))))⟩,
    ⟨none, some 28, .move (.t 32)⟩] [])
       (.cond (.t 28) .skip
        (.seq (.ops [⟨none, some 33, .bin .eql (.t 11) (.k (.c (.p (.int .i64 10))))⟩,
    ⟨none, some 28, .move (.t 33)⟩] [])
        (.cond (.t 28) .skip
         (.ops [⟨none, some 34, .bin .eql (.t 11) (.k (.c (.p (.int .i64 12))))⟩,
    ⟨none, some 28, .move (.t 34)⟩] [])))))))))))
    (.cond (.t 28) (.ops [⟨none, some 35, .fieldA 4 1 (.t 1)⟩,
    ⟨none, some 36, .load false 1 (.t 35)⟩,
    ⟨none, some 37, .call 48 [(.t 36)]⟩,
    ⟨none, some 38, .bin .eql (.t 37) (.k (.c (.p (.int .i64 0))))⟩,
    ⟨none, some 3, .move (.t 38)⟩] [])
     (.seq (.seq (.ops [⟨none, some 40, .bin .eql (.t 11) (.k (.c (.p (.int .i64 9))))⟩,
    ⟨none, some 39, .move (.t 40)⟩] [])
     (.cond (.t 39) .skip
      (.ops [⟨none, some 41, .bin .eql (.t 11) (.k (.c (.p (.int .i64 11))))⟩,
    ⟨none, some 39, .move (.t 41)⟩] [])))
     (.cond (.t 39) (.seq (.ops [⟨none, some 43, .fieldA 4 1 (.t 1)⟩,
    ⟨none, some 44, .load false 1 (.t 43)⟩,
    ⟨none, some 45, .fieldA 5 3 (.t 1)⟩,
    ⟨none, some 46, .load true 3 (.t 45)⟩,
    ⟨none, some 47, .call 49 [(.k (.c (.p .nil))), (.t 44), (.t 46)]⟩,
    ⟨none, some 42, .move (.t 47)⟩,
    ⟨none, some 48, .extract (.t 42) 0⟩,
    ⟨none, some 49, .extract (.t 42) 1⟩,
    ⟨none, some 4, .move (.t 48)⟩,
    ⟨none, some 5, .move (.t 49)⟩] [])
      (.ops [⟨none, some 50, .move (.t 5)⟩,
    ⟨none, some 51, .bin .eql (.t 50) (.k (.c (.p (.int .i64 0))))⟩,
    ⟨none, some 3, .move (.t 51)⟩] []))
      (.ops [⟨none, some 3, .move (.k (.c (.p (.bool false))))⟩] [])))))))))))
 (.seq (.seq (.ops [⟨none, some 52, .move (.t 3)⟩,
    ⟨none, some 53, .un .not (.t 52)⟩] [])
 (.cond (.t 53) (.seq (.ops [⟨none, some 2, .move (.k (.c (.p (.int .i64 2))))⟩] [])
  .ret)
  .skip))
 (.seq (.ops [⟨none, some 2, .move (.k (.c (.p (.int .i64 0))))⟩] [])
 .ret))))))
theorem c_graph_Right : comp Try.prog { own := [], mt := [], lp := [], gh := [] } 54 (Try.f14.body.getD .skip) = some s_graph_Right := by kernel_rfl
abbrev r_graph_Right : List RV := [.tmp 2]
theorem a_graph_Right {args : List AV} {H : List (Nat × Blk)} {nx : Nat} {K : AV → List (Nat × Blk) → Nat → Prop} (hal : args.length ≤ 54) (h : W Try.prog s_graph_Right (RETK r_graph_Right K) ⟨argE 0 args, H, nx⟩) : ACalls Try.prog 14 args H nx K :=
  acalls_of_W (drawOk mixed) Try.func14 rfl (by kernel_rfl) (of_decide_eq_true (by kernel_rfl)) (by kernel_rfl) c_graph_Right (by kernel_rfl) hal h
theorem p_graph_Right {args : List AV} {r : AV} (hal : args.length ≤ 54) (hp : args.all pureA = true) (hr : pureA r = true) (h : W Try.prog s_graph_Right (RETK r_graph_Right fun a H _ => FRZ r a H) ⟨argE 0 args, [], 0⟩) : PCalls Try.prog 14 args r := .of hp (a_graph_Right hal h) hr

/-! pleach/graph.OfEdge -/
abbrev n_graph_OfEdge : Nat := 15
def s_graph_OfEdge : S :=
 (.seq (.ops [⟨none, some 2, .move (.k (.c (.p (.bool false))))⟩] [])
 (.seq (.seq (.ops [⟨none, some 3, .move (.t 0)⟩] [])
 (.block 0 (.seq (.seq (.ops [⟨none, some 5, .bin .eql (.t 3) (.k (.c (.p (.int .i64 7))))⟩,
    ⟨none, some 4, .move (.t 5)⟩] [])
  (.cond (.t 4) .skip
   (.seq (.ops [⟨none, some 6, .bin .eql (.t 3) (.k (.c (.p (.int .i64 8))))⟩,
    ⟨none, some 4, .move (.t 6)⟩] [])
   (.cond (.t 4) .skip
    (.seq (.ops [⟨none, some 7, .bin .eql (.t 3) (.k (.c (.p (.int .i64 11))))⟩,
    ⟨none, some 4, .move (.t 7)⟩] [])
    (.cond (.t 4) .skip
     (.ops [⟨none, some 8, .bin .eql (.t 3) (.k (.c (.p (.int .i64 12))))⟩,
    ⟨none, some 4, .move (.t 8)⟩] [])))))))
  (.cond (.t 4) (.seq (.ops [⟨none, some 2, .move (.k (.c (.p (.bool true))))⟩] [])
   .ret)
   .skip))))
 (.seq (.ops [⟨none, some 2, .move (.k (.c (.p (.bool false))))⟩] [])
 .ret)))
theorem c_graph_OfEdge : comp Try.prog { own := [], mt := [], lp := [], gh := [] } 9 (Try.f15.body.getD .skip) = some s_graph_OfEdge := by kernel_rfl
abbrev r_graph_OfEdge : List RV := [.tmp 2]
theorem a_graph_OfEdge {args : List AV} {H : List (Nat × Blk)} {nx : Nat} {K : AV → List (Nat × Blk) → Nat → Prop} (hal : args.length ≤ 9) (h : W Try.prog s_graph_OfEdge (RETK r_graph_OfEdge K) ⟨argE 0 args, H, nx⟩) : ACalls Try.prog 15 args H nx K :=
  acalls_of_W (drawOk mixed) Try.func15 rfl (by kernel_rfl) (of_decide_eq_true (by kernel_rfl)) (by kernel_rfl) c_graph_OfEdge (by kernel_rfl) hal h
theorem p_graph_OfEdge {args : List AV} {r : AV} (hal : args.length ≤ 9) (hp : args.all pureA = true) (hr : pureA r = true) (h : W Try.prog s_graph_OfEdge (RETK r_graph_OfEdge fun a H _ => FRZ r a H) ⟨argE 0 args, [], 0⟩) : PCalls Try.prog 15 args r := .of hp (a_graph_OfEdge hal h) hr

/-! pleach/graph.Turn -/
abbrev n_graph_Turn : Nat := 16
def s_graph_Turn : S :=
 (.seq (.ops [⟨none, some 5, .boxI (.t 2)⟩,
    ⟨none, some 6, .move (.k (.c (.p .nil)))⟩,
    ⟨none, some 7, .move (.k (.c (.p .nil)))⟩,
    ⟨none, some 8, .move (.k (.c (.p (.int .i64 0))))⟩] [])
 (.seq (.ops [⟨none, some 9, .move (.k (.c (.p (.int .i64 0))))⟩] [])
 (.seq (.seq (.ops [⟨none, some 10, .fieldA 0 1 (.t 5)⟩,
    ⟨none, some 11, .load false 1 (.t 10)⟩] [])
 (.block 0 (.seq (.seq (.ops [⟨none, some 13, .bin .eql (.t 11) (.k (.c (.p (.int .i64 5))))⟩,
    ⟨none, some 12, .move (.t 13)⟩] [])
  (.cond (.t 12) .skip
   (.ops [⟨none, some 14, .bin .eql (.t 11) (.k (.c (.p (.int .i64 7))))⟩,
    ⟨none, some 12, .move (.t 14)⟩] [])))
  (.cond (.t 12) (.ops [⟨none, some 16, .move (.t 0)⟩,
    ⟨none, some 17, .fieldA 4 1 (.t 5)⟩,
    ⟨none, some 18, .load false 1 (.t 17)⟩,
    ⟨none, some 19, .call 50 [(.t 16), (.t 18)]⟩,
    ⟨none, some 15, .move (.t 19)⟩,
    ⟨none, some 20, .extract (.t 15) 0⟩,
    ⟨none, some 21, .extract (.t 15) 1⟩,
    ⟨none, some 0, .move (.t 20)⟩,
    ⟨none, some 9, .move (.t 21)⟩] [])
   (.seq (.seq (.ops [⟨none, some 23, .bin .eql (.t 11) (.k (.c (.p (.int .i64 6))))⟩,
    ⟨none, some 22, .move (.t 23)⟩] [])
   (.cond (.t 22) .skip
    (.ops [⟨none, some 24, .bin .eql (.t 11) (.k (.c (.p (.int .i64 8))))⟩,
    ⟨none, some 22, .move (.t 24)⟩] [])))
   (.cond (.t 22) (.ops [⟨none, some 26, .move (.t 0)⟩,
    ⟨none, some 27, .fieldA 4 1 (.t 5)⟩,
    ⟨none, some 28, .load false 1 (.t 27)⟩,
    ⟨none, some 29, .call 51 [(.t 26), (.t 28)]⟩,
    ⟨none, some 25, .move (.t 29)⟩,
    ⟨none, some 30, .extract (.t 25) 0⟩,
    ⟨none, some 31, .extract (.t 25) 1⟩,
    ⟨none, some 0, .move (.t 30)⟩,
    ⟨none, some 9, .move (.t 31)⟩] [])
    (.seq (.seq (.ops [⟨none, some 33, .bin .eql (.t 11) (.k (.c (.p (.int .i64 9))))⟩,
    ⟨none, some 32, .move (.t 33)⟩] [])
    (.cond (.t 32) .skip
     (.ops [⟨none, some 34, .bin .eql (.t 11) (.k (.c (.p (.int .i64 11))))⟩,
    ⟨none, some 32, .move (.t 34)⟩] [])))
    (.cond (.t 32) (.ops [⟨none, some 36, .move (.t 1)⟩,
    ⟨none, some 37, .fieldA 4 1 (.t 5)⟩,
    ⟨none, some 38, .load false 1 (.t 37)⟩,
    ⟨none, some 39, .fieldA 5 3 (.t 5)⟩,
    ⟨none, some 40, .load true 3 (.t 39)⟩,
    ⟨none, some 41, .call 49 [(.t 36), (.t 38), (.t 40)]⟩,
    ⟨none, some 35, .move (.t 41)⟩,
    ⟨none, some 42, .extract (.t 35) 0⟩,
    ⟨none, some 43, .extract (.t 35) 1⟩,
    ⟨none, some 1, .move (.t 42)⟩,
    ⟨none, some 9, .move (.t 43)⟩] [])
     (.seq (.seq (.ops [⟨none, some 45, .bin .eql (.t 11) (.k (.c (.p (.int .i64 10))))⟩,
    ⟨none, some 44, .move (.t 45)⟩] [])
     (.cond (.t 44) .skip
      (.ops [⟨none, some 46, .bin .eql (.t 11) (.k (.c (.p (.int .i64 12))))⟩,
    ⟨none, some 44, .move (.t 46)⟩] [])))
     (.cond (.t 44) (.ops [⟨none, some 48, .move (.t 1)⟩,
    ⟨none, some 49, .fieldA 4 1 (.t 5)⟩,
    ⟨none, some 50, .load false 1 (.t 49)⟩,
    ⟨none, some 51, .call 52 [(.t 48), (.t 50)]⟩,
    ⟨none, some 47, .move (.t 51)⟩,
    ⟨none, some 52, .extract (.t 47) 0⟩,
    ⟨none, some 53, .extract (.t 47) 1⟩,
    ⟨none, some 1, .move (.t 52)⟩,
    ⟨none, some 9, .move (.t 53)⟩] [])
      (.ops [⟨none, some 9, .move (.k (.c (.p (.int .i64 2))))⟩] [])))))))))))
 (.seq (.seq (.ops [⟨none, some 54, .move (.t 9)⟩,
    ⟨none, some 55, .bin .neq (.t 54) (.k (.c (.p (.int .i64 0))))⟩] [])
 (.cond (.t 55) (.seq (.ops [⟨none, some 56, .move (.t 9)⟩,
    ⟨none, some 6, .move (.k (.c (.p .nil)))⟩,
    ⟨none, some 7, .move (.k (.c (.p .nil)))⟩,
    ⟨none, some 8, .move (.t 56)⟩] [])
  .ret)
  .skip))
 (.seq (.ops [⟨none, some 57, .move (.t 0)⟩,
    ⟨none, some 58, .call 53 [(.t 57)]⟩,
    ⟨none, some 59, .move (.t 1)⟩,
    ⟨none, some 60, .call 54 [(.t 59)]⟩,
    ⟨none, some 6, .move (.t 58)⟩,
    ⟨none, some 7, .move (.t 60)⟩,
    ⟨none, some 8, .move (.k (.c (.p (.int .i64 0))))⟩] [])
 .ret)))))
theorem c_graph_Turn : comp Try.prog { own := [], mt := [], lp := [], gh := [] } 61 (Try.f16.body.getD .skip) = some s_graph_Turn := by kernel_rfl
abbrev r_graph_Turn : List RV := [.tmp 6, .tmp 7, .tmp 8]
theorem a_graph_Turn {args : List AV} {H : List (Nat × Blk)} {nx : Nat} {K : AV → List (Nat × Blk) → Nat → Prop} (hal : args.length ≤ 61) (h : W Try.prog s_graph_Turn (RETK r_graph_Turn K) ⟨argE 0 args, H, nx⟩) : ACalls Try.prog 16 args H nx K :=
  acalls_of_W (drawOk mixed) Try.func16 rfl (by kernel_rfl) (of_decide_eq_true (by kernel_rfl)) (by kernel_rfl) c_graph_Turn (by kernel_rfl) hal h
theorem p_graph_Turn {args : List AV} {r : AV} (hal : args.length ≤ 61) (hp : args.all pureA = true) (hr : pureA r = true) (h : W Try.prog s_graph_Turn (RETK r_graph_Turn fun a H _ => FRZ r a H) ⟨argE 0 args, [], 0⟩) : PCalls Try.prog 16 args r := .of hp (a_graph_Turn hal h) hr

/-! pleach/pleachref26.Turn -/
abbrev n_pleachref26_Turn : Nat := 17
def s_pleachref26_Turn : S :=
 (.seq (.ops [⟨none, some 5, .boxI (.t 2)⟩,
    ⟨none, some 6, .move (.k (.c (.p .nil)))⟩,
    ⟨none, some 7, .move (.k (.c (.p .nil)))⟩,
    ⟨none, some 8, .move (.k (.c (.p (.int .i64 0))))⟩] [])
 (.seq (.ops [⟨none, some 9, .move (.k (.c (.p (.int .i64 0))))⟩] [])
 (.seq (.seq (.ops [⟨none, some 10, .fieldA 0 1 (.t 5)⟩,
    ⟨none, some 11, .load false 1 (.t 10)⟩,
    ⟨none, some 12, .bin .eql (.t 11) (.k (.c (.p (.int .i64 5))))⟩,
    ⟨none, some 13, .move (.t 12)⟩,
    ⟨some (13, false), some 14, .fieldA 0 1 (.t 5)⟩,
    ⟨some (13, false), some 15, .load false 1 (.t 14)⟩,
    ⟨some (13, false), some 16, .bin .eql (.t 15) (.k (.c (.p (.int .i64 7))))⟩,
    ⟨none, some 17, .pick (.t 13) (.k (.c (.p (.bool true)))) (.t 16)⟩] [])
 (.cond (.t 17) (.ops [⟨none, some 19, .move (.t 0)⟩,
    ⟨none, some 20, .fieldA 4 1 (.t 5)⟩,
    ⟨none, some 21, .load false 1 (.t 20)⟩,
    ⟨none, some 22, .call 55 [(.t 19), (.t 21)]⟩,
    ⟨none, some 18, .move (.t 22)⟩,
    ⟨none, some 23, .extract (.t 18) 0⟩,
    ⟨none, some 24, .extract (.t 18) 1⟩,
    ⟨none, some 0, .move (.t 23)⟩,
    ⟨none, some 9, .move (.t 24)⟩] [])
  (.seq (.ops [⟨none, some 25, .fieldA 0 1 (.t 5)⟩,
    ⟨none, some 26, .load false 1 (.t 25)⟩,
    ⟨none, some 27, .bin .eql (.t 26) (.k (.c (.p (.int .i64 6))))⟩,
    ⟨none, some 28, .move (.t 27)⟩,
    ⟨some (28, false), some 29, .fieldA 0 1 (.t 5)⟩,
    ⟨some (28, false), some 30, .load false 1 (.t 29)⟩,
    ⟨some (28, false), some 31, .bin .eql (.t 30) (.k (.c (.p (.int .i64 8))))⟩,
    ⟨none, some 32, .pick (.t 28) (.k (.c (.p (.bool true)))) (.t 31)⟩] [])
  (.cond (.t 32) (.ops [⟨none, some 34, .move (.t 0)⟩,
    ⟨none, some 35, .fieldA 4 1 (.t 5)⟩,
    ⟨none, some 36, .load false 1 (.t 35)⟩,
    ⟨none, some 37, .call 56 [(.t 34), (.t 36)]⟩,
    ⟨none, some 33, .move (.t 37)⟩,
    ⟨none, some 38, .extract (.t 33) 0⟩,
    ⟨none, some 39, .extract (.t 33) 1⟩,
    ⟨none, some 0, .move (.t 38)⟩,
    ⟨none, some 9, .move (.t 39)⟩] [])
   (.seq (.ops [⟨none, some 40, .fieldA 0 1 (.t 5)⟩,
    ⟨none, some 41, .load false 1 (.t 40)⟩,
    ⟨none, some 42, .bin .eql (.t 41) (.k (.c (.p (.int .i64 9))))⟩,
    ⟨none, some 43, .move (.t 42)⟩,
    ⟨some (43, false), some 44, .fieldA 0 1 (.t 5)⟩,
    ⟨some (43, false), some 45, .load false 1 (.t 44)⟩,
    ⟨some (43, false), some 46, .bin .eql (.t 45) (.k (.c (.p (.int .i64 11))))⟩,
    ⟨none, some 47, .pick (.t 43) (.k (.c (.p (.bool true)))) (.t 46)⟩] [])
   (.cond (.t 47) (.ops [⟨none, some 49, .move (.t 1)⟩,
    ⟨none, some 50, .fieldA 4 1 (.t 5)⟩,
    ⟨none, some 51, .load false 1 (.t 50)⟩,
    ⟨none, some 52, .fieldA 5 3 (.t 5)⟩,
    ⟨none, some 53, .load true 3 (.t 52)⟩,
    ⟨none, some 54, .call 57 [(.t 49), (.t 51), (.t 53)]⟩,
    ⟨none, some 48, .move (.t 54)⟩,
    ⟨none, some 55, .extract (.t 48) 0⟩,
    ⟨none, some 56, .extract (.t 48) 1⟩,
    ⟨none, some 1, .move (.t 55)⟩,
    ⟨none, some 9, .move (.t 56)⟩] [])
    (.seq (.ops [⟨none, some 57, .fieldA 0 1 (.t 5)⟩,
    ⟨none, some 58, .load false 1 (.t 57)⟩,
    ⟨none, some 59, .bin .eql (.t 58) (.k (.c (.p (.int .i64 10))))⟩,
    ⟨none, some 60, .move (.t 59)⟩,
    ⟨some (60, false), some 61, .fieldA 0 1 (.t 5)⟩,
    ⟨some (60, false), some 62, .load false 1 (.t 61)⟩,
    ⟨some (60, false), some 63, .bin .eql (.t 62) (.k (.c (.p (.int .i64 12))))⟩,
    ⟨none, some 64, .pick (.t 60) (.k (.c (.p (.bool true)))) (.t 63)⟩] [])
    (.cond (.t 64) (.ops [⟨none, some 66, .move (.t 1)⟩,
    ⟨none, some 67, .fieldA 4 1 (.t 5)⟩,
    ⟨none, some 68, .load false 1 (.t 67)⟩,
    ⟨none, some 69, .call 58 [(.t 66), (.t 68)]⟩,
    ⟨none, some 65, .move (.t 69)⟩,
    ⟨none, some 70, .extract (.t 65) 0⟩,
    ⟨none, some 71, .extract (.t 65) 1⟩,
    ⟨none, some 1, .move (.t 70)⟩,
    ⟨none, some 9, .move (.t 71)⟩] [])
     (.ops [⟨none, some 9, .move (.k (.c (.p (.int .i64 2))))⟩] [])))))))))
 (.seq (.seq (.ops [⟨none, some 72, .move (.t 9)⟩,
    ⟨none, some 73, .bin .neq (.t 72) (.k (.c (.p (.int .i64 0))))⟩] [])
 (.cond (.t 73) (.seq (.ops [⟨none, some 74, .move (.t 9)⟩,
    ⟨none, some 6, .move (.k (.c (.p .nil)))⟩,
    ⟨none, some 7, .move (.k (.c (.p .nil)))⟩,
    ⟨none, some 8, .move (.t 74)⟩] [])
  .ret)
  .skip))
 (.seq (.ops [⟨none, some 75, .move (.t 0)⟩,
    ⟨none, some 76, .move (.t 1)⟩,
    ⟨none, some 6, .move (.t 75)⟩,
    ⟨none, some 7, .move (.t 76)⟩,
    ⟨none, some 8, .move (.k (.c (.p (.int .i64 0))))⟩] [])
 .ret)))))
theorem c_pleachref26_Turn : comp Try.prog { own := [], mt := [], lp := [], gh := [] } 77 (Try.f17.body.getD .skip) = some s_pleachref26_Turn := by kernel_rfl
abbrev r_pleachref26_Turn : List RV := [.tmp 6, .tmp 7, .tmp 8]
theorem a_pleachref26_Turn {args : List AV} {H : List (Nat × Blk)} {nx : Nat} {K : AV → List (Nat × Blk) → Nat → Prop} (hal : args.length ≤ 77) (h : W Try.prog s_pleachref26_Turn (RETK r_pleachref26_Turn K) ⟨argE 0 args, H, nx⟩) : ACalls Try.prog 17 args H nx K :=
  acalls_of_W (drawOk mixed) Try.func17 rfl (by kernel_rfl) (of_decide_eq_true (by kernel_rfl)) (by kernel_rfl) c_pleachref26_Turn (by kernel_rfl) hal h
theorem p_pleachref26_Turn {args : List AV} {r : AV} (hal : args.length ≤ 77) (hp : args.all pureA = true) (hr : pureA r = true) (h : W Try.prog s_pleachref26_Turn (RETK r_pleachref26_Turn fun a H _ => FRZ r a H) ⟨argE 0 args, [], 0⟩) : PCalls Try.prog 17 args r := .of hp (a_pleachref26_Turn hal h) hr

/-! pleach/pleachref25.SameTexts -/
abbrev n_pleachref25_SameTexts : Nat := 18
def b_pleachref25_SameTexts_0 : S :=
 (.seq (.seq (.ops [⟨none, some 11, .move (.t 5)⟩,
    ⟨none, some 12, .move (.t 0)⟩,
    ⟨none, some 13, .len (.t 12)⟩,
    ⟨none, some 14, .bin .lss (.t 11) (.t 13)⟩] [])
 (.cond (.t 14) .skip
  (.exit 0)))
 (.seq (.block 1 (.seq (.draw [⟨none, some 17, .move (.t 0)⟩,
    ⟨none, some 18, .move (.t 5)⟩,
    ⟨none, some 19, .idxA 1 (.t 17) (.t 18)⟩,
    ⟨none, some 20, .load false 1 (.t 19)⟩,
    ⟨none, some 21, .move (.t 1)⟩,
    ⟨none, some 22, .move (.t 5)⟩,
    ⟨none, some 23, .idxA 1 (.t 21) (.t 22)⟩,
    ⟨none, some 24, .load false 1 (.t 23)⟩,
    ⟨none, some 25, .bin .neq (.t 20) (.t 24)⟩]
  [0, 0, 3, 7, 0, 0, 48, 112, 255] [])
  (.cond (.t 25) (.seq (.ops [⟨none, some 4, .move (.k (.c (.p (.bool false))))⟩] [])
   .ret)
   .skip)))
 (.ops [⟨none, some 15, .move (.t 5)⟩,
    ⟨none, some 16, .bin .add (.t 15) (.k (.c (.p (.int .i64 1))))⟩,
    ⟨none, some 5, .move (.t 16)⟩] [])))
def s_pleachref25_SameTexts : S :=
 (.seq (.ops [⟨none, some 4, .move (.k (.c (.p (.bool false))))⟩] [])
 (.seq (.seq (.ops [⟨none, some 6, .move (.t 0)⟩,
    ⟨none, some 7, .len (.t 6)⟩,
    ⟨none, some 8, .move (.t 1)⟩,
    ⟨none, some 9, .len (.t 8)⟩,
    ⟨none, some 10, .bin .neq (.t 7) (.t 9)⟩] [])
 (.cond (.t 10) (.seq (.ops [⟨none, some 4, .move (.k (.c (.p (.bool false))))⟩] [])
  .ret)
  .skip))
 (.seq (.seq (.ops [⟨none, some 5, .move (.k (.c (.p (.int .i64 0))))⟩] [])
 (.block 0 (.loop [0, 1, 5] b_pleachref25_SameTexts_0)))
 (.seq (.ops [⟨none, some 4, .move (.k (.c (.p (.bool true))))⟩] [])
 .ret))))
theorem c_pleachref25_SameTexts : comp Try.prog { own := [], mt := [], lp := [(0, [0, 1, 5])], gh := [] } 26 (Try.f18.body.getD .skip) = some s_pleachref25_SameTexts := by kernel_rfl
abbrev r_pleachref25_SameTexts : List RV := [.tmp 4]
theorem a_pleachref25_SameTexts {args : List AV} {H : List (Nat × Blk)} {nx : Nat} {K : AV → List (Nat × Blk) → Nat → Prop} (hal : args.length ≤ 26) (h : W Try.prog s_pleachref25_SameTexts (RETK r_pleachref25_SameTexts K) ⟨argE 0 args, H, nx⟩) : ACalls Try.prog 18 args H nx K :=
  acalls_of_W (drawOk mixed) Try.func18 rfl (by kernel_rfl) (of_decide_eq_true (by kernel_rfl)) (by kernel_rfl) c_pleachref25_SameTexts (by kernel_rfl) hal h
theorem p_pleachref25_SameTexts {args : List AV} {r : AV} (hal : args.length ≤ 26) (hp : args.all pureA = true) (hr : pureA r = true) (h : W Try.prog s_pleachref25_SameTexts (RETK r_pleachref25_SameTexts fun a H _ => FRZ r a H) ⟨argE 0 args, [], 0⟩) : PCalls Try.prog 18 args r := .of hp (a_pleachref25_SameTexts hal h) hr

/-! pleach/pleachref25.SameProps -/
abbrev n_pleachref25_SameProps : Nat := 19
def b_pleachref25_SameProps_0 : S :=
 (.seq (.seq (.ops [⟨none, some 11, .move (.t 5)⟩,
    ⟨none, some 12, .move (.t 0)⟩,
    ⟨none, some 13, .len (.t 12)⟩,
    ⟨none, some 14, .bin .lss (.t 11) (.t 13)⟩] [])
 (.cond (.t 14) .skip
  (.exit 0)))
 (.seq (.block 1 (.seq (.draw [⟨none, some 17, .move (.t 0)⟩,
    ⟨none, some 18, .move (.t 5)⟩,
    ⟨none, some 19, .idxA 4 (.t 17) (.t 18)⟩,
    ⟨none, some 20, .load true 4 (.t 19)⟩,
    ⟨none, some 21, .move (.t 1)⟩,
    ⟨none, some 22, .move (.t 5)⟩,
    ⟨none, some 23, .idxA 4 (.t 21) (.t 22)⟩,
    ⟨none, some 24, .load true 4 (.t 23)⟩,
    ⟨none, some 25, .eqS [.str, .int, .int, .str] true (.t 20) (.t 24)⟩]
  [0, 0, 3, 7, 0, 0, 48, 112, 255] [])
  (.cond (.t 25) (.seq (.ops [⟨none, some 4, .move (.k (.c (.p (.bool false))))⟩] [])
   .ret)
   .skip)))
 (.ops [⟨none, some 15, .move (.t 5)⟩,
    ⟨none, some 16, .bin .add (.t 15) (.k (.c (.p (.int .i64 1))))⟩,
    ⟨none, some 5, .move (.t 16)⟩] [])))
def s_pleachref25_SameProps : S :=
 (.seq (.ops [⟨none, some 4, .move (.k (.c (.p (.bool false))))⟩] [])
 (.seq (.seq (.ops [⟨none, some 6, .move (.t 0)⟩,
    ⟨none, some 7, .len (.t 6)⟩,
    ⟨none, some 8, .move (.t 1)⟩,
    ⟨none, some 9, .len (.t 8)⟩,
    ⟨none, some 10, .bin .neq (.t 7) (.t 9)⟩] [])
 (.cond (.t 10) (.seq (.ops [⟨none, some 4, .move (.k (.c (.p (.bool false))))⟩] [])
  .ret)
  .skip))
 (.seq (.seq (.ops [⟨none, some 5, .move (.k (.c (.p (.int .i64 0))))⟩] [])
 (.block 0 (.loop [0, 1, 5] b_pleachref25_SameProps_0)))
 (.seq (.ops [⟨none, some 4, .move (.k (.c (.p (.bool true))))⟩] [])
 .ret))))
theorem c_pleachref25_SameProps : comp Try.prog { own := [], mt := [], lp := [(0, [0, 1, 5])], gh := [] } 26 (Try.f19.body.getD .skip) = some s_pleachref25_SameProps := by kernel_rfl
abbrev r_pleachref25_SameProps : List RV := [.tmp 4]
theorem a_pleachref25_SameProps {args : List AV} {H : List (Nat × Blk)} {nx : Nat} {K : AV → List (Nat × Blk) → Nat → Prop} (hal : args.length ≤ 26) (h : W Try.prog s_pleachref25_SameProps (RETK r_pleachref25_SameProps K) ⟨argE 0 args, H, nx⟩) : ACalls Try.prog 19 args H nx K :=
  acalls_of_W (drawOk mixed) Try.func19 rfl (by kernel_rfl) (of_decide_eq_true (by kernel_rfl)) (by kernel_rfl) c_pleachref25_SameProps (by kernel_rfl) hal h
theorem p_pleachref25_SameProps {args : List AV} {r : AV} (hal : args.length ≤ 26) (hp : args.all pureA = true) (hr : pureA r = true) (h : W Try.prog s_pleachref25_SameProps (RETK r_pleachref25_SameProps fun a H _ => FRZ r a H) ⟨argE 0 args, [], 0⟩) : PCalls Try.prog 19 args r := .of hp (a_pleachref25_SameProps hal h) hr

/-! pleach/graph.Apply -/
abbrev n_graph_Apply : Nat := 20
def b_graph_Apply_0 : S :=
 (.seq (.ops [⟨none, some 25, .bin .lss (.t 24) (.t 23)⟩] [])
 (.seq (.cond (.t 25) .skip
  (.exit 0))
 (.seq (.block 1 (.seq (.ops [⟨none, some 26, .move (.t 24)⟩,
    ⟨none, some 27, .idxA 8 (.t 22) (.t 24)⟩,
    ⟨none, some 28, .load true 8 (.t 27)⟩,
    ⟨none, some 10, .allocB 8 [[.p (.int .i64 0), .p (.str []), .p (.str []), .p (.str []), .p (.str []), .p (.int .i64 0), .p (.int .i64 0), .p (.str [])]]⟩,
    ⟨none, some 9, .move (.t 26)⟩,
    ⟨none, none, .store 8 (.t 10) (.t 28)⟩] [.frz 10])
  (.seq (.ops [⟨none, some 29, .move (.t 8)⟩,
    ⟨none, some 30, .load true 8 (.t 10)⟩,
    ⟨none, some 31, .call 59 [(.t 29), (.t 30)]⟩,
    ⟨none, some 11, .move (.t 31)⟩] [])
  (.seq (.ops [⟨none, some 32, .move (.t 11)⟩,
    ⟨none, some 33, .bin .neq (.t 32) (.k (.c (.p (.int .i64 0))))⟩] [])
  (.cond (.t 33) (.seq (.ops [⟨none, some 34, .build [.p .nil, .p .nil] []⟩,
    ⟨none, some 35, .move (.t 9)⟩,
    ⟨none, some 36, .move (.t 11)⟩,
    ⟨none, none, .store 2 (.t 4) (.t 34)⟩,
    ⟨none, some 5, .move (.t 35)⟩,
    ⟨none, some 6, .move (.t 36)⟩] [])
   .ret)
   .skip)))))
 (.ops [⟨none, some 37, .bin .add (.t 24) (.k (.c (.p (.int .i64 1))))⟩,
    ⟨none, some 24, .move (.t 37)⟩] []))))
def s_graph_Apply : S :=
 (.seq (.ops [⟨none, some 2, .boxI (.t 0)⟩,
    ⟨none, some 4, .allocB 2 [[.p .nil, .p .nil]]⟩,
    ⟨none, some 5, .move (.k (.c (.p (.int .i64 0))))⟩,
    ⟨none, some 6, .move (.k (.c (.p (.int .i64 0))))⟩] [])
 (.seq (.seq (.ops [⟨none, some 12, .load true 2 (.t 2)⟩,
    ⟨none, some 13, .call 21 [(.t 12)]⟩,
    ⟨none, some 7, .move (.t 13)⟩] [])
 (.seq (.ops [⟨none, some 14, .move (.t 7)⟩,
    ⟨none, some 15, .bin .neq (.t 14) (.k (.c (.p (.int .i64 0))))⟩] [])
 (.cond (.t 15) (.seq (.ops [⟨none, some 16, .build [.p .nil, .p .nil] []⟩,
    ⟨none, some 17, .move (.t 7)⟩,
    ⟨none, none, .store 2 (.t 4) (.t 16)⟩,
    ⟨none, some 5, .move (.k (.c (.p (.int .i64 0))))⟩,
    ⟨none, some 6, .move (.t 17)⟩] [])
  .ret)
  .skip)))
 (.seq (.ops [⟨none, some 18, .load true 2 (.t 2)⟩,
    ⟨none, some 19, .call 23 [(.t 18)]⟩,
    ⟨none, some 20, .build [.p .nil, .p .nil] [(0, 2, (.t 19))]⟩,
    ⟨none, some 21, .box (.t 20)⟩,
    ⟨none, some 8, .move (.t 21)⟩] [])
 (.seq (.seq (.ops [⟨none, some 22, .move (.t 1)⟩,
    ⟨none, some 23, .len (.t 22)⟩,
    ⟨none, some 24, .move (.k (.c (.p (.int .i64 0))))⟩] [])
 (.block 0 (.loop [4, 8, 22, 23, 24] b_graph_Apply_0)))
 (.seq (.ops [⟨none, some 38, .move (.t 8)⟩,
    ⟨none, some 39, .nilChk (.t 38)⟩,
    ⟨none, some 40, .fieldA 0 2 (.t 39)⟩,
    ⟨none, some 41, .load true 2 (.t 40)⟩,
    ⟨none, none, .store 2 (.t 4) (.t 41)⟩,
    ⟨none, some 5, .move (.k (.c (.p (.int .i64 0))))⟩,
    ⟨none, some 6, .move (.k (.c (.p (.int .i64 0))))⟩] [])
 .ret)))))
theorem c_graph_Apply : comp Try.prog { own := [], mt := [21], lp := [(0, [4, 8, 22, 23, 24])], gh := [(7, [.frz 10])] } 42 (Try.f20.body.getD .skip) = some s_graph_Apply := by kernel_rfl
abbrev r_graph_Apply : List RV := [.cell 4 true 2, .tmp 5, .tmp 6]
theorem a_graph_Apply {args : List AV} {H : List (Nat × Blk)} {nx : Nat} {K : AV → List (Nat × Blk) → Nat → Prop} (hal : args.length ≤ 42) (h : W Try.prog s_graph_Apply (RETK r_graph_Apply K) ⟨argE 0 args, H, nx⟩) : ACalls Try.prog 20 args H nx K :=
  acalls_of_W (drawOk mixed) Try.func20 rfl (by kernel_rfl) (of_decide_eq_true (by kernel_rfl)) (by kernel_rfl) c_graph_Apply (by kernel_rfl) hal h
theorem p_graph_Apply {args : List AV} {r : AV} (hal : args.length ≤ 42) (hp : args.all pureA = true) (hr : pureA r = true) (h : W Try.prog s_graph_Apply (RETK r_graph_Apply fun a H _ => FRZ r a H) ⟨argE 0 args, [], 0⟩) : PCalls Try.prog 20 args r := .of hp (a_graph_Apply hal h) hr

/-! pleach/graph.Check -/
abbrev n_graph_Check : Nat := 21
def b_graph_Check_0 : S :=
 (.seq (.ops [⟨none, some 27, .bin .lss (.t 26) (.t 25)⟩] [])
 (.seq (.cond (.t 27) .skip
  (.exit 0))
 (.seq (.block 1 (.seq (.ops [⟨none, some 28, .move (.t 26)⟩,
    ⟨none, some 29, .idxA 3 (.t 24) (.t 26)⟩,
    ⟨none, some 30, .load true 3 (.t 29)⟩,
    ⟨none, some 4, .allocB 3 [[.p (.str []), .p .nil, .p .nil]]⟩,
    ⟨none, some 3, .move (.t 28)⟩,
    ⟨none, none, .store 3 (.t 4) (.t 30)⟩] [.frz 4])
  (.seq (.seq (.ops [⟨none, some 31, .load true 3 (.t 4)⟩,
    ⟨none, some 32, .call 60 [(.t 31)]⟩,
    ⟨none, some 5, .move (.t 32)⟩] [])
  (.seq (.ops [⟨none, some 33, .move (.t 5)⟩,
    ⟨none, some 34, .bin .neq (.t 33) (.k (.c (.p (.int .i64 0))))⟩] [])
  (.cond (.t 34) (.seq (.ops [⟨none, some 35, .move (.t 5)⟩,
    ⟨none, some 2, .move (.t 35)⟩] [])
   .ret)
   .skip)))
  (.seq (.draw [⟨none, some 36, .move (.t 3)⟩,
    ⟨none, some 37, .bin .gtr (.t 36) (.k (.c (.p (.int .i64 0))))⟩,
    ⟨none, some 38, .move (.t 37)⟩,
    ⟨some (38, true), some 39, .fieldA 0 1 (.t 1)⟩,
    ⟨some (38, true), some 40, .load false 1 (.t 39)⟩,
    ⟨some (38, true), some 41, .move (.t 3)⟩,
    ⟨some (38, true), some 42, .bin .sub (.t 41) (.k (.c (.p (.int .i64 1))))⟩,
    ⟨some (38, true), some 43, .idxA 3 (.t 40) (.t 42)⟩,
    ⟨some (38, true), some 44, .fieldA 0 1 (.t 43)⟩,
    ⟨some (38, true), some 45, .load false 1 (.t 44)⟩,
    ⟨some (38, true), some 46, .fieldA 0 1 (.t 4)⟩,
    ⟨some (38, true), some 47, .load false 1 (.t 46)⟩,
    ⟨some (38, true), some 48, .bin .geq (.t 45) (.t 47)⟩,
    ⟨none, some 49, .pick (.t 38) (.t 48) (.k (.c (.p (.bool false))))⟩]
  [0, 1, 3, 7, 15, 7, 39, 127, 255, 511, 7, 1031, 4095, 8191] [])
  (.cond (.t 49) (.seq (.ops [⟨none, some 2, .move (.k (.c (.p (.int .i64 4))))⟩] [])
   .ret)
   .skip)))))
 (.ops [⟨none, some 50, .bin .add (.t 26) (.k (.c (.p (.int .i64 1))))⟩,
    ⟨none, some 26, .move (.t 50)⟩] []))))
def b_graph_Check_2 : S :=
 (.seq (.ops [⟨none, some 55, .bin .lss (.t 54) (.t 53)⟩] [])
 (.seq (.cond (.t 55) .skip
  (.exit 2))
 (.seq (.block 3 (.seq (.ops [⟨none, some 56, .move (.t 54)⟩,
    ⟨none, some 57, .idxA 5 (.t 52) (.t 54)⟩,
    ⟨none, some 58, .load true 5 (.t 57)⟩,
    ⟨none, some 7, .allocB 5 [[.p (.str []), .p (.str []), .p (.str []), .p .nil, .p .nil]]⟩,
    ⟨none, some 6, .move (.t 56)⟩,
    ⟨none, none, .store 5 (.t 7) (.t 58)⟩] [.frz 7])
  (.seq (.seq (.ops [⟨none, some 59, .load true 5 (.t 7)⟩,
    ⟨none, some 60, .call 61 [(.t 59)]⟩,
    ⟨none, some 8, .move (.t 60)⟩] [])
  (.seq (.ops [⟨none, some 61, .move (.t 8)⟩,
    ⟨none, some 62, .bin .neq (.t 61) (.k (.c (.p (.int .i64 0))))⟩] [])
  (.cond (.t 62) (.seq (.ops [⟨none, some 63, .move (.t 8)⟩,
    ⟨none, some 2, .move (.t 63)⟩] [])
   .ret)
   .skip)))
  (.seq (.seq (.draw [⟨none, some 64, .move (.t 6)⟩,
    ⟨none, some 65, .bin .gtr (.t 64) (.k (.c (.p (.int .i64 0))))⟩,
    ⟨none, some 66, .move (.t 65)⟩,
    ⟨some (66, true), some 67, .fieldA 1 1 (.t 1)⟩,
    ⟨some (66, true), some 68, .load false 1 (.t 67)⟩,
    ⟨some (66, true), some 69, .move (.t 6)⟩,
    ⟨some (66, true), some 70, .bin .sub (.t 69) (.k (.c (.p (.int .i64 1))))⟩,
    ⟨some (66, true), some 71, .idxA 5 (.t 68) (.t 70)⟩,
    ⟨some (66, true), some 72, .fieldA 0 1 (.t 71)⟩,
    ⟨some (66, true), some 73, .load false 1 (.t 72)⟩,
    ⟨some (66, true), some 74, .fieldA 0 1 (.t 7)⟩,
    ⟨some (66, true), some 75, .load false 1 (.t 74)⟩,
    ⟨some (66, true), some 76, .bin .geq (.t 73) (.t 75)⟩,
    ⟨none, some 77, .pick (.t 66) (.t 76) (.k (.c (.p (.bool false))))⟩]
  [0, 1, 3, 7, 15, 7, 39, 127, 255, 511, 7, 1031, 4095, 8191] [])
  (.cond (.t 77) (.seq (.ops [⟨none, some 2, .move (.k (.c (.p (.int .i64 4))))⟩] [])
   .ret)
   .skip))
  (.seq (.ops [⟨none, some 79, .load true 2 (.t 1)⟩,
    ⟨none, some 80, .fieldA 1 1 (.t 7)⟩,
    ⟨none, some 81, .load false 1 (.t 80)⟩,
    ⟨none, some 82, .call 62 [(.t 79), (.t 81)]⟩,
    ⟨none, some 78, .move (.t 82)⟩,
    ⟨none, some 83, .extract (.t 78) 0⟩,
    ⟨none, some 84, .extract (.t 78) 1⟩,
    ⟨none, some 9, .move (.t 83)⟩,
    ⟨none, some 10, .move (.t 84)⟩] [])
  (.seq (.ops [⟨none, some 86, .load true 2 (.t 1)⟩,
    ⟨none, some 87, .fieldA 2 1 (.t 7)⟩,
    ⟨none, some 88, .load false 1 (.t 87)⟩,
    ⟨none, some 89, .call 62 [(.t 86), (.t 88)]⟩,
    ⟨none, some 85, .move (.t 89)⟩,
    ⟨none, some 90, .extract (.t 85) 0⟩,
    ⟨none, some 91, .extract (.t 85) 1⟩,
    ⟨none, some 11, .move (.t 90)⟩,
    ⟨none, some 12, .move (.t 91)⟩] [])
  (.seq (.ops [⟨none, some 92, .move (.t 10)⟩,
    ⟨none, some 93, .un .not (.t 92)⟩,
    ⟨none, some 94, .move (.t 93)⟩,
    ⟨some (94, false), some 95, .move (.t 12)⟩,
    ⟨some (94, false), some 96, .un .not (.t 95)⟩,
    ⟨none, some 97, .pick (.t 94) (.k (.c (.p (.bool true)))) (.t 96)⟩] [])
  (.cond (.t 97) (.seq (.ops [⟨none, some 2, .move (.k (.c (.p (.int .i64 9))))⟩] [])
   .ret)
   .skip))))))))
 (.ops [⟨none, some 98, .bin .add (.t 54) (.k (.c (.p (.int .i64 1))))⟩,
    ⟨none, some 54, .move (.t 98)⟩] []))))
def s_graph_Check : S :=
 (.seq (.ops [⟨none, some 1, .boxI (.t 0)⟩,
    ⟨none, some 2, .move (.k (.c (.p (.int .i64 0))))⟩] [])
 (.seq (.seq (.ops [⟨none, some 13, .fieldA 0 1 (.t 1)⟩,
    ⟨none, some 14, .load false 1 (.t 13)⟩,
    ⟨none, some 15, .len (.t 14)⟩,
    ⟨none, some 16, .bin .gtr (.t 15) (.k (.c (.p (.int .i64 500))))⟩,
    ⟨none, some 17, .move (.t 16)⟩,
    ⟨some (17, false), some 18, .fieldA 1 1 (.t 1)⟩,
    ⟨some (17, false), some 19, .load false 1 (.t 18)⟩,
    ⟨some (17, false), some 20, .len (.t 19)⟩,
    ⟨some (17, false), some 21, .bin .gtr (.t 20) (.k (.c (.p (.int .i64 1000))))⟩,
    ⟨none, some 22, .pick (.t 17) (.k (.c (.p (.bool true)))) (.t 21)⟩] [])
 (.cond (.t 22) (.seq (.ops [⟨none, some 2, .move (.k (.c (.p (.int .i64 5))))⟩] [])
  .ret)
  .skip))
 (.seq (.seq (.ops [⟨none, some 23, .fieldA 0 1 (.t 1)⟩,
    ⟨none, some 24, .load false 1 (.t 23)⟩,
    ⟨none, some 25, .len (.t 24)⟩,
    ⟨none, some 26, .move (.k (.c (.p (.int .i64 0))))⟩] [])
 (.block 0 (.loop [1, 24, 25, 26] b_graph_Check_0)))
 (.seq (.seq (.ops [⟨none, some 51, .fieldA 1 1 (.t 1)⟩,
    ⟨none, some 52, .load false 1 (.t 51)⟩,
    ⟨none, some 53, .len (.t 52)⟩,
    ⟨none, some 54, .move (.k (.c (.p (.int .i64 0))))⟩] [])
 (.block 2 (.loop [1, 52, 53, 54] b_graph_Check_2)))
 (.seq (.ops [⟨none, some 2, .move (.k (.c (.p (.int .i64 0))))⟩] [])
 .ret)))))
theorem c_graph_Check : comp Try.prog { own := [], mt := [], lp := [(0, [1, 24, 25, 26]), (2, [1, 52, 53, 54])], gh := [(5, [.frz 4]), (14, [.frz 7])] } 99 (Try.f21.body.getD .skip) = some s_graph_Check := by kernel_rfl
abbrev r_graph_Check : List RV := [.tmp 2]
theorem a_graph_Check {args : List AV} {H : List (Nat × Blk)} {nx : Nat} {K : AV → List (Nat × Blk) → Nat → Prop} (hal : args.length ≤ 99) (h : W Try.prog s_graph_Check (RETK r_graph_Check K) ⟨argE 0 args, H, nx⟩) : ACalls Try.prog 21 args H nx K :=
  acalls_of_W (drawOk mixed) Try.func21 rfl (by kernel_rfl) (of_decide_eq_true (by kernel_rfl)) (by kernel_rfl) c_graph_Check (by kernel_rfl) hal h
theorem p_graph_Check {args : List AV} {r : AV} (hal : args.length ≤ 99) (hp : args.all pureA = true) (hr : pureA r = true) (h : W Try.prog s_graph_Check (RETK r_graph_Check fun a H _ => FRZ r a H) ⟨argE 0 args, [], 0⟩) : PCalls Try.prog 21 args r := .of hp (a_graph_Check hal h) hr

/-! pleach/graph.Copy -/
abbrev n_graph_Copy : Nat := 23
def b_graph_Copy_0 : S :=
 (.seq (.ops [⟨none, some 19, .bin .lss (.t 18) (.t 17)⟩] [])
 (.seq (.cond (.t 19) .skip
  (.exit 0))
 (.seq (.block 1 (.seq (.ops [⟨none, some 20, .move (.t 18)⟩,
    ⟨none, some 4, .move (.t 20)⟩] [])
  (.seq (.ops [⟨none, some 21, .fieldA 0 1 (.t 3)⟩,
    ⟨none, some 22, .load false 1 (.t 21)⟩,
    ⟨none, some 23, .move (.t 4)⟩,
    ⟨none, some 24, .idxA 3 (.t 22) (.t 23)⟩,
    ⟨none, some 5, .move (.t 24)⟩] [])
  (.draw [⟨none, some 25, .move (.t 5)⟩,
    ⟨none, some 26, .move (.t 5)⟩,
    ⟨none, some 27, .move (.t 5)⟩,
    ⟨none, some 28, .nilChk (.t 27)⟩,
    ⟨none, some 29, .fieldA 1 1 (.t 28)⟩,
    ⟨none, some 30, .load false 1 (.t 29)⟩,
    ⟨none, some 31, .call 53 [(.t 30)]⟩,
    ⟨none, some 32, .move (.t 5)⟩,
    ⟨none, some 33, .nilChk (.t 32)⟩,
    ⟨none, some 34, .fieldA 2 1 (.t 33)⟩,
    ⟨none, some 35, .load false 1 (.t 34)⟩,
    ⟨none, some 36, .call 54 [(.t 35)]⟩,
    ⟨none, some 37, .nilChk (.t 25)⟩,
    ⟨none, some 38, .fieldA 1 1 (.t 37)⟩,
    ⟨none, none, .store 1 (.t 38) (.t 31)⟩,
    ⟨none, some 39, .nilChk (.t 26)⟩,
    ⟨none, some 40, .fieldA 2 1 (.t 39)⟩,
    ⟨none, none, .store 1 (.t 40) (.t 36)⟩]
  [0, 0, 0, 4, 12, 28, 60, 0, 128, 384, 896, 2044, 4093, 8189, 16381, 32767, 65535, 131071] []))))
 (.ops [⟨none, some 41, .bin .add (.t 18) (.k (.c (.p (.int .i64 1))))⟩,
    ⟨none, some 18, .move (.t 41)⟩] []))))
def b_graph_Copy_2 : S :=
 (.seq (.ops [⟨none, some 46, .bin .lss (.t 45) (.t 44)⟩] [])
 (.seq (.cond (.t 46) .skip
  (.exit 2))
 (.seq (.block 3 (.seq (.ops [⟨none, some 47, .move (.t 45)⟩,
    ⟨none, some 6, .move (.t 47)⟩] [])
  (.seq (.ops [⟨none, some 48, .fieldA 1 1 (.t 3)⟩,
    ⟨none, some 49, .load false 1 (.t 48)⟩,
    ⟨none, some 50, .move (.t 6)⟩,
    ⟨none, some 51, .idxA 5 (.t 49) (.t 50)⟩,
    ⟨none, some 7, .move (.t 51)⟩] [])
  (.draw [⟨none, some 52, .move (.t 7)⟩,
    ⟨none, some 53, .move (.t 7)⟩,
    ⟨none, some 54, .move (.t 7)⟩,
    ⟨none, some 55, .nilChk (.t 54)⟩,
    ⟨none, some 56, .fieldA 3 1 (.t 55)⟩,
    ⟨none, some 57, .load false 1 (.t 56)⟩,
    ⟨none, some 58, .call 53 [(.t 57)]⟩,
    ⟨none, some 59, .move (.t 7)⟩,
    ⟨none, some 60, .nilChk (.t 59)⟩,
    ⟨none, some 61, .fieldA 4 1 (.t 60)⟩,
    ⟨none, some 62, .load false 1 (.t 61)⟩,
    ⟨none, some 63, .call 54 [(.t 62)]⟩,
    ⟨none, some 64, .nilChk (.t 52)⟩,
    ⟨none, some 65, .fieldA 3 1 (.t 64)⟩,
    ⟨none, none, .store 1 (.t 65) (.t 58)⟩,
    ⟨none, some 66, .nilChk (.t 53)⟩,
    ⟨none, some 67, .fieldA 4 1 (.t 66)⟩,
    ⟨none, none, .store 1 (.t 67) (.t 63)⟩]
  [0, 0, 0, 4, 12, 28, 60, 0, 128, 384, 896, 2044, 4093, 8189, 16381, 32767, 65535, 131071] []))))
 (.ops [⟨none, some 68, .bin .add (.t 45) (.k (.c (.p (.int .i64 1))))⟩,
    ⟨none, some 45, .move (.t 68)⟩] []))))
def s_graph_Copy : S :=
 (.seq (.ops [⟨none, some 1, .boxI (.t 0)⟩,
    ⟨none, some 2, .allocB 2 [[.p .nil, .p .nil]]⟩] [])
 (.seq (.draw [⟨none, some 8, .fieldA 0 1 (.t 1)⟩,
    ⟨none, some 9, .load false 1 (.t 8)⟩,
    ⟨none, some 10, .call 65 [(.t 9)]⟩,
    ⟨none, some 11, .fieldA 1 1 (.t 1)⟩,
    ⟨none, some 12, .load false 1 (.t 11)⟩,
    ⟨none, some 13, .call 66 [(.t 12)]⟩,
    ⟨none, some 14, .build [.p .nil, .p .nil] [(0, 1, (.t 10)), (1, 1, (.t 13))]⟩,
    ⟨none, some 3, .allocB 2 [[.p .nil, .p .nil]]⟩,
    ⟨none, none, .store 2 (.t 3) (.t 14)⟩]
 [0, 1, 3, 0, 8, 31, 63, 0, 255] [])
 (.seq (.seq (.ops [⟨none, some 15, .fieldA 0 1 (.t 3)⟩,
    ⟨none, some 16, .load false 1 (.t 15)⟩,
    ⟨none, some 17, .len (.t 16)⟩,
    ⟨none, some 18, .move (.k (.c (.p (.int .i64 0))))⟩] [])
 (.block 0 (.loop [2, 3, 17, 18] b_graph_Copy_0)))
 (.seq (.seq (.ops [⟨none, some 42, .fieldA 1 1 (.t 3)⟩,
    ⟨none, some 43, .load false 1 (.t 42)⟩,
    ⟨none, some 44, .len (.t 43)⟩,
    ⟨none, some 45, .move (.k (.c (.p (.int .i64 0))))⟩] [])
 (.block 2 (.loop [2, 3, 44, 45] b_graph_Copy_2)))
 (.seq (.ops [⟨none, some 69, .load true 2 (.t 3)⟩,
    ⟨none, none, .store 2 (.t 2) (.t 69)⟩] [])
 .ret)))))
theorem c_graph_Copy : comp Try.prog { own := [], mt := [], lp := [(0, [2, 3, 17, 18]), (2, [2, 3, 44, 45])], gh := [] } 70 (Try.f23.body.getD .skip) = some s_graph_Copy := by kernel_rfl
abbrev r_graph_Copy : List RV := [.cell 2 true 2]
theorem a_graph_Copy {args : List AV} {H : List (Nat × Blk)} {nx : Nat} {K : AV → List (Nat × Blk) → Nat → Prop} (hal : args.length ≤ 70) (h : W Try.prog s_graph_Copy (RETK r_graph_Copy K) ⟨argE 0 args, H, nx⟩) : ACalls Try.prog 23 args H nx K :=
  acalls_of_W (drawOk mixed) Try.func23 rfl (by kernel_rfl) (of_decide_eq_true (by kernel_rfl)) (by kernel_rfl) c_graph_Copy (by kernel_rfl) hal h
theorem p_graph_Copy {args : List AV} {r : AV} (hal : args.length ≤ 70) (hp : args.all pureA = true) (hr : pureA r = true) (h : W Try.prog s_graph_Copy (RETK r_graph_Copy fun a H _ => FRZ r a H) ⟨argE 0 args, [], 0⟩) : PCalls Try.prog 23 args r := .of hp (a_graph_Copy hal h) hr

/-! pleach/pleachref26.weight -/
abbrev n_pleachref26_weight : Nat := 42
def b_pleachref26_weight_0 : S :=
 (.seq (.seq (.ops [⟨none, some 16, .move (.t 6)⟩,
    ⟨none, some 17, .move (.t 0)⟩,
    ⟨none, some 18, .len (.t 17)⟩,
    ⟨none, some 19, .bin .lss (.t 16) (.t 18)⟩] [])
 (.cond (.t 19) .skip
  (.exit 0)))
 (.seq (.block 1 (.ops [⟨none, some 22, .move (.t 5)⟩,
    ⟨none, some 23, .move (.t 0)⟩,
    ⟨none, some 24, .move (.t 6)⟩,
    ⟨none, some 25, .idxA 1 (.t 23) (.t 24)⟩,
    ⟨none, some 26, .load false 1 (.t 25)⟩,
    ⟨none, some 27, .lenS (.t 26)⟩,
    ⟨none, some 28, .minI [(.t 27), (.k (.c (.p (.int .i64 5000))))]⟩,
    ⟨none, some 29, .bin .add (.t 22) (.t 28)⟩,
    ⟨none, some 5, .move (.t 29)⟩] []))
 (.ops [⟨none, some 20, .move (.t 6)⟩,
    ⟨none, some 21, .bin .add (.t 20) (.k (.c (.p (.int .i64 1))))⟩,
    ⟨none, some 6, .move (.t 21)⟩] [])))
def b_pleachref26_weight_2 : S :=
 (.seq (.seq (.ops [⟨none, some 30, .move (.t 7)⟩,
    ⟨none, some 31, .move (.t 1)⟩,
    ⟨none, some 32, .len (.t 31)⟩,
    ⟨none, some 33, .bin .lss (.t 30) (.t 32)⟩] [])
 (.cond (.t 33) .skip
  (.exit 2)))
 (.seq (.block 3 (.draw [⟨none, some 36, .move (.t 5)⟩,
    ⟨none, some 37, .move (.t 1)⟩,
    ⟨none, some 38, .move (.t 7)⟩,
    ⟨none, some 39, .idxA 4 (.t 37) (.t 38)⟩,
    ⟨none, some 40, .fieldA 0 1 (.t 39)⟩,
    ⟨none, some 41, .load false 1 (.t 40)⟩,
    ⟨none, some 42, .lenS (.t 41)⟩,
    ⟨none, some 43, .minI [(.t 42), (.k (.c (.p (.int .i64 5000))))]⟩,
    ⟨none, some 44, .bin .add (.t 36) (.t 43)⟩,
    ⟨none, some 45, .move (.t 1)⟩,
    ⟨none, some 46, .move (.t 7)⟩,
    ⟨none, some 47, .idxA 4 (.t 45) (.t 46)⟩,
    ⟨none, some 48, .fieldA 1 3 (.t 47)⟩,
    ⟨none, some 49, .fieldA 2 1 (.t 48)⟩,
    ⟨none, some 50, .load false 1 (.t 49)⟩,
    ⟨none, some 51, .lenS (.t 50)⟩,
    ⟨none, some 52, .minI [(.t 51), (.k (.c (.p (.int .i64 5000))))]⟩,
    ⟨none, some 53, .bin .add (.t 44) (.t 52)⟩,
    ⟨none, some 5, .move (.t 53)⟩]
  [0, 0, 0, 6, 14, 30, 62, 126, 255, 0, 0, 1536, 3584, 7680, 15872, 32256, 65024, 131071, 262143] []))
 (.ops [⟨none, some 34, .move (.t 7)⟩,
    ⟨none, some 35, .bin .add (.t 34) (.k (.c (.p (.int .i64 1))))⟩,
    ⟨none, some 7, .move (.t 35)⟩] [])))
def s_pleachref26_weight : S :=
 (.seq (.ops [⟨none, some 4, .move (.k (.c (.p (.int .i64 0))))⟩] [])
 (.seq (.seq (.ops [⟨none, some 8, .move (.t 0)⟩,
    ⟨none, some 9, .len (.t 8)⟩,
    ⟨none, some 10, .bin .gtr (.t 9) (.k (.c (.p (.int .i64 20))))⟩,
    ⟨none, some 11, .move (.t 10)⟩,
    ⟨some (11, false), some 12, .move (.t 1)⟩,
    ⟨some (11, false), some 13, .len (.t 12)⟩,
    ⟨some (11, false), some 14, .bin .gtr (.t 13) (.k (.c (.p (.int .i64 20))))⟩,
    ⟨none, some 15, .pick (.t 11) (.k (.c (.p (.bool true)))) (.t 14)⟩] [])
 (.cond (.t 15) (.seq (.ops [⟨none, some 4, .move (.k (.c (.p (.int .i64 100000))))⟩] [])
  .ret)
  .skip))
 (.seq (.ops [⟨none, some 5, .move (.k (.c (.p (.int .i64 0))))⟩] [])
 (.seq (.seq (.ops [⟨none, some 6, .move (.k (.c (.p (.int .i64 0))))⟩] [])
 (.block 0 (.loop [0, 1, 5, 6] b_pleachref26_weight_0)))
 (.seq (.seq (.ops [⟨none, some 7, .move (.k (.c (.p (.int .i64 0))))⟩] [])
 (.block 2 (.loop [1, 5, 7] b_pleachref26_weight_2)))
 (.seq (.ops [⟨none, some 54, .move (.t 5)⟩,
    ⟨none, some 4, .move (.t 54)⟩] [])
 .ret))))))
theorem c_pleachref26_weight : comp Try.prog { own := [], mt := [], lp := [(0, [0, 1, 5, 6]), (2, [1, 5, 7])], gh := [] } 55 (Try.f42.body.getD .skip) = some s_pleachref26_weight := by kernel_rfl
abbrev r_pleachref26_weight : List RV := [.tmp 4]
theorem a_pleachref26_weight {args : List AV} {H : List (Nat × Blk)} {nx : Nat} {K : AV → List (Nat × Blk) → Nat → Prop} (hal : args.length ≤ 55) (h : W Try.prog s_pleachref26_weight (RETK r_pleachref26_weight K) ⟨argE 0 args, H, nx⟩) : ACalls Try.prog 42 args H nx K :=
  acalls_of_W (drawOk mixed) Try.func42 rfl (by kernel_rfl) (of_decide_eq_true (by kernel_rfl)) (by kernel_rfl) c_pleachref26_weight (by kernel_rfl) hal h
theorem p_pleachref26_weight {args : List AV} {r : AV} (hal : args.length ≤ 55) (hp : args.all pureA = true) (hr : pureA r = true) (h : W Try.prog s_pleachref26_weight (RETK r_pleachref26_weight fun a H _ => FRZ r a H) ⟨argE 0 args, [], 0⟩) : PCalls Try.prog 42 args r := .of hp (a_pleachref26_weight hal h) hr

/-! pleach/pleachref25.Node -/
abbrev n_pleachref25_Node : Nat := 43
def s_pleachref25_Node : S :=
 (.seq (.ops [⟨none, some 1, .boxI (.t 0)⟩,
    ⟨none, some 2, .move (.k (.c (.p (.int .i64 0))))⟩] [])
 (.seq (.seq (.ops [⟨none, some 3, .fieldA 0 1 (.t 1)⟩,
    ⟨none, some 4, .load false 1 (.t 3)⟩,
    ⟨none, some 5, .call 46 [(.t 4)]⟩,
    ⟨none, some 6, .un .not (.t 5)⟩] [])
 (.cond (.t 6) (.seq (.ops [⟨none, some 2, .move (.k (.c (.p (.int .i64 2))))⟩] [])
  .ret)
  .skip))
 (.seq (.ops [⟨none, some 7, .fieldA 1 1 (.t 1)⟩,
    ⟨none, some 8, .load false 1 (.t 7)⟩,
    ⟨none, some 9, .fieldA 2 1 (.t 1)⟩,
    ⟨none, some 10, .load false 1 (.t 9)⟩,
    ⟨none, some 11, .call 92 [(.t 8), (.t 10)]⟩,
    ⟨none, some 2, .move (.t 11)⟩] [])
 .ret)))
theorem c_pleachref25_Node : comp Try.prog { own := [], mt := [], lp := [], gh := [] } 12 (Try.f43.body.getD .skip) = some s_pleachref25_Node := by kernel_rfl
abbrev r_pleachref25_Node : List RV := [.tmp 2]
theorem a_pleachref25_Node {args : List AV} {H : List (Nat × Blk)} {nx : Nat} {K : AV → List (Nat × Blk) → Nat → Prop} (hal : args.length ≤ 12) (h : W Try.prog s_pleachref25_Node (RETK r_pleachref25_Node K) ⟨argE 0 args, H, nx⟩) : ACalls Try.prog 43 args H nx K :=
  acalls_of_W (drawOk mixed) Try.func43 rfl (by kernel_rfl) (of_decide_eq_true (by kernel_rfl)) (by kernel_rfl) c_pleachref25_Node (by kernel_rfl) hal h
theorem p_pleachref25_Node {args : List AV} {r : AV} (hal : args.length ≤ 12) (hp : args.all pureA = true) (hr : pureA r = true) (h : W Try.prog s_pleachref25_Node (RETK r_pleachref25_Node fun a H _ => FRZ r a H) ⟨argE 0 args, [], 0⟩) : PCalls Try.prog 43 args r := .of hp (a_pleachref25_Node hal h) hr

/-! pleach/pleachref25.Edge -/
abbrev n_pleachref25_Edge : Nat := 44
def s_pleachref25_Edge : S :=
 (.seq (.ops [⟨none, some 1, .boxI (.t 0)⟩,
    ⟨none, some 2, .move (.k (.c (.p (.int .i64 0))))⟩] [])
 (.seq (.seq (.ops [⟨none, some 3, .fieldA 0 1 (.t 1)⟩,
    ⟨none, some 4, .load false 1 (.t 3)⟩,
    ⟨none, some 5, .call 46 [(.t 4)]⟩,
    ⟨none, some 6, .un .not (.t 5)⟩,
    ⟨none, some 7, .move (.t 6)⟩,
    ⟨some (7, false), some 8, .fieldA 1 1 (.t 1)⟩,
    ⟨some (7, false), some 9, .load false 1 (.t 8)⟩,
    ⟨some (7, false), some 10, .call 46 [(.t 9)]⟩,
    ⟨some (7, false), some 11, .un .not (.t 10)⟩,
    ⟨none, some 12, .pick (.t 7) (.k (.c (.p (.bool true)))) (.t 11)⟩,
    ⟨none, some 13, .move (.t 12)⟩,
    ⟨some (13, false), some 14, .fieldA 2 1 (.t 1)⟩,
    ⟨some (13, false), some 15, .load false 1 (.t 14)⟩,
    ⟨some (13, false), some 16, .call 46 [(.t 15)]⟩,
    ⟨some (13, false), some 17, .un .not (.t 16)⟩,
    ⟨none, some 18, .pick (.t 13) (.k (.c (.p (.bool true)))) (.t 17)⟩] [])
 (.cond (.t 18) (.seq (.ops [⟨none, some 2, .move (.k (.c (.p (.int .i64 2))))⟩] [])
  .ret)
  .skip))
 (.seq (.ops [⟨none, some 19, .fieldA 3 1 (.t 1)⟩,
    ⟨none, some 20, .load false 1 (.t 19)⟩,
    ⟨none, some 21, .fieldA 4 1 (.t 1)⟩,
    ⟨none, some 22, .load false 1 (.t 21)⟩,
    ⟨none, some 23, .call 92 [(.t 20), (.t 22)]⟩,
    ⟨none, some 2, .move (.t 23)⟩] [])
 .ret)))
theorem c_pleachref25_Edge : comp Try.prog { own := [], mt := [], lp := [], gh := [] } 24 (Try.f44.body.getD .skip) = some s_pleachref25_Edge := by kernel_rfl
abbrev r_pleachref25_Edge : List RV := [.tmp 2]
theorem a_pleachref25_Edge {args : List AV} {H : List (Nat × Blk)} {nx : Nat} {K : AV → List (Nat × Blk) → Nat → Prop} (hal : args.length ≤ 24) (h : W Try.prog s_pleachref25_Edge (RETK r_pleachref25_Edge K) ⟨argE 0 args, H, nx⟩) : ACalls Try.prog 44 args H nx K :=
  acalls_of_W (drawOk mixed) Try.func44 rfl (by kernel_rfl) (of_decide_eq_true (by kernel_rfl)) (by kernel_rfl) c_pleachref25_Edge (by kernel_rfl) hal h
theorem p_pleachref25_Edge {args : List AV} {r : AV} (hal : args.length ≤ 24) (hp : args.all pureA = true) (hr : pureA r = true) (h : W Try.prog s_pleachref25_Edge (RETK r_pleachref25_Edge fun a H _ => FRZ r a H) ⟨argE 0 args, [], 0⟩) : PCalls Try.prog 44 args r := .of hp (a_pleachref25_Edge hal h) hr

/-! pleach/pleachref26.NodeAt -/
abbrev n_pleachref26_NodeAt : Nat := 45
def b_pleachref26_NodeAt_0 : S :=
 (.seq (.seq (.ops [⟨none, some 6, .move (.t 5)⟩,
    ⟨none, some 7, .fieldA 0 1 (.t 2)⟩,
    ⟨none, some 8, .load false 1 (.t 7)⟩,
    ⟨none, some 9, .len (.t 8)⟩,
    ⟨none, some 10, .bin .lss (.t 6) (.t 9)⟩] [])
 (.cond (.t 10) .skip
  (.exit 0)))
 (.seq (.block 1 (.seq (.ops [⟨none, some 13, .fieldA 0 1 (.t 2)⟩,
    ⟨none, some 14, .load false 1 (.t 13)⟩,
    ⟨none, some 15, .move (.t 5)⟩,
    ⟨none, some 16, .idxA 3 (.t 14) (.t 15)⟩,
    ⟨none, some 17, .fieldA 0 1 (.t 16)⟩,
    ⟨none, some 18, .load false 1 (.t 17)⟩,
    ⟨none, some 19, .move (.t 1)⟩,
    ⟨none, some 20, .bin .eql (.t 18) (.t 19)⟩] [])
  (.cond (.t 20) (.seq (.ops [⟨none, some 21, .move (.t 5)⟩,
    ⟨none, some 4, .move (.t 21)⟩] [])
   .ret)
   .skip)))
 (.ops [⟨none, some 11, .move (.t 5)⟩,
    ⟨none, some 12, .bin .add (.t 11) (.k (.c (.p (.int .i64 1))))⟩,
    ⟨none, some 5, .move (.t 12)⟩] [])))
def s_pleachref26_NodeAt : S :=
 (.seq (.ops [⟨none, some 2, .boxI (.t 0)⟩,
    ⟨none, some 4, .move (.k (.c (.p (.int .i64 0))))⟩] [])
 (.seq (.seq (.ops [⟨none, some 5, .move (.k (.c (.p (.int .i64 0))))⟩] [])
 (.block 0 (.loop [1, 2, 5] b_pleachref26_NodeAt_0)))
 (.seq (.ops [⟨none, some 4, .move (.k (.c (.p (.int .i64 (-1)))))⟩] [])
 .ret)))
theorem c_pleachref26_NodeAt : comp Try.prog { own := [], mt := [], lp := [(0, [1, 2, 5])], gh := [] } 22 (Try.f45.body.getD .skip) = some s_pleachref26_NodeAt := by kernel_rfl
abbrev r_pleachref26_NodeAt : List RV := [.tmp 4]
theorem a_pleachref26_NodeAt {args : List AV} {H : List (Nat × Blk)} {nx : Nat} {K : AV → List (Nat × Blk) → Nat → Prop} (hal : args.length ≤ 22) (h : W Try.prog s_pleachref26_NodeAt (RETK r_pleachref26_NodeAt K) ⟨argE 0 args, H, nx⟩) : ACalls Try.prog 45 args H nx K :=
  acalls_of_W (drawOk mixed) Try.func45 rfl (by kernel_rfl) (of_decide_eq_true (by kernel_rfl)) (by kernel_rfl) c_pleachref26_NodeAt (by kernel_rfl) hal h
theorem p_pleachref26_NodeAt {args : List AV} {r : AV} (hal : args.length ≤ 22) (hp : args.all pureA = true) (hr : pureA r = true) (h : W Try.prog s_pleachref26_NodeAt (RETK r_pleachref26_NodeAt fun a H _ => FRZ r a H) ⟨argE 0 args, [], 0⟩) : PCalls Try.prog 45 args r := .of hp (a_pleachref26_NodeAt hal h) hr

/-! pleach/pleachref05.Is -/
abbrev n_pleachref05_Is : Nat := 46
def b_pleachref05_Is_0 : S :=
 (.seq (.seq (.ops [⟨none, some 6, .move (.t 3)⟩,
    ⟨none, some 7, .move (.t 0)⟩,
    ⟨none, some 8, .lenS (.t 7)⟩,
    ⟨none, some 9, .bin .lss (.t 6) (.t 8)⟩] [])
 (.cond (.t 9) .skip
  (.exit 0)))
 (.seq (.block 1 (.seq (.ops [⟨none, some 12, .move (.t 0)⟩,
    ⟨none, some 13, .move (.t 3)⟩,
    ⟨none, some 14, .idxS (.t 12) (.t 13)⟩,
    ⟨none, some 15, .bin .geq (.t 14) (.k (.c (.p (.int .u8 97))))⟩,
    ⟨none, some 16, .move (.t 15)⟩,
    ⟨some (16, true), some 17, .move (.t 0)⟩,
    ⟨some (16, true), some 18, .move (.t 3)⟩,
    ⟨some (16, true), some 19, .idxS (.t 17) (.t 18)⟩,
    ⟨some (16, true), some 20, .bin .leq (.t 19) (.k (.c (.p (.int .u8 122))))⟩,
    ⟨none, some 21, .pick (.t 16) (.t 20) (.k (.c (.p (.bool false))))⟩,
    ⟨none, some 4, .move (.t 21)⟩] [])
  (.seq (.ops [⟨none, some 22, .move (.t 0)⟩,
    ⟨none, some 23, .move (.t 3)⟩,
    ⟨none, some 24, .idxS (.t 22) (.t 23)⟩,
    ⟨none, some 25, .bin .geq (.t 24) (.k (.c (.p (.int .u8 48))))⟩,
    ⟨none, some 26, .move (.t 25)⟩,
    ⟨some (26, true), some 27, .move (.t 0)⟩,
    ⟨some (26, true), some 28, .move (.t 3)⟩,
    ⟨some (26, true), some 29, .idxS (.t 27) (.t 28)⟩,
    ⟨some (26, true), some 30, .bin .leq (.t 29) (.k (.c (.p (.int .u8 57))))⟩,
    ⟨none, some 31, .pick (.t 26) (.t 30) (.k (.c (.p (.bool false))))⟩,
    ⟨none, some 5, .move (.t 31)⟩] [])
  (.seq (.ops [⟨none, some 32, .move (.t 4)⟩,
    ⟨none, some 33, .un .not (.t 32)⟩,
    ⟨none, some 34, .move (.t 33)⟩,
    ⟨some (34, true), some 35, .move (.t 5)⟩,
    ⟨some (34, true), some 36, .un .not (.t 35)⟩,
    ⟨none, some 37, .pick (.t 34) (.t 36) (.k (.c (.p (.bool false))))⟩,
    ⟨none, some 38, .move (.t 37)⟩,
    ⟨some (38, true), some 39, .move (.t 0)⟩,
    ⟨some (38, true), some 40, .move (.t 3)⟩,
    ⟨some (38, true), some 41, .idxS (.t 39) (.t 40)⟩,
    ⟨some (38, true), some 42, .bin .neq (.t 41) (.k (.c (.p (.int .u8 45))))⟩,
    ⟨none, some 43, .pick (.t 38) (.t 42) (.k (.c (.p (.bool false))))⟩] [])
  (.cond (.t 43) (.seq (.ops [⟨none, some 2, .move (.k (.c (.p (.bool false))))⟩] [])
   .ret)
   .skip)))))
 (.ops [⟨none, some 10, .move (.t 3)⟩,
    ⟨none, some 11, .bin .add (.t 10) (.k (.c (.p (.int .i64 1))))⟩,
    ⟨none, some 3, .move (.t 11)⟩] [])))
def s_pleachref05_Is : S :=
 (.seq (.ops [⟨none, some 2, .move (.k (.c (.p (.bool false))))⟩] [])
 (.seq (.seq (.ops [⟨none, some 3, .move (.k (.c (.p (.int .i64 0))))⟩] [])
 (.block 0 (.loop [0, 3] b_pleachref05_Is_0)))
 (.seq (.ops [⟨none, some 44, .move (.t 0)⟩,
    ⟨none, some 45, .lenS (.t 44)⟩,
    ⟨none, some 46, .bin .geq (.t 45) (.k (.c (.p (.int .i64 1))))⟩,
    ⟨none, some 47, .move (.t 46)⟩,
    ⟨some (47, true), some 48, .move (.t 0)⟩,
    ⟨some (47, true), some 49, .lenS (.t 48)⟩,
    ⟨some (47, true), some 50, .bin .leq (.t 49) (.k (.c (.p (.int .i64 12))))⟩,
    ⟨none, some 51, .pick (.t 47) (.t 50) (.k (.c (.p (.bool false))))⟩,
    ⟨none, some 2, .move (.t 51)⟩] [])
 .ret)))
theorem c_pleachref05_Is : comp Try.prog { own := [], mt := [], lp := [(0, [0, 3])], gh := [] } 52 (Try.f46.body.getD .skip) = some s_pleachref05_Is := by kernel_rfl
abbrev r_pleachref05_Is : List RV := [.tmp 2]
theorem a_pleachref05_Is {args : List AV} {H : List (Nat × Blk)} {nx : Nat} {K : AV → List (Nat × Blk) → Nat → Prop} (hal : args.length ≤ 52) (h : W Try.prog s_pleachref05_Is (RETK r_pleachref05_Is K) ⟨argE 0 args, H, nx⟩) : ACalls Try.prog 46 args H nx K :=
  acalls_of_W (drawOk mixed) Try.func46 rfl (by kernel_rfl) (of_decide_eq_true (by kernel_rfl)) (by kernel_rfl) c_pleachref05_Is (by kernel_rfl) hal h
theorem p_pleachref05_Is {args : List AV} {r : AV} (hal : args.length ≤ 52) (hp : args.all pureA = true) (hr : pureA r = true) (h : W Try.prog s_pleachref05_Is (RETK r_pleachref05_Is fun a H _ => FRZ r a H) ⟨argE 0 args, [], 0⟩) : PCalls Try.prog 46 args r := .of hp (a_pleachref05_Is hal h) hr

/-! pleach/pleachref06.Is -/
abbrev n_pleachref06_Is : Nat := 47
def s_pleachref06_Is : S :=
 (.seq (.ops [⟨none, some 1, .boxI (.t 0)⟩,
    ⟨none, some 2, .move (.k (.c (.p (.bool false))))⟩] [])
 (.seq (.seq (.ops [⟨none, some 3, .fieldA 0 1 (.t 1)⟩,
    ⟨none, some 4, .load false 1 (.t 3)⟩,
    ⟨none, some 5, .bin .eql (.t 4) (.k (.c (.p (.int .i64 1))))⟩] [])
 (.cond (.t 5) (.seq (.ops [⟨none, some 6, .fieldA 1 1 (.t 1)⟩,
    ⟨none, some 7, .load false 1 (.t 6)⟩,
    ⟨none, some 8, .bin .geq (.t 7) (.k (.c (.p (.int .i64 0))))⟩,
    ⟨none, some 9, .move (.t 8)⟩,
    ⟨some (9, true), some 10, .fieldA 1 1 (.t 1)⟩,
    ⟨some (9, true), some 11, .load false 1 (.t 10)⟩,
    ⟨some (9, true), some 12, .bin .leq (.t 11) (.k (.c (.p (.int .i64 1))))⟩,
    ⟨none, some 13, .pick (.t 9) (.t 12) (.k (.c (.p (.bool false))))⟩,
    ⟨none, some 14, .move (.t 13)⟩,
    ⟨some (14, true), some 15, .fieldA 2 1 (.t 1)⟩,
    ⟨some (14, true), some 16, .load false 1 (.t 15)⟩,
    ⟨some (14, true), some 17, .bin .eql (.t 16) (.k (.c (.p (.str []))))⟩,
    ⟨none, some 18, .pick (.t 14) (.t 17) (.k (.c (.p (.bool false))))⟩,
    ⟨none, some 2, .move (.t 18)⟩] [])
  .ret)
  .skip))
 (.seq (.seq (.ops [⟨none, some 19, .fieldA 0 1 (.t 1)⟩,
    ⟨none, some 20, .load false 1 (.t 19)⟩,
    ⟨none, some 21, .bin .eql (.t 20) (.k (.c (.p (.int .i64 2))))⟩] [])
 (.cond (.t 21) (.seq (.ops [⟨none, some 22, .fieldA 2 1 (.t 1)⟩,
    ⟨none, some 23, .load false 1 (.t 22)⟩,
    ⟨none, some 24, .bin .eql (.t 23) (.k (.c (.p (.str []))))⟩,
    ⟨none, some 2, .move (.t 24)⟩] [])
  .ret)
  .skip))
 (.seq (.ops [⟨none, some 25, .fieldA 0 1 (.t 1)⟩,
    ⟨none, some 26, .load false 1 (.t 25)⟩,
    ⟨none, some 27, .bin .eql (.t 26) (.k (.c (.p (.int .i64 3))))⟩,
    ⟨none, some 28, .move (.t 27)⟩,
    ⟨some (28, true), some 29, .fieldA 1 1 (.t 1)⟩,
    ⟨some (28, true), some 30, .load false 1 (.t 29)⟩,
    ⟨some (28, true), some 31, .bin .eql (.t 30) (.k (.c (.p (.int .i64 0))))⟩,
    ⟨none, some 32, .pick (.t 28) (.t 31) (.k (.c (.p (.bool false))))⟩,
    ⟨none, some 33, .move (.t 32)⟩,
    ⟨some (33, true), some 34, .fieldA 2 1 (.t 1)⟩,
    ⟨some (33, true), some 35, .load false 1 (.t 34)⟩,
    ⟨some (33, true), some 36, .lenS (.t 35)⟩,
    ⟨some (33, true), some 37, .bin .leq (.t 36) (.k (.c (.p (.int .i64 64))))⟩,
    ⟨none, some 38, .pick (.t 33) (.t 37) (.k (.c (.p (.bool false))))⟩,
    ⟨none, some 2, .move (.t 38)⟩] [])
 .ret))))
theorem c_pleachref06_Is : comp Try.prog { own := [], mt := [], lp := [], gh := [] } 39 (Try.f47.body.getD .skip) = some s_pleachref06_Is := by kernel_rfl
abbrev r_pleachref06_Is : List RV := [.tmp 2]
theorem a_pleachref06_Is {args : List AV} {H : List (Nat × Blk)} {nx : Nat} {K : AV → List (Nat × Blk) → Nat → Prop} (hal : args.length ≤ 39) (h : W Try.prog s_pleachref06_Is (RETK r_pleachref06_Is K) ⟨argE 0 args, H, nx⟩) : ACalls Try.prog 47 args H nx K :=
  acalls_of_W (drawOk mixed) Try.func47 rfl (by kernel_rfl) (of_decide_eq_true (by kernel_rfl)) (by kernel_rfl) c_pleachref06_Is (by kernel_rfl) hal h
theorem p_pleachref06_Is {args : List AV} {r : AV} (hal : args.length ≤ 39) (hp : args.all pureA = true) (hr : pureA r = true) (h : W Try.prog s_pleachref06_Is (RETK r_pleachref06_Is fun a H _ => FRZ r a H) ⟨argE 0 args, [], 0⟩) : PCalls Try.prog 47 args r := .of hp (a_pleachref06_Is hal h) hr

/-! pleach/name.Check -/
abbrev n_name_Check : Nat := 48
def b_name_Check_0 : S :=
 (.seq (.ops [⟨none, some 14, .bin .lss (.t 13) (.t 12)⟩] [])
 (.seq (.cond (.t 14) .skip
  (.exit 0))
 (.seq (.block 1 (.seq (.ops [⟨none, some 15, .move (.t 13)⟩,
    ⟨none, some 3, .move (.t 15)⟩] [])
  (.seq (.ops [⟨none, some 16, .move (.t 0)⟩,
    ⟨none, some 17, .move (.t 3)⟩,
    ⟨none, some 18, .idxS (.t 16) (.t 17)⟩,
    ⟨none, some 19, .call 93 [(.t 18)]⟩,
    ⟨none, some 20, .un .not (.t 19)⟩] [])
  (.cond (.t 20) (.seq (.ops [⟨none, some 2, .move (.k (.c (.p (.int .i64 2))))⟩] [])
   .ret)
   .skip))))
 (.ops [⟨none, some 21, .bin .add (.t 13) (.k (.c (.p (.int .i64 1))))⟩,
    ⟨none, some 13, .move (.t 21)⟩] []))))
def s_name_Check : S :=
 (.seq (.ops [⟨none, some 2, .move (.k (.c (.p (.int .i64 0))))⟩] [])
 (.seq (.seq (.ops [⟨none, some 4, .move (.t 0)⟩,
    ⟨none, some 5, .bin .eql (.t 4) (.k (.c (.p (.str []))))⟩,
    ⟨none, some 6, .move (.t 5)⟩,
    ⟨some (6, false), some 7, .move (.t 0)⟩,
    ⟨some (6, false), some 8, .lenS (.t 7)⟩,
    ⟨some (6, false), some 9, .bin .gtr (.t 8) (.k (.c (.p (.int .i64 12))))⟩,
    ⟨none, some 10, .pick (.t 6) (.k (.c (.p (.bool true)))) (.t 9)⟩] [])
 (.cond (.t 10) (.seq (.ops [⟨none, some 2, .move (.k (.c (.p (.int .i64 2))))⟩] [])
  .ret)
  .skip))
 (.seq (.seq (.ops [⟨none, some 11, .move (.t 0)⟩,
    ⟨none, some 12, .lenS (.t 11)⟩,
    ⟨none, some 13, .move (.k (.c (.p (.int .i64 0))))⟩] [])
 (.block 0 (.loop [0, 12, 13] b_name_Check_0)))
 (.seq (.ops [⟨none, some 2, .move (.k (.c (.p (.int .i64 0))))⟩] [])
 .ret))))
theorem c_name_Check : comp Try.prog { own := [], mt := [], lp := [(0, [0, 12, 13])], gh := [] } 22 (Try.f48.body.getD .skip) = some s_name_Check := by kernel_rfl
abbrev r_name_Check : List RV := [.tmp 2]
theorem a_name_Check {args : List AV} {H : List (Nat × Blk)} {nx : Nat} {K : AV → List (Nat × Blk) → Nat → Prop} (hal : args.length ≤ 22) (h : W Try.prog s_name_Check (RETK r_name_Check K) ⟨argE 0 args, H, nx⟩) : ACalls Try.prog 48 args H nx K :=
  acalls_of_W (drawOk mixed) Try.func48 rfl (by kernel_rfl) (of_decide_eq_true (by kernel_rfl)) (by kernel_rfl) c_name_Check (by kernel_rfl) hal h
theorem p_name_Check {args : List AV} {r : AV} (hal : args.length ≤ 22) (hp : args.all pureA = true) (hr : pureA r = true) (h : W Try.prog s_name_Check (RETK r_name_Check fun a H _ => FRZ r a H) ⟨argE 0 args, [], 0⟩) : PCalls Try.prog 48 args r := .of hp (a_name_Check hal h) hr

/-! pleach/elem.Set -/
abbrev n_elem_Set : Nat := 49
def s_elem_Set : S :=
 (.seq (.ops [⟨none, some 5, .boxI (.t 2)⟩,
    ⟨none, some 6, .move (.k (.c (.p .nil)))⟩,
    ⟨none, some 7, .move (.k (.c (.p (.int .i64 0))))⟩] [])
 (.seq (.seq (.ops [⟨none, some 11, .move (.t 1)⟩,
    ⟨none, some 12, .call 48 [(.t 11)]⟩,
    ⟨none, some 13, .bin .neq (.t 12) (.k (.c (.p (.int .i64 0))))⟩,
    ⟨none, some 14, .move (.t 13)⟩,
    ⟨some (14, false), some 15, .load true 3 (.t 5)⟩,
    ⟨some (14, false), some 16, .call 94 [(.t 15)]⟩,
    ⟨some (14, false), some 17, .bin .neq (.t 16) (.k (.c (.p (.int .i64 0))))⟩,
    ⟨none, some 18, .pick (.t 14) (.k (.c (.p (.bool true)))) (.t 17)⟩] [])
 (.cond (.t 18) (.seq (.ops [⟨none, some 6, .move (.k (.c (.p .nil)))⟩,
    ⟨none, some 7, .move (.k (.c (.p (.int .i64 2))))⟩] [])
  .ret)
  .skip))
 (.seq (.ops [⟨none, some 19, .move (.t 0)⟩,
    ⟨none, some 20, .call 54 [(.t 19)]⟩,
    ⟨none, some 8, .move (.t 20)⟩] [])
 (.seq (.ops [⟨none, some 22, .move (.t 0)⟩,
    ⟨none, some 23, .move (.t 1)⟩,
    ⟨none, some 24, .call 95 [(.t 22), (.t 23)]⟩,
    ⟨none, some 21, .move (.t 24)⟩,
    ⟨none, some 25, .extract (.t 21) 0⟩,
    ⟨none, some 26, .extract (.t 21) 1⟩,
    ⟨none, some 9, .move (.t 25)⟩,
    ⟨none, some 10, .move (.t 26)⟩] [])
 (.seq (.block 0 (.seq (.ops [⟨none, some 28, .move (.t 10)⟩,
    ⟨none, some 27, .move (.t 28)⟩] [])
  (.cond (.t 27) (.seq (.ops [⟨none, some 29, .move (.t 8)⟩,
    ⟨none, some 30, .move (.t 9)⟩,
    ⟨none, some 31, .load true 3 (.t 5)⟩,
    ⟨none, some 32, .idxA 4 (.t 29) (.t 30)⟩,
    ⟨none, some 33, .fieldA 1 3 (.t 32)⟩,
    ⟨none, none, .store 3 (.t 33) (.t 31)⟩] [])
   (.seq (.ops [⟨none, some 34, .move (.t 8)⟩,
    ⟨none, some 6, .move (.t 34)⟩,
    ⟨none, some 7, .move (.k (.c (.p (.int .i64 0))))⟩] [])
   .ret))
   (.seq (.ops [⟨none, some 36, .move (.t 0)⟩,
    ⟨none, some 37, .len (.t 36)⟩,
    ⟨none, some 38, .bin .geq (.t 37) (.k (.c (.p (.int .i64 8))))⟩,
    ⟨none, some 35, .move (.t 38)⟩] [])
   (.cond (.t 35) (.seq (.ops [⟨none, some 6, .move (.k (.c (.p .nil)))⟩,
    ⟨none, some 7, .move (.k (.c (.p (.int .i64 5))))⟩] [])
    .ret)
    .skip)))))
 (.seq (.ops [⟨none, some 39, .move (.t 8)⟩,
    ⟨none, some 40, .move (.t 9)⟩,
    ⟨none, some 41, .move (.t 1)⟩,
    ⟨none, some 42, .load true 3 (.t 5)⟩,
    ⟨none, some 43, .build [.p (.str []), .p (.int .i64 0), .p (.int .i64 0), .p (.str [])] [(0, 1, (.t 41)), (1, 3, (.t 42))]⟩,
    ⟨none, some 44, .litR 4 [[.p (.str []), .p (.int .i64 0), .p (.int .i64 0), .p (.str [])]] [(0, (.t 43))]⟩,
    ⟨none, some 45, .call 96 [(.t 39), (.t 40), (.t 44)]⟩,
    ⟨none, some 6, .move (.t 45)⟩,
    ⟨none, some 7, .move (.k (.c (.p (.int .i64 0))))⟩] [])
 .ret))))))
theorem c_elem_Set : comp Try.prog { own := [44], mt := [], lp := [], gh := [] } 46 (Try.f49.body.getD .skip) = some s_elem_Set := by kernel_rfl
abbrev r_elem_Set : List RV := [.tmp 6, .tmp 7]
theorem a_elem_Set {args : List AV} {H : List (Nat × Blk)} {nx : Nat} {K : AV → List (Nat × Blk) → Nat → Prop} (hal : args.length ≤ 46) (h : W Try.prog s_elem_Set (RETK r_elem_Set K) ⟨argE 0 args, H, nx⟩) : ACalls Try.prog 49 args H nx K :=
  acalls_of_W (drawOk mixed) Try.func49 rfl (by kernel_rfl) (of_decide_eq_true (by kernel_rfl)) (by kernel_rfl) c_elem_Set (by kernel_rfl) hal h
theorem p_elem_Set {args : List AV} {r : AV} (hal : args.length ≤ 46) (hp : args.all pureA = true) (hr : pureA r = true) (h : W Try.prog s_elem_Set (RETK r_elem_Set fun a H _ => FRZ r a H) ⟨argE 0 args, [], 0⟩) : PCalls Try.prog 49 args r := .of hp (a_elem_Set hal h) hr

/-! pleach/elem.Label -/
abbrev n_elem_Label : Nat := 50
def s_elem_Label : S :=
 (.seq (.ops [⟨none, some 4, .move (.k (.c (.p .nil)))⟩,
    ⟨none, some 5, .move (.k (.c (.p (.int .i64 0))))⟩] [])
 (.seq (.seq (.ops [⟨none, some 9, .move (.t 1)⟩,
    ⟨none, some 10, .call 48 [(.t 9)]⟩,
    ⟨none, some 6, .move (.t 10)⟩] [])
 (.seq (.ops [⟨none, some 11, .move (.t 6)⟩,
    ⟨none, some 12, .bin .neq (.t 11) (.k (.c (.p (.int .i64 0))))⟩] [])
 (.cond (.t 12) (.seq (.ops [⟨none, some 13, .move (.t 6)⟩,
    ⟨none, some 4, .move (.k (.c (.p .nil)))⟩,
    ⟨none, some 5, .move (.t 13)⟩] [])
  .ret)
  .skip)))
 (.seq (.ops [⟨none, some 15, .move (.t 0)⟩,
    ⟨none, some 16, .move (.t 1)⟩,
    ⟨none, some 17, .call 97 [(.t 15), (.t 16)]⟩,
    ⟨none, some 14, .move (.t 17)⟩,
    ⟨none, some 18, .extract (.t 14) 0⟩,
    ⟨none, some 19, .extract (.t 14) 1⟩,
    ⟨none, some 7, .move (.t 18)⟩,
    ⟨none, some 8, .move (.t 19)⟩] [])
 (.seq (.block 0 (.seq (.ops [⟨none, some 21, .move (.t 8)⟩,
    ⟨none, some 22, .un .not (.t 21)⟩,
    ⟨none, some 20, .move (.t 22)⟩] [])
  (.cond (.t 20) (.seq (.ops [⟨none, some 4, .move (.k (.c (.p .nil)))⟩,
    ⟨none, some 5, .move (.k (.c (.p (.int .i64 10))))⟩] [])
   .ret)
   (.seq (.ops [⟨none, some 24, .move (.t 7)⟩,
    ⟨none, some 25, .len (.t 24)⟩,
    ⟨none, some 26, .bin .gtr (.t 25) (.k (.c (.p (.int .i64 8))))⟩,
    ⟨none, some 23, .move (.t 26)⟩] [])
   (.cond (.t 23) (.seq (.ops [⟨none, some 4, .move (.k (.c (.p .nil)))⟩,
    ⟨none, some 5, .move (.k (.c (.p (.int .i64 5))))⟩] [])
    .ret)
    .skip)))))
 (.seq (.ops [⟨none, some 27, .move (.t 7)⟩,
    ⟨none, some 4, .move (.t 27)⟩,
    ⟨none, some 5, .move (.k (.c (.p (.int .i64 0))))⟩] [])
 .ret)))))
theorem c_elem_Label : comp Try.prog { own := [], mt := [], lp := [], gh := [] } 28 (Try.f50.body.getD .skip) = some s_elem_Label := by kernel_rfl
abbrev r_elem_Label : List RV := [.tmp 4, .tmp 5]
theorem a_elem_Label {args : List AV} {H : List (Nat × Blk)} {nx : Nat} {K : AV → List (Nat × Blk) → Nat → Prop} (hal : args.length ≤ 28) (h : W Try.prog s_elem_Label (RETK r_elem_Label K) ⟨argE 0 args, H, nx⟩) : ACalls Try.prog 50 args H nx K :=
  acalls_of_W (drawOk mixed) Try.func50 rfl (by kernel_rfl) (of_decide_eq_true (by kernel_rfl)) (by kernel_rfl) c_elem_Label (by kernel_rfl) hal h
theorem p_elem_Label {args : List AV} {r : AV} (hal : args.length ≤ 28) (hp : args.all pureA = true) (hr : pureA r = true) (h : W Try.prog s_elem_Label (RETK r_elem_Label fun a H _ => FRZ r a H) ⟨argE 0 args, [], 0⟩) : PCalls Try.prog 50 args r := .of hp (a_elem_Label hal h) hr

/-! pleach/elem.Unlabel -/
abbrev n_elem_Unlabel : Nat := 51
def s_elem_Unlabel : S :=
 (.seq (.ops [⟨none, some 4, .move (.k (.c (.p .nil)))⟩,
    ⟨none, some 5, .move (.k (.c (.p (.int .i64 0))))⟩] [])
 (.seq (.ops [⟨none, some 9, .move (.t 0)⟩,
    ⟨none, some 10, .move (.t 1)⟩,
    ⟨none, some 11, .call 98 [(.t 9), (.t 10)]⟩,
    ⟨none, some 8, .move (.t 11)⟩,
    ⟨none, some 12, .extract (.t 8) 0⟩,
    ⟨none, some 13, .extract (.t 8) 1⟩,
    ⟨none, some 6, .move (.t 12)⟩,
    ⟨none, some 7, .move (.t 13)⟩] [])
 (.seq (.seq (.ops [⟨none, some 14, .move (.t 7)⟩,
    ⟨none, some 15, .un .not (.t 14)⟩] [])
 (.cond (.t 15) (.seq (.ops [⟨none, some 4, .move (.k (.c (.p .nil)))⟩,
    ⟨none, some 5, .move (.k (.c (.p (.int .i64 9))))⟩] [])
  .ret)
  .skip))
 (.seq (.ops [⟨none, some 16, .move (.t 6)⟩,
    ⟨none, some 4, .move (.t 16)⟩,
    ⟨none, some 5, .move (.k (.c (.p (.int .i64 0))))⟩] [])
 .ret))))
theorem c_elem_Unlabel : comp Try.prog { own := [], mt := [], lp := [], gh := [] } 17 (Try.f51.body.getD .skip) = some s_elem_Unlabel := by kernel_rfl
abbrev r_elem_Unlabel : List RV := [.tmp 4, .tmp 5]
theorem a_elem_Unlabel {args : List AV} {H : List (Nat × Blk)} {nx : Nat} {K : AV → List (Nat × Blk) → Nat → Prop} (hal : args.length ≤ 17) (h : W Try.prog s_elem_Unlabel (RETK r_elem_Unlabel K) ⟨argE 0 args, H, nx⟩) : ACalls Try.prog 51 args H nx K :=
  acalls_of_W (drawOk mixed) Try.func51 rfl (by kernel_rfl) (of_decide_eq_true (by kernel_rfl)) (by kernel_rfl) c_elem_Unlabel (by kernel_rfl) hal h
theorem p_elem_Unlabel {args : List AV} {r : AV} (hal : args.length ≤ 17) (hp : args.all pureA = true) (hr : pureA r = true) (h : W Try.prog s_elem_Unlabel (RETK r_elem_Unlabel fun a H _ => FRZ r a H) ⟨argE 0 args, [], 0⟩) : PCalls Try.prog 51 args r := .of hp (a_elem_Unlabel hal h) hr

/-! pleach/elem.Unset -/
abbrev n_elem_Unset : Nat := 52
def s_elem_Unset : S :=
 (.seq (.ops [⟨none, some 4, .move (.k (.c (.p .nil)))⟩,
    ⟨none, some 5, .move (.k (.c (.p (.int .i64 0))))⟩] [])
 (.seq (.ops [⟨none, some 9, .move (.t 0)⟩,
    ⟨none, some 10, .move (.t 1)⟩,
    ⟨none, some 11, .call 95 [(.t 9), (.t 10)]⟩,
    ⟨none, some 8, .move (.t 11)⟩,
    ⟨none, some 12, .extract (.t 8) 0⟩,
    ⟨none, some 13, .extract (.t 8) 1⟩,
    ⟨none, some 6, .move (.t 12)⟩,
    ⟨none, some 7, .move (.t 13)⟩] [])
 (.seq (.seq (.ops [⟨none, some 14, .move (.t 7)⟩,
    ⟨none, some 15, .un .not (.t 14)⟩] [])
 (.cond (.t 15) (.seq (.ops [⟨none, some 4, .move (.k (.c (.p .nil)))⟩,
    ⟨none, some 5, .move (.k (.c (.p (.int .i64 9))))⟩] [])
  .ret)
  .skip))
 (.seq (.ops [⟨none, some 16, .move (.t 0)⟩,
    ⟨none, some 17, .call 54 [(.t 16)]⟩,
    ⟨none, some 18, .move (.t 6)⟩,
    ⟨none, some 19, .move (.t 6)⟩,
    ⟨none, some 20, .bin .add (.t 19) (.k (.c (.p (.int .i64 1))))⟩,
    ⟨none, some 21, .call 99 [(.t 17), (.t 18), (.t 20)]⟩,
    ⟨none, some 4, .move (.t 21)⟩,
    ⟨none, some 5, .move (.k (.c (.p (.int .i64 0))))⟩] [])
 .ret))))
theorem c_elem_Unset : comp Try.prog { own := [], mt := [], lp := [], gh := [] } 22 (Try.f52.body.getD .skip) = some s_elem_Unset := by kernel_rfl
abbrev r_elem_Unset : List RV := [.tmp 4, .tmp 5]
theorem a_elem_Unset {args : List AV} {H : List (Nat × Blk)} {nx : Nat} {K : AV → List (Nat × Blk) → Nat → Prop} (hal : args.length ≤ 22) (h : W Try.prog s_elem_Unset (RETK r_elem_Unset K) ⟨argE 0 args, H, nx⟩) : ACalls Try.prog 52 args H nx K :=
  acalls_of_W (drawOk mixed) Try.func52 rfl (by kernel_rfl) (of_decide_eq_true (by kernel_rfl)) (by kernel_rfl) c_elem_Unset (by kernel_rfl) hal h
theorem p_elem_Unset {args : List AV} {r : AV} (hal : args.length ≤ 22) (hp : args.all pureA = true) (hr : pureA r = true) (h : W Try.prog s_elem_Unset (RETK r_elem_Unset fun a H _ => FRZ r a H) ⟨argE 0 args, [], 0⟩) : PCalls Try.prog 52 args r := .of hp (a_elem_Unset hal h) hr

/-! slices.Clone[[]string,string] -/
abbrev n_slices_Clone_string_string : Nat := 53
def s_slices_Clone_string_string : S :=
 (.seq (.ops [⟨none, some 2, .nilRow 1⟩] [])
 (.seq (.seq (.ops [⟨none, some 3, .move (.t 0)⟩,
    ⟨none, some 4, .eqN .slice false (.t 3)⟩] [])
 (.cond (.t 4) (.seq (.ops [⟨none, some 2, .nilRow 1⟩] [])
  .ret)
  .skip))
 (.seq (.ops [⟨none, some 5, .lit 1 [] []⟩,
    ⟨none, some 6, .move (.t 0)⟩,
    ⟨none, some 7, .append 1 16 (.t 5) (.t 6)⟩,
    ⟨none, some 2, .move (.t 7)⟩] [])
 .ret)))
theorem c_slices_Clone_string_string : comp Try.prog { own := [2], mt := [], lp := [], gh := [] } 8 (Try.f53.body.getD .skip) = some s_slices_Clone_string_string := by kernel_rfl
abbrev r_slices_Clone_string_string : List RV := [.tmp 2]
theorem a_slices_Clone_string_string {args : List AV} {H : List (Nat × Blk)} {nx : Nat} {K : AV → List (Nat × Blk) → Nat → Prop} (hal : args.length ≤ 8) (h : W Try.prog s_slices_Clone_string_string (RETK r_slices_Clone_string_string K) ⟨argE 0 args, H, nx⟩) : ACalls Try.prog 53 args H nx K :=
  acalls_of_W (drawOk mixed) Try.func53 rfl (by kernel_rfl) (of_decide_eq_true (by kernel_rfl)) (by kernel_rfl) c_slices_Clone_string_string (by kernel_rfl) hal h
theorem p_slices_Clone_string_string {args : List AV} {r : AV} (hal : args.length ≤ 8) (hp : args.all pureA = true) (hr : pureA r = true) (h : W Try.prog s_slices_Clone_string_string (RETK r_slices_Clone_string_string fun a H _ => FRZ r a H) ⟨argE 0 args, [], 0⟩) : PCalls Try.prog 53 args r := .of hp (a_slices_Clone_string_string hal h) hr

/-! slices.Clone[[]pleach/api.Prop,pleach/api.Prop] -/
abbrev n_slices_Clone_api_Prop_api_Prop : Nat := 54
def s_slices_Clone_api_Prop_api_Prop : S :=
 (.seq (.ops [⟨none, some 2, .nilRow 4⟩] [])
 (.seq (.seq (.ops [⟨none, some 3, .move (.t 0)⟩,
    ⟨none, some 4, .eqN .slice false (.t 3)⟩] [])
 (.cond (.t 4) (.seq (.ops [⟨none, some 2, .nilRow 4⟩] [])
  .ret)
  .skip))
 (.seq (.ops [⟨none, some 5, .lit 4 [] []⟩,
    ⟨none, some 6, .move (.t 0)⟩,
    ⟨none, some 7, .append 4 48 (.t 5) (.t 6)⟩,
    ⟨none, some 2, .move (.t 7)⟩] [])
 .ret)))
theorem c_slices_Clone_api_Prop_api_Prop : comp Try.prog { own := [2], mt := [], lp := [], gh := [] } 8 (Try.f54.body.getD .skip) = some s_slices_Clone_api_Prop_api_Prop := by kernel_rfl
abbrev r_slices_Clone_api_Prop_api_Prop : List RV := [.tmp 2]
theorem a_slices_Clone_api_Prop_api_Prop {args : List AV} {H : List (Nat × Blk)} {nx : Nat} {K : AV → List (Nat × Blk) → Nat → Prop} (hal : args.length ≤ 8) (h : W Try.prog s_slices_Clone_api_Prop_api_Prop (RETK r_slices_Clone_api_Prop_api_Prop K) ⟨argE 0 args, H, nx⟩) : ACalls Try.prog 54 args H nx K :=
  acalls_of_W (drawOk mixed) Try.func54 rfl (by kernel_rfl) (of_decide_eq_true (by kernel_rfl)) (by kernel_rfl) c_slices_Clone_api_Prop_api_Prop (by kernel_rfl) hal h
theorem p_slices_Clone_api_Prop_api_Prop {args : List AV} {r : AV} (hal : args.length ≤ 8) (hp : args.all pureA = true) (hr : pureA r = true) (h : W Try.prog s_slices_Clone_api_Prop_api_Prop (RETK r_slices_Clone_api_Prop_api_Prop fun a H _ => FRZ r a H) ⟨argE 0 args, [], 0⟩) : PCalls Try.prog 54 args r := .of hp (a_slices_Clone_api_Prop_api_Prop hal h) hr

/-! pleach/pleachref25.Label -/
abbrev n_pleachref25_Label : Nat := 55
def s_pleachref25_Label : S :=
 (.seq (.ops [⟨none, some 4, .move (.k (.c (.p .nil)))⟩,
    ⟨none, some 5, .move (.k (.c (.p (.int .i64 0))))⟩] [])
 (.seq (.seq (.ops [⟨none, some 6, .move (.t 1)⟩,
    ⟨none, some 7, .call 46 [(.t 6)]⟩,
    ⟨none, some 8, .un .not (.t 7)⟩] [])
 (.cond (.t 8) (.seq (.ops [⟨none, some 4, .move (.k (.c (.p .nil)))⟩,
    ⟨none, some 5, .move (.k (.c (.p (.int .i64 2))))⟩] [])
  .ret)
  .skip))
 (.seq (.seq (.ops [⟨none, some 9, .move (.t 0)⟩,
    ⟨none, some 10, .move (.t 1)⟩,
    ⟨none, some 11, .call 100 [(.t 9), (.t 10)]⟩] [])
 (.cond (.t 11) (.seq (.ops [⟨none, some 4, .move (.k (.c (.p .nil)))⟩,
    ⟨none, some 5, .move (.k (.c (.p (.int .i64 10))))⟩] [])
  .ret)
  .skip))
 (.seq (.seq (.ops [⟨none, some 12, .move (.t 0)⟩,
    ⟨none, some 13, .len (.t 12)⟩,
    ⟨none, some 14, .bin .geq (.t 13) (.k (.c (.p (.int .i64 8))))⟩] [])
 (.cond (.t 14) (.seq (.ops [⟨none, some 4, .move (.k (.c (.p .nil)))⟩,
    ⟨none, some 5, .move (.k (.c (.p (.int .i64 5))))⟩] [])
  .ret)
  .skip))
 (.seq (.ops [⟨none, some 15, .move (.t 0)⟩,
    ⟨none, some 16, .move (.t 1)⟩,
    ⟨none, some 17, .call 101 [(.t 15), (.t 16)]⟩,
    ⟨none, some 4, .move (.t 17)⟩,
    ⟨none, some 5, .move (.k (.c (.p (.int .i64 0))))⟩] [])
 .ret)))))
theorem c_pleachref25_Label : comp Try.prog { own := [], mt := [], lp := [], gh := [] } 18 (Try.f55.body.getD .skip) = some s_pleachref25_Label := by kernel_rfl
abbrev r_pleachref25_Label : List RV := [.tmp 4, .tmp 5]
theorem a_pleachref25_Label {args : List AV} {H : List (Nat × Blk)} {nx : Nat} {K : AV → List (Nat × Blk) → Nat → Prop} (hal : args.length ≤ 18) (h : W Try.prog s_pleachref25_Label (RETK r_pleachref25_Label K) ⟨argE 0 args, H, nx⟩) : ACalls Try.prog 55 args H nx K :=
  acalls_of_W (drawOk mixed) Try.func55 rfl (by kernel_rfl) (of_decide_eq_true (by kernel_rfl)) (by kernel_rfl) c_pleachref25_Label (by kernel_rfl) hal h
theorem p_pleachref25_Label {args : List AV} {r : AV} (hal : args.length ≤ 18) (hp : args.all pureA = true) (hr : pureA r = true) (h : W Try.prog s_pleachref25_Label (RETK r_pleachref25_Label fun a H _ => FRZ r a H) ⟨argE 0 args, [], 0⟩) : PCalls Try.prog 55 args r := .of hp (a_pleachref25_Label hal h) hr

/-! pleach/pleachref25.Unlabel -/
abbrev n_pleachref25_Unlabel : Nat := 56
def s_pleachref25_Unlabel : S :=
 (.seq (.ops [⟨none, some 4, .move (.k (.c (.p .nil)))⟩,
    ⟨none, some 5, .move (.k (.c (.p (.int .i64 0))))⟩] [])
 (.seq (.seq (.ops [⟨none, some 6, .move (.t 0)⟩,
    ⟨none, some 7, .move (.t 1)⟩,
    ⟨none, some 8, .call 100 [(.t 6), (.t 7)]⟩,
    ⟨none, some 9, .un .not (.t 8)⟩] [])
 (.cond (.t 9) (.seq (.ops [⟨none, some 4, .move (.k (.c (.p .nil)))⟩,
    ⟨none, some 5, .move (.k (.c (.p (.int .i64 9))))⟩] [])
  .ret)
  .skip))
 (.seq (.ops [⟨none, some 10, .move (.t 0)⟩,
    ⟨none, some 11, .move (.t 1)⟩,
    ⟨none, some 12, .lit 1 [[.p (.str [])]] [(0, (.t 11))]⟩,
    ⟨none, some 13, .call 102 [(.t 10), (.t 12)]⟩,
    ⟨none, some 4, .move (.t 13)⟩,
    ⟨none, some 5, .move (.k (.c (.p (.int .i64 0))))⟩] [])
 .ret)))
theorem c_pleachref25_Unlabel : comp Try.prog { own := [], mt := [], lp := [], gh := [] } 14 (Try.f56.body.getD .skip) = some s_pleachref25_Unlabel := by kernel_rfl
abbrev r_pleachref25_Unlabel : List RV := [.tmp 4, .tmp 5]
theorem a_pleachref25_Unlabel {args : List AV} {H : List (Nat × Blk)} {nx : Nat} {K : AV → List (Nat × Blk) → Nat → Prop} (hal : args.length ≤ 14) (h : W Try.prog s_pleachref25_Unlabel (RETK r_pleachref25_Unlabel K) ⟨argE 0 args, H, nx⟩) : ACalls Try.prog 56 args H nx K :=
  acalls_of_W (drawOk mixed) Try.func56 rfl (by kernel_rfl) (of_decide_eq_true (by kernel_rfl)) (by kernel_rfl) c_pleachref25_Unlabel (by kernel_rfl) hal h
theorem p_pleachref25_Unlabel {args : List AV} {r : AV} (hal : args.length ≤ 14) (hp : args.all pureA = true) (hr : pureA r = true) (h : W Try.prog s_pleachref25_Unlabel (RETK r_pleachref25_Unlabel fun a H _ => FRZ r a H) ⟨argE 0 args, [], 0⟩) : PCalls Try.prog 56 args r := .of hp (a_pleachref25_Unlabel hal h) hr

/-! pleach/pleachref25.Set -/
abbrev n_pleachref25_Set : Nat := 57
def b_pleachref25_Set_0 : S :=
 (.seq (.seq (.ops [⟨none, some 28, .move (.t 9)⟩,
    ⟨none, some 29, .move (.t 0)⟩,
    ⟨none, some 30, .len (.t 29)⟩,
    ⟨none, some 31, .bin .lss (.t 28) (.t 30)⟩] [])
 (.cond (.t 31) .skip
  (.exit 0)))
 (.seq (.block 1 (.seq (.ops [⟨none, some 34, .move (.t 0)⟩,
    ⟨none, some 35, .move (.t 9)⟩,
    ⟨none, some 36, .idxA 4 (.t 34) (.t 35)⟩,
    ⟨none, some 37, .fieldA 0 1 (.t 36)⟩,
    ⟨none, some 38, .load false 1 (.t 37)⟩,
    ⟨none, some 39, .move (.t 1)⟩,
    ⟨none, some 40, .bin .lss (.t 38) (.t 39)⟩] [])
  (.cond (.t 40) (.ops [⟨none, some 41, .move (.t 8)⟩,
    ⟨none, some 42, .move (.t 0)⟩,
    ⟨none, some 43, .move (.t 9)⟩,
    ⟨none, some 44, .idxA 4 (.t 42) (.t 43)⟩,
    ⟨none, some 45, .load true 4 (.t 44)⟩,
    ⟨none, some 46, .lit 4 [[.p (.str []), .p (.int .i64 0), .p (.int .i64 0), .p (.str [])]] [(0, (.t 45))]⟩,
    ⟨none, some 47, .append 4 48 (.t 41) (.t 46)⟩,
    ⟨none, some 8, .move (.t 47)⟩] [])
   .skip)))
 (.ops [⟨none, some 32, .move (.t 9)⟩,
    ⟨none, some 33, .bin .add (.t 32) (.k (.c (.p (.int .i64 1))))⟩,
    ⟨none, some 9, .move (.t 33)⟩] [])))
def b_pleachref25_Set_2 : S :=
 (.seq (.seq (.ops [⟨none, some 54, .move (.t 10)⟩,
    ⟨none, some 55, .move (.t 0)⟩,
    ⟨none, some 56, .len (.t 55)⟩,
    ⟨none, some 57, .bin .lss (.t 54) (.t 56)⟩] [])
 (.cond (.t 57) .skip
  (.exit 2)))
 (.seq (.block 3 (.seq (.ops [⟨none, some 60, .move (.t 0)⟩,
    ⟨none, some 61, .move (.t 10)⟩,
    ⟨none, some 62, .idxA 4 (.t 60) (.t 61)⟩,
    ⟨none, some 63, .fieldA 0 1 (.t 62)⟩,
    ⟨none, some 64, .load false 1 (.t 63)⟩,
    ⟨none, some 65, .move (.t 1)⟩,
    ⟨none, some 66, .bin .gtr (.t 64) (.t 65)⟩] [])
  (.cond (.t 66) (.ops [⟨none, some 67, .move (.t 8)⟩,
    ⟨none, some 68, .move (.t 0)⟩,
    ⟨none, some 69, .move (.t 10)⟩,
    ⟨none, some 70, .idxA 4 (.t 68) (.t 69)⟩,
    ⟨none, some 71, .load true 4 (.t 70)⟩,
    ⟨none, some 72, .lit 4 [[.p (.str []), .p (.int .i64 0), .p (.int .i64 0), .p (.str [])]] [(0, (.t 71))]⟩,
    ⟨none, some 73, .append 4 48 (.t 67) (.t 72)⟩,
    ⟨none, some 8, .move (.t 73)⟩] [])
   .skip)))
 (.ops [⟨none, some 58, .move (.t 10)⟩,
    ⟨none, some 59, .bin .add (.t 58) (.k (.c (.p (.int .i64 1))))⟩,
    ⟨none, some 10, .move (.t 59)⟩] [])))
def s_pleachref25_Set : S :=
 (.seq (.ops [⟨none, some 5, .boxI (.t 2)⟩,
    ⟨none, some 6, .move (.k (.c (.p .nil)))⟩,
    ⟨none, some 7, .move (.k (.c (.p (.int .i64 0))))⟩] [])
 (.seq (.seq (.ops [⟨none, some 11, .move (.t 1)⟩,
    ⟨none, some 12, .call 46 [(.t 11)]⟩,
    ⟨none, some 13, .un .not (.t 12)⟩,
    ⟨none, some 14, .move (.t 13)⟩,
    ⟨some (14, false), some 15, .load true 3 (.t 5)⟩,
    ⟨some (14, false), some 16, .call 47 [(.t 15)]⟩,
    ⟨some (14, false), some 17, .un .not (.t 16)⟩,
    ⟨none, some 18, .pick (.t 14) (.k (.c (.p (.bool true)))) (.t 17)⟩] [])
 (.cond (.t 18) (.seq (.ops [⟨none, some 6, .move (.k (.c (.p .nil)))⟩,
    ⟨none, some 7, .move (.k (.c (.p (.int .i64 2))))⟩] [])
  .ret)
  .skip))
 (.seq (.seq (.ops [⟨none, some 19, .move (.t 0)⟩,
    ⟨none, some 20, .move (.t 1)⟩,
    ⟨none, some 21, .call 103 [(.t 19), (.t 20)]⟩,
    ⟨none, some 22, .bin .lss (.t 21) (.k (.c (.p (.int .i64 0))))⟩,
    ⟨none, some 23, .move (.t 22)⟩,
    ⟨some (23, true), some 24, .move (.t 0)⟩,
    ⟨some (23, true), some 25, .len (.t 24)⟩,
    ⟨some (23, true), some 26, .bin .geq (.t 25) (.k (.c (.p (.int .i64 8))))⟩,
    ⟨none, some 27, .pick (.t 23) (.t 26) (.k (.c (.p (.bool false))))⟩] [])
 (.cond (.t 27) (.seq (.ops [⟨none, some 6, .move (.k (.c (.p .nil)))⟩,
    ⟨none, some 7, .move (.k (.c (.p (.int .i64 5))))⟩] [])
  .ret)
  .skip))
 (.seq (.ops [⟨none, some 8, .nilRow 4⟩] [])
 (.seq (.seq (.ops [⟨none, some 9, .move (.k (.c (.p (.int .i64 0))))⟩] [])
 (.block 0 (.loop [0, 1, 5, 8, 9] b_pleachref25_Set_0)))
 (.seq (.ops [⟨none, some 48, .move (.t 8)⟩,
    ⟨none, some 49, .move (.t 1)⟩,
    ⟨none, some 50, .load true 3 (.t 5)⟩,
    ⟨none, some 51, .build [.p (.str []), .p (.int .i64 0), .p (.int .i64 0), .p (.str [])] [(0, 1, (.t 49)), (1, 3, (.t 50))]⟩,
    ⟨none, some 52, .lit 4 [[.p (.str []), .p (.int .i64 0), .p (.int .i64 0), .p (.str [])]] [(0, (.t 51))]⟩,
    ⟨none, some 53, .append 4 48 (.t 48) (.t 52)⟩,
    ⟨none, some 8, .move (.t 53)⟩] [])
 (.seq (.seq (.ops [⟨none, some 10, .move (.k (.c (.p (.int .i64 0))))⟩] [])
 (.block 2 (.loop [0, 1, 8, 10] b_pleachref25_Set_2)))
 (.seq (.ops [⟨none, some 74, .move (.t 8)⟩,
    ⟨none, some 6, .move (.t 74)⟩,
    ⟨none, some 7, .move (.k (.c (.p (.int .i64 0))))⟩] [])
 .ret))))))))
theorem c_pleachref25_Set : comp Try.prog { own := [8], mt := [], lp := [(0, [0, 1, 5, 8, 9]), (2, [0, 1, 8, 10])], gh := [] } 75 (Try.f57.body.getD .skip) = some s_pleachref25_Set := by kernel_rfl
abbrev r_pleachref25_Set : List RV := [.tmp 6, .tmp 7]
theorem a_pleachref25_Set {args : List AV} {H : List (Nat × Blk)} {nx : Nat} {K : AV → List (Nat × Blk) → Nat → Prop} (hal : args.length ≤ 75) (h : W Try.prog s_pleachref25_Set (RETK r_pleachref25_Set K) ⟨argE 0 args, H, nx⟩) : ACalls Try.prog 57 args H nx K :=
  acalls_of_W (drawOk mixed) Try.func57 rfl (by kernel_rfl) (of_decide_eq_true (by kernel_rfl)) (by kernel_rfl) c_pleachref25_Set (by kernel_rfl) hal h
theorem p_pleachref25_Set {args : List AV} {r : AV} (hal : args.length ≤ 75) (hp : args.all pureA = true) (hr : pureA r = true) (h : W Try.prog s_pleachref25_Set (RETK r_pleachref25_Set fun a H _ => FRZ r a H) ⟨argE 0 args, [], 0⟩) : PCalls Try.prog 57 args r := .of hp (a_pleachref25_Set hal h) hr

/-! pleach/pleachref25.Unset -/
abbrev n_pleachref25_Unset : Nat := 58
def s_pleachref25_Unset : S :=
 (.seq (.ops [⟨none, some 4, .nilRow 4⟩,
    ⟨none, some 5, .move (.k (.c (.p (.int .i64 0))))⟩] [])
 (.seq (.ops [⟨none, some 7, .move (.t 0)⟩,
    ⟨none, some 8, .move (.t 1)⟩,
    ⟨none, some 9, .call 103 [(.t 7), (.t 8)]⟩,
    ⟨none, some 6, .move (.t 9)⟩] [])
 (.seq (.seq (.ops [⟨none, some 10, .move (.t 6)⟩,
    ⟨none, some 11, .bin .lss (.t 10) (.k (.c (.p (.int .i64 0))))⟩] [])
 (.cond (.t 11) (.seq (.ops [⟨none, some 4, .nilRow 4⟩,
    ⟨none, some 5, .move (.k (.c (.p (.int .i64 9))))⟩] [])
  .ret)
  .skip))
 (.seq (.draw [⟨none, some 12, .lit 4 [] []⟩,
    ⟨none, some 13, .move (.t 0)⟩,
    ⟨none, some 14, .move (.t 6)⟩,
    ⟨none, some 15, .slice 4 (.t 13) none (some (.t 14)) none⟩,
    ⟨none, some 16, .append 4 48 (.t 12) (.t 15)⟩,
    ⟨none, some 17, .move (.t 0)⟩,
    ⟨none, some 18, .move (.t 6)⟩,
    ⟨none, some 19, .bin .add (.t 18) (.k (.c (.p (.int .i64 1))))⟩,
    ⟨none, some 20, .slice 4 (.t 17) (some (.t 19)) none none⟩,
    ⟨none, some 21, .append 4 48 (.t 16) (.t 20)⟩,
    ⟨none, some 4, .move (.t 21)⟩,
    ⟨none, some 5, .move (.k (.c (.p (.int .i64 0))))⟩]
 [0, 0, 0, 6, 15, 0, 0, 64, 224, 511, 1023, 2047] [])
 .ret))))
theorem c_pleachref25_Unset : comp Try.prog { own := [4], mt := [], lp := [], gh := [] } 22 (Try.f58.body.getD .skip) = some s_pleachref25_Unset := by kernel_rfl
abbrev r_pleachref25_Unset : List RV := [.tmp 4, .tmp 5]
theorem a_pleachref25_Unset {args : List AV} {H : List (Nat × Blk)} {nx : Nat} {K : AV → List (Nat × Blk) → Nat → Prop} (hal : args.length ≤ 22) (h : W Try.prog s_pleachref25_Unset (RETK r_pleachref25_Unset K) ⟨argE 0 args, H, nx⟩) : ACalls Try.prog 58 args H nx K :=
  acalls_of_W (drawOk mixed) Try.func58 rfl (by kernel_rfl) (of_decide_eq_true (by kernel_rfl)) (by kernel_rfl) c_pleachref25_Unset (by kernel_rfl) hal h
theorem p_pleachref25_Unset {args : List AV} {r : AV} (hal : args.length ≤ 22) (hp : args.all pureA = true) (hr : pureA r = true) (h : W Try.prog s_pleachref25_Unset (RETK r_pleachref25_Unset fun a H _ => FRZ r a H) ⟨argE 0 args, [], 0⟩) : PCalls Try.prog 58 args r := .of hp (a_pleachref25_Unset hal h) hr

/-! (*pleach/graph.change).do -/
abbrev n_graph_change_do : Nat := 59
def s_graph_change_do : S :=
 (.seq (.ops [⟨none, some 3, .boxI (.t 1)⟩,
    ⟨none, some 4, .move (.k (.c (.p (.int .i64 0))))⟩] [])
 (.seq (.seq (.ops [⟨none, some 7, .load true 8 (.t 3)⟩,
    ⟨none, some 8, .call 14 [(.t 7)]⟩,
    ⟨none, some 5, .move (.t 8)⟩] [])
 (.seq (.ops [⟨none, some 9, .move (.t 5)⟩,
    ⟨none, some 10, .bin .neq (.t 9) (.k (.c (.p (.int .i64 0))))⟩] [])
 (.cond (.t 10) (.seq (.ops [⟨none, some 11, .move (.t 5)⟩,
    ⟨none, some 4, .move (.t 11)⟩] [])
  .ret)
  .skip)))
 (.seq (.ops [⟨none, some 12, .move (.t 0)⟩,
    ⟨none, some 13, .mkFn 104 [(.t 12)] []⟩,
    ⟨none, some 6, .move (.t 13)⟩] [])
 (.seq (.seq (.ops [⟨none, some 14, .fieldA 0 1 (.t 3)⟩,
    ⟨none, some 15, .load false 1 (.t 14)⟩] [])
 (.block 0 (.seq (.seq (.ops [⟨none, some 17, .bin .eql (.t 15) (.k (.c (.p (.int .i64 1))))⟩,
    ⟨none, some 16, .move (.t 17)⟩] [])
  (.cond (.t 16) .skip
   (.ops [⟨none, some 18, .bin .eql (.t 15) (.k (.c (.p (.int .i64 3))))⟩,
    ⟨none, some 16, .move (.t 18)⟩] [])))
  (.cond (.t 16) (.ops [⟨none, some 19, .move (.t 0)⟩,
    ⟨none, some 20, .mkFn 105 [(.t 19)] []⟩,
    ⟨none, some 6, .move (.t 20)⟩] [])
   (.seq (.seq (.ops [⟨none, some 22, .bin .eql (.t 15) (.k (.c (.p (.int .i64 2))))⟩,
    ⟨none, some 21, .move (.t 22)⟩] [])
   (.cond (.t 21) .skip
    (.ops [⟨none, some 23, .bin .eql (.t 15) (.k (.c (.p (.int .i64 4))))⟩,
    ⟨none, some 21, .move (.t 23)⟩] [])))
   (.cond (.t 21) (.ops [⟨none, some 24, .move (.t 0)⟩,
    ⟨none, some 25, .mkFn 106 [(.t 24)] []⟩,
    ⟨none, some 6, .move (.t 25)⟩] [])
    .skip))))))
 (.seq (.ops [⟨none, some 26, .move (.t 6)⟩,
    ⟨none, some 27, .load true 8 (.t 3)⟩,
    ⟨none, some 28, .callv (.t 26) [(.t 27)]⟩,
    ⟨none, some 4, .move (.t 28)⟩] [])
 .ret)))))
theorem c_graph_change_do : comp Try.prog { own := [], mt := [], lp := [], gh := [] } 29 (Try.f59.body.getD .skip) = some s_graph_change_do := by kernel_rfl
abbrev r_graph_change_do : List RV := [.tmp 4]
theorem a_graph_change_do {args : List AV} {H : List (Nat × Blk)} {nx : Nat} {K : AV → List (Nat × Blk) → Nat → Prop} (hal : args.length ≤ 29) (h : W Try.prog s_graph_change_do (RETK r_graph_change_do K) ⟨argE 0 args, H, nx⟩) : ACalls Try.prog 59 args H nx K :=
  acalls_of_W (drawOk mixed) Try.func59 rfl (by kernel_rfl) (of_decide_eq_true (by kernel_rfl)) (by kernel_rfl) c_graph_change_do (by kernel_rfl) hal h
theorem p_graph_change_do {args : List AV} {r : AV} (hal : args.length ≤ 29) (hp : args.all pureA = true) (hr : pureA r = true) (h : W Try.prog s_graph_change_do (RETK r_graph_change_do fun a H _ => FRZ r a H) ⟨argE 0 args, [], 0⟩) : PCalls Try.prog 59 args r := .of hp (a_graph_change_do hal h) hr

/-! pleach/elem.CheckNode -/
abbrev n_elem_CheckNode : Nat := 60
def s_elem_CheckNode : S :=
 (.seq (.ops [⟨none, some 1, .boxI (.t 0)⟩,
    ⟨none, some 2, .move (.k (.c (.p (.int .i64 0))))⟩] [])
 (.seq (.seq (.ops [⟨none, some 4, .fieldA 0 1 (.t 1)⟩,
    ⟨none, some 5, .load false 1 (.t 4)⟩,
    ⟨none, some 6, .call 48 [(.t 5)]⟩,
    ⟨none, some 3, .move (.t 6)⟩] [])
 (.seq (.ops [⟨none, some 7, .move (.t 3)⟩,
    ⟨none, some 8, .bin .neq (.t 7) (.k (.c (.p (.int .i64 0))))⟩] [])
 (.cond (.t 8) (.seq (.ops [⟨none, some 9, .move (.t 3)⟩,
    ⟨none, some 2, .move (.t 9)⟩] [])
  .ret)
  .skip)))
 (.seq (.ops [⟨none, some 10, .fieldA 1 1 (.t 1)⟩,
    ⟨none, some 11, .load false 1 (.t 10)⟩,
    ⟨none, some 12, .fieldA 2 1 (.t 1)⟩,
    ⟨none, some 13, .load false 1 (.t 12)⟩,
    ⟨none, some 14, .call 107 [(.t 11), (.t 13)]⟩,
    ⟨none, some 2, .move (.t 14)⟩] [])
 .ret)))
theorem c_elem_CheckNode : comp Try.prog { own := [], mt := [], lp := [], gh := [] } 15 (Try.f60.body.getD .skip) = some s_elem_CheckNode := by kernel_rfl
abbrev r_elem_CheckNode : List RV := [.tmp 2]
theorem a_elem_CheckNode {args : List AV} {H : List (Nat × Blk)} {nx : Nat} {K : AV → List (Nat × Blk) → Nat → Prop} (hal : args.length ≤ 15) (h : W Try.prog s_elem_CheckNode (RETK r_elem_CheckNode K) ⟨argE 0 args, H, nx⟩) : ACalls Try.prog 60 args H nx K :=
  acalls_of_W (drawOk mixed) Try.func60 rfl (by kernel_rfl) (of_decide_eq_true (by kernel_rfl)) (by kernel_rfl) c_elem_CheckNode (by kernel_rfl) hal h
theorem p_elem_CheckNode {args : List AV} {r : AV} (hal : args.length ≤ 15) (hp : args.all pureA = true) (hr : pureA r = true) (h : W Try.prog s_elem_CheckNode (RETK r_elem_CheckNode fun a H _ => FRZ r a H) ⟨argE 0 args, [], 0⟩) : PCalls Try.prog 60 args r := .of hp (a_elem_CheckNode hal h) hr

/-! pleach/elem.CheckEdge -/
abbrev n_elem_CheckEdge : Nat := 61
def b_elem_CheckEdge_0 : S :=
 (.seq (.ops [⟨none, some 14, .bin .lss (.t 13) (.k (.c (.p (.int .i64 3))))⟩] [])
 (.seq (.cond (.t 14) .skip
  (.exit 0))
 (.seq (.block 1 (.seq (.ops [⟨none, some 15, .idxV 3 1 false (.t 12) (.t 13)⟩,
    ⟨none, some 4, .move (.t 15)⟩] [])
  (.seq (.ops [⟨none, some 16, .move (.t 4)⟩,
    ⟨none, some 17, .call 48 [(.t 16)]⟩,
    ⟨none, some 5, .move (.t 17)⟩] [])
  (.seq (.ops [⟨none, some 18, .move (.t 5)⟩,
    ⟨none, some 19, .bin .neq (.t 18) (.k (.c (.p (.int .i64 0))))⟩] [])
  (.cond (.t 19) (.seq (.ops [⟨none, some 20, .move (.t 5)⟩,
    ⟨none, some 2, .move (.t 20)⟩] [])
   .ret)
   .skip)))))
 (.ops [⟨none, some 21, .bin .add (.t 13) (.k (.c (.p (.int .i64 1))))⟩,
    ⟨none, some 13, .move (.t 21)⟩] []))))
def s_elem_CheckEdge : S :=
 (.seq (.ops [⟨none, some 1, .boxI (.t 0)⟩,
    ⟨none, some 2, .move (.k (.c (.p (.int .i64 0))))⟩] [])
 (.seq (.seq (.ops [⟨none, some 6, .fieldA 0 1 (.t 1)⟩,
    ⟨none, some 7, .load false 1 (.t 6)⟩,
    ⟨none, some 8, .fieldA 1 1 (.t 1)⟩,
    ⟨none, some 9, .load false 1 (.t 8)⟩,
    ⟨none, some 10, .fieldA 2 1 (.t 1)⟩,
    ⟨none, some 11, .load false 1 (.t 10)⟩,
    ⟨none, some 12, .build [.p (.str []), .p (.str []), .p (.str [])] [(0, 1, (.t 7)), (1, 1, (.t 9)), (2, 1, (.t 11))]⟩,
    ⟨none, some 13, .move (.k (.c (.p (.int .i64 0))))⟩] [])
 (.block 0 (.loop [1, 12, 13] b_elem_CheckEdge_0)))
 (.seq (.ops [⟨none, some 22, .fieldA 3 1 (.t 1)⟩,
    ⟨none, some 23, .load false 1 (.t 22)⟩,
    ⟨none, some 24, .fieldA 4 1 (.t 1)⟩,
    ⟨none, some 25, .load false 1 (.t 24)⟩,
    ⟨none, some 26, .call 107 [(.t 23), (.t 25)]⟩,
    ⟨none, some 2, .move (.t 26)⟩] [])
 .ret)))
theorem c_elem_CheckEdge : comp Try.prog { own := [], mt := [], lp := [(0, [1, 12, 13])], gh := [] } 27 (Try.f61.body.getD .skip) = some s_elem_CheckEdge := by kernel_rfl
abbrev r_elem_CheckEdge : List RV := [.tmp 2]
theorem a_elem_CheckEdge {args : List AV} {H : List (Nat × Blk)} {nx : Nat} {K : AV → List (Nat × Blk) → Nat → Prop} (hal : args.length ≤ 27) (h : W Try.prog s_elem_CheckEdge (RETK r_elem_CheckEdge K) ⟨argE 0 args, H, nx⟩) : ACalls Try.prog 61 args H nx K :=
  acalls_of_W (drawOk mixed) Try.func61 rfl (by kernel_rfl) (of_decide_eq_true (by kernel_rfl)) (by kernel_rfl) c_elem_CheckEdge (by kernel_rfl) hal h
theorem p_elem_CheckEdge {args : List AV} {r : AV} (hal : args.length ≤ 27) (hp : args.all pureA = true) (hr : pureA r = true) (h : W Try.prog s_elem_CheckEdge (RETK r_elem_CheckEdge fun a H _ => FRZ r a H) ⟨argE 0 args, [], 0⟩) : PCalls Try.prog 61 args r := .of hp (a_elem_CheckEdge hal h) hr

/-! pleach/graph.node -/
abbrev n_graph_node : Nat := 62
def s_graph_node : S :=
 (.seq (.ops [⟨none, some 2, .box (.t 0)⟩,
    ⟨none, some 4, .move (.k (.c (.p (.int .i64 0))))⟩,
    ⟨none, some 5, .move (.k (.c (.p (.bool false))))⟩] [])
 (.seq (.ops [⟨none, some 6, .fieldA 0 1 (.t 2)⟩,
    ⟨none, some 7, .load false 1 (.t 6)⟩,
    ⟨none, some 8, .move (.t 1)⟩,
    ⟨none, some 9, .call 108 [(.t 7), (.t 8), (.k (.c (.p (.fn 109 []))))]⟩,
    ⟨none, some 10, .extract (.t 9) 0⟩,
    ⟨none, some 11, .extract (.t 9) 1⟩,
    ⟨none, some 4, .move (.t 10)⟩,
    ⟨none, some 5, .move (.t 11)⟩] [])
 .ret))
theorem c_graph_node : comp Try.prog { own := [], mt := [2], lp := [], gh := [] } 12 (Try.f62.body.getD .skip) = some s_graph_node := by kernel_rfl
abbrev r_graph_node : List RV := [.tmp 4, .tmp 5]
theorem a_graph_node {args : List AV} {H : List (Nat × Blk)} {nx : Nat} {K : AV → List (Nat × Blk) → Nat → Prop} (hal : args.length ≤ 12) (h : W Try.prog s_graph_node (RETK r_graph_node K) ⟨argE 0 args, H, nx⟩) : ACalls Try.prog 62 args H nx K :=
  acalls_of_W (drawOk mixed) Try.func62 rfl (by kernel_rfl) (of_decide_eq_true (by kernel_rfl)) (by kernel_rfl) c_graph_node (by kernel_rfl) hal h
theorem p_graph_node {args : List AV} {r : AV} (hal : args.length ≤ 12) (hp : args.all pureA = true) (hr : pureA r = true) (h : W Try.prog s_graph_node (RETK r_graph_node fun a H _ => FRZ r a H) ⟨argE 0 args, [], 0⟩) : PCalls Try.prog 62 args r := .of hp (a_graph_node hal h) hr

/-! slices.Clone[[]pleach/api.Node,pleach/api.Node] -/
abbrev n_slices_Clone_api_Node_api_Node : Nat := 65
def s_slices_Clone_api_Node_api_Node : S :=
 (.seq (.ops [⟨none, some 2, .nilRow 3⟩] [])
 (.seq (.seq (.ops [⟨none, some 3, .move (.t 0)⟩,
    ⟨none, some 4, .eqN .slice false (.t 3)⟩] [])
 (.cond (.t 4) (.seq (.ops [⟨none, some 2, .nilRow 3⟩] [])
  .ret)
  .skip))
 (.seq (.ops [⟨none, some 5, .lit 3 [] []⟩,
    ⟨none, some 6, .move (.t 0)⟩,
    ⟨none, some 7, .append 3 64 (.t 5) (.t 6)⟩,
    ⟨none, some 2, .move (.t 7)⟩] [])
 .ret)))
theorem c_slices_Clone_api_Node_api_Node : comp Try.prog { own := [2], mt := [], lp := [], gh := [] } 8 (Try.f65.body.getD .skip) = some s_slices_Clone_api_Node_api_Node := by kernel_rfl
abbrev r_slices_Clone_api_Node_api_Node : List RV := [.tmp 2]
theorem a_slices_Clone_api_Node_api_Node {args : List AV} {H : List (Nat × Blk)} {nx : Nat} {K : AV → List (Nat × Blk) → Nat → Prop} (hal : args.length ≤ 8) (h : W Try.prog s_slices_Clone_api_Node_api_Node (RETK r_slices_Clone_api_Node_api_Node K) ⟨argE 0 args, H, nx⟩) : ACalls Try.prog 65 args H nx K :=
  acalls_of_W (drawOk mixed) Try.func65 rfl (by kernel_rfl) (of_decide_eq_true (by kernel_rfl)) (by kernel_rfl) c_slices_Clone_api_Node_api_Node (by kernel_rfl) hal h
theorem p_slices_Clone_api_Node_api_Node {args : List AV} {r : AV} (hal : args.length ≤ 8) (hp : args.all pureA = true) (hr : pureA r = true) (h : W Try.prog s_slices_Clone_api_Node_api_Node (RETK r_slices_Clone_api_Node_api_Node fun a H _ => FRZ r a H) ⟨argE 0 args, [], 0⟩) : PCalls Try.prog 65 args r := .of hp (a_slices_Clone_api_Node_api_Node hal h) hr

/-! slices.Clone[[]pleach/api.Edge,pleach/api.Edge] -/
abbrev n_slices_Clone_api_Edge_api_Edge : Nat := 66
def s_slices_Clone_api_Edge_api_Edge : S :=
 (.seq (.ops [⟨none, some 2, .nilRow 5⟩] [])
 (.seq (.seq (.ops [⟨none, some 3, .move (.t 0)⟩,
    ⟨none, some 4, .eqN .slice false (.t 3)⟩] [])
 (.cond (.t 4) (.seq (.ops [⟨none, some 2, .nilRow 5⟩] [])
  .ret)
  .skip))
 (.seq (.ops [⟨none, some 5, .lit 5 [] []⟩,
    ⟨none, some 6, .move (.t 0)⟩,
    ⟨none, some 7, .append 5 96 (.t 5) (.t 6)⟩,
    ⟨none, some 2, .move (.t 7)⟩] [])
 .ret)))
theorem c_slices_Clone_api_Edge_api_Edge : comp Try.prog { own := [2], mt := [], lp := [], gh := [] } 8 (Try.f66.body.getD .skip) = some s_slices_Clone_api_Edge_api_Edge := by kernel_rfl
abbrev r_slices_Clone_api_Edge_api_Edge : List RV := [.tmp 2]
theorem a_slices_Clone_api_Edge_api_Edge {args : List AV} {H : List (Nat × Blk)} {nx : Nat} {K : AV → List (Nat × Blk) → Nat → Prop} (hal : args.length ≤ 8) (h : W Try.prog s_slices_Clone_api_Edge_api_Edge (RETK r_slices_Clone_api_Edge_api_Edge K) ⟨argE 0 args, H, nx⟩) : ACalls Try.prog 66 args H nx K :=
  acalls_of_W (drawOk mixed) Try.func66 rfl (by kernel_rfl) (of_decide_eq_true (by kernel_rfl)) (by kernel_rfl) c_slices_Clone_api_Edge_api_Edge (by kernel_rfl) hal h
theorem p_slices_Clone_api_Edge_api_Edge {args : List AV} {r : AV} (hal : args.length ≤ 8) (hp : args.all pureA = true) (hr : pureA r = true) (h : W Try.prog s_slices_Clone_api_Edge_api_Edge (RETK r_slices_Clone_api_Edge_api_Edge fun a H _ => FRZ r a H) ⟨argE 0 args, [], 0⟩) : PCalls Try.prog 66 args r := .of hp (a_slices_Clone_api_Edge_api_Edge hal h) hr

/-! pleach/pleachref25.rest -/
abbrev n_pleachref25_rest : Nat := 92
def s_pleachref25_rest : S :=
 (.seq (.ops [⟨none, some 4, .move (.k (.c (.p (.int .i64 0))))⟩] [])
 (.seq (.seq (.ops [⟨none, some 6, .move (.t 0)⟩,
    ⟨none, some 7, .len (.t 6)⟩,
    ⟨none, some 8, .bin .gtr (.t 7) (.k (.c (.p (.int .i64 8))))⟩] [])
 (.cond (.t 8) (.seq (.ops [⟨none, some 4, .move (.k (.c (.p (.int .i64 5))))⟩] [])
  .ret)
  .skip))
 (.seq (.ops [⟨none, some 9, .move (.t 0)⟩,
    ⟨none, some 10, .call 129 [(.t 9)]⟩,
    ⟨none, some 5, .move (.t 10)⟩] [])
 (.seq (.seq (.ops [⟨none, some 11, .move (.t 5)⟩,
    ⟨none, some 12, .bin .neq (.t 11) (.k (.c (.p (.int .i64 0))))⟩] [])
 (.cond (.t 12) (.seq (.ops [⟨none, some 13, .move (.t 5)⟩,
    ⟨none, some 4, .move (.t 13)⟩] [])
  .ret)
  .skip))
 (.seq (.ops [⟨none, some 14, .move (.t 1)⟩,
    ⟨none, some 15, .call 130 [(.t 14)]⟩,
    ⟨none, some 4, .move (.t 15)⟩] [])
 .ret)))))
theorem c_pleachref25_rest : comp Try.prog { own := [], mt := [], lp := [], gh := [] } 16 (Try.f92.body.getD .skip) = some s_pleachref25_rest := by kernel_rfl
abbrev r_pleachref25_rest : List RV := [.tmp 4]
theorem a_pleachref25_rest {args : List AV} {H : List (Nat × Blk)} {nx : Nat} {K : AV → List (Nat × Blk) → Nat → Prop} (hal : args.length ≤ 16) (h : W Try.prog s_pleachref25_rest (RETK r_pleachref25_rest K) ⟨argE 0 args, H, nx⟩) : ACalls Try.prog 92 args H nx K :=
  acalls_of_W (drawOk mixed) Try.func92 rfl (by kernel_rfl) (of_decide_eq_true (by kernel_rfl)) (by kernel_rfl) c_pleachref25_rest (by kernel_rfl) hal h
theorem p_pleachref25_rest {args : List AV} {r : AV} (hal : args.length ≤ 16) (hp : args.all pureA = true) (hr : pureA r = true) (h : W Try.prog s_pleachref25_rest (RETK r_pleachref25_rest fun a H _ => FRZ r a H) ⟨argE 0 args, [], 0⟩) : PCalls Try.prog 92 args r := .of hp (a_pleachref25_rest hal h) hr

/-! pleach/name.fits -/
abbrev n_name_fits : Nat := 93
def s_name_fits : S :=
 (.seq (.ops [⟨none, some 2, .move (.k (.c (.p (.bool false))))⟩] [])
 (.seq (.ops [⟨none, some 3, .move (.t 0)⟩,
    ⟨none, some 4, .bin .geq (.t 3) (.k (.c (.p (.int .u8 97))))⟩,
    ⟨none, some 5, .move (.t 4)⟩,
    ⟨some (5, true), some 6, .move (.t 0)⟩,
    ⟨some (5, true), some 7, .bin .leq (.t 6) (.k (.c (.p (.int .u8 122))))⟩,
    ⟨none, some 8, .pick (.t 5) (.t 7) (.k (.c (.p (.bool false))))⟩,
    ⟨none, some 9, .move (.t 8)⟩,
    ⟨some (9, false), some 10, .move (.t 0)⟩,
    ⟨some (9, false), some 11, .bin .geq (.t 10) (.k (.c (.p (.int .u8 48))))⟩,
    ⟨some (9, false), some 12, .move (.t 11)⟩,
    ⟨some (12, true), some 13, .move (.t 0)⟩,
    ⟨some (12, true), some 14, .bin .leq (.t 13) (.k (.c (.p (.int .u8 57))))⟩,
    ⟨some (9, false), some 15, .pick (.t 12) (.t 14) (.k (.c (.p (.bool false))))⟩,
    ⟨none, some 16, .pick (.t 9) (.k (.c (.p (.bool true)))) (.t 15)⟩,
    ⟨none, some 17, .move (.t 16)⟩,
    ⟨some (17, false), some 18, .move (.t 0)⟩,
    ⟨some (17, false), some 19, .bin .eql (.t 18) (.k (.c (.p (.int .u8 45))))⟩,
    ⟨none, some 20, .pick (.t 17) (.k (.c (.p (.bool true)))) (.t 19)⟩,
    ⟨none, some 2, .move (.t 20)⟩] [])
 .ret))
theorem c_name_fits : comp Try.prog { own := [], mt := [], lp := [], gh := [] } 21 (Try.f93.body.getD .skip) = some s_name_fits := by kernel_rfl
abbrev r_name_fits : List RV := [.tmp 2]
theorem a_name_fits {args : List AV} {H : List (Nat × Blk)} {nx : Nat} {K : AV → List (Nat × Blk) → Nat → Prop} (hal : args.length ≤ 21) (h : W Try.prog s_name_fits (RETK r_name_fits K) ⟨argE 0 args, H, nx⟩) : ACalls Try.prog 93 args H nx K :=
  acalls_of_W (drawOk mixed) Try.func93 rfl (by kernel_rfl) (of_decide_eq_true (by kernel_rfl)) (by kernel_rfl) c_name_fits (by kernel_rfl) hal h
theorem p_name_fits {args : List AV} {r : AV} (hal : args.length ≤ 21) (hp : args.all pureA = true) (hr : pureA r = true) (h : W Try.prog s_name_fits (RETK r_name_fits fun a H _ => FRZ r a H) ⟨argE 0 args, [], 0⟩) : PCalls Try.prog 93 args r := .of hp (a_name_fits hal h) hr

/-! pleach/value.Check -/
abbrev n_value_Check : Nat := 94
def s_value_Check : S :=
 (.seq (.ops [⟨none, some 1, .boxI (.t 0)⟩,
    ⟨none, some 2, .move (.k (.c (.p (.int .i64 0))))⟩] [])
 (.seq (.ops [⟨none, some 3, .move (.k (.c (.p (.bool false))))⟩] [])
 (.seq (.seq (.ops [⟨none, some 4, .fieldA 0 1 (.t 1)⟩,
    ⟨none, some 5, .load false 1 (.t 4)⟩] [])
 (.block 0 (.seq (.ops [⟨none, some 7, .bin .eql (.t 5) (.k (.c (.p (.int .i64 1))))⟩,
    ⟨none, some 6, .move (.t 7)⟩] [])
  (.cond (.t 6) (.ops [⟨none, some 8, .fieldA 1 1 (.t 1)⟩,
    ⟨none, some 9, .load false 1 (.t 8)⟩,
    ⟨none, some 10, .bin .eql (.t 9) (.k (.c (.p (.int .i64 0))))⟩,
    ⟨none, some 11, .move (.t 10)⟩,
    ⟨some (11, false), some 12, .fieldA 1 1 (.t 1)⟩,
    ⟨some (11, false), some 13, .load false 1 (.t 12)⟩,
    ⟨some (11, false), some 14, .bin .eql (.t 13) (.k (.c (.p (.int .i64 1))))⟩,
    ⟨none, some 15, .pick (.t 11) (.k (.c (.p (.bool true)))) (.t 14)⟩,
    ⟨none, some 16, .move (.t 15)⟩,
    ⟨some (16, true), some 17, .fieldA 2 1 (.t 1)⟩,
    ⟨some (16, true), some 18, .load false 1 (.t 17)⟩,
    ⟨some (16, true), some 19, .bin .eql (.t 18) (.k (.c (.p (.str []))))⟩,
    ⟨none, some 20, .pick (.t 16) (.t 19) (.k (.c (.p (.bool false))))⟩,
    ⟨none, some 3, .move (.t 20)⟩] [])
   (.seq (.ops [⟨none, some 22, .bin .eql (.t 5) (.k (.c (.p (.int .i64 2))))⟩,
    ⟨none, some 21, .move (.t 22)⟩] [])
   (.cond (.t 21) (.ops [⟨none, some 23, .fieldA 2 1 (.t 1)⟩,
    ⟨none, some 24, .load false 1 (.t 23)⟩,
    ⟨none, some 25, .bin .eql (.t 24) (.k (.c (.p (.str []))))⟩,
    ⟨none, some 3, .move (.t 25)⟩] [])
    (.seq (.ops [⟨none, some 27, .bin .eql (.t 5) (.k (.c (.p (.int .i64 3))))⟩,
    ⟨none, some 26, .move (.t 27)⟩] [])
    (.cond (.t 26) (.ops [⟨none, some 28, .fieldA 1 1 (.t 1)⟩,
    ⟨none, some 29, .load false 1 (.t 28)⟩,
    ⟨none, some 30, .bin .eql (.t 29) (.k (.c (.p (.int .i64 0))))⟩,
    ⟨none, some 31, .move (.t 30)⟩,
    ⟨some (31, true), some 32, .fieldA 2 1 (.t 1)⟩,
    ⟨some (31, true), some 33, .load false 1 (.t 32)⟩,
    ⟨some (31, true), some 34, .lenS (.t 33)⟩,
    ⟨some (31, true), some 35, .bin .leq (.t 34) (.k (.c (.p (.int .i64 64))))⟩,
    ⟨none, some 36, .pick (.t 31) (.t 35) (.k (.c (.p (.bool false))))⟩,
    ⟨none, some 3, .move (.t 36)⟩] [])
     .skip))))))))
 (.seq (.seq (.ops [⟨none, some 37, .move (.t 3)⟩,
    ⟨none, some 38, .un .not (.t 37)⟩] [])
 (.cond (.t 38) (.seq (.ops [⟨none, some 2, .move (.k (.c (.p (.int .i64 2))))⟩] [])
  .ret)
  .skip))
 (.seq (.ops [⟨none, some 2, .move (.k (.c (.p (.int .i64 0))))⟩] [])
 .ret)))))
theorem c_value_Check : comp Try.prog { own := [], mt := [], lp := [], gh := [] } 39 (Try.f94.body.getD .skip) = some s_value_Check := by kernel_rfl
abbrev r_value_Check : List RV := [.tmp 2]
theorem a_value_Check {args : List AV} {H : List (Nat × Blk)} {nx : Nat} {K : AV → List (Nat × Blk) → Nat → Prop} (hal : args.length ≤ 39) (h : W Try.prog s_value_Check (RETK r_value_Check K) ⟨argE 0 args, H, nx⟩) : ACalls Try.prog 94 args H nx K :=
  acalls_of_W (drawOk mixed) Try.func94 rfl (by kernel_rfl) (of_decide_eq_true (by kernel_rfl)) (by kernel_rfl) c_value_Check (by kernel_rfl) hal h
theorem p_value_Check {args : List AV} {r : AV} (hal : args.length ≤ 39) (hp : args.all pureA = true) (hr : pureA r = true) (h : W Try.prog s_value_Check (RETK r_value_Check fun a H _ => FRZ r a H) ⟨argE 0 args, [], 0⟩) : PCalls Try.prog 94 args r := .of hp (a_value_Check hal h) hr

/-! pleach/elem.find -/
abbrev n_elem_find : Nat := 95
def s_elem_find : S :=
 (.seq (.ops [⟨none, some 4, .move (.k (.c (.p (.int .i64 0))))⟩,
    ⟨none, some 5, .move (.k (.c (.p (.bool false))))⟩] [])
 (.seq (.ops [⟨none, some 6, .move (.t 0)⟩,
    ⟨none, some 7, .move (.t 1)⟩,
    ⟨none, some 8, .call 131 [(.t 6), (.t 7), (.k (.c (.p (.fn 132 []))))]⟩,
    ⟨none, some 9, .extract (.t 8) 0⟩,
    ⟨none, some 10, .extract (.t 8) 1⟩,
    ⟨none, some 4, .move (.t 9)⟩,
    ⟨none, some 5, .move (.t 10)⟩] [])
 .ret))
theorem c_elem_find : comp Try.prog { own := [], mt := [], lp := [], gh := [] } 11 (Try.f95.body.getD .skip) = some s_elem_find := by kernel_rfl
abbrev r_elem_find : List RV := [.tmp 4, .tmp 5]
theorem a_elem_find {args : List AV} {H : List (Nat × Blk)} {nx : Nat} {K : AV → List (Nat × Blk) → Nat → Prop} (hal : args.length ≤ 11) (h : W Try.prog s_elem_find (RETK r_elem_find K) ⟨argE 0 args, H, nx⟩) : ACalls Try.prog 95 args H nx K :=
  acalls_of_W (drawOk mixed) Try.func95 rfl (by kernel_rfl) (of_decide_eq_true (by kernel_rfl)) (by kernel_rfl) c_elem_find (by kernel_rfl) hal h
theorem p_elem_find {args : List AV} {r : AV} (hal : args.length ≤ 11) (hp : args.all pureA = true) (hr : pureA r = true) (h : W Try.prog s_elem_find (RETK r_elem_find fun a H _ => FRZ r a H) ⟨argE 0 args, [], 0⟩) : PCalls Try.prog 95 args r := .of hp (a_elem_find hal h) hr

/-! pleach/name.With -/
abbrev n_name_With : Nat := 97
def s_name_With : S :=
 (.seq (.ops [⟨none, some 4, .move (.k (.c (.p .nil)))⟩,
    ⟨none, some 5, .move (.k (.c (.p (.bool false))))⟩] [])
 (.seq (.ops [⟨none, some 9, .move (.t 0)⟩,
    ⟨none, some 10, .move (.t 1)⟩,
    ⟨none, some 11, .call 135 [(.t 9), (.t 10)]⟩,
    ⟨none, some 8, .move (.t 11)⟩,
    ⟨none, some 12, .extract (.t 8) 0⟩,
    ⟨none, some 13, .extract (.t 8) 1⟩,
    ⟨none, some 6, .move (.t 12)⟩,
    ⟨none, some 7, .move (.t 13)⟩] [])
 (.seq (.seq (.ops [⟨none, some 14, .move (.t 7)⟩] [])
 (.cond (.t 14) (.seq (.ops [⟨none, some 15, .move (.t 0)⟩,
    ⟨none, some 16, .call 53 [(.t 15)]⟩,
    ⟨none, some 4, .move (.t 16)⟩,
    ⟨none, some 5, .move (.k (.c (.p (.bool false))))⟩] [])
  .ret)
  .skip))
 (.seq (.ops [⟨none, some 17, .move (.t 0)⟩,
    ⟨none, some 18, .call 53 [(.t 17)]⟩,
    ⟨none, some 19, .move (.t 6)⟩,
    ⟨none, some 20, .move (.t 1)⟩,
    ⟨none, some 21, .litR 1 [[.p (.str [])]] [(0, (.t 20))]⟩,
    ⟨none, some 22, .call 136 [(.t 18), (.t 19), (.t 21)]⟩,
    ⟨none, some 4, .move (.t 22)⟩,
    ⟨none, some 5, .move (.k (.c (.p (.bool true))))⟩] [])
 .ret))))
theorem c_name_With : comp Try.prog { own := [21], mt := [], lp := [], gh := [] } 23 (Try.f97.body.getD .skip) = some s_name_With := by kernel_rfl
abbrev r_name_With : List RV := [.tmp 4, .tmp 5]
theorem a_name_With {args : List AV} {H : List (Nat × Blk)} {nx : Nat} {K : AV → List (Nat × Blk) → Nat → Prop} (hal : args.length ≤ 23) (h : W Try.prog s_name_With (RETK r_name_With K) ⟨argE 0 args, H, nx⟩) : ACalls Try.prog 97 args H nx K :=
  acalls_of_W (drawOk mixed) Try.func97 rfl (by kernel_rfl) (of_decide_eq_true (by kernel_rfl)) (by kernel_rfl) c_name_With (by kernel_rfl) hal h
theorem p_name_With {args : List AV} {r : AV} (hal : args.length ≤ 23) (hp : args.all pureA = true) (hr : pureA r = true) (h : W Try.prog s_name_With (RETK r_name_With fun a H _ => FRZ r a H) ⟨argE 0 args, [], 0⟩) : PCalls Try.prog 97 args r := .of hp (a_name_With hal h) hr

/-! pleach/name.Without -/
abbrev n_name_Without : Nat := 98
def s_name_Without : S :=
 (.seq (.ops [⟨none, some 4, .move (.k (.c (.p .nil)))⟩,
    ⟨none, some 5, .move (.k (.c (.p (.bool false))))⟩] [])
 (.seq (.ops [⟨none, some 9, .move (.t 0)⟩,
    ⟨none, some 10, .move (.t 1)⟩,
    ⟨none, some 11, .call 135 [(.t 9), (.t 10)]⟩,
    ⟨none, some 8, .move (.t 11)⟩,
    ⟨none, some 12, .extract (.t 8) 0⟩,
    ⟨none, some 13, .extract (.t 8) 1⟩,
    ⟨none, some 6, .move (.t 12)⟩,
    ⟨none, some 7, .move (.t 13)⟩] [])
 (.seq (.seq (.ops [⟨none, some 14, .move (.t 7)⟩,
    ⟨none, some 15, .un .not (.t 14)⟩] [])
 (.cond (.t 15) (.seq (.ops [⟨none, some 16, .move (.t 0)⟩,
    ⟨none, some 17, .call 53 [(.t 16)]⟩,
    ⟨none, some 4, .move (.t 17)⟩,
    ⟨none, some 5, .move (.k (.c (.p (.bool false))))⟩] [])
  .ret)
  .skip))
 (.seq (.ops [⟨none, some 18, .move (.t 0)⟩,
    ⟨none, some 19, .call 53 [(.t 18)]⟩,
    ⟨none, some 20, .move (.t 6)⟩,
    ⟨none, some 21, .move (.t 6)⟩,
    ⟨none, some 22, .bin .add (.t 21) (.k (.c (.p (.int .i64 1))))⟩,
    ⟨none, some 23, .call 137 [(.t 19), (.t 20), (.t 22)]⟩,
    ⟨none, some 4, .move (.t 23)⟩,
    ⟨none, some 5, .move (.k (.c (.p (.bool true))))⟩] [])
 .ret))))
theorem c_name_Without : comp Try.prog { own := [], mt := [], lp := [], gh := [] } 24 (Try.f98.body.getD .skip) = some s_name_Without := by kernel_rfl
abbrev r_name_Without : List RV := [.tmp 4, .tmp 5]
theorem a_name_Without {args : List AV} {H : List (Nat × Blk)} {nx : Nat} {K : AV → List (Nat × Blk) → Nat → Prop} (hal : args.length ≤ 24) (h : W Try.prog s_name_Without (RETK r_name_Without K) ⟨argE 0 args, H, nx⟩) : ACalls Try.prog 98 args H nx K :=
  acalls_of_W (drawOk mixed) Try.func98 rfl (by kernel_rfl) (of_decide_eq_true (by kernel_rfl)) (by kernel_rfl) c_name_Without (by kernel_rfl) hal h
theorem p_name_Without {args : List AV} {r : AV} (hal : args.length ≤ 24) (hp : args.all pureA = true) (hr : pureA r = true) (h : W Try.prog s_name_Without (RETK r_name_Without fun a H _ => FRZ r a H) ⟨argE 0 args, [], 0⟩) : PCalls Try.prog 98 args r := .of hp (a_name_Without hal h) hr

/-! slices.Delete[[]pleach/api.Prop,pleach/api.Prop] -/
abbrev n_slices_Delete_api_Prop_api_Prop : Nat := 99
def s_slices_Delete_api_Prop_api_Prop : S :=
 (.seq (.ops [⟨none, some 6, .move (.k (.c (.p .nil)))⟩] [])
 (.seq (.ops [⟨none, some 8, .move (.t 0)⟩,
    ⟨none, some 9, .move (.t 1)⟩,
    ⟨none, some 10, .move (.t 2)⟩,
    ⟨none, some 11, .move (.t 0)⟩,
    ⟨none, some 12, .len (.t 11)⟩,
    ⟨none, some 13, .slice 4 (.t 8) (some (.t 9)) (some (.t 10)) (some (.t 12))⟩] [])
 (.seq (.seq (.ops [⟨none, some 14, .move (.t 1)⟩,
    ⟨none, some 15, .move (.t 2)⟩,
    ⟨none, some 16, .bin .eql (.t 14) (.t 15)⟩] [])
 (.cond (.t 16) (.seq (.ops [⟨none, some 17, .move (.t 0)⟩,
    ⟨none, some 6, .move (.t 17)⟩] [])
  .ret)
  .skip))
 (.seq (.ops [⟨none, some 18, .move (.t 0)⟩,
    ⟨none, some 19, .len (.t 18)⟩,
    ⟨none, some 7, .move (.t 19)⟩] [])
 (.seq (.draw [⟨none, some 20, .move (.t 0)⟩,
    ⟨none, some 21, .move (.t 1)⟩,
    ⟨none, some 22, .slice 4 (.t 20) none (some (.t 21)) none⟩,
    ⟨none, some 23, .move (.t 0)⟩,
    ⟨none, some 24, .move (.t 2)⟩,
    ⟨none, some 25, .slice 4 (.t 23) (some (.t 24)) none none⟩,
    ⟨none, some 26, .append 4 48 (.t 22) (.t 25)⟩,
    ⟨none, some 0, .move (.t 26)⟩]
 [0, 0, 3, 0, 0, 24, 63, 127] [])
 (.seq (.ops [⟨none, some 27, .move (.t 0)⟩,
    ⟨none, some 28, .move (.t 0)⟩,
    ⟨none, some 29, .len (.t 28)⟩,
    ⟨none, some 30, .move (.t 7)⟩,
    ⟨none, some 31, .slice 4 (.t 27) (some (.t 29)) (some (.t 30)) none⟩,
    ⟨none, none, .clear 4 [.p (.str []), .p (.int .i64 0), .p (.int .i64 0), .p (.str [])] (.t 31)⟩] [])
 (.seq (.ops [⟨none, some 32, .move (.t 0)⟩,
    ⟨none, some 6, .move (.t 32)⟩] [.trim 6])
 .ret)))))))
theorem c_slices_Delete_api_Prop_api_Prop : comp Try.prog { own := [], mt := [], lp := [], gh := [(7, [.trim 6])] } 33 (Try.f99.body.getD .skip) = some s_slices_Delete_api_Prop_api_Prop := by kernel_rfl
abbrev r_slices_Delete_api_Prop_api_Prop : List RV := [.tmp 6]
theorem a_slices_Delete_api_Prop_api_Prop {args : List AV} {H : List (Nat × Blk)} {nx : Nat} {K : AV → List (Nat × Blk) → Nat → Prop} (hal : args.length ≤ 33) (h : W Try.prog s_slices_Delete_api_Prop_api_Prop (RETK r_slices_Delete_api_Prop_api_Prop K) ⟨argE 0 args, H, nx⟩) : ACalls Try.prog 99 args H nx K :=
  acalls_of_W (drawOk mixed) Try.func99 rfl (by kernel_rfl) (of_decide_eq_true (by kernel_rfl)) (by kernel_rfl) c_slices_Delete_api_Prop_api_Prop (by kernel_rfl) hal h
theorem p_slices_Delete_api_Prop_api_Prop {args : List AV} {r : AV} (hal : args.length ≤ 33) (hp : args.all pureA = true) (hr : pureA r = true) (h : W Try.prog s_slices_Delete_api_Prop_api_Prop (RETK r_slices_Delete_api_Prop_api_Prop fun a H _ => FRZ r a H) ⟨argE 0 args, [], 0⟩) : PCalls Try.prog 99 args r := .of hp (a_slices_Delete_api_Prop_api_Prop hal h) hr

/-! pleach/pleachref05.In -/
abbrev n_pleachref05_In : Nat := 100
def b_pleachref05_In_0 : S :=
 (.seq (.seq (.ops [⟨none, some 6, .move (.t 5)⟩,
    ⟨none, some 7, .move (.t 0)⟩,
    ⟨none, some 8, .len (.t 7)⟩,
    ⟨none, some 9, .bin .lss (.t 6) (.t 8)⟩] [])
 (.cond (.t 9) .skip
  (.exit 0)))
 (.seq (.block 1 (.seq (.ops [⟨none, some 12, .move (.t 0)⟩,
    ⟨none, some 13, .move (.t 5)⟩,
    ⟨none, some 14, .idxA 1 (.t 12) (.t 13)⟩,
    ⟨none, some 15, .load false 1 (.t 14)⟩,
    ⟨none, some 16, .move (.t 1)⟩,
    ⟨none, some 17, .bin .eql (.t 15) (.t 16)⟩] [])
  (.cond (.t 17) (.seq (.ops [⟨none, some 4, .move (.k (.c (.p (.bool true))))⟩] [])
   .ret)
   .skip)))
 (.ops [⟨none, some 10, .move (.t 5)⟩,
    ⟨none, some 11, .bin .add (.t 10) (.k (.c (.p (.int .i64 1))))⟩,
    ⟨none, some 5, .move (.t 11)⟩] [])))
def s_pleachref05_In : S :=
 (.seq (.ops [⟨none, some 4, .move (.k (.c (.p (.bool false))))⟩] [])
 (.seq (.seq (.ops [⟨none, some 5, .move (.k (.c (.p (.int .i64 0))))⟩] [])
 (.block 0 (.loop [0, 1, 5] b_pleachref05_In_0)))
 (.seq (.ops [⟨none, some 4, .move (.k (.c (.p (.bool false))))⟩] [])
 .ret)))
theorem c_pleachref05_In : comp Try.prog { own := [], mt := [], lp := [(0, [0, 1, 5])], gh := [] } 18 (Try.f100.body.getD .skip) = some s_pleachref05_In := by kernel_rfl
abbrev r_pleachref05_In : List RV := [.tmp 4]
theorem a_pleachref05_In {args : List AV} {H : List (Nat × Blk)} {nx : Nat} {K : AV → List (Nat × Blk) → Nat → Prop} (hal : args.length ≤ 18) (h : W Try.prog s_pleachref05_In (RETK r_pleachref05_In K) ⟨argE 0 args, H, nx⟩) : ACalls Try.prog 100 args H nx K :=
  acalls_of_W (drawOk mixed) Try.func100 rfl (by kernel_rfl) (of_decide_eq_true (by kernel_rfl)) (by kernel_rfl) c_pleachref05_In (by kernel_rfl) hal h
theorem p_pleachref05_In {args : List AV} {r : AV} (hal : args.length ≤ 18) (hp : args.all pureA = true) (hr : pureA r = true) (h : W Try.prog s_pleachref05_In (RETK r_pleachref05_In fun a H _ => FRZ r a H) ⟨argE 0 args, [], 0⟩) : PCalls Try.prog 100 args r := .of hp (a_pleachref05_In hal h) hr

/-! pleach/pleachref05.With -/
abbrev n_pleachref05_With : Nat := 101
def s_pleachref05_With : S :=
 (.seq (.ops [⟨none, some 4, .nilRow 1⟩] [])
 (.seq (.seq (.ops [⟨none, some 6, .move (.t 0)⟩,
    ⟨none, some 7, .move (.t 1)⟩,
    ⟨none, some 8, .call 100 [(.t 6), (.t 7)]⟩] [])
 (.cond (.t 8) (.seq (.ops [⟨none, some 9, .move (.t 0)⟩,
    ⟨none, some 4, .move (.t 9)⟩] [])
  .ret)
  .skip))
 (.seq (.ops [⟨none, some 10, .move (.t 0)⟩,
    ⟨none, some 11, .move (.t 1)⟩,
    ⟨none, some 12, .call 138 [(.t 10), (.t 11)]⟩,
    ⟨none, some 5, .move (.t 12)⟩] [])
 (.seq (.draw [⟨none, some 13, .lit 1 [] []⟩,
    ⟨none, some 14, .move (.t 0)⟩,
    ⟨none, some 15, .move (.t 5)⟩,
    ⟨none, some 16, .slice 1 (.t 14) none (some (.t 15)) none⟩,
    ⟨none, some 17, .append 1 16 (.t 13) (.t 16)⟩,
    ⟨none, some 18, .move (.t 1)⟩,
    ⟨none, some 19, .lit 1 [[.p (.str [])]] [(0, (.t 18))]⟩,
    ⟨none, some 20, .append 1 16 (.t 17) (.t 19)⟩,
    ⟨none, some 21, .move (.t 0)⟩,
    ⟨none, some 22, .move (.t 5)⟩,
    ⟨none, some 23, .slice 1 (.t 21) (some (.t 22)) none none⟩,
    ⟨none, some 24, .append 1 16 (.t 20) (.t 23)⟩,
    ⟨none, some 4, .move (.t 24)⟩]
 [0, 0, 0, 6, 15, 0, 32, 127, 0, 0, 768, 2047, 4095] [])
 .ret))))
theorem c_pleachref05_With : comp Try.prog { own := [4], mt := [], lp := [], gh := [] } 25 (Try.f101.body.getD .skip) = some s_pleachref05_With := by kernel_rfl
abbrev r_pleachref05_With : List RV := [.tmp 4]
theorem a_pleachref05_With {args : List AV} {H : List (Nat × Blk)} {nx : Nat} {K : AV → List (Nat × Blk) → Nat → Prop} (hal : args.length ≤ 25) (h : W Try.prog s_pleachref05_With (RETK r_pleachref05_With K) ⟨argE 0 args, H, nx⟩) : ACalls Try.prog 101 args H nx K :=
  acalls_of_W (drawOk mixed) Try.func101 rfl (by kernel_rfl) (of_decide_eq_true (by kernel_rfl)) (by kernel_rfl) c_pleachref05_With (by kernel_rfl) hal h
theorem p_pleachref05_With {args : List AV} {r : AV} (hal : args.length ≤ 25) (hp : args.all pureA = true) (hr : pureA r = true) (h : W Try.prog s_pleachref05_With (RETK r_pleachref05_With fun a H _ => FRZ r a H) ⟨argE 0 args, [], 0⟩) : PCalls Try.prog 101 args r := .of hp (a_pleachref05_With hal h) hr

/-! pleach/pleachref05.Only -/
abbrev n_pleachref05_Only : Nat := 102
def b_pleachref05_Only_0 : S :=
 (.seq (.seq (.ops [⟨none, some 7, .move (.t 6)⟩,
    ⟨none, some 8, .move (.t 0)⟩,
    ⟨none, some 9, .len (.t 8)⟩,
    ⟨none, some 10, .bin .lss (.t 7) (.t 9)⟩] [])
 (.cond (.t 10) .skip
  (.exit 0)))
 (.seq (.block 1 (.seq (.ops [⟨none, some 13, .move (.t 1)⟩,
    ⟨none, some 14, .move (.t 0)⟩,
    ⟨none, some 15, .move (.t 6)⟩,
    ⟨none, some 16, .idxA 1 (.t 14) (.t 15)⟩,
    ⟨none, some 17, .load false 1 (.t 16)⟩,
    ⟨none, some 18, .call 100 [(.t 13), (.t 17)]⟩,
    ⟨none, some 19, .un .not (.t 18)⟩] [])
  (.cond (.t 19) (.ops [⟨none, some 20, .move (.t 5)⟩,
    ⟨none, some 21, .move (.t 0)⟩,
    ⟨none, some 22, .move (.t 6)⟩,
    ⟨none, some 23, .idxA 1 (.t 21) (.t 22)⟩,
    ⟨none, some 24, .load false 1 (.t 23)⟩,
    ⟨none, some 25, .lit 1 [[.p (.str [])]] [(0, (.t 24))]⟩,
    ⟨none, some 26, .append 1 16 (.t 20) (.t 25)⟩,
    ⟨none, some 5, .move (.t 26)⟩] [])
   .skip)))
 (.ops [⟨none, some 11, .move (.t 6)⟩,
    ⟨none, some 12, .bin .add (.t 11) (.k (.c (.p (.int .i64 1))))⟩,
    ⟨none, some 6, .move (.t 12)⟩] [])))
def s_pleachref05_Only : S :=
 (.seq (.ops [⟨none, some 4, .move (.k (.c (.p .nil)))⟩] [])
 (.seq (.ops [⟨none, some 5, .nilRow 1⟩] [])
 (.seq (.seq (.ops [⟨none, some 6, .move (.k (.c (.p (.int .i64 0))))⟩] [])
 (.block 0 (.loop [0, 1, 5, 6] b_pleachref05_Only_0)))
 (.seq (.ops [⟨none, some 27, .move (.t 5)⟩,
    ⟨none, some 4, .move (.t 27)⟩] [])
 .ret))))
theorem c_pleachref05_Only : comp Try.prog { own := [5], mt := [], lp := [(0, [0, 1, 5, 6])], gh := [] } 28 (Try.f102.body.getD .skip) = some s_pleachref05_Only := by kernel_rfl
abbrev r_pleachref05_Only : List RV := [.tmp 4]
theorem a_pleachref05_Only {args : List AV} {H : List (Nat × Blk)} {nx : Nat} {K : AV → List (Nat × Blk) → Nat → Prop} (hal : args.length ≤ 28) (h : W Try.prog s_pleachref05_Only (RETK r_pleachref05_Only K) ⟨argE 0 args, H, nx⟩) : ACalls Try.prog 102 args H nx K :=
  acalls_of_W (drawOk mixed) Try.func102 rfl (by kernel_rfl) (of_decide_eq_true (by kernel_rfl)) (by kernel_rfl) c_pleachref05_Only (by kernel_rfl) hal h
theorem p_pleachref05_Only {args : List AV} {r : AV} (hal : args.length ≤ 28) (hp : args.all pureA = true) (hr : pureA r = true) (h : W Try.prog s_pleachref05_Only (RETK r_pleachref05_Only fun a H _ => FRZ r a H) ⟨argE 0 args, [], 0⟩) : PCalls Try.prog 102 args r := .of hp (a_pleachref05_Only hal h) hr

/-! pleach/pleachref25.at -/
abbrev n_pleachref25_at : Nat := 103
def b_pleachref25_at_0 : S :=
 (.seq (.seq (.ops [⟨none, some 6, .move (.t 5)⟩,
    ⟨none, some 7, .move (.t 0)⟩,
    ⟨none, some 8, .len (.t 7)⟩,
    ⟨none, some 9, .bin .lss (.t 6) (.t 8)⟩] [])
 (.cond (.t 9) .skip
  (.exit 0)))
 (.seq (.block 1 (.seq (.ops [⟨none, some 12, .move (.t 0)⟩,
    ⟨none, some 13, .move (.t 5)⟩,
    ⟨none, some 14, .idxA 4 (.t 12) (.t 13)⟩,
    ⟨none, some 15, .fieldA 0 1 (.t 14)⟩,
    ⟨none, some 16, .load false 1 (.t 15)⟩,
    ⟨none, some 17, .move (.t 1)⟩,
    ⟨none, some 18, .bin .eql (.t 16) (.t 17)⟩] [])
  (.cond (.t 18) (.seq (.ops [⟨none, some 19, .move (.t 5)⟩,
    ⟨none, some 4, .move (.t 19)⟩] [])
   .ret)
   .skip)))
 (.ops [⟨none, some 10, .move (.t 5)⟩,
    ⟨none, some 11, .bin .add (.t 10) (.k (.c (.p (.int .i64 1))))⟩,
    ⟨none, some 5, .move (.t 11)⟩] [])))
def s_pleachref25_at : S :=
 (.seq (.ops [⟨none, some 4, .move (.k (.c (.p (.int .i64 0))))⟩] [])
 (.seq (.seq (.ops [⟨none, some 5, .move (.k (.c (.p (.int .i64 0))))⟩] [])
 (.block 0 (.loop [0, 1, 5] b_pleachref25_at_0)))
 (.seq (.ops [⟨none, some 4, .move (.k (.c (.p (.int .i64 (-1)))))⟩] [])
 .ret)))
theorem c_pleachref25_at : comp Try.prog { own := [], mt := [], lp := [(0, [0, 1, 5])], gh := [] } 20 (Try.f103.body.getD .skip) = some s_pleachref25_at := by kernel_rfl
abbrev r_pleachref25_at : List RV := [.tmp 4]
theorem a_pleachref25_at {args : List AV} {H : List (Nat × Blk)} {nx : Nat} {K : AV → List (Nat × Blk) → Nat → Prop} (hal : args.length ≤ 20) (h : W Try.prog s_pleachref25_at (RETK r_pleachref25_at K) ⟨argE 0 args, H, nx⟩) : ACalls Try.prog 103 args H nx K :=
  acalls_of_W (drawOk mixed) Try.func103 rfl (by kernel_rfl) (of_decide_eq_true (by kernel_rfl)) (by kernel_rfl) c_pleachref25_at (by kernel_rfl) hal h
theorem p_pleachref25_at {args : List AV} {r : AV} (hal : args.length ≤ 20) (hp : args.all pureA = true) (hr : pureA r = true) (h : W Try.prog s_pleachref25_at (RETK r_pleachref25_at fun a H _ => FRZ r a H) ⟨argE 0 args, [], 0⟩) : PCalls Try.prog 103 args r := .of hp (a_pleachref25_at hal h) hr

/-! (*pleach/graph.change).turns -/
abbrev n_graph_change_turns : Nat := 104
def s_graph_change_turns : S :=
 (.seq (.ops [⟨none, some 3, .boxI (.t 1)⟩,
    ⟨none, some 4, .move (.k (.c (.p (.int .i64 0))))⟩] [])
 (.seq (.seq (.ops [⟨none, some 15, .fieldA 0 1 (.t 3)⟩,
    ⟨none, some 16, .load false 1 (.t 15)⟩,
    ⟨none, some 17, .call 15 [(.t 16)]⟩] [])
 (.cond (.t 17) (.seq (.draw [⟨none, some 19, .move (.t 0)⟩,
    ⟨none, some 20, .nilChk (.t 19)⟩,
    ⟨none, some 21, .fieldA 0 2 (.t 20)⟩,
    ⟨none, some 22, .load true 2 (.t 21)⟩,
    ⟨none, some 23, .fieldA 1 1 (.t 3)⟩,
    ⟨none, some 24, .load false 1 (.t 23)⟩,
    ⟨none, some 25, .call 139 [(.t 22), (.t 24)]⟩,
    ⟨none, some 18, .move (.t 25)⟩,
    ⟨none, some 26, .extract (.t 18) 0⟩,
    ⟨none, some 27, .extract (.t 18) 1⟩,
    ⟨none, some 5, .move (.t 26)⟩,
    ⟨none, some 6, .move (.t 27)⟩]
  [0, 1, 3, 7, 0, 16, 63, 127, 255, 255, 511, 2047] [])
  (.seq (.seq (.ops [⟨none, some 28, .move (.t 6)⟩,
    ⟨none, some 29, .un .not (.t 28)⟩] [])
  (.cond (.t 29) (.seq (.ops [⟨none, some 4, .move (.k (.c (.p (.int .i64 9))))⟩] [])
   .ret)
   .skip))
  (.seq (.draw [⟨none, some 31, .move (.t 0)⟩,
    ⟨none, some 32, .nilChk (.t 31)⟩,
    ⟨none, some 33, .fieldA 0 2 (.t 32)⟩,
    ⟨none, some 34, .fieldA 1 1 (.t 33)⟩,
    ⟨none, some 35, .load false 1 (.t 34)⟩,
    ⟨none, some 36, .move (.t 5)⟩,
    ⟨none, some 37, .idxA 5 (.t 35) (.t 36)⟩,
    ⟨none, some 38, .fieldA 3 1 (.t 37)⟩,
    ⟨none, some 39, .load false 1 (.t 38)⟩,
    ⟨none, some 40, .move (.t 0)⟩,
    ⟨none, some 41, .nilChk (.t 40)⟩,
    ⟨none, some 42, .fieldA 0 2 (.t 41)⟩,
    ⟨none, some 43, .fieldA 1 1 (.t 42)⟩,
    ⟨none, some 44, .load false 1 (.t 43)⟩,
    ⟨none, some 45, .move (.t 5)⟩,
    ⟨none, some 46, .idxA 5 (.t 44) (.t 45)⟩,
    ⟨none, some 47, .fieldA 4 1 (.t 46)⟩,
    ⟨none, some 48, .load false 1 (.t 47)⟩,
    ⟨none, some 49, .load true 8 (.t 3)⟩,
    ⟨none, some 50, .call 16 [(.t 39), (.t 48), (.t 49)]⟩,
    ⟨none, some 30, .move (.t 50)⟩,
    ⟨none, some 51, .extract (.t 30) 0⟩,
    ⟨none, some 52, .extract (.t 30) 1⟩,
    ⟨none, some 53, .extract (.t 30) 2⟩,
    ⟨none, some 7, .move (.t 51)⟩,
    ⟨none, some 8, .move (.t 52)⟩,
    ⟨none, some 9, .move (.t 53)⟩]
  [0, 1, 3, 7, 15, 0, 63, 127, 255, 0, 512, 1536, 3584, 7680, 0, 32256, 65024, 130560, 0, 524287, 1048575, 2097151, 2097151, 2097151, 4194303, 25165823, 67108863] [])
  (.seq (.seq (.ops [⟨none, some 54, .move (.t 9)⟩,
    ⟨none, some 55, .bin .eql (.t 54) (.k (.c (.p (.int .i64 0))))⟩] [])
  (.cond (.t 55) (.draw [⟨none, some 56, .move (.t 0)⟩,
    ⟨none, some 57, .nilChk (.t 56)⟩,
    ⟨none, some 58, .fieldA 0 2 (.t 57)⟩,
    ⟨none, some 59, .fieldA 1 1 (.t 58)⟩,
    ⟨none, some 60, .load false 1 (.t 59)⟩,
    ⟨none, some 61, .move (.t 5)⟩,
    ⟨none, some 62, .move (.t 0)⟩,
    ⟨none, some 63, .nilChk (.t 62)⟩,
    ⟨none, some 64, .fieldA 0 2 (.t 63)⟩,
    ⟨none, some 65, .fieldA 1 1 (.t 64)⟩,
    ⟨none, some 66, .load false 1 (.t 65)⟩,
    ⟨none, some 67, .move (.t 5)⟩,
    ⟨none, some 68, .move (.t 7)⟩,
    ⟨none, some 69, .move (.t 8)⟩,
    ⟨none, some 70, .idxA 5 (.t 60) (.t 61)⟩,
    ⟨none, some 71, .fieldA 3 1 (.t 70)⟩,
    ⟨none, none, .store 1 (.t 71) (.t 68)⟩,
    ⟨none, some 72, .idxA 5 (.t 66) (.t 67)⟩,
    ⟨none, some 73, .fieldA 4 1 (.t 72)⟩,
    ⟨none, none, .store 1 (.t 73) (.t 69)⟩]
   [0, 1, 3, 7, 15, 0, 0, 64, 192, 448, 960, 0, 0, 0, 6143, 22527, 55295, 131071, 262143, 524287] [])
   .skip))
  (.seq (.ops [⟨none, some 74, .move (.t 9)⟩,
    ⟨none, some 4, .move (.t 74)⟩] [])
  .ret)))))
  .skip))
 (.seq (.draw [⟨none, some 76, .move (.t 0)⟩,
    ⟨none, some 77, .nilChk (.t 76)⟩,
    ⟨none, some 78, .fieldA 0 2 (.t 77)⟩,
    ⟨none, some 79, .load true 2 (.t 78)⟩,
    ⟨none, some 80, .fieldA 1 1 (.t 3)⟩,
    ⟨none, some 81, .load false 1 (.t 80)⟩,
    ⟨none, some 82, .call 62 [(.t 79), (.t 81)]⟩,
    ⟨none, some 75, .move (.t 82)⟩,
    ⟨none, some 83, .extract (.t 75) 0⟩,
    ⟨none, some 84, .extract (.t 75) 1⟩,
    ⟨none, some 10, .move (.t 83)⟩,
    ⟨none, some 11, .move (.t 84)⟩]
 [0, 1, 3, 7, 0, 16, 63, 127, 255, 255, 511, 2047] [])
 (.seq (.seq (.ops [⟨none, some 85, .move (.t 11)⟩,
    ⟨none, some 86, .un .not (.t 85)⟩] [])
 (.cond (.t 86) (.seq (.ops [⟨none, some 4, .move (.k (.c (.p (.int .i64 9))))⟩] [])
  .ret)
  .skip))
 (.seq (.draw [⟨none, some 88, .move (.t 0)⟩,
    ⟨none, some 89, .nilChk (.t 88)⟩,
    ⟨none, some 90, .fieldA 0 2 (.t 89)⟩,
    ⟨none, some 91, .fieldA 0 1 (.t 90)⟩,
    ⟨none, some 92, .load false 1 (.t 91)⟩,
    ⟨none, some 93, .move (.t 10)⟩,
    ⟨none, some 94, .idxA 3 (.t 92) (.t 93)⟩,
    ⟨none, some 95, .fieldA 1 1 (.t 94)⟩,
    ⟨none, some 96, .load false 1 (.t 95)⟩,
    ⟨none, some 97, .move (.t 0)⟩,
    ⟨none, some 98, .nilChk (.t 97)⟩,
    ⟨none, some 99, .fieldA 0 2 (.t 98)⟩,
    ⟨none, some 100, .fieldA 0 1 (.t 99)⟩,
    ⟨none, some 101, .load false 1 (.t 100)⟩,
    ⟨none, some 102, .move (.t 10)⟩,
    ⟨none, some 103, .idxA 3 (.t 101) (.t 102)⟩,
    ⟨none, some 104, .fieldA 2 1 (.t 103)⟩,
    ⟨none, some 105, .load false 1 (.t 104)⟩,
    ⟨none, some 106, .load true 8 (.t 3)⟩,
    ⟨none, some 107, .call 16 [(.t 96), (.t 105), (.t 106)]⟩,
    ⟨none, some 87, .move (.t 107)⟩,
    ⟨none, some 108, .extract (.t 87) 0⟩,
    ⟨none, some 109, .extract (.t 87) 1⟩,
    ⟨none, some 110, .extract (.t 87) 2⟩,
    ⟨none, some 12, .move (.t 108)⟩,
    ⟨none, some 13, .move (.t 109)⟩,
    ⟨none, some 14, .move (.t 110)⟩]
 [0, 1, 3, 7, 15, 0, 63, 127, 255, 0, 512, 1536, 3584, 7680, 0, 32256, 65024, 130560, 0, 524287, 1048575, 2097151, 2097151, 2097151, 4194303, 25165823, 67108863] [])
 (.seq (.seq (.ops [⟨none, some 111, .move (.t 14)⟩,
    ⟨none, some 112, .bin .eql (.t 111) (.k (.c (.p (.int .i64 0))))⟩] [])
 (.cond (.t 112) (.draw [⟨none, some 113, .move (.t 0)⟩,
    ⟨none, some 114, .nilChk (.t 113)⟩,
    ⟨none, some 115, .fieldA 0 2 (.t 114)⟩,
    ⟨none, some 116, .fieldA 0 1 (.t 115)⟩,
    ⟨none, some 117, .load false 1 (.t 116)⟩,
    ⟨none, some 118, .move (.t 10)⟩,
    ⟨none, some 119, .move (.t 0)⟩,
    ⟨none, some 120, .nilChk (.t 119)⟩,
    ⟨none, some 121, .fieldA 0 2 (.t 120)⟩,
    ⟨none, some 122, .fieldA 0 1 (.t 121)⟩,
    ⟨none, some 123, .load false 1 (.t 122)⟩,
    ⟨none, some 124, .move (.t 10)⟩,
    ⟨none, some 125, .move (.t 12)⟩,
    ⟨none, some 126, .move (.t 13)⟩,
    ⟨none, some 127, .idxA 3 (.t 117) (.t 118)⟩,
    ⟨none, some 128, .fieldA 1 1 (.t 127)⟩,
    ⟨none, none, .store 1 (.t 128) (.t 125)⟩,
    ⟨none, some 129, .idxA 3 (.t 123) (.t 124)⟩,
    ⟨none, some 130, .fieldA 2 1 (.t 129)⟩,
    ⟨none, none, .store 1 (.t 130) (.t 126)⟩]
  [0, 1, 3, 7, 15, 0, 0, 64, 192, 448, 960, 0, 0, 0, 6143, 22527, 55295, 131071, 262143, 524287] [])
  .skip))
 (.seq (.ops [⟨none, some 131, .move (.t 14)⟩,
    ⟨none, some 4, .move (.t 131)⟩] [])
 .ret)))))))
theorem c_graph_change_turns : comp Try.prog { own := [], mt := [], lp := [], gh := [] } 132 (Try.f104.body.getD .skip) = some s_graph_change_turns := by kernel_rfl
abbrev r_graph_change_turns : List RV := [.tmp 4]
theorem a_graph_change_turns {args : List AV} {H : List (Nat × Blk)} {nx : Nat} {K : AV → List (Nat × Blk) → Nat → Prop} (hal : args.length ≤ 132) (h : W Try.prog s_graph_change_turns (RETK r_graph_change_turns K) ⟨argE 0 args, H, nx⟩) : ACalls Try.prog 104 args H nx K :=
  acalls_of_W (drawOk mixed) Try.func104 rfl (by kernel_rfl) (of_decide_eq_true (by kernel_rfl)) (by kernel_rfl) c_graph_change_turns (by kernel_rfl) hal h
theorem p_graph_change_turns {args : List AV} {r : AV} (hal : args.length ≤ 132) (hp : args.all pureA = true) (hr : pureA r = true) (h : W Try.prog s_graph_change_turns (RETK r_graph_change_turns fun a H _ => FRZ r a H) ⟨argE 0 args, [], 0⟩) : PCalls Try.prog 104 args r := .of hp (a_graph_change_turns hal h) hr

/-! (*pleach/graph.change).comes -/
abbrev n_graph_change_comes : Nat := 105
def s_graph_change_comes : S :=
 (.seq (.ops [⟨none, some 3, .boxI (.t 1)⟩,
    ⟨none, some 4, .move (.k (.c (.p (.int .i64 0))))⟩] [])
 (.seq (.seq (.ops [⟨none, some 13, .fieldA 0 1 (.t 3)⟩,
    ⟨none, some 14, .load false 1 (.t 13)⟩,
    ⟨none, some 15, .bin .eql (.t 14) (.k (.c (.p (.int .i64 1))))⟩] [])
 (.cond (.t 15) (.seq (.draw [⟨none, some 17, .move (.t 0)⟩,
    ⟨none, some 18, .nilChk (.t 17)⟩,
    ⟨none, some 19, .fieldA 0 2 (.t 18)⟩,
    ⟨none, some 20, .load true 2 (.t 19)⟩,
    ⟨none, some 21, .fieldA 1 1 (.t 3)⟩,
    ⟨none, some 22, .load false 1 (.t 21)⟩,
    ⟨none, some 23, .call 62 [(.t 20), (.t 22)]⟩,
    ⟨none, some 16, .move (.t 23)⟩,
    ⟨none, some 24, .extract (.t 16) 0⟩,
    ⟨none, some 25, .extract (.t 16) 1⟩,
    ⟨none, some 5, .move (.t 24)⟩,
    ⟨none, some 6, .move (.t 25)⟩]
  [0, 1, 3, 7, 0, 16, 63, 127, 255, 255, 511, 2047] [])
  (.seq (.block 0 (.seq (.ops [⟨none, some 27, .move (.t 6)⟩,
    ⟨none, some 26, .move (.t 27)⟩] [])
   (.cond (.t 26) (.seq (.ops [⟨none, some 4, .move (.k (.c (.p (.int .i64 10))))⟩] [])
    .ret)
    (.seq (.ops [⟨none, some 29, .move (.t 0)⟩,
    ⟨none, some 30, .nilChk (.t 29)⟩,
    ⟨none, some 31, .fieldA 0 2 (.t 30)⟩,
    ⟨none, some 32, .fieldA 0 1 (.t 31)⟩,
    ⟨none, some 33, .load false 1 (.t 32)⟩,
    ⟨none, some 34, .len (.t 33)⟩,
    ⟨none, some 35, .bin .geq (.t 34) (.k (.c (.p (.int .i64 500))))⟩,
    ⟨none, some 28, .move (.t 35)⟩] [])
    (.cond (.t 28) (.seq (.ops [⟨none, some 4, .move (.k (.c (.p (.int .i64 5))))⟩] [])
     .ret)
     .skip)))))
  (.seq (.draw [⟨none, some 36, .move (.t 0)⟩,
    ⟨none, some 37, .move (.t 0)⟩,
    ⟨none, some 38, .nilChk (.t 37)⟩,
    ⟨none, some 39, .fieldA 0 2 (.t 38)⟩,
    ⟨none, some 40, .fieldA 0 1 (.t 39)⟩,
    ⟨none, some 41, .load false 1 (.t 40)⟩,
    ⟨none, some 42, .move (.t 5)⟩,
    ⟨none, some 43, .fieldA 1 1 (.t 3)⟩,
    ⟨none, some 44, .load false 1 (.t 43)⟩,
    ⟨none, some 45, .build [.p (.str []), .p .nil, .p .nil] [(0, 1, (.t 44))]⟩,
    ⟨none, some 46, .litR 3 [[.p (.str []), .p .nil, .p .nil]] [(0, (.t 45))]⟩,
    ⟨none, some 47, .call 140 [(.t 41), (.t 42), (.t 46)]⟩,
    ⟨none, some 48, .nilChk (.t 36)⟩,
    ⟨none, some 49, .fieldA 0 2 (.t 48)⟩,
    ⟨none, some 50, .fieldA 0 1 (.t 49)⟩,
    ⟨none, none, .store 1 (.t 50) (.t 47)⟩]
  [0, 0, 2, 6, 14, 30, 0, 0, 128, 384, 896, 2046, 4095, 8191, 16383, 32767] [])
  (.seq (.ops [⟨none, some 4, .move (.k (.c (.p (.int .i64 0))))⟩] [])
  .ret))))
  .skip))
 (.seq (.draw [⟨none, some 52, .move (.t 0)⟩,
    ⟨none, some 53, .nilChk (.t 52)⟩,
    ⟨none, some 54, .fieldA 0 2 (.t 53)⟩,
    ⟨none, some 55, .load true 2 (.t 54)⟩,
    ⟨none, some 56, .fieldA 1 1 (.t 3)⟩,
    ⟨none, some 57, .load false 1 (.t 56)⟩,
    ⟨none, some 58, .call 139 [(.t 55), (.t 57)]⟩,
    ⟨none, some 51, .move (.t 58)⟩,
    ⟨none, some 59, .extract (.t 51) 0⟩,
    ⟨none, some 60, .extract (.t 51) 1⟩,
    ⟨none, some 7, .move (.t 59)⟩,
    ⟨none, some 8, .move (.t 60)⟩]
 [0, 1, 3, 7, 0, 16, 63, 127, 255, 255, 511, 2047] [])
 (.seq (.draw [⟨none, some 62, .move (.t 0)⟩,
    ⟨none, some 63, .nilChk (.t 62)⟩,
    ⟨none, some 64, .fieldA 0 2 (.t 63)⟩,
    ⟨none, some 65, .load true 2 (.t 64)⟩,
    ⟨none, some 66, .fieldA 2 1 (.t 3)⟩,
    ⟨none, some 67, .load false 1 (.t 66)⟩,
    ⟨none, some 68, .call 62 [(.t 65), (.t 67)]⟩,
    ⟨none, some 61, .move (.t 68)⟩,
    ⟨none, some 69, .extract (.t 61) 0⟩,
    ⟨none, some 70, .extract (.t 61) 1⟩,
    ⟨none, some 9, .move (.t 69)⟩,
    ⟨none, some 10, .move (.t 70)⟩]
 [0, 1, 3, 7, 0, 16, 63, 127, 255, 255, 511, 2047] [])
 (.seq (.draw [⟨none, some 72, .move (.t 0)⟩,
    ⟨none, some 73, .nilChk (.t 72)⟩,
    ⟨none, some 74, .fieldA 0 2 (.t 73)⟩,
    ⟨none, some 75, .load true 2 (.t 74)⟩,
    ⟨none, some 76, .fieldA 3 1 (.t 3)⟩,
    ⟨none, some 77, .load false 1 (.t 76)⟩,
    ⟨none, some 78, .call 62 [(.t 75), (.t 77)]⟩,
    ⟨none, some 71, .move (.t 78)⟩,
    ⟨none, some 79, .extract (.t 71) 0⟩,
    ⟨none, some 80, .extract (.t 71) 1⟩,
    ⟨none, some 11, .move (.t 79)⟩,
    ⟨none, some 12, .move (.t 80)⟩]
 [0, 1, 3, 7, 0, 16, 63, 127, 255, 255, 511, 2047] [])
 (.seq (.block 1 (.seq (.ops [⟨none, some 82, .move (.t 8)⟩,
    ⟨none, some 81, .move (.t 82)⟩] [])
  (.cond (.t 81) (.seq (.ops [⟨none, some 4, .move (.k (.c (.p (.int .i64 10))))⟩] [])
   .ret)
   (.seq (.ops [⟨none, some 84, .move (.t 10)⟩,
    ⟨none, some 85, .un .not (.t 84)⟩,
    ⟨none, some 86, .move (.t 85)⟩,
    ⟨some (86, false), some 87, .move (.t 12)⟩,
    ⟨some (86, false), some 88, .un .not (.t 87)⟩,
    ⟨none, some 89, .pick (.t 86) (.k (.c (.p (.bool true)))) (.t 88)⟩,
    ⟨none, some 83, .move (.t 89)⟩] [])
   (.cond (.t 83) (.seq (.ops [⟨none, some 4, .move (.k (.c (.p (.int .i64 9))))⟩] [])
    .ret)
    (.seq (.ops [⟨none, some 91, .move (.t 0)⟩,
    ⟨none, some 92, .nilChk (.t 91)⟩,
    ⟨none, some 93, .fieldA 0 2 (.t 92)⟩,
    ⟨none, some 94, .fieldA 1 1 (.t 93)⟩,
    ⟨none, some 95, .load false 1 (.t 94)⟩,
    ⟨none, some 96, .len (.t 95)⟩,
    ⟨none, some 97, .bin .geq (.t 96) (.k (.c (.p (.int .i64 1000))))⟩,
    ⟨none, some 90, .move (.t 97)⟩] [])
    (.cond (.t 90) (.seq (.ops [⟨none, some 4, .move (.k (.c (.p (.int .i64 5))))⟩] [])
     .ret)
     .skip)))))))
 (.seq (.draw [⟨none, some 98, .move (.t 0)⟩,
    ⟨none, some 99, .move (.t 0)⟩,
    ⟨none, some 100, .nilChk (.t 99)⟩,
    ⟨none, some 101, .fieldA 0 2 (.t 100)⟩,
    ⟨none, some 102, .fieldA 1 1 (.t 101)⟩,
    ⟨none, some 103, .load false 1 (.t 102)⟩,
    ⟨none, some 104, .move (.t 7)⟩,
    ⟨none, some 105, .fieldA 1 1 (.t 3)⟩,
    ⟨none, some 106, .load false 1 (.t 105)⟩,
    ⟨none, some 107, .fieldA 2 1 (.t 3)⟩,
    ⟨none, some 108, .load false 1 (.t 107)⟩,
    ⟨none, some 109, .fieldA 3 1 (.t 3)⟩,
    ⟨none, some 110, .load false 1 (.t 109)⟩,
    ⟨none, some 111, .build [.p (.str []), .p (.str []), .p (.str []), .p .nil, .p .nil] [(0, 1, (.t 106)), (1, 1, (.t 108)), (2, 1, (.t 110))]⟩,
    ⟨none, some 112, .litR 5 [[.p (.str []), .p (.str []), .p (.str []), .p .nil, .p .nil]] [(0, (.t 111))]⟩,
    ⟨none, some 113, .call 141 [(.t 103), (.t 104), (.t 112)]⟩,
    ⟨none, some 114, .nilChk (.t 98)⟩,
    ⟨none, some 115, .fieldA 0 2 (.t 114)⟩,
    ⟨none, some 116, .fieldA 1 1 (.t 115)⟩,
    ⟨none, none, .store 1 (.t 116) (.t 113)⟩]
 [0, 0, 2, 6, 14, 30, 0, 0, 128, 0, 512, 0, 2048, 8064, 16256, 32766, 65535, 131071, 262143, 524287] [])
 (.seq (.ops [⟨none, some 4, .move (.k (.c (.p (.int .i64 0))))⟩] [])
 .ret))))))))
theorem c_graph_change_comes : comp Try.prog { own := [46, 112], mt := [], lp := [], gh := [] } 117 (Try.f105.body.getD .skip) = some s_graph_change_comes := by kernel_rfl
abbrev r_graph_change_comes : List RV := [.tmp 4]
theorem a_graph_change_comes {args : List AV} {H : List (Nat × Blk)} {nx : Nat} {K : AV → List (Nat × Blk) → Nat → Prop} (hal : args.length ≤ 117) (h : W Try.prog s_graph_change_comes (RETK r_graph_change_comes K) ⟨argE 0 args, H, nx⟩) : ACalls Try.prog 105 args H nx K :=
  acalls_of_W (drawOk mixed) Try.func105 rfl (by kernel_rfl) (of_decide_eq_true (by kernel_rfl)) (by kernel_rfl) c_graph_change_comes (by kernel_rfl) hal h
theorem p_graph_change_comes {args : List AV} {r : AV} (hal : args.length ≤ 117) (hp : args.all pureA = true) (hr : pureA r = true) (h : W Try.prog s_graph_change_comes (RETK r_graph_change_comes fun a H _ => FRZ r a H) ⟨argE 0 args, [], 0⟩) : PCalls Try.prog 105 args r := .of hp (a_graph_change_comes hal h) hr

/-! (*pleach/graph.change).goes -/
abbrev n_graph_change_goes : Nat := 106
def s_graph_change_goes : S :=
 (.seq (.ops [⟨none, some 3, .boxI (.t 1)⟩,
    ⟨none, some 4, .move (.k (.c (.p (.int .i64 0))))⟩] [])
 (.seq (.seq (.ops [⟨none, some 9, .fieldA 0 1 (.t 3)⟩,
    ⟨none, some 10, .load false 1 (.t 9)⟩,
    ⟨none, some 11, .bin .eql (.t 10) (.k (.c (.p (.int .i64 4))))⟩] [])
 (.cond (.t 11) (.seq (.draw [⟨none, some 13, .move (.t 0)⟩,
    ⟨none, some 14, .nilChk (.t 13)⟩,
    ⟨none, some 15, .fieldA 0 2 (.t 14)⟩,
    ⟨none, some 16, .load true 2 (.t 15)⟩,
    ⟨none, some 17, .fieldA 1 1 (.t 3)⟩,
    ⟨none, some 18, .load false 1 (.t 17)⟩,
    ⟨none, some 19, .call 139 [(.t 16), (.t 18)]⟩,
    ⟨none, some 12, .move (.t 19)⟩,
    ⟨none, some 20, .extract (.t 12) 0⟩,
    ⟨none, some 21, .extract (.t 12) 1⟩,
    ⟨none, some 5, .move (.t 20)⟩,
    ⟨none, some 6, .move (.t 21)⟩]
  [0, 1, 3, 7, 0, 16, 63, 127, 255, 255, 511, 2047] [])
  (.seq (.seq (.ops [⟨none, some 22, .move (.t 6)⟩,
    ⟨none, some 23, .un .not (.t 22)⟩] [])
  (.cond (.t 23) (.seq (.ops [⟨none, some 4, .move (.k (.c (.p (.int .i64 9))))⟩] [])
   .ret)
   .skip))
  (.seq (.ops [⟨none, some 24, .move (.t 0)⟩,
    ⟨none, some 25, .move (.t 0)⟩,
    ⟨none, some 26, .nilChk (.t 25)⟩,
    ⟨none, some 27, .fieldA 0 2 (.t 26)⟩,
    ⟨none, some 28, .fieldA 1 1 (.t 27)⟩,
    ⟨none, some 29, .load false 1 (.t 28)⟩,
    ⟨none, some 30, .move (.t 5)⟩,
    ⟨none, some 31, .move (.t 5)⟩,
    ⟨none, some 32, .bin .add (.t 31) (.k (.c (.p (.int .i64 1))))⟩,
    ⟨none, some 33, .call 142 [(.t 29), (.t 30), (.t 32)]⟩,
    ⟨none, some 34, .nilChk (.t 24)⟩,
    ⟨none, some 35, .fieldA 0 2 (.t 34)⟩,
    ⟨none, some 36, .fieldA 1 1 (.t 35)⟩,
    ⟨none, none, .store 1 (.t 36) (.t 33)⟩] [])
  (.seq (.ops [⟨none, some 4, .move (.k (.c (.p (.int .i64 0))))⟩] [])
  .ret))))
  .skip))
 (.seq (.draw [⟨none, some 38, .move (.t 0)⟩,
    ⟨none, some 39, .nilChk (.t 38)⟩,
    ⟨none, some 40, .fieldA 0 2 (.t 39)⟩,
    ⟨none, some 41, .load true 2 (.t 40)⟩,
    ⟨none, some 42, .fieldA 1 1 (.t 3)⟩,
    ⟨none, some 43, .load false 1 (.t 42)⟩,
    ⟨none, some 44, .call 62 [(.t 41), (.t 43)]⟩,
    ⟨none, some 37, .move (.t 44)⟩,
    ⟨none, some 45, .extract (.t 37) 0⟩,
    ⟨none, some 46, .extract (.t 37) 1⟩,
    ⟨none, some 7, .move (.t 45)⟩,
    ⟨none, some 8, .move (.t 46)⟩]
 [0, 1, 3, 7, 0, 16, 63, 127, 255, 255, 511, 2047] [])
 (.seq (.block 0 (.seq (.ops [⟨none, some 48, .move (.t 8)⟩,
    ⟨none, some 49, .un .not (.t 48)⟩,
    ⟨none, some 47, .move (.t 49)⟩] [])
  (.cond (.t 47) (.seq (.ops [⟨none, some 4, .move (.k (.c (.p (.int .i64 9))))⟩] [])
   .ret)
   (.seq (.ops [⟨none, some 51, .move (.t 0)⟩,
    ⟨none, some 52, .nilChk (.t 51)⟩,
    ⟨none, some 53, .fieldA 0 2 (.t 52)⟩,
    ⟨none, some 54, .fieldA 1 1 (.t 53)⟩,
    ⟨none, some 55, .load false 1 (.t 54)⟩,
    ⟨none, some 56, .mkFn 144 [] [(.t 3)]⟩,
    ⟨none, some 57, .call 143 [(.t 55), (.t 56)]⟩,
    ⟨none, some 50, .move (.t 57)⟩] [])
   (.cond (.t 50) (.seq (.ops [⟨none, some 4, .move (.k (.c (.p (.int .i64 11))))⟩] [])
    .ret)
    .skip)))))
 (.seq (.ops [⟨none, some 58, .move (.t 0)⟩,
    ⟨none, some 59, .move (.t 0)⟩,
    ⟨none, some 60, .nilChk (.t 59)⟩,
    ⟨none, some 61, .fieldA 0 2 (.t 60)⟩,
    ⟨none, some 62, .fieldA 0 1 (.t 61)⟩,
    ⟨none, some 63, .load false 1 (.t 62)⟩,
    ⟨none, some 64, .move (.t 7)⟩,
    ⟨none, some 65, .move (.t 7)⟩,
    ⟨none, some 66, .bin .add (.t 65) (.k (.c (.p (.int .i64 1))))⟩,
    ⟨none, some 67, .call 145 [(.t 63), (.t 64), (.t 66)]⟩,
    ⟨none, some 68, .nilChk (.t 58)⟩,
    ⟨none, some 69, .fieldA 0 2 (.t 68)⟩,
    ⟨none, some 70, .fieldA 0 1 (.t 69)⟩,
    ⟨none, none, .store 1 (.t 70) (.t 67)⟩] [])
 (.seq (.ops [⟨none, some 4, .move (.k (.c (.p (.int .i64 0))))⟩] [])
 .ret))))))
theorem c_graph_change_goes : comp Try.prog { own := [], mt := [], lp := [], gh := [] } 71 (Try.f106.body.getD .skip) = some s_graph_change_goes := by kernel_rfl
abbrev r_graph_change_goes : List RV := [.tmp 4]
theorem a_graph_change_goes {args : List AV} {H : List (Nat × Blk)} {nx : Nat} {K : AV → List (Nat × Blk) → Nat → Prop} (hal : args.length ≤ 71) (h : W Try.prog s_graph_change_goes (RETK r_graph_change_goes K) ⟨argE 0 args, H, nx⟩) : ACalls Try.prog 106 args H nx K :=
  acalls_of_W (drawOk mixed) Try.func106 rfl (by kernel_rfl) (of_decide_eq_true (by kernel_rfl)) (by kernel_rfl) c_graph_change_goes (by kernel_rfl) hal h
theorem p_graph_change_goes {args : List AV} {r : AV} (hal : args.length ≤ 71) (hp : args.all pureA = true) (hr : pureA r = true) (h : W Try.prog s_graph_change_goes (RETK r_graph_change_goes fun a H _ => FRZ r a H) ⟨argE 0 args, [], 0⟩) : PCalls Try.prog 106 args r := .of hp (a_graph_change_goes hal h) hr

/-! pleach/elem.rest -/
abbrev n_elem_rest : Nat := 107
def s_elem_rest : S :=
 (.seq (.ops [⟨none, some 4, .move (.k (.c (.p (.int .i64 0))))⟩] [])
 (.seq (.seq (.ops [⟨none, some 6, .move (.t 0)⟩,
    ⟨none, some 7, .len (.t 6)⟩,
    ⟨none, some 8, .bin .gtr (.t 7) (.k (.c (.p (.int .i64 8))))⟩] [])
 (.cond (.t 8) (.seq (.ops [⟨none, some 4, .move (.k (.c (.p (.int .i64 5))))⟩] [])
  .ret)
  .skip))
 (.seq (.seq (.ops [⟨none, some 9, .move (.t 0)⟩,
    ⟨none, some 10, .call 146 [(.t 9)]⟩,
    ⟨none, some 5, .move (.t 10)⟩] [])
 (.seq (.ops [⟨none, some 11, .move (.t 5)⟩,
    ⟨none, some 12, .bin .neq (.t 11) (.k (.c (.p (.int .i64 0))))⟩] [])
 (.cond (.t 12) (.seq (.ops [⟨none, some 13, .move (.t 5)⟩,
    ⟨none, some 4, .move (.t 13)⟩] [])
  .ret)
  .skip)))
 (.seq (.ops [⟨none, some 14, .move (.t 1)⟩,
    ⟨none, some 15, .call 147 [(.t 14)]⟩,
    ⟨none, some 4, .move (.t 15)⟩] [])
 .ret))))
theorem c_elem_rest : comp Try.prog { own := [], mt := [], lp := [], gh := [] } 16 (Try.f107.body.getD .skip) = some s_elem_rest := by kernel_rfl
abbrev r_elem_rest : List RV := [.tmp 4]
theorem a_elem_rest {args : List AV} {H : List (Nat × Blk)} {nx : Nat} {K : AV → List (Nat × Blk) → Nat → Prop} (hal : args.length ≤ 16) (h : W Try.prog s_elem_rest (RETK r_elem_rest K) ⟨argE 0 args, H, nx⟩) : ACalls Try.prog 107 args H nx K :=
  acalls_of_W (drawOk mixed) Try.func107 rfl (by kernel_rfl) (of_decide_eq_true (by kernel_rfl)) (by kernel_rfl) c_elem_rest (by kernel_rfl) hal h
theorem p_elem_rest {args : List AV} {r : AV} (hal : args.length ≤ 16) (hp : args.all pureA = true) (hr : pureA r = true) (h : W Try.prog s_elem_rest (RETK r_elem_rest fun a H _ => FRZ r a H) ⟨argE 0 args, [], 0⟩) : PCalls Try.prog 107 args r := .of hp (a_elem_rest hal h) hr

/-! slices.BinarySearchFunc[[]pleach/api.Node,pleach/api.Node,string] -/
abbrev n_slices_BinarySearchFunc_api_Node_api_Node_string : Nat := 108
def b_slices_BinarySearchFunc_api_Node_api_Node_string_0 : S :=
 (.seq (.seq (.ops [⟨none, some 15, .move (.t 9)⟩,
    ⟨none, some 16, .move (.t 10)⟩,
    ⟨none, some 17, .bin .lss (.t 15) (.t 16)⟩] [])
 (.cond (.t 17) .skip
  (.exit 0)))
 (.block 1 (.seq (.ops [⟨none, some 18, .move (.t 9)⟩,
    ⟨none, some 19, .move (.t 10)⟩,
    ⟨none, some 20, .bin .add (.t 18) (.t 19)⟩,
    ⟨none, some 21, .convI .u64 (.t 20)⟩,
    ⟨none, some 22, .bin .shr (.t 21) (.k (.c (.p (.int .u64 1))))⟩,
    ⟨none, some 23, .convI .i64 (.t 22)⟩,
    ⟨none, some 11, .move (.t 23)⟩] [])
  (.seq (.ops [⟨none, some 24, .move (.t 2)⟩,
    ⟨none, some 25, .move (.t 0)⟩,
    ⟨none, some 26, .move (.t 11)⟩,
    ⟨none, some 27, .idxA 3 (.t 25) (.t 26)⟩,
    ⟨none, some 28, .load true 3 (.t 27)⟩,
    ⟨none, some 29, .move (.t 1)⟩,
    ⟨none, some 30, .callv (.t 24) [(.t 28), (.t 29)]⟩,
    ⟨none, some 31, .bin .lss (.t 30) (.k (.c (.p (.int .i64 0))))⟩] [])
  (.cond (.t 31) (.ops [⟨none, some 32, .move (.t 11)⟩,
    ⟨none, some 33, .bin .add (.t 32) (.k (.c (.p (.int .i64 1))))⟩,
    ⟨none, some 9, .move (.t 33)⟩] [])
   (.ops [⟨none, some 34, .move (.t 11)⟩,
    ⟨none, some 10, .move (.t 34)⟩] []))))))
def s_slices_BinarySearchFunc_api_Node_api_Node_string : S :=
 (.seq (.ops [⟨none, some 6, .move (.k (.c (.p (.int .i64 0))))⟩,
    ⟨none, some 7, .move (.k (.c (.p (.bool false))))⟩] [])
 (.seq (.ops [⟨none, some 12, .move (.t 0)⟩,
    ⟨none, some 13, .len (.t 12)⟩,
    ⟨none, some 8, .move (.t 13)⟩] [])
 (.seq (.ops [⟨none, some 14, .move (.t 8)⟩,
    ⟨none, some 9, .move (.k (.c (.p (.int .i64 0))))⟩,
    ⟨none, some 10, .move (.t 14)⟩] [])
 (.seq (.block 0 (.loop [0, 1, 2, 8, 9, 10] b_slices_BinarySearchFunc_api_Node_api_Node_string_0))
 (.seq (.ops [⟨none, some 35, .move (.t 9)⟩,
    ⟨none, some 36, .move (.t 9)⟩,
    ⟨none, some 37, .move (.t 8)⟩,
    ⟨none, some 38, .bin .lss (.t 36) (.t 37)⟩,
    ⟨none, some 39, .move (.t 38)⟩,
    ⟨some (39, true), some 40, .move (.t 2)⟩,
    ⟨some (39, true), some 41, .move (.t 0)⟩,
    ⟨some (39, true), some 42, .move (.t 9)⟩,
    ⟨some (39, true), some 43, .idxA 3 (.t 41) (.t 42)⟩,
    ⟨some (39, true), some 44, .load true 3 (.t 43)⟩,
    ⟨some (39, true), some 45, .move (.t 1)⟩,
    ⟨some (39, true), some 46, .callv (.t 40) [(.t 44), (.t 45)]⟩,
    ⟨some (39, true), some 47, .bin .eql (.t 46) (.k (.c (.p (.int .i64 0))))⟩,
    ⟨none, some 48, .pick (.t 39) (.t 47) (.k (.c (.p (.bool false))))⟩,
    ⟨none, some 6, .move (.t 35)⟩,
    ⟨none, some 7, .move (.t 48)⟩] [])
 .ret)))))
theorem c_slices_BinarySearchFunc_api_Node_api_Node_string : comp Try.prog { own := [], mt := [], lp := [(0, [0, 1, 2, 8, 9, 10])], gh := [] } 49 (Try.f108.body.getD .skip) = some s_slices_BinarySearchFunc_api_Node_api_Node_string := by kernel_rfl
abbrev r_slices_BinarySearchFunc_api_Node_api_Node_string : List RV := [.tmp 6, .tmp 7]
theorem a_slices_BinarySearchFunc_api_Node_api_Node_string {args : List AV} {H : List (Nat × Blk)} {nx : Nat} {K : AV → List (Nat × Blk) → Nat → Prop} (hal : args.length ≤ 49) (h : W Try.prog s_slices_BinarySearchFunc_api_Node_api_Node_string (RETK r_slices_BinarySearchFunc_api_Node_api_Node_string K) ⟨argE 0 args, H, nx⟩) : ACalls Try.prog 108 args H nx K :=
  acalls_of_W (drawOk mixed) Try.func108 rfl (by kernel_rfl) (of_decide_eq_true (by kernel_rfl)) (by kernel_rfl) c_slices_BinarySearchFunc_api_Node_api_Node_string (by kernel_rfl) hal h
theorem p_slices_BinarySearchFunc_api_Node_api_Node_string {args : List AV} {r : AV} (hal : args.length ≤ 49) (hp : args.all pureA = true) (hr : pureA r = true) (h : W Try.prog s_slices_BinarySearchFunc_api_Node_api_Node_string (RETK r_slices_BinarySearchFunc_api_Node_api_Node_string fun a H _ => FRZ r a H) ⟨argE 0 args, [], 0⟩) : PCalls Try.prog 108 args r := .of hp (a_slices_BinarySearchFunc_api_Node_api_Node_string hal h) hr

/-! pleach/graph.node$1 -/
abbrev n_graph_node_1 : Nat := 109
def s_graph_node_1 : S :=
 (.seq (.ops [⟨none, some 2, .boxI (.t 0)⟩,
    ⟨none, some 4, .move (.k (.c (.p (.int .i64 0))))⟩] [])
 (.seq (.ops [⟨none, some 5, .fieldA 0 1 (.t 2)⟩,
    ⟨none, some 6, .load false 1 (.t 5)⟩,
    ⟨none, some 7, .move (.t 1)⟩,
    ⟨none, some 8, .call 110 [(.t 6), (.t 7)]⟩,
    ⟨none, some 4, .move (.t 8)⟩] [])
 .ret))
theorem c_graph_node_1 : comp Try.prog { own := [], mt := [], lp := [], gh := [] } 9 (Try.f109.body.getD .skip) = some s_graph_node_1 := by kernel_rfl
abbrev r_graph_node_1 : List RV := [.tmp 4]
theorem a_graph_node_1 {args : List AV} {H : List (Nat × Blk)} {nx : Nat} {K : AV → List (Nat × Blk) → Nat → Prop} (hal : args.length ≤ 9) (h : W Try.prog s_graph_node_1 (RETK r_graph_node_1 K) ⟨argE 0 args, H, nx⟩) : ACalls Try.prog 109 args H nx K :=
  acalls_of_W (drawOk mixed) Try.func109 rfl (by kernel_rfl) (of_decide_eq_true (by kernel_rfl)) (by kernel_rfl) c_graph_node_1 (by kernel_rfl) hal h
theorem p_graph_node_1 {args : List AV} {r : AV} (hal : args.length ≤ 9) (hp : args.all pureA = true) (hr : pureA r = true) (h : W Try.prog s_graph_node_1 (RETK r_graph_node_1 fun a H _ => FRZ r a H) ⟨argE 0 args, [], 0⟩) : PCalls Try.prog 109 args r := .of hp (a_graph_node_1 hal h) hr

/-! cmp.Compare[string] -/
abbrev n_cmp_Compare_string : Nat := 110
def s_cmp_Compare_string : S :=
 (.seq (.ops [⟨none, some 4, .move (.k (.c (.p (.int .i64 0))))⟩] [])
 (.seq (.ops [⟨none, some 7, .move (.t 0)⟩,
    ⟨none, some 8, .call 148 [(.t 7)]⟩,
    ⟨none, some 5, .move (.t 8)⟩] [])
 (.seq (.ops [⟨none, some 9, .move (.t 1)⟩,
    ⟨none, some 10, .call 148 [(.t 9)]⟩,
    ⟨none, some 6, .move (.t 10)⟩] [])
 (.seq (.seq (.ops [⟨none, some 11, .move (.t 5)⟩] [])
 (.cond (.t 11) (.seq (.seq (.ops [⟨none, some 12, .move (.t 6)⟩] [])
  (.cond (.t 12) (.seq (.ops [⟨none, some 4, .move (.k (.c (.p (.int .i64 0))))⟩] [])
   .ret)
   .skip))
  (.seq (.ops [⟨none, some 4, .move (.k (.c (.p (.int .i64 (-1)))))⟩] [])
  .ret))
  .skip))
 (.seq (.seq (.ops [⟨none, some 13, .move (.t 6)⟩] [])
 (.cond (.t 13) (.seq (.ops [⟨none, some 4, .move (.k (.c (.p (.int .i64 1))))⟩] [])
  .ret)
  .skip))
 (.seq (.seq (.ops [⟨none, some 14, .move (.t 0)⟩,
    ⟨none, some 15, .move (.t 1)⟩,
    ⟨none, some 16, .bin .lss (.t 14) (.t 15)⟩] [])
 (.cond (.t 16) (.seq (.ops [⟨none, some 4, .move (.k (.c (.p (.int .i64 (-1)))))⟩] [])
  .ret)
  .skip))
 (.seq (.seq (.ops [⟨none, some 17, .move (.t 0)⟩,
    ⟨none, some 18, .move (.t 1)⟩,
    ⟨none, some 19, .bin .gtr (.t 17) (.t 18)⟩] [])
 (.cond (.t 19) (.seq (.ops [⟨none, some 4, .move (.k (.c (.p (.int .i64 1))))⟩] [])
  .ret)
  .skip))
 (.seq (.ops [⟨none, some 4, .move (.k (.c (.p (.int .i64 0))))⟩] [])
 .ret))))))))
theorem c_cmp_Compare_string : comp Try.prog { own := [], mt := [], lp := [], gh := [] } 20 (Try.f110.body.getD .skip) = some s_cmp_Compare_string := by kernel_rfl
abbrev r_cmp_Compare_string : List RV := [.tmp 4]
theorem a_cmp_Compare_string {args : List AV} {H : List (Nat × Blk)} {nx : Nat} {K : AV → List (Nat × Blk) → Nat → Prop} (hal : args.length ≤ 20) (h : W Try.prog s_cmp_Compare_string (RETK r_cmp_Compare_string K) ⟨argE 0 args, H, nx⟩) : ACalls Try.prog 110 args H nx K :=
  acalls_of_W (drawOk mixed) Try.func110 rfl (by kernel_rfl) (of_decide_eq_true (by kernel_rfl)) (by kernel_rfl) c_cmp_Compare_string (by kernel_rfl) hal h
theorem p_cmp_Compare_string {args : List AV} {r : AV} (hal : args.length ≤ 20) (hp : args.all pureA = true) (hr : pureA r = true) (h : W Try.prog s_cmp_Compare_string (RETK r_cmp_Compare_string fun a H _ => FRZ r a H) ⟨argE 0 args, [], 0⟩) : PCalls Try.prog 110 args r := .of hp (a_cmp_Compare_string hal h) hr

/-! pleach/pleachref05.Row -/
abbrev n_pleachref05_Row : Nat := 129
def b_pleachref05_Row_0 : S :=
 (.seq (.seq (.ops [⟨none, some 4, .move (.t 3)⟩,
    ⟨none, some 5, .move (.t 0)⟩,
    ⟨none, some 6, .len (.t 5)⟩,
    ⟨none, some 7, .bin .lss (.t 4) (.t 6)⟩] [])
 (.cond (.t 7) .skip
  (.exit 0)))
 (.seq (.block 1 (.seq (.seq (.ops [⟨none, some 10, .move (.t 0)⟩,
    ⟨none, some 11, .move (.t 3)⟩,
    ⟨none, some 12, .idxA 1 (.t 10) (.t 11)⟩,
    ⟨none, some 13, .load false 1 (.t 12)⟩,
    ⟨none, some 14, .call 46 [(.t 13)]⟩,
    ⟨none, some 15, .un .not (.t 14)⟩] [])
  (.cond (.t 15) (.seq (.ops [⟨none, some 2, .move (.k (.c (.p (.int .i64 2))))⟩] [])
   .ret)
   .skip))
  (.seq (.draw [⟨none, some 16, .move (.t 3)⟩,
    ⟨none, some 17, .bin .gtr (.t 16) (.k (.c (.p (.int .i64 0))))⟩,
    ⟨none, some 18, .move (.t 17)⟩,
    ⟨some (18, true), some 19, .move (.t 0)⟩,
    ⟨some (18, true), some 20, .move (.t 3)⟩,
    ⟨some (18, true), some 21, .idxA 1 (.t 19) (.t 20)⟩,
    ⟨some (18, true), some 22, .load false 1 (.t 21)⟩,
    ⟨some (18, true), some 23, .move (.t 0)⟩,
    ⟨some (18, true), some 24, .move (.t 3)⟩,
    ⟨some (18, true), some 25, .bin .sub (.t 24) (.k (.c (.p (.int .i64 1))))⟩,
    ⟨some (18, true), some 26, .idxA 1 (.t 23) (.t 25)⟩,
    ⟨some (18, true), some 27, .load false 1 (.t 26)⟩,
    ⟨some (18, true), some 28, .bin .leq (.t 22) (.t 27)⟩,
    ⟨none, some 29, .pick (.t 18) (.t 28) (.k (.c (.p (.bool false))))⟩]
  [0, 1, 3, 7, 7, 31, 63, 7, 7, 263, 903, 1927, 4095, 8191] [])
  (.cond (.t 29) (.seq (.ops [⟨none, some 2, .move (.k (.c (.p (.int .i64 4))))⟩] [])
   .ret)
   .skip))))
 (.ops [⟨none, some 8, .move (.t 3)⟩,
    ⟨none, some 9, .bin .add (.t 8) (.k (.c (.p (.int .i64 1))))⟩,
    ⟨none, some 3, .move (.t 9)⟩] [])))
def s_pleachref05_Row : S :=
 (.seq (.ops [⟨none, some 2, .move (.k (.c (.p (.int .i64 0))))⟩] [])
 (.seq (.seq (.ops [⟨none, some 3, .move (.k (.c (.p (.int .i64 0))))⟩] [])
 (.block 0 (.loop [0, 3] b_pleachref05_Row_0)))
 (.seq (.ops [⟨none, some 2, .move (.k (.c (.p (.int .i64 0))))⟩] [])
 .ret)))
theorem c_pleachref05_Row : comp Try.prog { own := [], mt := [], lp := [(0, [0, 3])], gh := [] } 30 (Try.f129.body.getD .skip) = some s_pleachref05_Row := by kernel_rfl
abbrev r_pleachref05_Row : List RV := [.tmp 2]
theorem a_pleachref05_Row {args : List AV} {H : List (Nat × Blk)} {nx : Nat} {K : AV → List (Nat × Blk) → Nat → Prop} (hal : args.length ≤ 30) (h : W Try.prog s_pleachref05_Row (RETK r_pleachref05_Row K) ⟨argE 0 args, H, nx⟩) : ACalls Try.prog 129 args H nx K :=
  acalls_of_W (drawOk mixed) Try.func129 rfl (by kernel_rfl) (of_decide_eq_true (by kernel_rfl)) (by kernel_rfl) c_pleachref05_Row (by kernel_rfl) hal h
theorem p_pleachref05_Row {args : List AV} {r : AV} (hal : args.length ≤ 30) (hp : args.all pureA = true) (hr : pureA r = true) (h : W Try.prog s_pleachref05_Row (RETK r_pleachref05_Row fun a H _ => FRZ r a H) ⟨argE 0 args, [], 0⟩) : PCalls Try.prog 129 args r := .of hp (a_pleachref05_Row hal h) hr

/-! pleach/pleachref25.Props -/
abbrev n_pleachref25_Props : Nat := 130
def b_pleachref25_Props_0 : S :=
 (.seq (.seq (.ops [⟨none, some 7, .move (.t 3)⟩,
    ⟨none, some 8, .move (.t 0)⟩,
    ⟨none, some 9, .len (.t 8)⟩,
    ⟨none, some 10, .bin .lss (.t 7) (.t 9)⟩] [])
 (.cond (.t 10) .skip
  (.exit 0)))
 (.seq (.block 1 (.seq (.seq (.ops [⟨none, some 13, .move (.t 0)⟩,
    ⟨none, some 14, .move (.t 3)⟩,
    ⟨none, some 15, .idxA 4 (.t 13) (.t 14)⟩,
    ⟨none, some 16, .fieldA 0 1 (.t 15)⟩,
    ⟨none, some 17, .load false 1 (.t 16)⟩,
    ⟨none, some 18, .call 46 [(.t 17)]⟩,
    ⟨none, some 19, .un .not (.t 18)⟩,
    ⟨none, some 20, .move (.t 19)⟩,
    ⟨some (20, false), some 21, .move (.t 0)⟩,
    ⟨some (20, false), some 22, .move (.t 3)⟩,
    ⟨some (20, false), some 23, .idxA 4 (.t 21) (.t 22)⟩,
    ⟨some (20, false), some 24, .fieldA 1 3 (.t 23)⟩,
    ⟨some (20, false), some 25, .load true 3 (.t 24)⟩,
    ⟨some (20, false), some 26, .call 47 [(.t 25)]⟩,
    ⟨some (20, false), some 27, .un .not (.t 26)⟩,
    ⟨none, some 28, .pick (.t 20) (.k (.c (.p (.bool true)))) (.t 27)⟩] [])
  (.cond (.t 28) (.seq (.ops [⟨none, some 2, .move (.k (.c (.p (.int .i64 2))))⟩] [])
   .ret)
   .skip))
  (.seq (.draw [⟨none, some 29, .move (.t 3)⟩,
    ⟨none, some 30, .bin .gtr (.t 29) (.k (.c (.p (.int .i64 0))))⟩,
    ⟨none, some 31, .move (.t 30)⟩,
    ⟨some (31, true), some 32, .move (.t 0)⟩,
    ⟨some (31, true), some 33, .move (.t 3)⟩,
    ⟨some (31, true), some 34, .idxA 4 (.t 32) (.t 33)⟩,
    ⟨some (31, true), some 35, .fieldA 0 1 (.t 34)⟩,
    ⟨some (31, true), some 36, .load false 1 (.t 35)⟩,
    ⟨some (31, true), some 37, .move (.t 0)⟩,
    ⟨some (31, true), some 38, .move (.t 3)⟩,
    ⟨some (31, true), some 39, .bin .sub (.t 38) (.k (.c (.p (.int .i64 1))))⟩,
    ⟨some (31, true), some 40, .idxA 4 (.t 37) (.t 39)⟩,
    ⟨some (31, true), some 41, .fieldA 0 1 (.t 40)⟩,
    ⟨some (31, true), some 42, .load false 1 (.t 41)⟩,
    ⟨some (31, true), some 43, .bin .leq (.t 36) (.t 42)⟩,
    ⟨none, some 44, .pick (.t 31) (.t 43) (.k (.c (.p (.bool false))))⟩]
  [0, 1, 3, 7, 7, 31, 63, 127, 7, 7, 519, 1799, 3847, 7943, 16383, 32767] [])
  (.cond (.t 44) (.seq (.ops [⟨none, some 2, .move (.k (.c (.p (.int .i64 4))))⟩] [])
   .ret)
   .skip))))
 (.ops [⟨none, some 11, .move (.t 3)⟩,
    ⟨none, some 12, .bin .add (.t 11) (.k (.c (.p (.int .i64 1))))⟩,
    ⟨none, some 3, .move (.t 12)⟩] [])))
def s_pleachref25_Props : S :=
 (.seq (.ops [⟨none, some 2, .move (.k (.c (.p (.int .i64 0))))⟩] [])
 (.seq (.seq (.ops [⟨none, some 4, .move (.t 0)⟩,
    ⟨none, some 5, .len (.t 4)⟩,
    ⟨none, some 6, .bin .gtr (.t 5) (.k (.c (.p (.int .i64 8))))⟩] [])
 (.cond (.t 6) (.seq (.ops [⟨none, some 2, .move (.k (.c (.p (.int .i64 5))))⟩] [])
  .ret)
  .skip))
 (.seq (.seq (.ops [⟨none, some 3, .move (.k (.c (.p (.int .i64 0))))⟩] [])
 (.block 0 (.loop [0, 3] b_pleachref25_Props_0)))
 (.seq (.ops [⟨none, some 2, .move (.k (.c (.p (.int .i64 0))))⟩] [])
 .ret))))
theorem c_pleachref25_Props : comp Try.prog { own := [], mt := [], lp := [(0, [0, 3])], gh := [] } 45 (Try.f130.body.getD .skip) = some s_pleachref25_Props := by kernel_rfl
abbrev r_pleachref25_Props : List RV := [.tmp 2]
theorem a_pleachref25_Props {args : List AV} {H : List (Nat × Blk)} {nx : Nat} {K : AV → List (Nat × Blk) → Nat → Prop} (hal : args.length ≤ 45) (h : W Try.prog s_pleachref25_Props (RETK r_pleachref25_Props K) ⟨argE 0 args, H, nx⟩) : ACalls Try.prog 130 args H nx K :=
  acalls_of_W (drawOk mixed) Try.func130 rfl (by kernel_rfl) (of_decide_eq_true (by kernel_rfl)) (by kernel_rfl) c_pleachref25_Props (by kernel_rfl) hal h
theorem p_pleachref25_Props {args : List AV} {r : AV} (hal : args.length ≤ 45) (hp : args.all pureA = true) (hr : pureA r = true) (h : W Try.prog s_pleachref25_Props (RETK r_pleachref25_Props fun a H _ => FRZ r a H) ⟨argE 0 args, [], 0⟩) : PCalls Try.prog 130 args r := .of hp (a_pleachref25_Props hal h) hr

/-! slices.BinarySearchFunc[[]pleach/api.Prop,pleach/api.Prop,string] -/
abbrev n_slices_BinarySearchFunc_api_Prop_api_Prop_string : Nat := 131
def b_slices_BinarySearchFunc_api_Prop_api_Prop_string_0 : S :=
 (.seq (.seq (.ops [⟨none, some 15, .move (.t 9)⟩,
    ⟨none, some 16, .move (.t 10)⟩,
    ⟨none, some 17, .bin .lss (.t 15) (.t 16)⟩] [])
 (.cond (.t 17) .skip
  (.exit 0)))
 (.block 1 (.seq (.ops [⟨none, some 18, .move (.t 9)⟩,
    ⟨none, some 19, .move (.t 10)⟩,
    ⟨none, some 20, .bin .add (.t 18) (.t 19)⟩,
    ⟨none, some 21, .convI .u64 (.t 20)⟩,
    ⟨none, some 22, .bin .shr (.t 21) (.k (.c (.p (.int .u64 1))))⟩,
    ⟨none, some 23, .convI .i64 (.t 22)⟩,
    ⟨none, some 11, .move (.t 23)⟩] [])
  (.seq (.ops [⟨none, some 24, .move (.t 2)⟩,
    ⟨none, some 25, .move (.t 0)⟩,
    ⟨none, some 26, .move (.t 11)⟩,
    ⟨none, some 27, .idxA 4 (.t 25) (.t 26)⟩,
    ⟨none, some 28, .load true 4 (.t 27)⟩,
    ⟨none, some 29, .move (.t 1)⟩,
    ⟨none, some 30, .callv (.t 24) [(.t 28), (.t 29)]⟩,
    ⟨none, some 31, .bin .lss (.t 30) (.k (.c (.p (.int .i64 0))))⟩] [])
  (.cond (.t 31) (.ops [⟨none, some 32, .move (.t 11)⟩,
    ⟨none, some 33, .bin .add (.t 32) (.k (.c (.p (.int .i64 1))))⟩,
    ⟨none, some 9, .move (.t 33)⟩] [])
   (.ops [⟨none, some 34, .move (.t 11)⟩,
    ⟨none, some 10, .move (.t 34)⟩] []))))))
def s_slices_BinarySearchFunc_api_Prop_api_Prop_string : S :=
 (.seq (.ops [⟨none, some 6, .move (.k (.c (.p (.int .i64 0))))⟩,
    ⟨none, some 7, .move (.k (.c (.p (.bool false))))⟩] [])
 (.seq (.ops [⟨none, some 12, .move (.t 0)⟩,
    ⟨none, some 13, .len (.t 12)⟩,
    ⟨none, some 8, .move (.t 13)⟩] [])
 (.seq (.ops [⟨none, some 14, .move (.t 8)⟩,
    ⟨none, some 9, .move (.k (.c (.p (.int .i64 0))))⟩,
    ⟨none, some 10, .move (.t 14)⟩] [])
 (.seq (.block 0 (.loop [0, 1, 2, 8, 9, 10] b_slices_BinarySearchFunc_api_Prop_api_Prop_string_0))
 (.seq (.ops [⟨none, some 35, .move (.t 9)⟩,
    ⟨none, some 36, .move (.t 9)⟩,
    ⟨none, some 37, .move (.t 8)⟩,
    ⟨none, some 38, .bin .lss (.t 36) (.t 37)⟩,
    ⟨none, some 39, .move (.t 38)⟩,
    ⟨some (39, true), some 40, .move (.t 2)⟩,
    ⟨some (39, true), some 41, .move (.t 0)⟩,
    ⟨some (39, true), some 42, .move (.t 9)⟩,
    ⟨some (39, true), some 43, .idxA 4 (.t 41) (.t 42)⟩,
    ⟨some (39, true), some 44, .load true 4 (.t 43)⟩,
    ⟨some (39, true), some 45, .move (.t 1)⟩,
    ⟨some (39, true), some 46, .callv (.t 40) [(.t 44), (.t 45)]⟩,
    ⟨some (39, true), some 47, .bin .eql (.t 46) (.k (.c (.p (.int .i64 0))))⟩,
    ⟨none, some 48, .pick (.t 39) (.t 47) (.k (.c (.p (.bool false))))⟩,
    ⟨none, some 6, .move (.t 35)⟩,
    ⟨none, some 7, .move (.t 48)⟩] [])
 .ret)))))
theorem c_slices_BinarySearchFunc_api_Prop_api_Prop_string : comp Try.prog { own := [], mt := [], lp := [(0, [0, 1, 2, 8, 9, 10])], gh := [] } 49 (Try.f131.body.getD .skip) = some s_slices_BinarySearchFunc_api_Prop_api_Prop_string := by kernel_rfl
abbrev r_slices_BinarySearchFunc_api_Prop_api_Prop_string : List RV := [.tmp 6, .tmp 7]
theorem a_slices_BinarySearchFunc_api_Prop_api_Prop_string {args : List AV} {H : List (Nat × Blk)} {nx : Nat} {K : AV → List (Nat × Blk) → Nat → Prop} (hal : args.length ≤ 49) (h : W Try.prog s_slices_BinarySearchFunc_api_Prop_api_Prop_string (RETK r_slices_BinarySearchFunc_api_Prop_api_Prop_string K) ⟨argE 0 args, H, nx⟩) : ACalls Try.prog 131 args H nx K :=
  acalls_of_W (drawOk mixed) Try.func131 rfl (by kernel_rfl) (of_decide_eq_true (by kernel_rfl)) (by kernel_rfl) c_slices_BinarySearchFunc_api_Prop_api_Prop_string (by kernel_rfl) hal h
theorem p_slices_BinarySearchFunc_api_Prop_api_Prop_string {args : List AV} {r : AV} (hal : args.length ≤ 49) (hp : args.all pureA = true) (hr : pureA r = true) (h : W Try.prog s_slices_BinarySearchFunc_api_Prop_api_Prop_string (RETK r_slices_BinarySearchFunc_api_Prop_api_Prop_string fun a H _ => FRZ r a H) ⟨argE 0 args, [], 0⟩) : PCalls Try.prog 131 args r := .of hp (a_slices_BinarySearchFunc_api_Prop_api_Prop_string hal h) hr

/-! pleach/elem.find$1 -/
abbrev n_elem_find_1 : Nat := 132
def s_elem_find_1 : S :=
 (.seq (.ops [⟨none, some 2, .boxI (.t 0)⟩,
    ⟨none, some 4, .move (.k (.c (.p (.int .i64 0))))⟩] [])
 (.seq (.ops [⟨none, some 5, .fieldA 0 1 (.t 2)⟩,
    ⟨none, some 6, .load false 1 (.t 5)⟩,
    ⟨none, some 7, .move (.t 1)⟩,
    ⟨none, some 8, .call 110 [(.t 6), (.t 7)]⟩,
    ⟨none, some 4, .move (.t 8)⟩] [])
 .ret))
theorem c_elem_find_1 : comp Try.prog { own := [], mt := [], lp := [], gh := [] } 9 (Try.f132.body.getD .skip) = some s_elem_find_1 := by kernel_rfl
abbrev r_elem_find_1 : List RV := [.tmp 4]
theorem a_elem_find_1 {args : List AV} {H : List (Nat × Blk)} {nx : Nat} {K : AV → List (Nat × Blk) → Nat → Prop} (hal : args.length ≤ 9) (h : W Try.prog s_elem_find_1 (RETK r_elem_find_1 K) ⟨argE 0 args, H, nx⟩) : ACalls Try.prog 132 args H nx K :=
  acalls_of_W (drawOk mixed) Try.func132 rfl (by kernel_rfl) (of_decide_eq_true (by kernel_rfl)) (by kernel_rfl) c_elem_find_1 (by kernel_rfl) hal h
theorem p_elem_find_1 {args : List AV} {r : AV} (hal : args.length ≤ 9) (hp : args.all pureA = true) (hr : pureA r = true) (h : W Try.prog s_elem_find_1 (RETK r_elem_find_1 fun a H _ => FRZ r a H) ⟨argE 0 args, [], 0⟩) : PCalls Try.prog 132 args r := .of hp (a_elem_find_1 hal h) hr

/-! slices.rotateRight[pleach/api.Prop] -/
abbrev n_slices_rotateRight_api_Prop : Nat := 134
def s_slices_rotateRight_api_Prop : S :=
 (.ops [⟨none, some 4, .move (.t 0)⟩,
    ⟨none, some 5, .move (.t 0)⟩,
    ⟨none, some 6, .len (.t 5)⟩,
    ⟨none, some 7, .move (.t 1)⟩,
    ⟨none, some 8, .bin .sub (.t 6) (.t 7)⟩,
    ⟨none, some 9, .call 168 [(.t 4), (.t 8)]⟩] [])
theorem c_slices_rotateRight_api_Prop : comp Try.prog { own := [], mt := [], lp := [], gh := [] } 10 (Try.f134.body.getD .skip) = some s_slices_rotateRight_api_Prop := by kernel_rfl
abbrev r_slices_rotateRight_api_Prop : List RV := []
theorem a_slices_rotateRight_api_Prop {args : List AV} {H : List (Nat × Blk)} {nx : Nat} {K : AV → List (Nat × Blk) → Nat → Prop} (hal : args.length ≤ 10) (h : W Try.prog s_slices_rotateRight_api_Prop (RETK r_slices_rotateRight_api_Prop K) ⟨argE 0 args, H, nx⟩) : ACalls Try.prog 134 args H nx K :=
  acalls_of_W (drawOk mixed) Try.func134 rfl (by kernel_rfl) (of_decide_eq_true (by kernel_rfl)) (by kernel_rfl) c_slices_rotateRight_api_Prop (by kernel_rfl) hal h
theorem p_slices_rotateRight_api_Prop {args : List AV} {r : AV} (hal : args.length ≤ 10) (hp : args.all pureA = true) (hr : pureA r = true) (h : W Try.prog s_slices_rotateRight_api_Prop (RETK r_slices_rotateRight_api_Prop fun a H _ => FRZ r a H) ⟨argE 0 args, [], 0⟩) : PCalls Try.prog 134 args r := .of hp (a_slices_rotateRight_api_Prop hal h) hr

/-! pleach/name.Find -/
abbrev n_name_Find : Nat := 135
def s_name_Find : S :=
 (.seq (.ops [⟨none, some 4, .move (.k (.c (.p (.int .i64 0))))⟩,
    ⟨none, some 5, .move (.k (.c (.p (.bool false))))⟩] [])
 (.seq (.ops [⟨none, some 6, .move (.t 0)⟩,
    ⟨none, some 7, .move (.t 1)⟩,
    ⟨none, some 8, .call 169 [(.t 6), (.t 7)]⟩,
    ⟨none, some 9, .extract (.t 8) 0⟩,
    ⟨none, some 10, .extract (.t 8) 1⟩,
    ⟨none, some 4, .move (.t 9)⟩,
    ⟨none, some 5, .move (.t 10)⟩] [])
 .ret))
theorem c_name_Find : comp Try.prog { own := [], mt := [], lp := [], gh := [] } 11 (Try.f135.body.getD .skip) = some s_name_Find := by kernel_rfl
abbrev r_name_Find : List RV := [.tmp 4, .tmp 5]
theorem a_name_Find {args : List AV} {H : List (Nat × Blk)} {nx : Nat} {K : AV → List (Nat × Blk) → Nat → Prop} (hal : args.length ≤ 11) (h : W Try.prog s_name_Find (RETK r_name_Find K) ⟨argE 0 args, H, nx⟩) : ACalls Try.prog 135 args H nx K :=
  acalls_of_W (drawOk mixed) Try.func135 rfl (by kernel_rfl) (of_decide_eq_true (by kernel_rfl)) (by kernel_rfl) c_name_Find (by kernel_rfl) hal h
theorem p_name_Find {args : List AV} {r : AV} (hal : args.length ≤ 11) (hp : args.all pureA = true) (hr : pureA r = true) (h : W Try.prog s_name_Find (RETK r_name_Find fun a H _ => FRZ r a H) ⟨argE 0 args, [], 0⟩) : PCalls Try.prog 135 args r := .of hp (a_name_Find hal h) hr

/-! slices.Delete[[]string,string] -/
abbrev n_slices_Delete_string_string : Nat := 137
def s_slices_Delete_string_string : S :=
 (.seq (.ops [⟨none, some 6, .move (.k (.c (.p .nil)))⟩] [])
 (.seq (.ops [⟨none, some 8, .move (.t 0)⟩,
    ⟨none, some 9, .move (.t 1)⟩,
    ⟨none, some 10, .move (.t 2)⟩,
    ⟨none, some 11, .move (.t 0)⟩,
    ⟨none, some 12, .len (.t 11)⟩,
    ⟨none, some 13, .slice 1 (.t 8) (some (.t 9)) (some (.t 10)) (some (.t 12))⟩] [])
 (.seq (.seq (.ops [⟨none, some 14, .move (.t 1)⟩,
    ⟨none, some 15, .move (.t 2)⟩,
    ⟨none, some 16, .bin .eql (.t 14) (.t 15)⟩] [])
 (.cond (.t 16) (.seq (.ops [⟨none, some 17, .move (.t 0)⟩,
    ⟨none, some 6, .move (.t 17)⟩] [])
  .ret)
  .skip))
 (.seq (.ops [⟨none, some 18, .move (.t 0)⟩,
    ⟨none, some 19, .len (.t 18)⟩,
    ⟨none, some 7, .move (.t 19)⟩] [])
 (.seq (.draw [⟨none, some 20, .move (.t 0)⟩,
    ⟨none, some 21, .move (.t 1)⟩,
    ⟨none, some 22, .slice 1 (.t 20) none (some (.t 21)) none⟩,
    ⟨none, some 23, .move (.t 0)⟩,
    ⟨none, some 24, .move (.t 2)⟩,
    ⟨none, some 25, .slice 1 (.t 23) (some (.t 24)) none none⟩,
    ⟨none, some 26, .append 1 16 (.t 22) (.t 25)⟩,
    ⟨none, some 0, .move (.t 26)⟩]
 [0, 0, 3, 0, 0, 24, 63, 127] [])
 (.seq (.ops [⟨none, some 27, .move (.t 0)⟩,
    ⟨none, some 28, .move (.t 0)⟩,
    ⟨none, some 29, .len (.t 28)⟩,
    ⟨none, some 30, .move (.t 7)⟩,
    ⟨none, some 31, .slice 1 (.t 27) (some (.t 29)) (some (.t 30)) none⟩,
    ⟨none, none, .clear 1 [.p (.str [])] (.t 31)⟩] [])
 (.seq (.ops [⟨none, some 32, .move (.t 0)⟩,
    ⟨none, some 6, .move (.t 32)⟩] [.trim 6])
 .ret)))))))
theorem c_slices_Delete_string_string : comp Try.prog { own := [], mt := [], lp := [], gh := [(7, [.trim 6])] } 33 (Try.f137.body.getD .skip) = some s_slices_Delete_string_string := by kernel_rfl
abbrev r_slices_Delete_string_string : List RV := [.tmp 6]
theorem a_slices_Delete_string_string {args : List AV} {H : List (Nat × Blk)} {nx : Nat} {K : AV → List (Nat × Blk) → Nat → Prop} (hal : args.length ≤ 33) (h : W Try.prog s_slices_Delete_string_string (RETK r_slices_Delete_string_string K) ⟨argE 0 args, H, nx⟩) : ACalls Try.prog 137 args H nx K :=
  acalls_of_W (drawOk mixed) Try.func137 rfl (by kernel_rfl) (of_decide_eq_true (by kernel_rfl)) (by kernel_rfl) c_slices_Delete_string_string (by kernel_rfl) hal h
theorem p_slices_Delete_string_string {args : List AV} {r : AV} (hal : args.length ≤ 33) (hp : args.all pureA = true) (hr : pureA r = true) (h : W Try.prog s_slices_Delete_string_string (RETK r_slices_Delete_string_string fun a H _ => FRZ r a H) ⟨argE 0 args, [], 0⟩) : PCalls Try.prog 137 args r := .of hp (a_slices_Delete_string_string hal h) hr

/-! pleach/pleachref05.Less -/
abbrev n_pleachref05_Less : Nat := 138
def b_pleachref05_Less_0 : S :=
 (.seq (.seq (.ops [⟨none, some 7, .move (.t 6)⟩,
    ⟨none, some 8, .move (.t 0)⟩,
    ⟨none, some 9, .len (.t 8)⟩,
    ⟨none, some 10, .bin .lss (.t 7) (.t 9)⟩] [])
 (.cond (.t 10) .skip
  (.exit 0)))
 (.seq (.block 1 (.seq (.ops [⟨none, some 13, .move (.t 0)⟩,
    ⟨none, some 14, .move (.t 6)⟩,
    ⟨none, some 15, .idxA 1 (.t 13) (.t 14)⟩,
    ⟨none, some 16, .load false 1 (.t 15)⟩,
    ⟨none, some 17, .move (.t 1)⟩,
    ⟨none, some 18, .bin .lss (.t 16) (.t 17)⟩] [])
  (.cond (.t 18) (.ops [⟨none, some 19, .move (.t 5)⟩,
    ⟨none, some 20, .bin .add (.t 19) (.k (.c (.p (.int .i64 1))))⟩,
    ⟨none, some 5, .move (.t 20)⟩] [])
   .skip)))
 (.ops [⟨none, some 11, .move (.t 6)⟩,
    ⟨none, some 12, .bin .add (.t 11) (.k (.c (.p (.int .i64 1))))⟩,
    ⟨none, some 6, .move (.t 12)⟩] [])))
def s_pleachref05_Less : S :=
 (.seq (.ops [⟨none, some 4, .move (.k (.c (.p (.int .i64 0))))⟩] [])
 (.seq (.ops [⟨none, some 5, .move (.k (.c (.p (.int .i64 0))))⟩] [])
 (.seq (.seq (.ops [⟨none, some 6, .move (.k (.c (.p (.int .i64 0))))⟩] [])
 (.block 0 (.loop [0, 1, 5, 6] b_pleachref05_Less_0)))
 (.seq (.ops [⟨none, some 21, .move (.t 5)⟩,
    ⟨none, some 4, .move (.t 21)⟩] [])
 .ret))))
theorem c_pleachref05_Less : comp Try.prog { own := [], mt := [], lp := [(0, [0, 1, 5, 6])], gh := [] } 22 (Try.f138.body.getD .skip) = some s_pleachref05_Less := by kernel_rfl
abbrev r_pleachref05_Less : List RV := [.tmp 4]
theorem a_pleachref05_Less {args : List AV} {H : List (Nat × Blk)} {nx : Nat} {K : AV → List (Nat × Blk) → Nat → Prop} (hal : args.length ≤ 22) (h : W Try.prog s_pleachref05_Less (RETK r_pleachref05_Less K) ⟨argE 0 args, H, nx⟩) : ACalls Try.prog 138 args H nx K :=
  acalls_of_W (drawOk mixed) Try.func138 rfl (by kernel_rfl) (of_decide_eq_true (by kernel_rfl)) (by kernel_rfl) c_pleachref05_Less (by kernel_rfl) hal h
theorem p_pleachref05_Less {args : List AV} {r : AV} (hal : args.length ≤ 22) (hp : args.all pureA = true) (hr : pureA r = true) (h : W Try.prog s_pleachref05_Less (RETK r_pleachref05_Less fun a H _ => FRZ r a H) ⟨argE 0 args, [], 0⟩) : PCalls Try.prog 138 args r := .of hp (a_pleachref05_Less hal h) hr

/-! pleach/graph.edge -/
abbrev n_graph_edge : Nat := 139
def s_graph_edge : S :=
 (.seq (.ops [⟨none, some 2, .box (.t 0)⟩,
    ⟨none, some 4, .move (.k (.c (.p (.int .i64 0))))⟩,
    ⟨none, some 5, .move (.k (.c (.p (.bool false))))⟩] [])
 (.seq (.ops [⟨none, some 6, .fieldA 1 1 (.t 2)⟩,
    ⟨none, some 7, .load false 1 (.t 6)⟩,
    ⟨none, some 8, .move (.t 1)⟩,
    ⟨none, some 9, .call 172 [(.t 7), (.t 8), (.k (.c (.p (.fn 173 []))))]⟩,
    ⟨none, some 10, .extract (.t 9) 0⟩,
    ⟨none, some 11, .extract (.t 9) 1⟩,
    ⟨none, some 4, .move (.t 10)⟩,
    ⟨none, some 5, .move (.t 11)⟩] [])
 .ret))
theorem c_graph_edge : comp Try.prog { own := [], mt := [2], lp := [], gh := [] } 12 (Try.f139.body.getD .skip) = some s_graph_edge := by kernel_rfl
abbrev r_graph_edge : List RV := [.tmp 4, .tmp 5]
theorem a_graph_edge {args : List AV} {H : List (Nat × Blk)} {nx : Nat} {K : AV → List (Nat × Blk) → Nat → Prop} (hal : args.length ≤ 12) (h : W Try.prog s_graph_edge (RETK r_graph_edge K) ⟨argE 0 args, H, nx⟩) : ACalls Try.prog 139 args H nx K :=
  acalls_of_W (drawOk mixed) Try.func139 rfl (by kernel_rfl) (of_decide_eq_true (by kernel_rfl)) (by kernel_rfl) c_graph_edge (by kernel_rfl) hal h
theorem p_graph_edge {args : List AV} {r : AV} (hal : args.length ≤ 12) (hp : args.all pureA = true) (hr : pureA r = true) (h : W Try.prog s_graph_edge (RETK r_graph_edge fun a H _ => FRZ r a H) ⟨argE 0 args, [], 0⟩) : PCalls Try.prog 139 args r := .of hp (a_graph_edge hal h) hr

/-! slices.Delete[[]pleach/api.Edge,pleach/api.Edge] -/
abbrev n_slices_Delete_api_Edge_api_Edge : Nat := 142
def s_slices_Delete_api_Edge_api_Edge : S :=
 (.seq (.ops [⟨none, some 6, .move (.k (.c (.p .nil)))⟩] [])
 (.seq (.ops [⟨none, some 8, .move (.t 0)⟩,
    ⟨none, some 9, .move (.t 1)⟩,
    ⟨none, some 10, .move (.t 2)⟩,
    ⟨none, some 11, .move (.t 0)⟩,
    ⟨none, some 12, .len (.t 11)⟩,
    ⟨none, some 13, .slice 5 (.t 8) (some (.t 9)) (some (.t 10)) (some (.t 12))⟩] [])
 (.seq (.seq (.ops [⟨none, some 14, .move (.t 1)⟩,
    ⟨none, some 15, .move (.t 2)⟩,
    ⟨none, some 16, .bin .eql (.t 14) (.t 15)⟩] [])
 (.cond (.t 16) (.seq (.ops [⟨none, some 17, .move (.t 0)⟩,
    ⟨none, some 6, .move (.t 17)⟩] [])
  .ret)
  .skip))
 (.seq (.ops [⟨none, some 18, .move (.t 0)⟩,
    ⟨none, some 19, .len (.t 18)⟩,
    ⟨none, some 7, .move (.t 19)⟩] [])
 (.seq (.draw [⟨none, some 20, .move (.t 0)⟩,
    ⟨none, some 21, .move (.t 1)⟩,
    ⟨none, some 22, .slice 5 (.t 20) none (some (.t 21)) none⟩,
    ⟨none, some 23, .move (.t 0)⟩,
    ⟨none, some 24, .move (.t 2)⟩,
    ⟨none, some 25, .slice 5 (.t 23) (some (.t 24)) none none⟩,
    ⟨none, some 26, .append 5 96 (.t 22) (.t 25)⟩,
    ⟨none, some 0, .move (.t 26)⟩]
 [0, 0, 3, 0, 0, 24, 63, 127] [])
 (.seq (.ops [⟨none, some 27, .move (.t 0)⟩,
    ⟨none, some 28, .move (.t 0)⟩,
    ⟨none, some 29, .len (.t 28)⟩,
    ⟨none, some 30, .move (.t 7)⟩,
    ⟨none, some 31, .slice 5 (.t 27) (some (.t 29)) (some (.t 30)) none⟩,
    ⟨none, none, .clear 5 [.p (.str []), .p (.str []), .p (.str []), .p .nil, .p .nil] (.t 31)⟩] [])
 (.seq (.ops [⟨none, some 32, .move (.t 0)⟩,
    ⟨none, some 6, .move (.t 32)⟩] [.trim 6])
 .ret)))))))
theorem c_slices_Delete_api_Edge_api_Edge : comp Try.prog { own := [], mt := [], lp := [], gh := [(7, [.trim 6])] } 33 (Try.f142.body.getD .skip) = some s_slices_Delete_api_Edge_api_Edge := by kernel_rfl
abbrev r_slices_Delete_api_Edge_api_Edge : List RV := [.tmp 6]
theorem a_slices_Delete_api_Edge_api_Edge {args : List AV} {H : List (Nat × Blk)} {nx : Nat} {K : AV → List (Nat × Blk) → Nat → Prop} (hal : args.length ≤ 33) (h : W Try.prog s_slices_Delete_api_Edge_api_Edge (RETK r_slices_Delete_api_Edge_api_Edge K) ⟨argE 0 args, H, nx⟩) : ACalls Try.prog 142 args H nx K :=
  acalls_of_W (drawOk mixed) Try.func142 rfl (by kernel_rfl) (of_decide_eq_true (by kernel_rfl)) (by kernel_rfl) c_slices_Delete_api_Edge_api_Edge (by kernel_rfl) hal h
theorem p_slices_Delete_api_Edge_api_Edge {args : List AV} {r : AV} (hal : args.length ≤ 33) (hp : args.all pureA = true) (hr : pureA r = true) (h : W Try.prog s_slices_Delete_api_Edge_api_Edge (RETK r_slices_Delete_api_Edge_api_Edge fun a H _ => FRZ r a H) ⟨argE 0 args, [], 0⟩) : PCalls Try.prog 142 args r := .of hp (a_slices_Delete_api_Edge_api_Edge hal h) hr

/-! slices.ContainsFunc[[]pleach/api.Edge,pleach/api.Edge] -/
abbrev n_slices_ContainsFunc_api_Edge_api_Edge : Nat := 143
def s_slices_ContainsFunc_api_Edge_api_Edge : S :=
 (.seq (.ops [⟨none, some 4, .move (.k (.c (.p (.bool false))))⟩] [])
 (.seq (.ops [⟨none, some 5, .move (.t 0)⟩,
    ⟨none, some 6, .move (.t 1)⟩,
    ⟨none, some 7, .call 178 [(.t 5), (.t 6)]⟩,
    ⟨none, some 8, .bin .geq (.t 7) (.k (.c (.p (.int .i64 0))))⟩,
    ⟨none, some 4, .move (.t 8)⟩] [])
 .ret))
theorem c_slices_ContainsFunc_api_Edge_api_Edge : comp Try.prog { own := [], mt := [], lp := [], gh := [] } 9 (Try.f143.body.getD .skip) = some s_slices_ContainsFunc_api_Edge_api_Edge := by kernel_rfl
abbrev r_slices_ContainsFunc_api_Edge_api_Edge : List RV := [.tmp 4]
theorem a_slices_ContainsFunc_api_Edge_api_Edge {args : List AV} {H : List (Nat × Blk)} {nx : Nat} {K : AV → List (Nat × Blk) → Nat → Prop} (hal : args.length ≤ 9) (h : W Try.prog s_slices_ContainsFunc_api_Edge_api_Edge (RETK r_slices_ContainsFunc_api_Edge_api_Edge K) ⟨argE 0 args, H, nx⟩) : ACalls Try.prog 143 args H nx K :=
  acalls_of_W (drawOk mixed) Try.func143 rfl (by kernel_rfl) (of_decide_eq_true (by kernel_rfl)) (by kernel_rfl) c_slices_ContainsFunc_api_Edge_api_Edge (by kernel_rfl) hal h
theorem p_slices_ContainsFunc_api_Edge_api_Edge {args : List AV} {r : AV} (hal : args.length ≤ 9) (hp : args.all pureA = true) (hr : pureA r = true) (h : W Try.prog s_slices_ContainsFunc_api_Edge_api_Edge (RETK r_slices_ContainsFunc_api_Edge_api_Edge fun a H _ => FRZ r a H) ⟨argE 0 args, [], 0⟩) : PCalls Try.prog 143 args r := .of hp (a_slices_ContainsFunc_api_Edge_api_Edge hal h) hr

/-! (*pleach/graph.change).goes$1 -/
abbrev n_graph_change_goes_1 : Nat := 144
def s_graph_change_goes_1 : S :=
 (.seq (.ops [⟨none, some 2, .boxI (.t 0)⟩,
    ⟨none, some 3, .move (.k (.c (.p (.bool false))))⟩] [])
 (.seq (.ops [⟨none, some 4, .fieldA 1 1 (.t 2)⟩,
    ⟨none, some 5, .load false 1 (.t 4)⟩,
    ⟨none, some 6, .fieldA 1 1 (.t 1)⟩,
    ⟨none, some 7, .load false 1 (.t 6)⟩,
    ⟨none, some 8, .bin .eql (.t 5) (.t 7)⟩,
    ⟨none, some 9, .move (.t 8)⟩,
    ⟨some (9, false), some 10, .fieldA 2 1 (.t 2)⟩,
    ⟨some (9, false), some 11, .load false 1 (.t 10)⟩,
    ⟨some (9, false), some 12, .fieldA 1 1 (.t 1)⟩,
    ⟨some (9, false), some 13, .load false 1 (.t 12)⟩,
    ⟨some (9, false), some 14, .bin .eql (.t 11) (.t 13)⟩,
    ⟨none, some 15, .pick (.t 9) (.k (.c (.p (.bool true)))) (.t 14)⟩,
    ⟨none, some 3, .move (.t 15)⟩] [])
 .ret))
theorem c_graph_change_goes_1 : comp Try.prog { own := [], mt := [], lp := [], gh := [] } 16 (Try.f144.body.getD .skip) = some s_graph_change_goes_1 := by kernel_rfl
abbrev r_graph_change_goes_1 : List RV := [.tmp 3]
theorem a_graph_change_goes_1 {args : List AV} {H : List (Nat × Blk)} {nx : Nat} {K : AV → List (Nat × Blk) → Nat → Prop} (hal : args.length ≤ 16) (h : W Try.prog s_graph_change_goes_1 (RETK r_graph_change_goes_1 K) ⟨argE 0 args, H, nx⟩) : ACalls Try.prog 144 args H nx K :=
  acalls_of_W (drawOk mixed) Try.func144 rfl (by kernel_rfl) (of_decide_eq_true (by kernel_rfl)) (by kernel_rfl) c_graph_change_goes_1 (by kernel_rfl) hal h
theorem p_graph_change_goes_1 {args : List AV} {r : AV} (hal : args.length ≤ 16) (hp : args.all pureA = true) (hr : pureA r = true) (h : W Try.prog s_graph_change_goes_1 (RETK r_graph_change_goes_1 fun a H _ => FRZ r a H) ⟨argE 0 args, [], 0⟩) : PCalls Try.prog 144 args r := .of hp (a_graph_change_goes_1 hal h) hr

/-! slices.Delete[[]pleach/api.Node,pleach/api.Node] -/
abbrev n_slices_Delete_api_Node_api_Node : Nat := 145
def s_slices_Delete_api_Node_api_Node : S :=
 (.seq (.ops [⟨none, some 6, .move (.k (.c (.p .nil)))⟩] [])
 (.seq (.ops [⟨none, some 8, .move (.t 0)⟩,
    ⟨none, some 9, .move (.t 1)⟩,
    ⟨none, some 10, .move (.t 2)⟩,
    ⟨none, some 11, .move (.t 0)⟩,
    ⟨none, some 12, .len (.t 11)⟩,
    ⟨none, some 13, .slice 3 (.t 8) (some (.t 9)) (some (.t 10)) (some (.t 12))⟩] [])
 (.seq (.seq (.ops [⟨none, some 14, .move (.t 1)⟩,
    ⟨none, some 15, .move (.t 2)⟩,
    ⟨none, some 16, .bin .eql (.t 14) (.t 15)⟩] [])
 (.cond (.t 16) (.seq (.ops [⟨none, some 17, .move (.t 0)⟩,
    ⟨none, some 6, .move (.t 17)⟩] [])
  .ret)
  .skip))
 (.seq (.ops [⟨none, some 18, .move (.t 0)⟩,
    ⟨none, some 19, .len (.t 18)⟩,
    ⟨none, some 7, .move (.t 19)⟩] [])
 (.seq (.draw [⟨none, some 20, .move (.t 0)⟩,
    ⟨none, some 21, .move (.t 1)⟩,
    ⟨none, some 22, .slice 3 (.t 20) none (some (.t 21)) none⟩,
    ⟨none, some 23, .move (.t 0)⟩,
    ⟨none, some 24, .move (.t 2)⟩,
    ⟨none, some 25, .slice 3 (.t 23) (some (.t 24)) none none⟩,
    ⟨none, some 26, .append 3 64 (.t 22) (.t 25)⟩,
    ⟨none, some 0, .move (.t 26)⟩]
 [0, 0, 3, 0, 0, 24, 63, 127] [])
 (.seq (.ops [⟨none, some 27, .move (.t 0)⟩,
    ⟨none, some 28, .move (.t 0)⟩,
    ⟨none, some 29, .len (.t 28)⟩,
    ⟨none, some 30, .move (.t 7)⟩,
    ⟨none, some 31, .slice 3 (.t 27) (some (.t 29)) (some (.t 30)) none⟩,
    ⟨none, none, .clear 3 [.p (.str []), .p .nil, .p .nil] (.t 31)⟩] [])
 (.seq (.ops [⟨none, some 32, .move (.t 0)⟩,
    ⟨none, some 6, .move (.t 32)⟩] [.trim 6])
 .ret)))))))
theorem c_slices_Delete_api_Node_api_Node : comp Try.prog { own := [], mt := [], lp := [], gh := [(7, [.trim 6])] } 33 (Try.f145.body.getD .skip) = some s_slices_Delete_api_Node_api_Node := by kernel_rfl
abbrev r_slices_Delete_api_Node_api_Node : List RV := [.tmp 6]
theorem a_slices_Delete_api_Node_api_Node {args : List AV} {H : List (Nat × Blk)} {nx : Nat} {K : AV → List (Nat × Blk) → Nat → Prop} (hal : args.length ≤ 33) (h : W Try.prog s_slices_Delete_api_Node_api_Node (RETK r_slices_Delete_api_Node_api_Node K) ⟨argE 0 args, H, nx⟩) : ACalls Try.prog 145 args H nx K :=
  acalls_of_W (drawOk mixed) Try.func145 rfl (by kernel_rfl) (of_decide_eq_true (by kernel_rfl)) (by kernel_rfl) c_slices_Delete_api_Node_api_Node (by kernel_rfl) hal h
theorem p_slices_Delete_api_Node_api_Node {args : List AV} {r : AV} (hal : args.length ≤ 33) (hp : args.all pureA = true) (hr : pureA r = true) (h : W Try.prog s_slices_Delete_api_Node_api_Node (RETK r_slices_Delete_api_Node_api_Node fun a H _ => FRZ r a H) ⟨argE 0 args, [], 0⟩) : PCalls Try.prog 145 args r := .of hp (a_slices_Delete_api_Node_api_Node hal h) hr

/-! pleach/name.Row -/
abbrev n_name_Row : Nat := 146
def b_name_Row_0 : S :=
 (.seq (.ops [⟨none, some 9, .bin .lss (.t 8) (.t 7)⟩] [])
 (.seq (.cond (.t 9) .skip
  (.exit 0))
 (.seq (.block 1 (.seq (.ops [⟨none, some 10, .move (.t 8)⟩,
    ⟨none, some 11, .idxA 1 (.t 6) (.t 8)⟩,
    ⟨none, some 12, .load false 1 (.t 11)⟩,
    ⟨none, some 3, .move (.t 10)⟩,
    ⟨none, some 4, .move (.t 12)⟩] [])
  (.seq (.seq (.ops [⟨none, some 13, .move (.t 4)⟩,
    ⟨none, some 14, .call 48 [(.t 13)]⟩,
    ⟨none, some 5, .move (.t 14)⟩] [])
  (.seq (.ops [⟨none, some 15, .move (.t 5)⟩,
    ⟨none, some 16, .bin .neq (.t 15) (.k (.c (.p (.int .i64 0))))⟩] [])
  (.cond (.t 16) (.seq (.ops [⟨none, some 17, .move (.t 5)⟩,
    ⟨none, some 2, .move (.t 17)⟩] [])
   .ret)
   .skip)))
  (.seq (.ops [⟨none, some 18, .move (.t 3)⟩,
    ⟨none, some 19, .bin .gtr (.t 18) (.k (.c (.p (.int .i64 0))))⟩,
    ⟨none, some 20, .move (.t 19)⟩,
    ⟨some (20, true), some 21, .move (.t 0)⟩,
    ⟨some (20, true), some 22, .move (.t 3)⟩,
    ⟨some (20, true), some 23, .bin .sub (.t 22) (.k (.c (.p (.int .i64 1))))⟩,
    ⟨some (20, true), some 24, .idxA 1 (.t 21) (.t 23)⟩,
    ⟨some (20, true), some 25, .load false 1 (.t 24)⟩,
    ⟨some (20, true), some 26, .move (.t 4)⟩,
    ⟨some (20, true), some 27, .bin .geq (.t 25) (.t 26)⟩,
    ⟨none, some 28, .pick (.t 20) (.t 27) (.k (.c (.p (.bool false))))⟩] [])
  (.cond (.t 28) (.seq (.ops [⟨none, some 2, .move (.k (.c (.p (.int .i64 4))))⟩] [])
   .ret)
   .skip)))))
 (.ops [⟨none, some 29, .bin .add (.t 8) (.k (.c (.p (.int .i64 1))))⟩,
    ⟨none, some 8, .move (.t 29)⟩] []))))
def s_name_Row : S :=
 (.seq (.ops [⟨none, some 2, .move (.k (.c (.p (.int .i64 0))))⟩] [])
 (.seq (.seq (.ops [⟨none, some 6, .move (.t 0)⟩,
    ⟨none, some 7, .len (.t 6)⟩,
    ⟨none, some 8, .move (.k (.c (.p (.int .i64 0))))⟩] [])
 (.block 0 (.loop [0, 6, 7, 8] b_name_Row_0)))
 (.seq (.ops [⟨none, some 2, .move (.k (.c (.p (.int .i64 0))))⟩] [])
 .ret)))
theorem c_name_Row : comp Try.prog { own := [], mt := [], lp := [(0, [0, 6, 7, 8])], gh := [] } 30 (Try.f146.body.getD .skip) = some s_name_Row := by kernel_rfl
abbrev r_name_Row : List RV := [.tmp 2]
theorem a_name_Row {args : List AV} {H : List (Nat × Blk)} {nx : Nat} {K : AV → List (Nat × Blk) → Nat → Prop} (hal : args.length ≤ 30) (h : W Try.prog s_name_Row (RETK r_name_Row K) ⟨argE 0 args, H, nx⟩) : ACalls Try.prog 146 args H nx K :=
  acalls_of_W (drawOk mixed) Try.func146 rfl (by kernel_rfl) (of_decide_eq_true (by kernel_rfl)) (by kernel_rfl) c_name_Row (by kernel_rfl) hal h
theorem p_name_Row {args : List AV} {r : AV} (hal : args.length ≤ 30) (hp : args.all pureA = true) (hr : pureA r = true) (h : W Try.prog s_name_Row (RETK r_name_Row fun a H _ => FRZ r a H) ⟨argE 0 args, [], 0⟩) : PCalls Try.prog 146 args r := .of hp (a_name_Row hal h) hr

/-! pleach/elem.CheckProps -/
abbrev n_elem_CheckProps : Nat := 147
def b_elem_CheckProps_0 : S :=
 (.seq (.ops [⟨none, some 11, .bin .lss (.t 10) (.t 9)⟩] [])
 (.seq (.cond (.t 11) .skip
  (.exit 0))
 (.seq (.block 1 (.seq (.ops [⟨none, some 12, .move (.t 10)⟩,
    ⟨none, some 13, .idxA 4 (.t 8) (.t 10)⟩,
    ⟨none, some 14, .load true 4 (.t 13)⟩,
    ⟨none, some 4, .allocB 4 [[.p (.str []), .p (.int .i64 0), .p (.int .i64 0), .p (.str [])]]⟩,
    ⟨none, some 3, .move (.t 12)⟩,
    ⟨none, none, .store 4 (.t 4) (.t 14)⟩] [.frz 4])
  (.block 2 (.seq (.ops [⟨none, some 16, .fieldA 0 1 (.t 4)⟩,
    ⟨none, some 17, .load false 1 (.t 16)⟩,
    ⟨none, some 18, .call 48 [(.t 17)]⟩,
    ⟨none, some 19, .bin .neq (.t 18) (.k (.c (.p (.int .i64 0))))⟩,
    ⟨none, some 20, .move (.t 19)⟩,
    ⟨some (20, false), some 21, .fieldA 1 3 (.t 4)⟩,
    ⟨some (20, false), some 22, .load true 3 (.t 21)⟩,
    ⟨some (20, false), some 23, .call 94 [(.t 22)]⟩,
    ⟨some (20, false), some 24, .bin .neq (.t 23) (.k (.c (.p (.int .i64 0))))⟩,
    ⟨none, some 25, .pick (.t 20) (.k (.c (.p (.bool true)))) (.t 24)⟩,
    ⟨none, some 15, .move (.t 25)⟩] [])
   (.cond (.t 15) (.seq (.ops [⟨none, some 2, .move (.k (.c (.p (.int .i64 2))))⟩] [])
    .ret)
    (.seq (.draw [⟨none, some 27, .move (.t 3)⟩,
    ⟨none, some 28, .bin .gtr (.t 27) (.k (.c (.p (.int .i64 0))))⟩,
    ⟨none, some 29, .move (.t 28)⟩,
    ⟨some (29, true), some 30, .move (.t 0)⟩,
    ⟨some (29, true), some 31, .move (.t 3)⟩,
    ⟨some (29, true), some 32, .bin .sub (.t 31) (.k (.c (.p (.int .i64 1))))⟩,
    ⟨some (29, true), some 33, .idxA 4 (.t 30) (.t 32)⟩,
    ⟨some (29, true), some 34, .fieldA 0 1 (.t 33)⟩,
    ⟨some (29, true), some 35, .load false 1 (.t 34)⟩,
    ⟨some (29, true), some 36, .fieldA 0 1 (.t 4)⟩,
    ⟨some (29, true), some 37, .load false 1 (.t 36)⟩,
    ⟨some (29, true), some 38, .bin .geq (.t 35) (.t 37)⟩,
    ⟨none, some 39, .pick (.t 29) (.t 38) (.k (.c (.p (.bool false))))⟩,
    ⟨none, some 26, .move (.t 39)⟩]
    [0, 1, 3, 7, 7, 23, 63, 127, 255, 7, 519, 2047, 4095, 8191] [])
    (.cond (.t 26) (.seq (.ops [⟨none, some 2, .move (.k (.c (.p (.int .i64 4))))⟩] [])
     .ret)
     .skip)))))))
 (.ops [⟨none, some 40, .bin .add (.t 10) (.k (.c (.p (.int .i64 1))))⟩,
    ⟨none, some 10, .move (.t 40)⟩] []))))
def s_elem_CheckProps : S :=
 (.seq (.ops [⟨none, some 2, .move (.k (.c (.p (.int .i64 0))))⟩] [])
 (.seq (.seq (.ops [⟨none, some 5, .move (.t 0)⟩,
    ⟨none, some 6, .len (.t 5)⟩,
    ⟨none, some 7, .bin .gtr (.t 6) (.k (.c (.p (.int .i64 8))))⟩] [])
 (.cond (.t 7) (.seq (.ops [⟨none, some 2, .move (.k (.c (.p (.int .i64 5))))⟩] [])
  .ret)
  .skip))
 (.seq (.seq (.ops [⟨none, some 8, .move (.t 0)⟩,
    ⟨none, some 9, .len (.t 8)⟩,
    ⟨none, some 10, .move (.k (.c (.p (.int .i64 0))))⟩] [])
 (.block 0 (.loop [0, 8, 9, 10] b_elem_CheckProps_0)))
 (.seq (.ops [⟨none, some 2, .move (.k (.c (.p (.int .i64 0))))⟩] [])
 .ret))))
theorem c_elem_CheckProps : comp Try.prog { own := [], mt := [], lp := [(0, [0, 8, 9, 10])], gh := [(5, [.frz 4])] } 41 (Try.f147.body.getD .skip) = some s_elem_CheckProps := by kernel_rfl
abbrev r_elem_CheckProps : List RV := [.tmp 2]
theorem a_elem_CheckProps {args : List AV} {H : List (Nat × Blk)} {nx : Nat} {K : AV → List (Nat × Blk) → Nat → Prop} (hal : args.length ≤ 41) (h : W Try.prog s_elem_CheckProps (RETK r_elem_CheckProps K) ⟨argE 0 args, H, nx⟩) : ACalls Try.prog 147 args H nx K :=
  acalls_of_W (drawOk mixed) Try.func147 rfl (by kernel_rfl) (of_decide_eq_true (by kernel_rfl)) (by kernel_rfl) c_elem_CheckProps (by kernel_rfl) hal h
theorem p_elem_CheckProps {args : List AV} {r : AV} (hal : args.length ≤ 41) (hp : args.all pureA = true) (hr : pureA r = true) (h : W Try.prog s_elem_CheckProps (RETK r_elem_CheckProps fun a H _ => FRZ r a H) ⟨argE 0 args, [], 0⟩) : PCalls Try.prog 147 args r := .of hp (a_elem_CheckProps hal h) hr

/-! cmp.isNaN[string] -/
abbrev n_cmp_isNaN_string : Nat := 148
def s_cmp_isNaN_string : S :=
 (.seq (.ops [⟨none, some 2, .move (.k (.c (.p (.bool false))))⟩] [])
 (.seq (.ops [⟨none, some 3, .move (.t 0)⟩,
    ⟨none, some 4, .move (.t 0)⟩,
    ⟨none, some 5, .bin .neq (.t 3) (.t 4)⟩,
    ⟨none, some 2, .move (.t 5)⟩] [])
 .ret))
theorem c_cmp_isNaN_string : comp Try.prog { own := [], mt := [], lp := [], gh := [] } 6 (Try.f148.body.getD .skip) = some s_cmp_isNaN_string := by kernel_rfl
abbrev r_cmp_isNaN_string : List RV := [.tmp 2]
theorem a_cmp_isNaN_string {args : List AV} {H : List (Nat × Blk)} {nx : Nat} {K : AV → List (Nat × Blk) → Nat → Prop} (hal : args.length ≤ 6) (h : W Try.prog s_cmp_isNaN_string (RETK r_cmp_isNaN_string K) ⟨argE 0 args, H, nx⟩) : ACalls Try.prog 148 args H nx K :=
  acalls_of_W (drawOk mixed) Try.func148 rfl (by kernel_rfl) (of_decide_eq_true (by kernel_rfl)) (by kernel_rfl) c_cmp_isNaN_string (by kernel_rfl) hal h
theorem p_cmp_isNaN_string {args : List AV} {r : AV} (hal : args.length ≤ 6) (hp : args.all pureA = true) (hr : pureA r = true) (h : W Try.prog s_cmp_isNaN_string (RETK r_cmp_isNaN_string fun a H _ => FRZ r a H) ⟨argE 0 args, [], 0⟩) : PCalls Try.prog 148 args r := .of hp (a_cmp_isNaN_string hal h) hr

/-! slices.rotateLeft[pleach/api.Prop] -/
abbrev n_slices_rotateLeft_api_Prop : Nat := 168
def s_slices_rotateLeft_api_Prop : S :=
 (.seq (.ops [⟨none, some 4, .move (.t 0)⟩,
    ⟨none, some 5, .move (.t 1)⟩,
    ⟨none, some 6, .slice 4 (.t 4) none (some (.t 5)) none⟩,
    ⟨none, some 7, .call 200 [(.t 6)]⟩] [])
 (.seq (.ops [⟨none, some 8, .move (.t 0)⟩,
    ⟨none, some 9, .move (.t 1)⟩,
    ⟨none, some 10, .slice 4 (.t 8) (some (.t 9)) none none⟩,
    ⟨none, some 11, .call 200 [(.t 10)]⟩] [])
 (.ops [⟨none, some 12, .move (.t 0)⟩,
    ⟨none, some 13, .call 200 [(.t 12)]⟩] [])))
theorem c_slices_rotateLeft_api_Prop : comp Try.prog { own := [], mt := [], lp := [], gh := [] } 14 (Try.f168.body.getD .skip) = some s_slices_rotateLeft_api_Prop := by kernel_rfl
abbrev r_slices_rotateLeft_api_Prop : List RV := []
theorem a_slices_rotateLeft_api_Prop {args : List AV} {H : List (Nat × Blk)} {nx : Nat} {K : AV → List (Nat × Blk) → Nat → Prop} (hal : args.length ≤ 14) (h : W Try.prog s_slices_rotateLeft_api_Prop (RETK r_slices_rotateLeft_api_Prop K) ⟨argE 0 args, H, nx⟩) : ACalls Try.prog 168 args H nx K :=
  acalls_of_W (drawOk mixed) Try.func168 rfl (by kernel_rfl) (of_decide_eq_true (by kernel_rfl)) (by kernel_rfl) c_slices_rotateLeft_api_Prop (by kernel_rfl) hal h
theorem p_slices_rotateLeft_api_Prop {args : List AV} {r : AV} (hal : args.length ≤ 14) (hp : args.all pureA = true) (hr : pureA r = true) (h : W Try.prog s_slices_rotateLeft_api_Prop (RETK r_slices_rotateLeft_api_Prop fun a H _ => FRZ r a H) ⟨argE 0 args, [], 0⟩) : PCalls Try.prog 168 args r := .of hp (a_slices_rotateLeft_api_Prop hal h) hr

/-! slices.BinarySearch[[]string,string] -/
abbrev n_slices_BinarySearch_string_string : Nat := 169
def b_slices_BinarySearch_string_string_0 : S :=
 (.seq (.seq (.ops [⟨none, some 13, .move (.t 7)⟩,
    ⟨none, some 14, .move (.t 8)⟩,
    ⟨none, some 15, .bin .lss (.t 13) (.t 14)⟩] [])
 (.cond (.t 15) .skip
  (.exit 0)))
 (.block 1 (.seq (.ops [⟨none, some 16, .move (.t 7)⟩,
    ⟨none, some 17, .move (.t 8)⟩,
    ⟨none, some 18, .bin .add (.t 16) (.t 17)⟩,
    ⟨none, some 19, .convI .u64 (.t 18)⟩,
    ⟨none, some 20, .bin .shr (.t 19) (.k (.c (.p (.int .u64 1))))⟩,
    ⟨none, some 21, .convI .i64 (.t 20)⟩,
    ⟨none, some 9, .move (.t 21)⟩] [])
  (.seq (.ops [⟨none, some 22, .move (.t 0)⟩,
    ⟨none, some 23, .move (.t 9)⟩,
    ⟨none, some 24, .idxA 1 (.t 22) (.t 23)⟩,
    ⟨none, some 25, .load false 1 (.t 24)⟩,
    ⟨none, some 26, .move (.t 1)⟩,
    ⟨none, some 27, .call 201 [(.t 25), (.t 26)]⟩] [])
  (.cond (.t 27) (.ops [⟨none, some 28, .move (.t 9)⟩,
    ⟨none, some 29, .bin .add (.t 28) (.k (.c (.p (.int .i64 1))))⟩,
    ⟨none, some 7, .move (.t 29)⟩] [])
   (.ops [⟨none, some 30, .move (.t 9)⟩,
    ⟨none, some 8, .move (.t 30)⟩] []))))))
def s_slices_BinarySearch_string_string : S :=
 (.seq (.ops [⟨none, some 4, .move (.k (.c (.p (.int .i64 0))))⟩,
    ⟨none, some 5, .move (.k (.c (.p (.bool false))))⟩] [])
 (.seq (.ops [⟨none, some 10, .move (.t 0)⟩,
    ⟨none, some 11, .len (.t 10)⟩,
    ⟨none, some 6, .move (.t 11)⟩] [])
 (.seq (.ops [⟨none, some 12, .move (.t 6)⟩,
    ⟨none, some 7, .move (.k (.c (.p (.int .i64 0))))⟩,
    ⟨none, some 8, .move (.t 12)⟩] [])
 (.seq (.block 0 (.loop [0, 1, 6, 7, 8] b_slices_BinarySearch_string_string_0))
 (.seq (.ops [⟨none, some 31, .move (.t 7)⟩,
    ⟨none, some 32, .move (.t 7)⟩,
    ⟨none, some 33, .move (.t 6)⟩,
    ⟨none, some 34, .bin .lss (.t 32) (.t 33)⟩,
    ⟨none, some 35, .move (.t 34)⟩,
    ⟨some (35, true), some 36, .move (.t 0)⟩,
    ⟨some (35, true), some 37, .move (.t 7)⟩,
    ⟨some (35, true), some 38, .idxA 1 (.t 36) (.t 37)⟩,
    ⟨some (35, true), some 39, .load false 1 (.t 38)⟩,
    ⟨some (35, true), some 40, .move (.t 1)⟩,
    ⟨some (35, true), some 41, .bin .eql (.t 39) (.t 40)⟩,
    ⟨some (35, true), some 42, .move (.t 41)⟩,
    ⟨some (42, false), some 43, .move (.t 0)⟩,
    ⟨some (42, false), some 44, .move (.t 7)⟩,
    ⟨some (42, false), some 45, .idxA 1 (.t 43) (.t 44)⟩,
    ⟨some (42, false), some 46, .load false 1 (.t 45)⟩,
    ⟨some (42, false), some 47, .call 202 [(.t 46)]⟩,
    ⟨some (42, false), some 48, .move (.t 47)⟩,
    ⟨some (48, true), some 49, .move (.t 1)⟩,
    ⟨some (48, true), some 50, .call 202 [(.t 49)]⟩,
    ⟨some (42, false), some 51, .pick (.t 48) (.t 50) (.k (.c (.p (.bool false))))⟩,
    ⟨some (35, true), some 52, .pick (.t 42) (.k (.c (.p (.bool true)))) (.t 51)⟩,
    ⟨none, some 53, .pick (.t 35) (.t 52) (.k (.c (.p (.bool false))))⟩,
    ⟨none, some 4, .move (.t 31)⟩,
    ⟨none, some 5, .move (.t 53)⟩] [])
 .ret)))))
theorem c_slices_BinarySearch_string_string : comp Try.prog { own := [], mt := [], lp := [(0, [0, 1, 6, 7, 8])], gh := [] } 54 (Try.f169.body.getD .skip) = some s_slices_BinarySearch_string_string := by kernel_rfl
abbrev r_slices_BinarySearch_string_string : List RV := [.tmp 4, .tmp 5]
theorem a_slices_BinarySearch_string_string {args : List AV} {H : List (Nat × Blk)} {nx : Nat} {K : AV → List (Nat × Blk) → Nat → Prop} (hal : args.length ≤ 54) (h : W Try.prog s_slices_BinarySearch_string_string (RETK r_slices_BinarySearch_string_string K) ⟨argE 0 args, H, nx⟩) : ACalls Try.prog 169 args H nx K :=
  acalls_of_W (drawOk mixed) Try.func169 rfl (by kernel_rfl) (of_decide_eq_true (by kernel_rfl)) (by kernel_rfl) c_slices_BinarySearch_string_string (by kernel_rfl) hal h
theorem p_slices_BinarySearch_string_string {args : List AV} {r : AV} (hal : args.length ≤ 54) (hp : args.all pureA = true) (hr : pureA r = true) (h : W Try.prog s_slices_BinarySearch_string_string (RETK r_slices_BinarySearch_string_string fun a H _ => FRZ r a H) ⟨argE 0 args, [], 0⟩) : PCalls Try.prog 169 args r := .of hp (a_slices_BinarySearch_string_string hal h) hr

/-! slices.rotateRight[string] -/
abbrev n_slices_rotateRight_string : Nat := 171
def s_slices_rotateRight_string : S :=
 (.ops [⟨none, some 4, .move (.t 0)⟩,
    ⟨none, some 5, .move (.t 0)⟩,
    ⟨none, some 6, .len (.t 5)⟩,
    ⟨none, some 7, .move (.t 1)⟩,
    ⟨none, some 8, .bin .sub (.t 6) (.t 7)⟩,
    ⟨none, some 9, .call 203 [(.t 4), (.t 8)]⟩] [])
theorem c_slices_rotateRight_string : comp Try.prog { own := [], mt := [], lp := [], gh := [] } 10 (Try.f171.body.getD .skip) = some s_slices_rotateRight_string := by kernel_rfl
abbrev r_slices_rotateRight_string : List RV := []
theorem a_slices_rotateRight_string {args : List AV} {H : List (Nat × Blk)} {nx : Nat} {K : AV → List (Nat × Blk) → Nat → Prop} (hal : args.length ≤ 10) (h : W Try.prog s_slices_rotateRight_string (RETK r_slices_rotateRight_string K) ⟨argE 0 args, H, nx⟩) : ACalls Try.prog 171 args H nx K :=
  acalls_of_W (drawOk mixed) Try.func171 rfl (by kernel_rfl) (of_decide_eq_true (by kernel_rfl)) (by kernel_rfl) c_slices_rotateRight_string (by kernel_rfl) hal h
theorem p_slices_rotateRight_string {args : List AV} {r : AV} (hal : args.length ≤ 10) (hp : args.all pureA = true) (hr : pureA r = true) (h : W Try.prog s_slices_rotateRight_string (RETK r_slices_rotateRight_string fun a H _ => FRZ r a H) ⟨argE 0 args, [], 0⟩) : PCalls Try.prog 171 args r := .of hp (a_slices_rotateRight_string hal h) hr

/-! slices.BinarySearchFunc[[]pleach/api.Edge,pleach/api.Edge,string] -/
abbrev n_slices_BinarySearchFunc_api_Edge_api_Edge_string : Nat := 172
def b_slices_BinarySearchFunc_api_Edge_api_Edge_string_0 : S :=
 (.seq (.seq (.ops [⟨none, some 15, .move (.t 9)⟩,
    ⟨none, some 16, .move (.t 10)⟩,
    ⟨none, some 17, .bin .lss (.t 15) (.t 16)⟩] [])
 (.cond (.t 17) .skip
  (.exit 0)))
 (.block 1 (.seq (.ops [⟨none, some 18, .move (.t 9)⟩,
    ⟨none, some 19, .move (.t 10)⟩,
    ⟨none, some 20, .bin .add (.t 18) (.t 19)⟩,
    ⟨none, some 21, .convI .u64 (.t 20)⟩,
    ⟨none, some 22, .bin .shr (.t 21) (.k (.c (.p (.int .u64 1))))⟩,
    ⟨none, some 23, .convI .i64 (.t 22)⟩,
    ⟨none, some 11, .move (.t 23)⟩] [])
  (.seq (.ops [⟨none, some 24, .move (.t 2)⟩,
    ⟨none, some 25, .move (.t 0)⟩,
    ⟨none, some 26, .move (.t 11)⟩,
    ⟨none, some 27, .idxA 5 (.t 25) (.t 26)⟩,
    ⟨none, some 28, .load true 5 (.t 27)⟩,
    ⟨none, some 29, .move (.t 1)⟩,
    ⟨none, some 30, .callv (.t 24) [(.t 28), (.t 29)]⟩,
    ⟨none, some 31, .bin .lss (.t 30) (.k (.c (.p (.int .i64 0))))⟩] [])
  (.cond (.t 31) (.ops [⟨none, some 32, .move (.t 11)⟩,
    ⟨none, some 33, .bin .add (.t 32) (.k (.c (.p (.int .i64 1))))⟩,
    ⟨none, some 9, .move (.t 33)⟩] [])
   (.ops [⟨none, some 34, .move (.t 11)⟩,
    ⟨none, some 10, .move (.t 34)⟩] []))))))
def s_slices_BinarySearchFunc_api_Edge_api_Edge_string : S :=
 (.seq (.ops [⟨none, some 6, .move (.k (.c (.p (.int .i64 0))))⟩,
    ⟨none, some 7, .move (.k (.c (.p (.bool false))))⟩] [])
 (.seq (.ops [⟨none, some 12, .move (.t 0)⟩,
    ⟨none, some 13, .len (.t 12)⟩,
    ⟨none, some 8, .move (.t 13)⟩] [])
 (.seq (.ops [⟨none, some 14, .move (.t 8)⟩,
    ⟨none, some 9, .move (.k (.c (.p (.int .i64 0))))⟩,
    ⟨none, some 10, .move (.t 14)⟩] [])
 (.seq (.block 0 (.loop [0, 1, 2, 8, 9, 10] b_slices_BinarySearchFunc_api_Edge_api_Edge_string_0))
 (.seq (.ops [⟨none, some 35, .move (.t 9)⟩,
    ⟨none, some 36, .move (.t 9)⟩,
    ⟨none, some 37, .move (.t 8)⟩,
    ⟨none, some 38, .bin .lss (.t 36) (.t 37)⟩,
    ⟨none, some 39, .move (.t 38)⟩,
    ⟨some (39, true), some 40, .move (.t 2)⟩,
    ⟨some (39, true), some 41, .move (.t 0)⟩,
    ⟨some (39, true), some 42, .move (.t 9)⟩,
    ⟨some (39, true), some 43, .idxA 5 (.t 41) (.t 42)⟩,
    ⟨some (39, true), some 44, .load true 5 (.t 43)⟩,
    ⟨some (39, true), some 45, .move (.t 1)⟩,
    ⟨some (39, true), some 46, .callv (.t 40) [(.t 44), (.t 45)]⟩,
    ⟨some (39, true), some 47, .bin .eql (.t 46) (.k (.c (.p (.int .i64 0))))⟩,
    ⟨none, some 48, .pick (.t 39) (.t 47) (.k (.c (.p (.bool false))))⟩,
    ⟨none, some 6, .move (.t 35)⟩,
    ⟨none, some 7, .move (.t 48)⟩] [])
 .ret)))))
theorem c_slices_BinarySearchFunc_api_Edge_api_Edge_string : comp Try.prog { own := [], mt := [], lp := [(0, [0, 1, 2, 8, 9, 10])], gh := [] } 49 (Try.f172.body.getD .skip) = some s_slices_BinarySearchFunc_api_Edge_api_Edge_string := by kernel_rfl
abbrev r_slices_BinarySearchFunc_api_Edge_api_Edge_string : List RV := [.tmp 6, .tmp 7]
theorem a_slices_BinarySearchFunc_api_Edge_api_Edge_string {args : List AV} {H : List (Nat × Blk)} {nx : Nat} {K : AV → List (Nat × Blk) → Nat → Prop} (hal : args.length ≤ 49) (h : W Try.prog s_slices_BinarySearchFunc_api_Edge_api_Edge_string (RETK r_slices_BinarySearchFunc_api_Edge_api_Edge_string K) ⟨argE 0 args, H, nx⟩) : ACalls Try.prog 172 args H nx K :=
  acalls_of_W (drawOk mixed) Try.func172 rfl (by kernel_rfl) (of_decide_eq_true (by kernel_rfl)) (by kernel_rfl) c_slices_BinarySearchFunc_api_Edge_api_Edge_string (by kernel_rfl) hal h
theorem p_slices_BinarySearchFunc_api_Edge_api_Edge_string {args : List AV} {r : AV} (hal : args.length ≤ 49) (hp : args.all pureA = true) (hr : pureA r = true) (h : W Try.prog s_slices_BinarySearchFunc_api_Edge_api_Edge_string (RETK r_slices_BinarySearchFunc_api_Edge_api_Edge_string fun a H _ => FRZ r a H) ⟨argE 0 args, [], 0⟩) : PCalls Try.prog 172 args r := .of hp (a_slices_BinarySearchFunc_api_Edge_api_Edge_string hal h) hr

/-! pleach/graph.edge$1 -/
abbrev n_graph_edge_1 : Nat := 173
def s_graph_edge_1 : S :=
 (.seq (.ops [⟨none, some 2, .boxI (.t 0)⟩,
    ⟨none, some 4, .move (.k (.c (.p (.int .i64 0))))⟩] [])
 (.seq (.ops [⟨none, some 5, .fieldA 0 1 (.t 2)⟩,
    ⟨none, some 6, .load false 1 (.t 5)⟩,
    ⟨none, some 7, .move (.t 1)⟩,
    ⟨none, some 8, .call 110 [(.t 6), (.t 7)]⟩,
    ⟨none, some 4, .move (.t 8)⟩] [])
 .ret))
theorem c_graph_edge_1 : comp Try.prog { own := [], mt := [], lp := [], gh := [] } 9 (Try.f173.body.getD .skip) = some s_graph_edge_1 := by kernel_rfl
abbrev r_graph_edge_1 : List RV := [.tmp 4]
theorem a_graph_edge_1 {args : List AV} {H : List (Nat × Blk)} {nx : Nat} {K : AV → List (Nat × Blk) → Nat → Prop} (hal : args.length ≤ 9) (h : W Try.prog s_graph_edge_1 (RETK r_graph_edge_1 K) ⟨argE 0 args, H, nx⟩) : ACalls Try.prog 173 args H nx K :=
  acalls_of_W (drawOk mixed) Try.func173 rfl (by kernel_rfl) (of_decide_eq_true (by kernel_rfl)) (by kernel_rfl) c_graph_edge_1 (by kernel_rfl) hal h
theorem p_graph_edge_1 {args : List AV} {r : AV} (hal : args.length ≤ 9) (hp : args.all pureA = true) (hr : pureA r = true) (h : W Try.prog s_graph_edge_1 (RETK r_graph_edge_1 fun a H _ => FRZ r a H) ⟨argE 0 args, [], 0⟩) : PCalls Try.prog 173 args r := .of hp (a_graph_edge_1 hal h) hr

/-! slices.rotateRight[pleach/api.Node] -/
abbrev n_slices_rotateRight_api_Node : Nat := 175
def s_slices_rotateRight_api_Node : S :=
 (.ops [⟨none, some 4, .move (.t 0)⟩,
    ⟨none, some 5, .move (.t 0)⟩,
    ⟨none, some 6, .len (.t 5)⟩,
    ⟨none, some 7, .move (.t 1)⟩,
    ⟨none, some 8, .bin .sub (.t 6) (.t 7)⟩,
    ⟨none, some 9, .call 204 [(.t 4), (.t 8)]⟩] [])
theorem c_slices_rotateRight_api_Node : comp Try.prog { own := [], mt := [], lp := [], gh := [] } 10 (Try.f175.body.getD .skip) = some s_slices_rotateRight_api_Node := by kernel_rfl
abbrev r_slices_rotateRight_api_Node : List RV := []
theorem a_slices_rotateRight_api_Node {args : List AV} {H : List (Nat × Blk)} {nx : Nat} {K : AV → List (Nat × Blk) → Nat → Prop} (hal : args.length ≤ 10) (h : W Try.prog s_slices_rotateRight_api_Node (RETK r_slices_rotateRight_api_Node K) ⟨argE 0 args, H, nx⟩) : ACalls Try.prog 175 args H nx K :=
  acalls_of_W (drawOk mixed) Try.func175 rfl (by kernel_rfl) (of_decide_eq_true (by kernel_rfl)) (by kernel_rfl) c_slices_rotateRight_api_Node (by kernel_rfl) hal h
theorem p_slices_rotateRight_api_Node {args : List AV} {r : AV} (hal : args.length ≤ 10) (hp : args.all pureA = true) (hr : pureA r = true) (h : W Try.prog s_slices_rotateRight_api_Node (RETK r_slices_rotateRight_api_Node fun a H _ => FRZ r a H) ⟨argE 0 args, [], 0⟩) : PCalls Try.prog 175 args r := .of hp (a_slices_rotateRight_api_Node hal h) hr

/-! slices.rotateRight[pleach/api.Edge] -/
abbrev n_slices_rotateRight_api_Edge : Nat := 177
def s_slices_rotateRight_api_Edge : S :=
 (.ops [⟨none, some 4, .move (.t 0)⟩,
    ⟨none, some 5, .move (.t 0)⟩,
    ⟨none, some 6, .len (.t 5)⟩,
    ⟨none, some 7, .move (.t 1)⟩,
    ⟨none, some 8, .bin .sub (.t 6) (.t 7)⟩,
    ⟨none, some 9, .call 205 [(.t 4), (.t 8)]⟩] [])
theorem c_slices_rotateRight_api_Edge : comp Try.prog { own := [], mt := [], lp := [], gh := [] } 10 (Try.f177.body.getD .skip) = some s_slices_rotateRight_api_Edge := by kernel_rfl
abbrev r_slices_rotateRight_api_Edge : List RV := []
theorem a_slices_rotateRight_api_Edge {args : List AV} {H : List (Nat × Blk)} {nx : Nat} {K : AV → List (Nat × Blk) → Nat → Prop} (hal : args.length ≤ 10) (h : W Try.prog s_slices_rotateRight_api_Edge (RETK r_slices_rotateRight_api_Edge K) ⟨argE 0 args, H, nx⟩) : ACalls Try.prog 177 args H nx K :=
  acalls_of_W (drawOk mixed) Try.func177 rfl (by kernel_rfl) (of_decide_eq_true (by kernel_rfl)) (by kernel_rfl) c_slices_rotateRight_api_Edge (by kernel_rfl) hal h
theorem p_slices_rotateRight_api_Edge {args : List AV} {r : AV} (hal : args.length ≤ 10) (hp : args.all pureA = true) (hr : pureA r = true) (h : W Try.prog s_slices_rotateRight_api_Edge (RETK r_slices_rotateRight_api_Edge fun a H _ => FRZ r a H) ⟨argE 0 args, [], 0⟩) : PCalls Try.prog 177 args r := .of hp (a_slices_rotateRight_api_Edge hal h) hr

/-! slices.IndexFunc[[]pleach/api.Edge,pleach/api.Edge] -/
abbrev n_slices_IndexFunc_api_Edge_api_Edge : Nat := 178
def b_slices_IndexFunc_api_Edge_api_Edge_0 : S :=
 (.seq (.ops [⟨none, some 9, .bin .lss (.t 8) (.t 7)⟩] [])
 (.seq (.cond (.t 9) .skip
  (.exit 0))
 (.seq (.block 1 (.seq (.ops [⟨none, some 10, .move (.t 8)⟩,
    ⟨none, some 5, .move (.t 10)⟩] [])
  (.seq (.ops [⟨none, some 11, .move (.t 1)⟩,
    ⟨none, some 12, .move (.t 0)⟩,
    ⟨none, some 13, .move (.t 5)⟩,
    ⟨none, some 14, .idxA 5 (.t 12) (.t 13)⟩,
    ⟨none, some 15, .load true 5 (.t 14)⟩,
    ⟨none, some 16, .callv (.t 11) [(.t 15)]⟩] [])
  (.cond (.t 16) (.seq (.ops [⟨none, some 17, .move (.t 5)⟩,
    ⟨none, some 4, .move (.t 17)⟩] [])
   .ret)
   .skip))))
 (.ops [⟨none, some 18, .bin .add (.t 8) (.k (.c (.p (.int .i64 1))))⟩,
    ⟨none, some 8, .move (.t 18)⟩] []))))
def s_slices_IndexFunc_api_Edge_api_Edge : S :=
 (.seq (.ops [⟨none, some 4, .move (.k (.c (.p (.int .i64 0))))⟩] [])
 (.seq (.seq (.ops [⟨none, some 6, .move (.t 0)⟩,
    ⟨none, some 7, .len (.t 6)⟩,
    ⟨none, some 8, .move (.k (.c (.p (.int .i64 0))))⟩] [])
 (.block 0 (.loop [0, 1, 7, 8] b_slices_IndexFunc_api_Edge_api_Edge_0)))
 (.seq (.ops [⟨none, some 4, .move (.k (.c (.p (.int .i64 (-1)))))⟩] [])
 .ret)))
theorem c_slices_IndexFunc_api_Edge_api_Edge : comp Try.prog { own := [], mt := [], lp := [(0, [0, 1, 7, 8])], gh := [] } 19 (Try.f178.body.getD .skip) = some s_slices_IndexFunc_api_Edge_api_Edge := by kernel_rfl
abbrev r_slices_IndexFunc_api_Edge_api_Edge : List RV := [.tmp 4]
theorem a_slices_IndexFunc_api_Edge_api_Edge {args : List AV} {H : List (Nat × Blk)} {nx : Nat} {K : AV → List (Nat × Blk) → Nat → Prop} (hal : args.length ≤ 19) (h : W Try.prog s_slices_IndexFunc_api_Edge_api_Edge (RETK r_slices_IndexFunc_api_Edge_api_Edge K) ⟨argE 0 args, H, nx⟩) : ACalls Try.prog 178 args H nx K :=
  acalls_of_W (drawOk mixed) Try.func178 rfl (by kernel_rfl) (of_decide_eq_true (by kernel_rfl)) (by kernel_rfl) c_slices_IndexFunc_api_Edge_api_Edge (by kernel_rfl) hal h
theorem p_slices_IndexFunc_api_Edge_api_Edge {args : List AV} {r : AV} (hal : args.length ≤ 19) (hp : args.all pureA = true) (hr : pureA r = true) (h : W Try.prog s_slices_IndexFunc_api_Edge_api_Edge (RETK r_slices_IndexFunc_api_Edge_api_Edge fun a H _ => FRZ r a H) ⟨argE 0 args, [], 0⟩) : PCalls Try.prog 178 args r := .of hp (a_slices_IndexFunc_api_Edge_api_Edge hal h) hr

/-! slices.Reverse[[]pleach/api.Prop,pleach/api.Prop] -/
abbrev n_slices_Reverse_api_Prop_api_Prop : Nat := 200
def b_slices_Reverse_api_Prop_api_Prop_0 : S :=
 (.seq (.seq (.ops [⟨none, some 7, .move (.t 2)⟩,
    ⟨none, some 8, .move (.t 3)⟩,
    ⟨none, some 9, .bin .lss (.t 7) (.t 8)⟩] [])
 (.cond (.t 9) .skip
  (.exit 0)))
 (.seq (.block 1 (.draw [⟨none, some 14, .move (.t 0)⟩,
    ⟨none, some 15, .move (.t 2)⟩,
    ⟨none, some 16, .move (.t 0)⟩,
    ⟨none, some 17, .move (.t 3)⟩,
    ⟨none, some 18, .move (.t 0)⟩,
    ⟨none, some 19, .move (.t 3)⟩,
    ⟨none, some 20, .idxA 4 (.t 18) (.t 19)⟩,
    ⟨none, some 21, .load true 4 (.t 20)⟩,
    ⟨none, some 22, .move (.t 0)⟩,
    ⟨none, some 23, .move (.t 2)⟩,
    ⟨none, some 24, .idxA 4 (.t 22) (.t 23)⟩,
    ⟨none, some 25, .load true 4 (.t 24)⟩,
    ⟨none, some 26, .idxA 4 (.t 14) (.t 15)⟩,
    ⟨none, none, .store 4 (.t 26) (.t 21)⟩,
    ⟨none, some 27, .idxA 4 (.t 16) (.t 17)⟩,
    ⟨none, none, .store 4 (.t 27) (.t 25)⟩]
  [0, 0, 0, 0, 0, 0, 48, 112, 0, 0, 768, 1792, 4083, 8179, 16383, 32767] []))
 (.ops [⟨none, some 10, .move (.t 2)⟩,
    ⟨none, some 11, .bin .add (.t 10) (.k (.c (.p (.int .i64 1))))⟩,
    ⟨none, some 12, .move (.t 3)⟩,
    ⟨none, some 13, .bin .sub (.t 12) (.k (.c (.p (.int .i64 1))))⟩,
    ⟨none, some 2, .move (.t 11)⟩,
    ⟨none, some 3, .move (.t 13)⟩] [])))
def s_slices_Reverse_api_Prop_api_Prop : S :=
 (.seq (.ops [⟨none, some 4, .move (.t 0)⟩,
    ⟨none, some 5, .len (.t 4)⟩,
    ⟨none, some 6, .bin .sub (.t 5) (.k (.c (.p (.int .i64 1))))⟩,
    ⟨none, some 2, .move (.k (.c (.p (.int .i64 0))))⟩,
    ⟨none, some 3, .move (.t 6)⟩] [])
 (.block 0 (.loop [0, 2, 3] b_slices_Reverse_api_Prop_api_Prop_0)))
theorem c_slices_Reverse_api_Prop_api_Prop : comp Try.prog { own := [], mt := [], lp := [(0, [0, 2, 3])], gh := [] } 28 (Try.f200.body.getD .skip) = some s_slices_Reverse_api_Prop_api_Prop := by kernel_rfl
abbrev r_slices_Reverse_api_Prop_api_Prop : List RV := []
theorem a_slices_Reverse_api_Prop_api_Prop {args : List AV} {H : List (Nat × Blk)} {nx : Nat} {K : AV → List (Nat × Blk) → Nat → Prop} (hal : args.length ≤ 28) (h : W Try.prog s_slices_Reverse_api_Prop_api_Prop (RETK r_slices_Reverse_api_Prop_api_Prop K) ⟨argE 0 args, H, nx⟩) : ACalls Try.prog 200 args H nx K :=
  acalls_of_W (drawOk mixed) Try.func200 rfl (by kernel_rfl) (of_decide_eq_true (by kernel_rfl)) (by kernel_rfl) c_slices_Reverse_api_Prop_api_Prop (by kernel_rfl) hal h
theorem p_slices_Reverse_api_Prop_api_Prop {args : List AV} {r : AV} (hal : args.length ≤ 28) (hp : args.all pureA = true) (hr : pureA r = true) (h : W Try.prog s_slices_Reverse_api_Prop_api_Prop (RETK r_slices_Reverse_api_Prop_api_Prop fun a H _ => FRZ r a H) ⟨argE 0 args, [], 0⟩) : PCalls Try.prog 200 args r := .of hp (a_slices_Reverse_api_Prop_api_Prop hal h) hr

/-! cmp.Less[string] -/
abbrev n_cmp_Less_string : Nat := 201
def s_cmp_Less_string : S :=
 (.seq (.ops [⟨none, some 4, .move (.k (.c (.p (.bool false))))⟩] [])
 (.seq (.ops [⟨none, some 5, .move (.t 0)⟩,
    ⟨none, some 6, .call 148 [(.t 5)]⟩,
    ⟨none, some 7, .move (.t 6)⟩,
    ⟨some (7, true), some 8, .move (.t 1)⟩,
    ⟨some (7, true), some 9, .call 148 [(.t 8)]⟩,
    ⟨some (7, true), some 10, .un .not (.t 9)⟩,
    ⟨none, some 11, .pick (.t 7) (.t 10) (.k (.c (.p (.bool false))))⟩,
    ⟨none, some 12, .move (.t 11)⟩,
    ⟨some (12, false), some 13, .move (.t 0)⟩,
    ⟨some (12, false), some 14, .move (.t 1)⟩,
    ⟨some (12, false), some 15, .bin .lss (.t 13) (.t 14)⟩,
    ⟨none, some 16, .pick (.t 12) (.k (.c (.p (.bool true)))) (.t 15)⟩,
    ⟨none, some 4, .move (.t 16)⟩] [])
 .ret))
theorem c_cmp_Less_string : comp Try.prog { own := [], mt := [], lp := [], gh := [] } 17 (Try.f201.body.getD .skip) = some s_cmp_Less_string := by kernel_rfl
abbrev r_cmp_Less_string : List RV := [.tmp 4]
theorem a_cmp_Less_string {args : List AV} {H : List (Nat × Blk)} {nx : Nat} {K : AV → List (Nat × Blk) → Nat → Prop} (hal : args.length ≤ 17) (h : W Try.prog s_cmp_Less_string (RETK r_cmp_Less_string K) ⟨argE 0 args, H, nx⟩) : ACalls Try.prog 201 args H nx K :=
  acalls_of_W (drawOk mixed) Try.func201 rfl (by kernel_rfl) (of_decide_eq_true (by kernel_rfl)) (by kernel_rfl) c_cmp_Less_string (by kernel_rfl) hal h
theorem p_cmp_Less_string {args : List AV} {r : AV} (hal : args.length ≤ 17) (hp : args.all pureA = true) (hr : pureA r = true) (h : W Try.prog s_cmp_Less_string (RETK r_cmp_Less_string fun a H _ => FRZ r a H) ⟨argE 0 args, [], 0⟩) : PCalls Try.prog 201 args r := .of hp (a_cmp_Less_string hal h) hr

/-! slices.isNaN[string] -/
abbrev n_slices_isNaN_string : Nat := 202
def s_slices_isNaN_string : S :=
 (.seq (.ops [⟨none, some 2, .move (.k (.c (.p (.bool false))))⟩] [])
 (.seq (.ops [⟨none, some 3, .move (.t 0)⟩,
    ⟨none, some 4, .move (.t 0)⟩,
    ⟨none, some 5, .bin .neq (.t 3) (.t 4)⟩,
    ⟨none, some 2, .move (.t 5)⟩] [])
 .ret))
theorem c_slices_isNaN_string : comp Try.prog { own := [], mt := [], lp := [], gh := [] } 6 (Try.f202.body.getD .skip) = some s_slices_isNaN_string := by kernel_rfl
abbrev r_slices_isNaN_string : List RV := [.tmp 2]
theorem a_slices_isNaN_string {args : List AV} {H : List (Nat × Blk)} {nx : Nat} {K : AV → List (Nat × Blk) → Nat → Prop} (hal : args.length ≤ 6) (h : W Try.prog s_slices_isNaN_string (RETK r_slices_isNaN_string K) ⟨argE 0 args, H, nx⟩) : ACalls Try.prog 202 args H nx K :=
  acalls_of_W (drawOk mixed) Try.func202 rfl (by kernel_rfl) (of_decide_eq_true (by kernel_rfl)) (by kernel_rfl) c_slices_isNaN_string (by kernel_rfl) hal h
theorem p_slices_isNaN_string {args : List AV} {r : AV} (hal : args.length ≤ 6) (hp : args.all pureA = true) (hr : pureA r = true) (h : W Try.prog s_slices_isNaN_string (RETK r_slices_isNaN_string fun a H _ => FRZ r a H) ⟨argE 0 args, [], 0⟩) : PCalls Try.prog 202 args r := .of hp (a_slices_isNaN_string hal h) hr

/-! slices.rotateLeft[string] -/
abbrev n_slices_rotateLeft_string : Nat := 203
def s_slices_rotateLeft_string : S :=
 (.seq (.ops [⟨none, some 4, .move (.t 0)⟩,
    ⟨none, some 5, .move (.t 1)⟩,
    ⟨none, some 6, .slice 1 (.t 4) none (some (.t 5)) none⟩,
    ⟨none, some 7, .call 215 [(.t 6)]⟩] [])
 (.seq (.ops [⟨none, some 8, .move (.t 0)⟩,
    ⟨none, some 9, .move (.t 1)⟩,
    ⟨none, some 10, .slice 1 (.t 8) (some (.t 9)) none none⟩,
    ⟨none, some 11, .call 215 [(.t 10)]⟩] [])
 (.ops [⟨none, some 12, .move (.t 0)⟩,
    ⟨none, some 13, .call 215 [(.t 12)]⟩] [])))
theorem c_slices_rotateLeft_string : comp Try.prog { own := [], mt := [], lp := [], gh := [] } 14 (Try.f203.body.getD .skip) = some s_slices_rotateLeft_string := by kernel_rfl
abbrev r_slices_rotateLeft_string : List RV := []
theorem a_slices_rotateLeft_string {args : List AV} {H : List (Nat × Blk)} {nx : Nat} {K : AV → List (Nat × Blk) → Nat → Prop} (hal : args.length ≤ 14) (h : W Try.prog s_slices_rotateLeft_string (RETK r_slices_rotateLeft_string K) ⟨argE 0 args, H, nx⟩) : ACalls Try.prog 203 args H nx K :=
  acalls_of_W (drawOk mixed) Try.func203 rfl (by kernel_rfl) (of_decide_eq_true (by kernel_rfl)) (by kernel_rfl) c_slices_rotateLeft_string (by kernel_rfl) hal h
theorem p_slices_rotateLeft_string {args : List AV} {r : AV} (hal : args.length ≤ 14) (hp : args.all pureA = true) (hr : pureA r = true) (h : W Try.prog s_slices_rotateLeft_string (RETK r_slices_rotateLeft_string fun a H _ => FRZ r a H) ⟨argE 0 args, [], 0⟩) : PCalls Try.prog 203 args r := .of hp (a_slices_rotateLeft_string hal h) hr

/-! slices.rotateLeft[pleach/api.Node] -/
abbrev n_slices_rotateLeft_api_Node : Nat := 204
def s_slices_rotateLeft_api_Node : S :=
 (.seq (.ops [⟨none, some 4, .move (.t 0)⟩,
    ⟨none, some 5, .move (.t 1)⟩,
    ⟨none, some 6, .slice 3 (.t 4) none (some (.t 5)) none⟩,
    ⟨none, some 7, .call 216 [(.t 6)]⟩] [])
 (.seq (.ops [⟨none, some 8, .move (.t 0)⟩,
    ⟨none, some 9, .move (.t 1)⟩,
    ⟨none, some 10, .slice 3 (.t 8) (some (.t 9)) none none⟩,
    ⟨none, some 11, .call 216 [(.t 10)]⟩] [])
 (.ops [⟨none, some 12, .move (.t 0)⟩,
    ⟨none, some 13, .call 216 [(.t 12)]⟩] [])))
theorem c_slices_rotateLeft_api_Node : comp Try.prog { own := [], mt := [], lp := [], gh := [] } 14 (Try.f204.body.getD .skip) = some s_slices_rotateLeft_api_Node := by kernel_rfl
abbrev r_slices_rotateLeft_api_Node : List RV := []
theorem a_slices_rotateLeft_api_Node {args : List AV} {H : List (Nat × Blk)} {nx : Nat} {K : AV → List (Nat × Blk) → Nat → Prop} (hal : args.length ≤ 14) (h : W Try.prog s_slices_rotateLeft_api_Node (RETK r_slices_rotateLeft_api_Node K) ⟨argE 0 args, H, nx⟩) : ACalls Try.prog 204 args H nx K :=
  acalls_of_W (drawOk mixed) Try.func204 rfl (by kernel_rfl) (of_decide_eq_true (by kernel_rfl)) (by kernel_rfl) c_slices_rotateLeft_api_Node (by kernel_rfl) hal h
theorem p_slices_rotateLeft_api_Node {args : List AV} {r : AV} (hal : args.length ≤ 14) (hp : args.all pureA = true) (hr : pureA r = true) (h : W Try.prog s_slices_rotateLeft_api_Node (RETK r_slices_rotateLeft_api_Node fun a H _ => FRZ r a H) ⟨argE 0 args, [], 0⟩) : PCalls Try.prog 204 args r := .of hp (a_slices_rotateLeft_api_Node hal h) hr

/-! slices.rotateLeft[pleach/api.Edge] -/
abbrev n_slices_rotateLeft_api_Edge : Nat := 205
def s_slices_rotateLeft_api_Edge : S :=
 (.seq (.ops [⟨none, some 4, .move (.t 0)⟩,
    ⟨none, some 5, .move (.t 1)⟩,
    ⟨none, some 6, .slice 5 (.t 4) none (some (.t 5)) none⟩,
    ⟨none, some 7, .call 217 [(.t 6)]⟩] [])
 (.seq (.ops [⟨none, some 8, .move (.t 0)⟩,
    ⟨none, some 9, .move (.t 1)⟩,
    ⟨none, some 10, .slice 5 (.t 8) (some (.t 9)) none none⟩,
    ⟨none, some 11, .call 217 [(.t 10)]⟩] [])
 (.ops [⟨none, some 12, .move (.t 0)⟩,
    ⟨none, some 13, .call 217 [(.t 12)]⟩] [])))
theorem c_slices_rotateLeft_api_Edge : comp Try.prog { own := [], mt := [], lp := [], gh := [] } 14 (Try.f205.body.getD .skip) = some s_slices_rotateLeft_api_Edge := by kernel_rfl
abbrev r_slices_rotateLeft_api_Edge : List RV := []
theorem a_slices_rotateLeft_api_Edge {args : List AV} {H : List (Nat × Blk)} {nx : Nat} {K : AV → List (Nat × Blk) → Nat → Prop} (hal : args.length ≤ 14) (h : W Try.prog s_slices_rotateLeft_api_Edge (RETK r_slices_rotateLeft_api_Edge K) ⟨argE 0 args, H, nx⟩) : ACalls Try.prog 205 args H nx K :=
  acalls_of_W (drawOk mixed) Try.func205 rfl (by kernel_rfl) (of_decide_eq_true (by kernel_rfl)) (by kernel_rfl) c_slices_rotateLeft_api_Edge (by kernel_rfl) hal h
theorem p_slices_rotateLeft_api_Edge {args : List AV} {r : AV} (hal : args.length ≤ 14) (hp : args.all pureA = true) (hr : pureA r = true) (h : W Try.prog s_slices_rotateLeft_api_Edge (RETK r_slices_rotateLeft_api_Edge fun a H _ => FRZ r a H) ⟨argE 0 args, [], 0⟩) : PCalls Try.prog 205 args r := .of hp (a_slices_rotateLeft_api_Edge hal h) hr

/-! slices.Reverse[[]string,string] -/
abbrev n_slices_Reverse_string_string : Nat := 215
def b_slices_Reverse_string_string_0 : S :=
 (.seq (.seq (.ops [⟨none, some 7, .move (.t 2)⟩,
    ⟨none, some 8, .move (.t 3)⟩,
    ⟨none, some 9, .bin .lss (.t 7) (.t 8)⟩] [])
 (.cond (.t 9) .skip
  (.exit 0)))
 (.seq (.block 1 (.draw [⟨none, some 14, .move (.t 0)⟩,
    ⟨none, some 15, .move (.t 2)⟩,
    ⟨none, some 16, .move (.t 0)⟩,
    ⟨none, some 17, .move (.t 3)⟩,
    ⟨none, some 18, .move (.t 0)⟩,
    ⟨none, some 19, .move (.t 3)⟩,
    ⟨none, some 20, .idxA 1 (.t 18) (.t 19)⟩,
    ⟨none, some 21, .load false 1 (.t 20)⟩,
    ⟨none, some 22, .move (.t 0)⟩,
    ⟨none, some 23, .move (.t 2)⟩,
    ⟨none, some 24, .idxA 1 (.t 22) (.t 23)⟩,
    ⟨none, some 25, .load false 1 (.t 24)⟩,
    ⟨none, some 26, .idxA 1 (.t 14) (.t 15)⟩,
    ⟨none, none, .store 1 (.t 26) (.t 21)⟩,
    ⟨none, some 27, .idxA 1 (.t 16) (.t 17)⟩,
    ⟨none, none, .store 1 (.t 27) (.t 25)⟩]
  [0, 0, 0, 0, 0, 0, 48, 112, 0, 0, 768, 1792, 4083, 8179, 16383, 32767] []))
 (.ops [⟨none, some 10, .move (.t 2)⟩,
    ⟨none, some 11, .bin .add (.t 10) (.k (.c (.p (.int .i64 1))))⟩,
    ⟨none, some 12, .move (.t 3)⟩,
    ⟨none, some 13, .bin .sub (.t 12) (.k (.c (.p (.int .i64 1))))⟩,
    ⟨none, some 2, .move (.t 11)⟩,
    ⟨none, some 3, .move (.t 13)⟩] [])))
def s_slices_Reverse_string_string : S :=
 (.seq (.ops [⟨none, some 4, .move (.t 0)⟩,
    ⟨none, some 5, .len (.t 4)⟩,
    ⟨none, some 6, .bin .sub (.t 5) (.k (.c (.p (.int .i64 1))))⟩,
    ⟨none, some 2, .move (.k (.c (.p (.int .i64 0))))⟩,
    ⟨none, some 3, .move (.t 6)⟩] [])
 (.block 0 (.loop [0, 2, 3] b_slices_Reverse_string_string_0)))
theorem c_slices_Reverse_string_string : comp Try.prog { own := [], mt := [], lp := [(0, [0, 2, 3])], gh := [] } 28 (Try.f215.body.getD .skip) = some s_slices_Reverse_string_string := by kernel_rfl
abbrev r_slices_Reverse_string_string : List RV := []
theorem a_slices_Reverse_string_string {args : List AV} {H : List (Nat × Blk)} {nx : Nat} {K : AV → List (Nat × Blk) → Nat → Prop} (hal : args.length ≤ 28) (h : W Try.prog s_slices_Reverse_string_string (RETK r_slices_Reverse_string_string K) ⟨argE 0 args, H, nx⟩) : ACalls Try.prog 215 args H nx K :=
  acalls_of_W (drawOk mixed) Try.func215 rfl (by kernel_rfl) (of_decide_eq_true (by kernel_rfl)) (by kernel_rfl) c_slices_Reverse_string_string (by kernel_rfl) hal h
theorem p_slices_Reverse_string_string {args : List AV} {r : AV} (hal : args.length ≤ 28) (hp : args.all pureA = true) (hr : pureA r = true) (h : W Try.prog s_slices_Reverse_string_string (RETK r_slices_Reverse_string_string fun a H _ => FRZ r a H) ⟨argE 0 args, [], 0⟩) : PCalls Try.prog 215 args r := .of hp (a_slices_Reverse_string_string hal h) hr

/-! slices.Reverse[[]pleach/api.Node,pleach/api.Node] -/
abbrev n_slices_Reverse_api_Node_api_Node : Nat := 216
def b_slices_Reverse_api_Node_api_Node_0 : S :=
 (.seq (.seq (.ops [⟨none, some 7, .move (.t 2)⟩,
    ⟨none, some 8, .move (.t 3)⟩,
    ⟨none, some 9, .bin .lss (.t 7) (.t 8)⟩] [])
 (.cond (.t 9) .skip
  (.exit 0)))
 (.seq (.block 1 (.draw [⟨none, some 14, .move (.t 0)⟩,
    ⟨none, some 15, .move (.t 2)⟩,
    ⟨none, some 16, .move (.t 0)⟩,
    ⟨none, some 17, .move (.t 3)⟩,
    ⟨none, some 18, .move (.t 0)⟩,
    ⟨none, some 19, .move (.t 3)⟩,
    ⟨none, some 20, .idxA 3 (.t 18) (.t 19)⟩,
    ⟨none, some 21, .load true 3 (.t 20)⟩,
    ⟨none, some 22, .move (.t 0)⟩,
    ⟨none, some 23, .move (.t 2)⟩,
    ⟨none, some 24, .idxA 3 (.t 22) (.t 23)⟩,
    ⟨none, some 25, .load true 3 (.t 24)⟩,
    ⟨none, some 26, .idxA 3 (.t 14) (.t 15)⟩,
    ⟨none, none, .store 3 (.t 26) (.t 21)⟩,
    ⟨none, some 27, .idxA 3 (.t 16) (.t 17)⟩,
    ⟨none, none, .store 3 (.t 27) (.t 25)⟩]
  [0, 0, 0, 0, 0, 0, 48, 112, 0, 0, 768, 1792, 4083, 8179, 16383, 32767] []))
 (.ops [⟨none, some 10, .move (.t 2)⟩,
    ⟨none, some 11, .bin .add (.t 10) (.k (.c (.p (.int .i64 1))))⟩,
    ⟨none, some 12, .move (.t 3)⟩,
    ⟨none, some 13, .bin .sub (.t 12) (.k (.c (.p (.int .i64 1))))⟩,
    ⟨none, some 2, .move (.t 11)⟩,
    ⟨none, some 3, .move (.t 13)⟩] [])))
def s_slices_Reverse_api_Node_api_Node : S :=
 (.seq (.ops [⟨none, some 4, .move (.t 0)⟩,
    ⟨none, some 5, .len (.t 4)⟩,
    ⟨none, some 6, .bin .sub (.t 5) (.k (.c (.p (.int .i64 1))))⟩,
    ⟨none, some 2, .move (.k (.c (.p (.int .i64 0))))⟩,
    ⟨none, some 3, .move (.t 6)⟩] [])
 (.block 0 (.loop [0, 2, 3] b_slices_Reverse_api_Node_api_Node_0)))
theorem c_slices_Reverse_api_Node_api_Node : comp Try.prog { own := [], mt := [], lp := [(0, [0, 2, 3])], gh := [] } 28 (Try.f216.body.getD .skip) = some s_slices_Reverse_api_Node_api_Node := by kernel_rfl
abbrev r_slices_Reverse_api_Node_api_Node : List RV := []
theorem a_slices_Reverse_api_Node_api_Node {args : List AV} {H : List (Nat × Blk)} {nx : Nat} {K : AV → List (Nat × Blk) → Nat → Prop} (hal : args.length ≤ 28) (h : W Try.prog s_slices_Reverse_api_Node_api_Node (RETK r_slices_Reverse_api_Node_api_Node K) ⟨argE 0 args, H, nx⟩) : ACalls Try.prog 216 args H nx K :=
  acalls_of_W (drawOk mixed) Try.func216 rfl (by kernel_rfl) (of_decide_eq_true (by kernel_rfl)) (by kernel_rfl) c_slices_Reverse_api_Node_api_Node (by kernel_rfl) hal h
theorem p_slices_Reverse_api_Node_api_Node {args : List AV} {r : AV} (hal : args.length ≤ 28) (hp : args.all pureA = true) (hr : pureA r = true) (h : W Try.prog s_slices_Reverse_api_Node_api_Node (RETK r_slices_Reverse_api_Node_api_Node fun a H _ => FRZ r a H) ⟨argE 0 args, [], 0⟩) : PCalls Try.prog 216 args r := .of hp (a_slices_Reverse_api_Node_api_Node hal h) hr

/-! slices.Reverse[[]pleach/api.Edge,pleach/api.Edge] -/
abbrev n_slices_Reverse_api_Edge_api_Edge : Nat := 217
def b_slices_Reverse_api_Edge_api_Edge_0 : S :=
 (.seq (.seq (.ops [⟨none, some 7, .move (.t 2)⟩,
    ⟨none, some 8, .move (.t 3)⟩,
    ⟨none, some 9, .bin .lss (.t 7) (.t 8)⟩] [])
 (.cond (.t 9) .skip
  (.exit 0)))
 (.seq (.block 1 (.draw [⟨none, some 14, .move (.t 0)⟩,
    ⟨none, some 15, .move (.t 2)⟩,
    ⟨none, some 16, .move (.t 0)⟩,
    ⟨none, some 17, .move (.t 3)⟩,
    ⟨none, some 18, .move (.t 0)⟩,
    ⟨none, some 19, .move (.t 3)⟩,
    ⟨none, some 20, .idxA 5 (.t 18) (.t 19)⟩,
    ⟨none, some 21, .load true 5 (.t 20)⟩,
    ⟨none, some 22, .move (.t 0)⟩,
    ⟨none, some 23, .move (.t 2)⟩,
    ⟨none, some 24, .idxA 5 (.t 22) (.t 23)⟩,
    ⟨none, some 25, .load true 5 (.t 24)⟩,
    ⟨none, some 26, .idxA 5 (.t 14) (.t 15)⟩,
    ⟨none, none, .store 5 (.t 26) (.t 21)⟩,
    ⟨none, some 27, .idxA 5 (.t 16) (.t 17)⟩,
    ⟨none, none, .store 5 (.t 27) (.t 25)⟩]
  [0, 0, 0, 0, 0, 0, 48, 112, 0, 0, 768, 1792, 4083, 8179, 16383, 32767] []))
 (.ops [⟨none, some 10, .move (.t 2)⟩,
    ⟨none, some 11, .bin .add (.t 10) (.k (.c (.p (.int .i64 1))))⟩,
    ⟨none, some 12, .move (.t 3)⟩,
    ⟨none, some 13, .bin .sub (.t 12) (.k (.c (.p (.int .i64 1))))⟩,
    ⟨none, some 2, .move (.t 11)⟩,
    ⟨none, some 3, .move (.t 13)⟩] [])))
def s_slices_Reverse_api_Edge_api_Edge : S :=
 (.seq (.ops [⟨none, some 4, .move (.t 0)⟩,
    ⟨none, some 5, .len (.t 4)⟩,
    ⟨none, some 6, .bin .sub (.t 5) (.k (.c (.p (.int .i64 1))))⟩,
    ⟨none, some 2, .move (.k (.c (.p (.int .i64 0))))⟩,
    ⟨none, some 3, .move (.t 6)⟩] [])
 (.block 0 (.loop [0, 2, 3] b_slices_Reverse_api_Edge_api_Edge_0)))
theorem c_slices_Reverse_api_Edge_api_Edge : comp Try.prog { own := [], mt := [], lp := [(0, [0, 2, 3])], gh := [] } 28 (Try.f217.body.getD .skip) = some s_slices_Reverse_api_Edge_api_Edge := by kernel_rfl
abbrev r_slices_Reverse_api_Edge_api_Edge : List RV := []
theorem a_slices_Reverse_api_Edge_api_Edge {args : List AV} {H : List (Nat × Blk)} {nx : Nat} {K : AV → List (Nat × Blk) → Nat → Prop} (hal : args.length ≤ 28) (h : W Try.prog s_slices_Reverse_api_Edge_api_Edge (RETK r_slices_Reverse_api_Edge_api_Edge K) ⟨argE 0 args, H, nx⟩) : ACalls Try.prog 217 args H nx K :=
  acalls_of_W (drawOk mixed) Try.func217 rfl (by kernel_rfl) (of_decide_eq_true (by kernel_rfl)) (by kernel_rfl) c_slices_Reverse_api_Edge_api_Edge (by kernel_rfl) hal h
theorem p_slices_Reverse_api_Edge_api_Edge {args : List AV} {r : AV} (hal : args.length ≤ 28) (hp : args.all pureA = true) (hr : pureA r = true) (h : W Try.prog s_slices_Reverse_api_Edge_api_Edge (RETK r_slices_Reverse_api_Edge_api_Edge fun a H _ => FRZ r a H) ⟨argE 0 args, [], 0⟩) : PCalls Try.prog 217 args r := .of hp (a_slices_Reverse_api_Edge_api_Edge hal h) hr

end Go.Ab
end PSx
