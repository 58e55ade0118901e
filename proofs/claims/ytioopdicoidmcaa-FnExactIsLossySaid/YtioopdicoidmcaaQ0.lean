/- Texts of functions, in the small language. -/
import Derived.Test.YtioopdicoidmcaaOA
set_option maxRecDepth 100000
namespace Go.Opt
def q1 : Fn' := ⟨27, [.tmp 2], [],
 (.seq (.region false [⟨some 1, .box 11 (.t 0), none, []⟩,
     ⟨some 2, .mov (.bool false), none, []⟩])
  (.seq (.region false [⟨some 3, .mov (.int .i64 1048576), none, []⟩])
  (.seq (.region false [⟨some 7, .ldB true [.int .i64, .str, .str, .int .i64, .sl 1, .sl 3, .int .i64, .int .i64, .str, .sl 1, .sl 5] 1 1 0, none, []⟩,
     ⟨some 8, .mov (.t 3), none, []⟩,
     ⟨some 9, .call 8 [.v (.t 7), .v (.t 8)], none, []⟩,
     ⟨some 3, .mov (.t 9), none, []⟩])
  (.seq (.seq (.region false [⟨some 10, .mov (.t 3), none, []⟩,
      ⟨some 11, .bin .lss (.t 10) (.int .i64 0), none, []⟩])
   (.cond (.t 11) (.seq (.region false [⟨some 2, .mov (.bool true), none, []⟩])
    (.ret))
   (.skip)))
  (.seq (.region false [⟨some 12, .ldB true [.int .i64, .str, .str, .int .i64, .sl 1, .sl 3, .int .i64, .int .i64, .str, .sl 1, .sl 5] 1 1 0, none, []⟩,
     ⟨some 13, .call 10 [.v (.t 12)], none, []⟩,
     ⟨some 14, .call 9 [.v (.t 13)], none, []⟩,
     ⟨some 4, .mov (.t 14), none, []⟩])
  (.seq (.region false [⟨some 15, .ldB true [.int .i64, .str, .str, .int .i64, .sl 1, .sl 3, .int .i64, .int .i64, .str, .sl 1, .sl 5] 1 1 0, none, []⟩,
     ⟨some 16, .call 10 [.v (.t 15)], none, []⟩,
     ⟨some 5, .alloc [.int .i64, .str, .str, .int .i64, .sl 1, .sl 3, .int .i64, .int .i64, .str, .sl 1, .sl 5], none, []⟩,
     ⟨none, .stB 11 5 5 0 (.t 16), none, []⟩])
  (.seq (.region false [⟨some 17, .ldB true [.int .i64, .str, .str, .int .i64, .sl 1, .sl 3, .int .i64, .int .i64, .str, .sl 1, .sl 5] 5 5 0, none, []⟩,
     ⟨some 18, .call 11 [.v (.t 17)], none, []⟩,
     ⟨some 6, .mov (.t 18), none, []⟩])
  (.seq (.seq (.region false [⟨some 19, .mov (.t 6), none, []⟩,
      ⟨some 20, .mov (.t 4), none, []⟩,
      ⟨some 21, .beq true (.t 19) (.t 20), none, []⟩])
   (.cond (.t 21) (.seq (.region false [⟨some 2, .mov (.bool false), none, []⟩])
    (.ret))
   (.skip)))
  (.seq (.seq (.region true [⟨some 22, .ldB true [.int .i64, .str, .str, .int .i64, .sl 1, .sl 3, .int .i64, .int .i64, .str, .sl 1, .sl 5] 5 5 0, none, []⟩,
      ⟨some 23, .ldB true [.int .i64, .str, .str, .int .i64, .sl 1, .sl 3, .int .i64, .int .i64, .str, .sl 1, .sl 5] 1 1 0, none, []⟩,
      ⟨some 24, .call 10 [.v (.t 23)], none, [1]⟩,
      ⟨some 25, .call 12 [.v (.t 22), .v (.t 24)], none, [0, 2, 2]⟩,
      ⟨some 26, .un .not (.t 25), none, [3]⟩])
   (.cond (.t 26) (.seq (.region false [⟨some 2, .mov (.bool false), none, []⟩])
    (.ret))
   (.skip)))
  (.seq (.region false [⟨some 2, .mov (.bool true), none, []⟩])
  (.ret)))))))))))⟩
def q8 : Fn' := ⟨32, [.tmp 4], [],
 (.seq (.region false [⟨some 2, .box 11 (.t 0), none, []⟩,
     ⟨some 4, .mov (.int .i64 0), none, []⟩])
  (.seq (.region false [⟨some 5, .mov (.t 1), none, []⟩,
     ⟨some 6, .adr 2 1 (.box 2 1), none, []⟩,
     ⟨some 7, .ldB false [.str] 6 2 1, none, []⟩,
     ⟨some 8, .slen (.t 7), none, []⟩,
     ⟨some 9, .bin .sub (.t 5) (.t 8), none, []⟩,
     ⟨some 1, .mov (.t 9), none, []⟩])
  (.seq (.seq (.region false [⟨some 10, .mov (.t 1), none, []⟩,
      ⟨some 11, .bin .lss (.t 10) (.int .i64 0), none, []⟩])
   (.cond (.t 11) (.seq (.region false [⟨some 4, .mov (.int .i64 (-1)), none, []⟩])
    (.ret))
   (.skip)))
  (.seq (.region false [⟨some 12, .mov (.t 1), none, []⟩,
     ⟨some 13, .adr 2 2 (.box 2 2), none, []⟩,
     ⟨some 14, .ldB false [.str] 13 2 2, none, []⟩,
     ⟨some 15, .slen (.t 14), none, []⟩,
     ⟨some 16, .bin .sub (.t 12) (.t 15), none, []⟩,
     ⟨some 1, .mov (.t 16), none, []⟩])
  (.seq (.seq (.region false [⟨some 17, .mov (.t 1), none, []⟩,
      ⟨some 18, .bin .lss (.t 17) (.int .i64 0), none, []⟩])
   (.cond (.t 18) (.seq (.region false [⟨some 4, .mov (.int .i64 (-1)), none, []⟩])
    (.ret))
   (.skip)))
  (.seq (.region false [⟨some 19, .adr 2 3 (.box 2 3), none, []⟩,
     ⟨some 20, .ldB true [.int .i64, .sl 1, .sl 3] 19 2 3, none, []⟩,
     ⟨some 21, .mov (.t 1), none, []⟩,
     ⟨some 22, .call 29 [.v (.t 20), .v (.t 21)], none, []⟩,
     ⟨some 1, .mov (.t 22), none, []⟩])
  (.seq (.seq (.region false [⟨some 23, .mov (.t 1), none, []⟩,
      ⟨some 24, .bin .lss (.t 23) (.int .i64 0), none, []⟩])
   (.cond (.t 24) (.seq (.region false [⟨some 4, .mov (.int .i64 (-1)), none, []⟩])
    (.ret))
   (.skip)))
  (.seq (.region false [⟨some 25, .adr 2 6 (.box 2 6), none, []⟩,
     ⟨some 26, .ldB true [.int .i64, .int .i64, .str, .sl 1, .sl 5] 25 2 6, none, []⟩,
     ⟨some 27, .mov (.t 1), none, []⟩,
     ⟨some 28, .call 45 [.v (.t 26), .v (.t 27)], none, []⟩,
     ⟨some 1, .mov (.t 28), none, []⟩])
  (.seq (.seq (.region false [⟨some 29, .mov (.t 1), none, []⟩,
      ⟨some 30, .bin .lss (.t 29) (.int .i64 0), none, []⟩])
   (.cond (.t 30) (.seq (.region false [⟨some 4, .mov (.int .i64 (-1)), none, []⟩])
    (.ret))
   (.skip)))
  (.seq (.region false [⟨some 31, .mov (.t 1), none, []⟩,
     ⟨some 4, .mov (.t 31), none, []⟩])
  (.ret)))))))))))⟩
def q9 : Fn' := ⟨6, [.tmp 2], [],
 (.seq (.region false [⟨some 1, .box 11 (.t 0), none, []⟩,
     ⟨some 2, .mov (.bool false), none, []⟩])
  (.seq (.region false [⟨some 3, .adr 1 0 (.box 1 0), none, []⟩,
     ⟨some 4, .ldB false [.int .i64] 3 1 0, none, []⟩,
     ⟨some 5, .bin .eql (.t 4) (.int .i64 2), none, []⟩,
     ⟨some 2, .mov (.t 5), none, []⟩])
  (.ret)))⟩
def q10 : Fn' := ⟨22, [.cell 2 2 true 11], [],
 (.seq (.region false [⟨some 1, .box 11 (.t 0), none, []⟩,
     ⟨some 2, .alloc [.int .i64, .str, .str, .int .i64, .sl 1, .sl 3, .int .i64, .int .i64, .str, .sl 1, .sl 5], none, []⟩])
  (.seq (.region false [⟨some 3, .alloc [.int .i64, .str, .str, .int .i64, .sl 1, .sl 3, .int .i64, .int .i64, .str, .sl 1, .sl 5], none, []⟩])
  (.seq (.region false [⟨some 4, .adr 1 0 (.box 1 0), none, []⟩,
     ⟨some 5, .ldB false [.int .i64] 4 1 0, none, []⟩,
     ⟨some 6, .adr 3 0 (.box 3 0), none, []⟩,
     ⟨none, .stB 1 6 3 0 (.t 5), none, []⟩])
  (.seq (.region false [⟨some 7, .adr 1 1 (.box 1 1), none, []⟩,
     ⟨some 8, .ldB false [.str] 7 1 1, none, []⟩,
     ⟨some 9, .adr 3 1 (.box 3 1), none, []⟩,
     ⟨none, .stB 1 9 3 1 (.t 8), none, []⟩])
  (.seq (.region false [⟨some 10, .adr 1 2 (.box 1 2), none, []⟩,
     ⟨some 11, .ldB false [.str] 10 1 2, none, []⟩,
     ⟨some 12, .adr 3 2 (.box 3 2), none, []⟩,
     ⟨none, .stB 1 12 3 2 (.t 11), none, []⟩])
  (.seq (.region false [⟨some 13, .adr 1 3 (.box 1 3), none, []⟩,
     ⟨some 14, .ldB true [.int .i64, .sl 1, .sl 3] 13 1 3, none, []⟩,
     ⟨some 15, .call 31 [.v (.t 14)], none, []⟩,
     ⟨some 16, .adr 3 3 (.box 3 3), none, []⟩,
     ⟨none, .stB 3 16 3 3 (.t 15), none, []⟩])
  (.seq (.region false [⟨some 17, .adr 1 6 (.box 1 6), none, []⟩,
     ⟨some 18, .ldB true [.int .i64, .int .i64, .str, .sl 1, .sl 5] 17 1 6, none, []⟩,
     ⟨some 19, .call 46 [.v (.t 18)], none, []⟩,
     ⟨some 20, .adr 3 6 (.box 3 6), none, []⟩,
     ⟨none, .stB 5 20 3 6 (.t 19), none, []⟩])
  (.seq (.region false [⟨some 21, .ldB true [.int .i64, .str, .str, .int .i64, .sl 1, .sl 3, .int .i64, .int .i64, .str, .sl 1, .sl 5] 3 3 0, none, []⟩,
     ⟨none, .stB 11 2 2 0 (.t 21), none, []⟩])
  (.ret)))))))))⟩
def q11 : Fn' := ⟨6, [.tmp 2], [],
 (.seq (.region false [⟨some 1, .box 11 (.t 0), none, []⟩,
     ⟨some 2, .mov (.bool false), none, []⟩])
  (.seq (.region false [⟨some 3, .adr 1 0 (.box 1 0), none, []⟩,
     ⟨some 4, .ldB false [.int .i64] 3 1 0, none, []⟩,
     ⟨some 5, .bin .eql (.t 4) (.int .i64 2), none, []⟩,
     ⟨some 2, .mov (.t 5), none, []⟩])
  (.ret)))⟩
def q12 : Fn' := ⟨32, [.tmp 4], [],
 (.seq (.region false [⟨some 2, .box 11 (.t 0), none, []⟩,
     ⟨some 3, .box 11 (.t 1), none, []⟩,
     ⟨some 4, .mov (.bool false), none, []⟩])
  (.seq (.seq (.region false [⟨some 5, .adr 2 0 (.box 2 0), none, []⟩,
      ⟨some 6, .ldB false [.int .i64] 5 2 0, none, []⟩,
      ⟨some 7, .adr 3 0 (.box 3 0), none, []⟩,
      ⟨some 8, .ldB false [.int .i64] 7 3 0, none, []⟩,
      ⟨some 9, .bin .neq (.t 6) (.t 8), none, []⟩])
   (.cond (.t 9) (.seq (.region false [⟨some 4, .mov (.bool false), none, []⟩])
    (.ret))
   (.skip)))
  (.seq (.seq (.region false [⟨some 10, .adr 2 1 (.box 2 1), none, []⟩,
      ⟨some 11, .ldB false [.str] 10 2 1, none, []⟩,
      ⟨some 12, .adr 3 1 (.box 3 1), none, []⟩,
      ⟨some 13, .ldB false [.str] 12 3 1, none, []⟩,
      ⟨some 14, .bin .neq (.t 11) (.t 13), none, []⟩])
   (.cond (.t 14) (.seq (.region false [⟨some 4, .mov (.bool false), none, []⟩])
    (.ret))
   (.skip)))
  (.seq (.seq (.region false [⟨some 15, .adr 2 2 (.box 2 2), none, []⟩,
      ⟨some 16, .ldB false [.str] 15 2 2, none, []⟩,
      ⟨some 17, .adr 3 2 (.box 3 2), none, []⟩,
      ⟨some 18, .ldB false [.str] 17 3 2, none, []⟩,
      ⟨some 19, .bin .neq (.t 16) (.t 18), none, []⟩])
   (.cond (.t 19) (.seq (.region false [⟨some 4, .mov (.bool false), none, []⟩])
    (.ret))
   (.skip)))
  (.seq (.seq (.region false [⟨some 20, .adr 2 3 (.box 2 3), none, []⟩,
      ⟨some 21, .ldB true [.int .i64, .sl 1, .sl 3] 20 2 3, none, []⟩,
      ⟨some 22, .adr 3 3 (.box 3 3), none, []⟩,
      ⟨some 23, .ldB true [.int .i64, .sl 1, .sl 3] 22 3 3, none, []⟩,
      ⟨some 24, .call 34 [.v (.t 21), .v (.t 23)], none, []⟩,
      ⟨some 25, .un .not (.t 24), none, []⟩])
   (.cond (.t 25) (.seq (.region false [⟨some 4, .mov (.bool false), none, []⟩])
    (.ret))
   (.skip)))
  (.seq (.seq (.region false [⟨some 26, .adr 2 6 (.box 2 6), none, []⟩,
      ⟨some 27, .ldB true [.int .i64, .int .i64, .str, .sl 1, .sl 5] 26 2 6, none, []⟩,
      ⟨some 28, .adr 3 6 (.box 3 6), none, []⟩,
      ⟨some 29, .ldB true [.int .i64, .int .i64, .str, .sl 1, .sl 5] 28 3 6, none, []⟩,
      ⟨some 30, .call 47 [.v (.t 27), .v (.t 29)], none, []⟩,
      ⟨some 31, .un .not (.t 30), none, []⟩])
   (.cond (.t 31) (.seq (.region false [⟨some 4, .mov (.bool false), none, []⟩])
    (.ret))
   (.skip)))
  (.seq (.region false [⟨some 4, .mov (.bool true), none, []⟩])
  (.ret))))))))⟩
def q29 : Fn' := ⟨18, [.tmp 4], [],
 (.seq (.region false [⟨some 2, .box 3 (.t 0), none, []⟩,
     ⟨some 4, .mov (.int .i64 0), none, []⟩])
  (.seq (.region false [⟨some 5, .adr 2 1 (.box 2 1), none, []⟩,
     ⟨some 6, .ldB false [.sl 1] 5 2 1, none, []⟩,
     ⟨some 7, .mov (.t 1), none, []⟩,
     ⟨some 8, .call 63 [.v (.t 6), .v (.t 7)], none, []⟩,
     ⟨some 1, .mov (.t 8), none, []⟩])
  (.seq (.seq (.region false [⟨some 9, .mov (.t 1), none, []⟩,
      ⟨some 10, .bin .lss (.t 9) (.int .i64 0), none, []⟩])
   (.cond (.t 10) (.seq (.region false [⟨some 4, .mov (.int .i64 (-1)), none, []⟩])
    (.ret))
   (.skip)))
  (.seq (.region false [⟨some 11, .adr 2 2 (.box 2 2), none, []⟩,
     ⟨some 12, .ldB false [.sl 3] 11 2 2, none, []⟩,
     ⟨some 13, .mov (.t 1), none, []⟩,
     ⟨some 14, .call 64 [.v (.t 12), .v (.t 13)], none, []⟩,
     ⟨some 1, .mov (.t 14), none, []⟩])
  (.seq (.seq (.region false [⟨some 15, .mov (.t 1), none, []⟩,
      ⟨some 16, .bin .lss (.t 15) (.int .i64 0), none, []⟩])
   (.cond (.t 16) (.seq (.region false [⟨some 4, .mov (.int .i64 (-1)), none, []⟩])
    (.ret))
   (.skip)))
  (.seq (.region false [⟨some 17, .mov (.t 1), none, []⟩,
     ⟨some 4, .mov (.t 17), none, []⟩])
  (.ret)))))))⟩
def q31 : Fn' := ⟨16, [.cell 2 2 true 3], [],
 (.seq (.region false [⟨some 1, .box 3 (.t 0), none, []⟩,
     ⟨some 2, .alloc [.int .i64, .sl 1, .sl 3], none, []⟩])
  (.seq (.region false [⟨some 3, .alloc [.int .i64, .sl 1, .sl 3], none, []⟩])
  (.seq (.region false [⟨some 4, .adr 1 0 (.box 1 0), none, []⟩,
     ⟨some 5, .ldB false [.int .i64] 4 1 0, none, []⟩,
     ⟨some 6, .adr 3 0 (.box 3 0), none, []⟩,
     ⟨none, .stB 1 6 3 0 (.t 5), none, []⟩])
  (.seq (.region false [⟨some 7, .adr 1 1 (.box 1 1), none, []⟩,
     ⟨some 8, .ldB false [.sl 1] 7 1 1, none, []⟩,
     ⟨some 9, .call 68 [.v (.t 8)], none, []⟩,
     ⟨some 10, .adr 3 1 (.box 3 1), none, []⟩,
     ⟨none, .stB 1 10 3 1 (.t 9), none, []⟩])
  (.seq (.region false [⟨some 11, .adr 1 2 (.box 1 2), none, []⟩,
     ⟨some 12, .ldB false [.sl 3] 11 1 2, none, []⟩,
     ⟨some 13, .call 69 [.v (.t 12)], none, []⟩,
     ⟨some 14, .adr 3 2 (.box 3 2), none, []⟩,
     ⟨none, .stB 1 14 3 2 (.t 13), none, []⟩])
  (.seq (.region false [⟨some 15, .ldB true [.int .i64, .sl 1, .sl 3] 3 3 0, none, []⟩,
     ⟨none, .stB 3 2 2 0 (.t 15), none, []⟩])
  (.ret)))))))⟩
def q34 : Fn' := ⟨22, [.tmp 4], [],
 (.seq (.region false [⟨some 2, .box 3 (.t 0), none, []⟩,
     ⟨some 3, .box 3 (.t 1), none, []⟩,
     ⟨some 4, .mov (.bool false), none, []⟩])
  (.seq (.seq (.region false [⟨some 5, .adr 2 0 (.box 2 0), none, []⟩,
      ⟨some 6, .ldB false [.int .i64] 5 2 0, none, []⟩,
      ⟨some 7, .adr 3 0 (.box 3 0), none, []⟩,
      ⟨some 8, .ldB false [.int .i64] 7 3 0, none, []⟩,
      ⟨some 9, .bin .neq (.t 6) (.t 8), none, []⟩])
   (.cond (.t 9) (.seq (.region false [⟨some 4, .mov (.bool false), none, []⟩])
    (.ret))
   (.skip)))
  (.seq (.seq (.region false [⟨some 10, .adr 2 1 (.box 2 1), none, []⟩,
      ⟨some 11, .ldB false [.sl 1] 10 2 1, none, []⟩,
      ⟨some 12, .adr 3 1 (.box 3 1), none, []⟩,
      ⟨some 13, .ldB false [.sl 1] 12 3 1, none, []⟩,
      ⟨some 14, .call 72 [.v (.t 11), .v (.t 13)], none, []⟩,
      ⟨some 15, .un .not (.t 14), none, []⟩])
   (.cond (.t 15) (.seq (.region false [⟨some 4, .mov (.bool false), none, []⟩])
    (.ret))
   (.skip)))
  (.seq (.seq (.region false [⟨some 16, .adr 2 2 (.box 2 2), none, []⟩,
      ⟨some 17, .ldB false [.sl 3] 16 2 2, none, []⟩,
      ⟨some 18, .adr 3 2 (.box 3 2), none, []⟩,
      ⟨some 19, .ldB false [.sl 3] 18 3 2, none, []⟩,
      ⟨some 20, .call 73 [.v (.t 17), .v (.t 19)], none, []⟩,
      ⟨some 21, .un .not (.t 20), none, []⟩])
   (.cond (.t 21) (.seq (.region false [⟨some 4, .mov (.bool false), none, []⟩])
    (.ret))
   (.skip)))
  (.seq (.region false [⟨some 4, .mov (.bool true), none, []⟩])
  (.ret))))))⟩
def q45 : Fn' := ⟨25, [.tmp 4], [],
 (.seq (.region false [⟨some 2, .box 5 (.t 0), none, []⟩,
     ⟨some 4, .mov (.int .i64 0), none, []⟩])
  (.seq (.region false [⟨some 5, .mov (.t 1), none, []⟩,
     ⟨some 6, .adr 2 2 (.box 2 2), none, []⟩,
     ⟨some 7, .ldB false [.str] 6 2 2, none, []⟩,
     ⟨some 8, .slen (.t 7), none, []⟩,
     ⟨some 9, .bin .sub (.t 5) (.t 8), none, []⟩,
     ⟨some 1, .mov (.t 9), none, []⟩])
  (.seq (.seq (.region false [⟨some 10, .mov (.t 1), none, []⟩,
      ⟨some 11, .bin .lss (.t 10) (.int .i64 0), none, []⟩])
   (.cond (.t 11) (.seq (.region false [⟨some 4, .mov (.int .i64 (-1)), none, []⟩])
    (.ret))
   (.skip)))
  (.seq (.region false [⟨some 12, .adr 2 3 (.box 2 3), none, []⟩,
     ⟨some 13, .ldB false [.sl 1] 12 2 3, none, []⟩,
     ⟨some 14, .mov (.t 1), none, []⟩,
     ⟨some 15, .call 63 [.v (.t 13), .v (.t 14)], none, []⟩,
     ⟨some 1, .mov (.t 15), none, []⟩])
  (.seq (.seq (.region false [⟨some 16, .mov (.t 1), none, []⟩,
      ⟨some 17, .bin .lss (.t 16) (.int .i64 0), none, []⟩])
   (.cond (.t 17) (.seq (.region false [⟨some 4, .mov (.int .i64 (-1)), none, []⟩])
    (.ret))
   (.skip)))
  (.seq (.region false [⟨some 18, .adr 2 4 (.box 2 4), none, []⟩,
     ⟨some 19, .ldB false [.sl 5] 18 2 4, none, []⟩,
     ⟨some 20, .mov (.t 1), none, []⟩,
     ⟨some 21, .call 85 [.v (.t 19), .v (.t 20)], none, []⟩,
     ⟨some 1, .mov (.t 21), none, []⟩])
  (.seq (.seq (.region false [⟨some 22, .mov (.t 1), none, []⟩,
      ⟨some 23, .bin .lss (.t 22) (.int .i64 0), none, []⟩])
   (.cond (.t 23) (.seq (.region false [⟨some 4, .mov (.int .i64 (-1)), none, []⟩])
    (.ret))
   (.skip)))
  (.seq (.region false [⟨some 24, .mov (.t 1), none, []⟩,
     ⟨some 4, .mov (.t 24), none, []⟩])
  (.ret)))))))))⟩
def q46 : Fn' := ⟨22, [.cell 2 2 true 5], [],
 (.seq (.region false [⟨some 1, .box 5 (.t 0), none, []⟩,
     ⟨some 2, .alloc [.int .i64, .int .i64, .str, .sl 1, .sl 5], none, []⟩])
  (.seq (.region false [⟨some 3, .alloc [.int .i64, .int .i64, .str, .sl 1, .sl 5], none, []⟩])
  (.seq (.region false [⟨some 4, .adr 1 0 (.box 1 0), none, []⟩,
     ⟨some 5, .ldB false [.int .i64] 4 1 0, none, []⟩,
     ⟨some 6, .adr 3 0 (.box 3 0), none, []⟩,
     ⟨none, .stB 1 6 3 0 (.t 5), none, []⟩])
  (.seq (.region false [⟨some 7, .adr 1 1 (.box 1 1), none, []⟩,
     ⟨some 8, .ldB false [.int .i64] 7 1 1, none, []⟩,
     ⟨some 9, .adr 3 1 (.box 3 1), none, []⟩,
     ⟨none, .stB 1 9 3 1 (.t 8), none, []⟩])
  (.seq (.region false [⟨some 10, .adr 1 2 (.box 1 2), none, []⟩,
     ⟨some 11, .ldB false [.str] 10 1 2, none, []⟩,
     ⟨some 12, .adr 3 2 (.box 3 2), none, []⟩,
     ⟨none, .stB 1 12 3 2 (.t 11), none, []⟩])
  (.seq (.region false [⟨some 13, .adr 1 3 (.box 1 3), none, []⟩,
     ⟨some 14, .ldB false [.sl 1] 13 1 3, none, []⟩,
     ⟨some 15, .call 68 [.v (.t 14)], none, []⟩,
     ⟨some 16, .adr 3 3 (.box 3 3), none, []⟩,
     ⟨none, .stB 1 16 3 3 (.t 15), none, []⟩])
  (.seq (.region false [⟨some 17, .adr 1 4 (.box 1 4), none, []⟩,
     ⟨some 18, .ldB false [.sl 5] 17 1 4, none, []⟩,
     ⟨some 19, .call 86 [.v (.t 18)], none, []⟩,
     ⟨some 20, .adr 3 4 (.box 3 4), none, []⟩,
     ⟨none, .stB 1 20 3 4 (.t 19), none, []⟩])
  (.seq (.region false [⟨some 21, .ldB true [.int .i64, .int .i64, .str, .sl 1, .sl 5] 3 3 0, none, []⟩,
     ⟨none, .stB 5 2 2 0 (.t 21), none, []⟩])
  (.ret)))))))))⟩
def q47 : Fn' := ⟨32, [.tmp 4], [],
 (.seq (.region false [⟨some 2, .box 5 (.t 0), none, []⟩,
     ⟨some 3, .box 5 (.t 1), none, []⟩,
     ⟨some 4, .mov (.bool false), none, []⟩])
  (.seq (.seq (.region false [⟨some 5, .adr 2 0 (.box 2 0), none, []⟩,
      ⟨some 6, .ldB false [.int .i64] 5 2 0, none, []⟩,
      ⟨some 7, .adr 3 0 (.box 3 0), none, []⟩,
      ⟨some 8, .ldB false [.int .i64] 7 3 0, none, []⟩,
      ⟨some 9, .bin .neq (.t 6) (.t 8), none, []⟩])
   (.cond (.t 9) (.seq (.region false [⟨some 4, .mov (.bool false), none, []⟩])
    (.ret))
   (.skip)))
  (.seq (.seq (.region false [⟨some 10, .adr 2 1 (.box 2 1), none, []⟩,
      ⟨some 11, .ldB false [.int .i64] 10 2 1, none, []⟩,
      ⟨some 12, .adr 3 1 (.box 3 1), none, []⟩,
      ⟨some 13, .ldB false [.int .i64] 12 3 1, none, []⟩,
      ⟨some 14, .bin .neq (.t 11) (.t 13), none, []⟩])
   (.cond (.t 14) (.seq (.region false [⟨some 4, .mov (.bool false), none, []⟩])
    (.ret))
   (.skip)))
  (.seq (.seq (.region false [⟨some 15, .adr 2 2 (.box 2 2), none, []⟩,
      ⟨some 16, .ldB false [.str] 15 2 2, none, []⟩,
      ⟨some 17, .adr 3 2 (.box 3 2), none, []⟩,
      ⟨some 18, .ldB false [.str] 17 3 2, none, []⟩,
      ⟨some 19, .bin .neq (.t 16) (.t 18), none, []⟩])
   (.cond (.t 19) (.seq (.region false [⟨some 4, .mov (.bool false), none, []⟩])
    (.ret))
   (.skip)))
  (.seq (.seq (.region false [⟨some 20, .adr 2 3 (.box 2 3), none, []⟩,
      ⟨some 21, .ldB false [.sl 1] 20 2 3, none, []⟩,
      ⟨some 22, .adr 3 3 (.box 3 3), none, []⟩,
      ⟨some 23, .ldB false [.sl 1] 22 3 3, none, []⟩,
      ⟨some 24, .call 72 [.v (.t 21), .v (.t 23)], none, []⟩,
      ⟨some 25, .un .not (.t 24), none, []⟩])
   (.cond (.t 25) (.seq (.region false [⟨some 4, .mov (.bool false), none, []⟩])
    (.ret))
   (.skip)))
  (.seq (.seq (.region false [⟨some 26, .adr 2 4 (.box 2 4), none, []⟩,
      ⟨some 27, .ldB false [.sl 5] 26 2 4, none, []⟩,
      ⟨some 28, .adr 3 4 (.box 3 4), none, []⟩,
      ⟨some 29, .ldB false [.sl 5] 28 3 4, none, []⟩,
      ⟨some 30, .call 87 [.v (.t 27), .v (.t 29)], none, []⟩,
      ⟨some 31, .un .not (.t 30), none, []⟩])
   (.cond (.t 31) (.seq (.region false [⟨some 4, .mov (.bool false), none, []⟩])
    (.ret))
   (.skip)))
  (.seq (.region false [⟨some 4, .mov (.bool true), none, []⟩])
  (.ret))))))))⟩
def q63 : Fn' := ⟨28, [.tmp 4], [],
 (.seq (.region false [⟨some 4, .mov (.int .i64 0), none, []⟩])
  (.seq (.region false [⟨some 6, .mov (.t 1), none, []⟩,
     ⟨some 7, .mov (.t 0), none, []⟩,
     ⟨some 8, .len (.t 7), none, []⟩,
     ⟨some 9, .bin .sub (.t 6) (.t 8), none, []⟩,
     ⟨some 1, .mov (.t 9), none, []⟩])
  (.seq (.seq (.region false [⟨some 10, .mov (.t 1), none, []⟩,
      ⟨some 11, .bin .lss (.t 10) (.int .i64 0), none, []⟩])
   (.cond (.t 11) (.seq (.region false [⟨some 4, .mov (.int .i64 (-1)), none, []⟩])
    (.ret))
   (.skip)))
  (.seq (.seq (.region false [⟨some 5, .mov (.int .i64 0), none, []⟩])
   (.block 0
    (.loop
      (.seq (.seq (.region false [⟨some 12, .mov (.t 5), none, []⟩,
           ⟨some 13, .mov (.t 0), none, []⟩,
           ⟨some 14, .len (.t 13), none, []⟩,
           ⟨some 15, .bin .lss (.t 12) (.t 14), none, []⟩])
        (.cond (.t 15) (.skip)
        (.exit 0)))
       (.seq (.block 1
         (.seq (.region false [⟨some 18, .mov (.t 1), none, []⟩,
             ⟨some 19, .mov (.t 0), none, []⟩,
             ⟨some 20, .mov (.t 5), none, []⟩,
             ⟨some 21, .iadr 1 (.t 19) (.t 20) (.el (.tmp 0) [(.t 20, 0)]), none, []⟩,
             ⟨some 22, .ldE false [.str] 21 (.tmp 0) [(.t 20, 0)], none, []⟩,
             ⟨some 23, .slen (.t 22), none, []⟩,
             ⟨some 24, .bin .sub (.t 18) (.t 23), none, []⟩,
             ⟨some 1, .mov (.t 24), none, []⟩])
          (.seq (.region false [⟨some 25, .mov (.t 1), none, []⟩,
             ⟨some 26, .bin .lss (.t 25) (.int .i64 0), none, []⟩])
          (.cond (.t 26) (.seq (.region false [⟨some 4, .mov (.int .i64 (-1)), none, []⟩])
           (.ret))
          (.skip)))))
       (.region false [⟨some 16, .mov (.t 5), none, []⟩,
         ⟨some 17, .bin .add (.t 16) (.int .i64 1), none, []⟩,
         ⟨some 5, .mov (.t 17), none, []⟩]))))))
  (.seq (.region false [⟨some 27, .mov (.t 1), none, []⟩,
     ⟨some 4, .mov (.t 27), none, []⟩])
  (.ret))))))⟩
def q64 : Fn' := ⟨27, [.tmp 4], [],
 (.seq (.region false [⟨some 4, .mov (.int .i64 0), none, []⟩])
  (.seq (.region false [⟨some 6, .mov (.t 1), none, []⟩,
     ⟨some 7, .mov (.t 0), none, []⟩,
     ⟨some 8, .len (.t 7), none, []⟩,
     ⟨some 9, .bin .sub (.t 6) (.t 8), none, []⟩,
     ⟨some 1, .mov (.t 9), none, []⟩])
  (.seq (.seq (.region false [⟨some 10, .mov (.t 1), none, []⟩,
      ⟨some 11, .bin .lss (.t 10) (.int .i64 0), none, []⟩])
   (.cond (.t 11) (.seq (.region false [⟨some 4, .mov (.int .i64 (-1)), none, []⟩])
    (.ret))
   (.skip)))
  (.seq (.seq (.region false [⟨some 5, .mov (.int .i64 0), none, []⟩])
   (.block 0
    (.loop
      (.seq (.seq (.region false [⟨some 12, .mov (.t 5), none, []⟩,
           ⟨some 13, .mov (.t 0), none, []⟩,
           ⟨some 14, .len (.t 13), none, []⟩,
           ⟨some 15, .bin .lss (.t 12) (.t 14), none, []⟩])
        (.cond (.t 15) (.skip)
        (.exit 0)))
       (.seq (.block 1
         (.seq (.region false [⟨some 18, .mov (.t 0), none, []⟩,
             ⟨some 19, .mov (.t 5), none, []⟩,
             ⟨some 20, .iadr 3 (.t 18) (.t 19) (.el (.tmp 0) [(.t 19, 0)]), none, []⟩,
             ⟨some 21, .ldE true [.int .i64, .sl 1, .sl 3] 20 (.tmp 0) [(.t 19, 0)], none, []⟩,
             ⟨some 22, .mov (.t 1), none, []⟩,
             ⟨some 23, .call 29 [.v (.t 21), .v (.t 22)], none, []⟩,
             ⟨some 1, .mov (.t 23), none, []⟩])
          (.seq (.region false [⟨some 24, .mov (.t 1), none, []⟩,
             ⟨some 25, .bin .lss (.t 24) (.int .i64 0), none, []⟩])
          (.cond (.t 25) (.seq (.region false [⟨some 4, .mov (.int .i64 (-1)), none, []⟩])
           (.ret))
          (.skip)))))
       (.region false [⟨some 16, .mov (.t 5), none, []⟩,
         ⟨some 17, .bin .add (.t 16) (.int .i64 1), none, []⟩,
         ⟨some 5, .mov (.t 17), none, []⟩]))))))
  (.seq (.region false [⟨some 26, .mov (.t 1), none, []⟩,
     ⟨some 4, .mov (.t 26), none, []⟩])
  (.ret))))))⟩
def q68 : Fn' := ⟨22, [.tmp 2], [],
 (.seq (.region false [⟨some 2, .mov (.nil 1), none, []⟩])
  (.seq (.region false [⟨some 5, .mov (.t 0), none, []⟩,
     ⟨some 6, .len (.t 5), none, []⟩,
     ⟨some 7, .mks [.str] 16 (.t 6), none, []⟩,
     ⟨some 3, .mov (.t 7), none, []⟩])
  (.seq (.seq (.region false [⟨some 4, .mov (.int .i64 0), none, []⟩])
   (.block 0
    (.loop
      (.seq (.seq (.region false [⟨some 8, .mov (.t 4), none, []⟩,
           ⟨some 9, .mov (.t 0), none, []⟩,
           ⟨some 10, .len (.t 9), none, []⟩,
           ⟨some 11, .bin .lss (.t 8) (.t 10), none, []⟩])
        (.cond (.t 11) (.skip)
        (.exit 0)))
       (.seq (.block 1
         (.region false [⟨some 14, .mov (.t 3), none, []⟩,
            ⟨some 15, .mov (.t 4), none, []⟩,
            ⟨some 16, .mov (.t 0), none, []⟩,
            ⟨some 17, .mov (.t 4), none, []⟩,
            ⟨some 18, .iadr 1 (.t 16) (.t 17) (.el (.tmp 0) [(.t 17, 0)]), none, []⟩,
            ⟨some 19, .ldE false [.str] 18 (.tmp 0) [(.t 17, 0)], none, []⟩,
            ⟨some 20, .iadr 1 (.t 14) (.t 15) (.el (.tmp 3) [(.t 15, 0)]), none, []⟩,
            ⟨none, .stE 1 20 (.tmp 3) [(.t 15, 0)] (.t 19), none, []⟩]))
       (.region false [⟨some 12, .mov (.t 4), none, []⟩,
         ⟨some 13, .bin .add (.t 12) (.int .i64 1), none, []⟩,
         ⟨some 4, .mov (.t 13), none, []⟩]))))))
  (.seq (.region false [⟨some 21, .mov (.t 3), none, []⟩,
     ⟨some 2, .mov (.t 21), none, []⟩])
  (.ret)))))⟩
def q69 : Fn' := ⟨23, [.tmp 2], [],
 (.seq (.region false [⟨some 2, .mov (.nil 3), none, []⟩])
  (.seq (.region false [⟨some 5, .mov (.t 0), none, []⟩,
     ⟨some 6, .len (.t 5), none, []⟩,
     ⟨some 7, .mks [.int .i64, .sl 1, .sl 3] 56 (.t 6), none, []⟩,
     ⟨some 3, .mov (.t 7), none, []⟩])
  (.seq (.seq (.region false [⟨some 4, .mov (.int .i64 0), none, []⟩])
   (.block 0
    (.loop
      (.seq (.seq (.region false [⟨some 8, .mov (.t 4), none, []⟩,
           ⟨some 9, .mov (.t 0), none, []⟩,
           ⟨some 10, .len (.t 9), none, []⟩,
           ⟨some 11, .bin .lss (.t 8) (.t 10), none, []⟩])
        (.cond (.t 11) (.skip)
        (.exit 0)))
       (.seq (.block 1
         (.region false [⟨some 14, .mov (.t 3), none, []⟩,
            ⟨some 15, .mov (.t 4), none, []⟩,
            ⟨some 16, .mov (.t 0), none, []⟩,
            ⟨some 17, .mov (.t 4), none, []⟩,
            ⟨some 18, .iadr 3 (.t 16) (.t 17) (.el (.tmp 0) [(.t 17, 0)]), none, []⟩,
            ⟨some 19, .ldE true [.int .i64, .sl 1, .sl 3] 18 (.tmp 0) [(.t 17, 0)], none, []⟩,
            ⟨some 20, .call 31 [.v (.t 19)], none, []⟩,
            ⟨some 21, .iadr 3 (.t 14) (.t 15) (.el (.tmp 3) [(.t 15, 0)]), none, []⟩,
            ⟨none, .stE 3 21 (.tmp 3) [(.t 15, 0)] (.t 20), none, []⟩]))
       (.region false [⟨some 12, .mov (.t 4), none, []⟩,
         ⟨some 13, .bin .add (.t 12) (.int .i64 1), none, []⟩,
         ⟨some 4, .mov (.t 13), none, []⟩]))))))
  (.seq (.region false [⟨some 22, .mov (.t 3), none, []⟩,
     ⟨some 2, .mov (.t 22), none, []⟩])
  (.ret)))))⟩
def q72 : Fn' := ⟨26, [.tmp 4], [],
 (.seq (.region false [⟨some 4, .mov (.bool false), none, []⟩])
  (.seq (.seq (.region false [⟨some 6, .mov (.t 0), none, []⟩,
      ⟨some 7, .len (.t 6), none, []⟩,
      ⟨some 8, .mov (.t 1), none, []⟩,
      ⟨some 9, .len (.t 8), none, []⟩,
      ⟨some 10, .bin .neq (.t 7) (.t 9), none, []⟩])
   (.cond (.t 10) (.seq (.region false [⟨some 4, .mov (.bool false), none, []⟩])
    (.ret))
   (.skip)))
  (.seq (.seq (.region false [⟨some 5, .mov (.int .i64 0), none, []⟩])
   (.block 0
    (.loop
      (.seq (.seq (.region false [⟨some 11, .mov (.t 5), none, []⟩,
           ⟨some 12, .mov (.t 0), none, []⟩,
           ⟨some 13, .len (.t 12), none, []⟩,
           ⟨some 14, .bin .lss (.t 11) (.t 13), none, []⟩])
        (.cond (.t 14) (.skip)
        (.exit 0)))
       (.seq (.block 1
         (.seq (.region true [⟨some 17, .mov (.t 0), none, []⟩,
             ⟨some 18, .mov (.t 5), none, []⟩,
             ⟨some 19, .iadr 1 (.t 17) (.t 18) (.el (.tmp 17) [(.t 18, 0)]), none, [0, 1]⟩,
             ⟨some 20, .ldE false [.str] 19 (.tmp 17) [(.t 18, 0)], none, [2]⟩,
             ⟨some 21, .mov (.t 1), none, []⟩,
             ⟨some 22, .mov (.t 5), none, []⟩,
             ⟨some 23, .iadr 1 (.t 21) (.t 22) (.el (.tmp 21) [(.t 22, 0)]), none, [4, 5]⟩,
             ⟨some 24, .ldE false [.str] 23 (.tmp 21) [(.t 22, 0)], none, [6]⟩,
             ⟨some 25, .bin .neq (.t 20) (.t 24), none, [3, 7]⟩])
          (.cond (.t 25) (.seq (.region false [⟨some 4, .mov (.bool false), none, []⟩])
           (.ret))
          (.skip))))
       (.region false [⟨some 15, .mov (.t 5), none, []⟩,
         ⟨some 16, .bin .add (.t 15) (.int .i64 1), none, []⟩,
         ⟨some 5, .mov (.t 16), none, []⟩]))))))
  (.seq (.region false [⟨some 4, .mov (.bool true), none, []⟩])
  (.ret)))))⟩
def q73 : Fn' := ⟨27, [.tmp 4], [],
 (.seq (.region false [⟨some 4, .mov (.bool false), none, []⟩])
  (.seq (.seq (.region false [⟨some 6, .mov (.t 0), none, []⟩,
      ⟨some 7, .len (.t 6), none, []⟩,
      ⟨some 8, .mov (.t 1), none, []⟩,
      ⟨some 9, .len (.t 8), none, []⟩,
      ⟨some 10, .bin .neq (.t 7) (.t 9), none, []⟩])
   (.cond (.t 10) (.seq (.region false [⟨some 4, .mov (.bool false), none, []⟩])
    (.ret))
   (.skip)))
  (.seq (.seq (.region false [⟨some 5, .mov (.int .i64 0), none, []⟩])
   (.block 0
    (.loop
      (.seq (.seq (.region false [⟨some 11, .mov (.t 5), none, []⟩,
           ⟨some 12, .mov (.t 0), none, []⟩,
           ⟨some 13, .len (.t 12), none, []⟩,
           ⟨some 14, .bin .lss (.t 11) (.t 13), none, []⟩])
        (.cond (.t 14) (.skip)
        (.exit 0)))
       (.seq (.block 1
         (.seq (.region true [⟨some 17, .mov (.t 0), none, []⟩,
             ⟨some 18, .mov (.t 5), none, []⟩,
             ⟨some 19, .iadr 3 (.t 17) (.t 18) (.el (.tmp 17) [(.t 18, 0)]), none, [0, 1]⟩,
             ⟨some 20, .ldE true [.int .i64, .sl 1, .sl 3] 19 (.tmp 17) [(.t 18, 0)], none, [2]⟩,
             ⟨some 21, .mov (.t 1), none, []⟩,
             ⟨some 22, .mov (.t 5), none, []⟩,
             ⟨some 23, .iadr 3 (.t 21) (.t 22) (.el (.tmp 21) [(.t 22, 0)]), none, [4, 5]⟩,
             ⟨some 24, .ldE true [.int .i64, .sl 1, .sl 3] 23 (.tmp 21) [(.t 22, 0)], none, [6]⟩,
             ⟨some 25, .call 34 [.v (.t 20), .v (.t 24)], none, [3, 7]⟩,
             ⟨some 26, .un .not (.t 25), none, [8]⟩])
          (.cond (.t 26) (.seq (.region false [⟨some 4, .mov (.bool false), none, []⟩])
           (.ret))
          (.skip))))
       (.region false [⟨some 15, .mov (.t 5), none, []⟩,
         ⟨some 16, .bin .add (.t 15) (.int .i64 1), none, []⟩,
         ⟨some 5, .mov (.t 16), none, []⟩]))))))
  (.seq (.region false [⟨some 4, .mov (.bool true), none, []⟩])
  (.ret)))))⟩
def q85 : Fn' := ⟨27, [.tmp 4], [],
 (.seq (.region false [⟨some 4, .mov (.int .i64 0), none, []⟩])
  (.seq (.region false [⟨some 6, .mov (.t 1), none, []⟩,
     ⟨some 7, .mov (.t 0), none, []⟩,
     ⟨some 8, .len (.t 7), none, []⟩,
     ⟨some 9, .bin .sub (.t 6) (.t 8), none, []⟩,
     ⟨some 1, .mov (.t 9), none, []⟩])
  (.seq (.seq (.region false [⟨some 10, .mov (.t 1), none, []⟩,
      ⟨some 11, .bin .lss (.t 10) (.int .i64 0), none, []⟩])
   (.cond (.t 11) (.seq (.region false [⟨some 4, .mov (.int .i64 (-1)), none, []⟩])
    (.ret))
   (.skip)))
  (.seq (.seq (.region false [⟨some 5, .mov (.int .i64 0), none, []⟩])
   (.block 0
    (.loop
      (.seq (.seq (.region false [⟨some 12, .mov (.t 5), none, []⟩,
           ⟨some 13, .mov (.t 0), none, []⟩,
           ⟨some 14, .len (.t 13), none, []⟩,
           ⟨some 15, .bin .lss (.t 12) (.t 14), none, []⟩])
        (.cond (.t 15) (.skip)
        (.exit 0)))
       (.seq (.block 1
         (.seq (.region false [⟨some 18, .mov (.t 0), none, []⟩,
             ⟨some 19, .mov (.t 5), none, []⟩,
             ⟨some 20, .iadr 5 (.t 18) (.t 19) (.el (.tmp 0) [(.t 19, 0)]), none, []⟩,
             ⟨some 21, .ldE true [.int .i64, .int .i64, .str, .sl 1, .sl 5] 20 (.tmp 0) [(.t 19, 0)], none, []⟩,
             ⟨some 22, .mov (.t 1), none, []⟩,
             ⟨some 23, .call 45 [.v (.t 21), .v (.t 22)], none, []⟩,
             ⟨some 1, .mov (.t 23), none, []⟩])
          (.seq (.region false [⟨some 24, .mov (.t 1), none, []⟩,
             ⟨some 25, .bin .lss (.t 24) (.int .i64 0), none, []⟩])
          (.cond (.t 25) (.seq (.region false [⟨some 4, .mov (.int .i64 (-1)), none, []⟩])
           (.ret))
          (.skip)))))
       (.region false [⟨some 16, .mov (.t 5), none, []⟩,
         ⟨some 17, .bin .add (.t 16) (.int .i64 1), none, []⟩,
         ⟨some 5, .mov (.t 17), none, []⟩]))))))
  (.seq (.region false [⟨some 26, .mov (.t 1), none, []⟩,
     ⟨some 4, .mov (.t 26), none, []⟩])
  (.ret))))))⟩
def q86 : Fn' := ⟨23, [.tmp 2], [],
 (.seq (.region false [⟨some 2, .mov (.nil 5), none, []⟩])
  (.seq (.region false [⟨some 5, .mov (.t 0), none, []⟩,
     ⟨some 6, .len (.t 5), none, []⟩,
     ⟨some 7, .mks [.int .i64, .int .i64, .str, .sl 1, .sl 5] 80 (.t 6), none, []⟩,
     ⟨some 3, .mov (.t 7), none, []⟩])
  (.seq (.seq (.region false [⟨some 4, .mov (.int .i64 0), none, []⟩])
   (.block 0
    (.loop
      (.seq (.seq (.region false [⟨some 8, .mov (.t 4), none, []⟩,
           ⟨some 9, .mov (.t 0), none, []⟩,
           ⟨some 10, .len (.t 9), none, []⟩,
           ⟨some 11, .bin .lss (.t 8) (.t 10), none, []⟩])
        (.cond (.t 11) (.skip)
        (.exit 0)))
       (.seq (.block 1
         (.region false [⟨some 14, .mov (.t 3), none, []⟩,
            ⟨some 15, .mov (.t 4), none, []⟩,
            ⟨some 16, .mov (.t 0), none, []⟩,
            ⟨some 17, .mov (.t 4), none, []⟩,
            ⟨some 18, .iadr 5 (.t 16) (.t 17) (.el (.tmp 0) [(.t 17, 0)]), none, []⟩,
            ⟨some 19, .ldE true [.int .i64, .int .i64, .str, .sl 1, .sl 5] 18 (.tmp 0) [(.t 17, 0)], none, []⟩,
            ⟨some 20, .call 46 [.v (.t 19)], none, []⟩,
            ⟨some 21, .iadr 5 (.t 14) (.t 15) (.el (.tmp 3) [(.t 15, 0)]), none, []⟩,
            ⟨none, .stE 5 21 (.tmp 3) [(.t 15, 0)] (.t 20), none, []⟩]))
       (.region false [⟨some 12, .mov (.t 4), none, []⟩,
         ⟨some 13, .bin .add (.t 12) (.int .i64 1), none, []⟩,
         ⟨some 4, .mov (.t 13), none, []⟩]))))))
  (.seq (.region false [⟨some 22, .mov (.t 3), none, []⟩,
     ⟨some 2, .mov (.t 22), none, []⟩])
  (.ret)))))⟩
def q87 : Fn' := ⟨27, [.tmp 4], [],
 (.seq (.region false [⟨some 4, .mov (.bool false), none, []⟩])
  (.seq (.seq (.region false [⟨some 6, .mov (.t 0), none, []⟩,
      ⟨some 7, .len (.t 6), none, []⟩,
      ⟨some 8, .mov (.t 1), none, []⟩,
      ⟨some 9, .len (.t 8), none, []⟩,
      ⟨some 10, .bin .neq (.t 7) (.t 9), none, []⟩])
   (.cond (.t 10) (.seq (.region false [⟨some 4, .mov (.bool false), none, []⟩])
    (.ret))
   (.skip)))
  (.seq (.seq (.region false [⟨some 5, .mov (.int .i64 0), none, []⟩])
   (.block 0
    (.loop
      (.seq (.seq (.region false [⟨some 11, .mov (.t 5), none, []⟩,
           ⟨some 12, .mov (.t 0), none, []⟩,
           ⟨some 13, .len (.t 12), none, []⟩,
           ⟨some 14, .bin .lss (.t 11) (.t 13), none, []⟩])
        (.cond (.t 14) (.skip)
        (.exit 0)))
       (.seq (.block 1
         (.seq (.region true [⟨some 17, .mov (.t 0), none, []⟩,
             ⟨some 18, .mov (.t 5), none, []⟩,
             ⟨some 19, .iadr 5 (.t 17) (.t 18) (.el (.tmp 17) [(.t 18, 0)]), none, [0, 1]⟩,
             ⟨some 20, .ldE true [.int .i64, .int .i64, .str, .sl 1, .sl 5] 19 (.tmp 17) [(.t 18, 0)], none, [2]⟩,
             ⟨some 21, .mov (.t 1), none, []⟩,
             ⟨some 22, .mov (.t 5), none, []⟩,
             ⟨some 23, .iadr 5 (.t 21) (.t 22) (.el (.tmp 21) [(.t 22, 0)]), none, [4, 5]⟩,
             ⟨some 24, .ldE true [.int .i64, .int .i64, .str, .sl 1, .sl 5] 23 (.tmp 21) [(.t 22, 0)], none, [6]⟩,
             ⟨some 25, .call 47 [.v (.t 20), .v (.t 24)], none, [3, 7]⟩,
             ⟨some 26, .un .not (.t 25), none, [8]⟩])
          (.cond (.t 26) (.seq (.region false [⟨some 4, .mov (.bool false), none, []⟩])
           (.ret))
          (.skip))))
       (.region false [⟨some 15, .mov (.t 5), none, []⟩,
         ⟨some 16, .bin .add (.t 15) (.int .i64 1), none, []⟩,
         ⟨some 5, .mov (.t 16), none, []⟩]))))))
  (.seq (.region false [⟨some 4, .mov (.bool true), none, []⟩])
  (.ret)))))⟩
end Go.Opt
