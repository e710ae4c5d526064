/-
  Our own texts, one behind the other: GkQ4 GkQ5 GkOB GkOC GkOD GkM0 GkOE.
-/
import Derived.Test.YtalhkeajhajggaaDoorPkF
section
/-
  A stable sort: two rising stretches become one.
-/
namespace Go.Gk
open Go Srt Val
attribute [local irreducible] gwp gws

def g_slices_symMergeCmpFunc_api_Value (f_slices_rotateCmpFunc_api_Value f_slices_symMergeCmpFunc_api_Value : Nat) : GFun :=
 ⟨220, [],
 (.seq (.seq
 (.reg false (.op false ⟨(some 25), none, (.mv (.tmp 2))⟩
  (.op false ⟨(some 26), none, (.mv (.tmp 1))⟩
  (.op false ⟨(some 27), none, (.bin .sub (.tmp 25) (.tmp 26))⟩
  (.op false ⟨(some 28), none, (.bin .eql (.tmp 27) (.const (.int .i64 1)))⟩ .done))))) (.cond (.tmp 28)
 (.seq
 (.reg false (.op false ⟨(some 29), none, (.mv (.tmp 2))⟩
  (.op false ⟨(some 10), none, (.mv (.tmp 29))⟩ .done)))
 (.seq
 (.reg false (.op false ⟨(some 30), none, (.mv (.tmp 3))⟩
  (.op false ⟨(some 11), none, (.mv (.tmp 30))⟩ .done)))
 (.seq (.block 0 (.loop
 (.seq (.seq
 (.reg false (.op false ⟨(some 31), none, (.mv (.tmp 10))⟩
  (.op false ⟨(some 32), none, (.mv (.tmp 11))⟩
  (.op false ⟨(some 33), none, (.bin .lss (.tmp 31) (.tmp 32))⟩ .done)))) (.cond (.tmp 33) .skip (.exit 0))) (.block 1
 (.seq
 (.reg false (.op false ⟨(some 34), none, (.mv (.tmp 10))⟩
  (.op false ⟨(some 35), none, (.mv (.tmp 11))⟩
  (.op false ⟨(some 36), none, (.bin .add (.tmp 34) (.tmp 35))⟩
  (.op false ⟨(some 37), none, (.cvi .u64 (.tmp 36))⟩
  (.op false ⟨(some 38), none, (.bin .shr (.tmp 37) (.const (.int .u64 1)))⟩
  (.op false ⟨(some 39), none, (.cvi .i64 (.tmp 38))⟩
  (.op false ⟨(some 12), none, (.mv (.tmp 39))⟩ .done))))))))
 (.seq
 (.reg true (.op true ⟨(some 40), none, (.mv (.tmp 4))⟩
  (.op true ⟨(some 41), none, (.mv (.tmp 0))⟩
  (.op true ⟨(some 42), none, (.mv (.tmp 12))⟩
  (.op true ⟨(some 43), none, (.idx 6 (.tmp 41) (.tmp 42))⟩
  (.op true ⟨(some 44), none, (.ld (some 6) (.tmp 43))⟩
  (.op true ⟨(some 45), none, (.mv (.tmp 0))⟩
  (.op true ⟨(some 46), none, (.mv (.tmp 1))⟩
  (.op true ⟨(some 47), none, (.idx 6 (.tmp 45) (.tmp 46))⟩
  (.op true ⟨(some 48), none, (.ld (some 6) (.tmp 47))⟩
  (.op false ⟨(some 49), none, (.callv (.tmp 40) [(.tmp 44), (.tmp 48)])⟩
  (.op true ⟨(some 50), none, (.bin .lss (.tmp 49) (.const (.int .i64 0)))⟩ .done)))))))))))) (.cond (.tmp 50)
 (.reg false (.op false ⟨(some 51), none, (.mv (.tmp 12))⟩
  (.op false ⟨(some 52), none, (.bin .add (.tmp 51) (.const (.int .i64 1)))⟩
  (.op false ⟨(some 10), none, (.mv (.tmp 52))⟩ .done))))
 (.reg false (.op false ⟨(some 53), none, (.mv (.tmp 12))⟩
  (.op false ⟨(some 11), none, (.mv (.tmp 53))⟩ .done))))))))))
 (.seq (.seq
 (.reg false (.op false ⟨(some 54), none, (.mv (.tmp 1))⟩
  (.op false ⟨(some 13), none, (.mv (.tmp 54))⟩ .done))) (.block 2 (.loop
 (.seq (.seq
 (.reg false (.op false ⟨(some 55), none, (.mv (.tmp 13))⟩
  (.op false ⟨(some 56), none, (.mv (.tmp 10))⟩
  (.op false ⟨(some 57), none, (.bin .sub (.tmp 56) (.const (.int .i64 1)))⟩
  (.op false ⟨(some 58), none, (.bin .lss (.tmp 55) (.tmp 57))⟩ .done))))) (.cond (.tmp 58) .skip (.exit 2)))
 (.seq (.block 3
 (.reg true (.op true ⟨(some 61), none, (.mv (.tmp 0))⟩
  (.op true ⟨(some 62), none, (.mv (.tmp 13))⟩
  (.op true ⟨(some 63), none, (.mv (.tmp 0))⟩
  (.op true ⟨(some 64), none, (.mv (.tmp 13))⟩
  (.op true ⟨(some 65), none, (.bin .add (.tmp 64) (.const (.int .i64 1)))⟩
  (.op true ⟨(some 66), none, (.mv (.tmp 0))⟩
  (.op true ⟨(some 67), none, (.mv (.tmp 13))⟩
  (.op true ⟨(some 68), none, (.bin .add (.tmp 67) (.const (.int .i64 1)))⟩
  (.op true ⟨(some 69), none, (.idx 6 (.tmp 66) (.tmp 68))⟩
  (.op true ⟨(some 71), none, (.mv (.tmp 0))⟩
  (.op true ⟨(some 72), none, (.mv (.tmp 13))⟩
  (.op true ⟨(some 73), none, (.idx 6 (.tmp 71) (.tmp 72))⟩
  (.alt ⟨(some 70), none, (.ld (some 6) (.tmp 69))⟩
  (.op false ⟨(some 74), none, (.ld (some 6) (.tmp 73))⟩
  (.op true ⟨(some 75), none, (.idx 6 (.tmp 61) (.tmp 62))⟩
  (.op false ⟨none, none, (.st 6 (.tmp 75) (.tmp 70))⟩
  (.op true ⟨(some 76), none, (.idx 6 (.tmp 63) (.tmp 65))⟩
  (.op false ⟨none, none, (.st 6 (.tmp 76) (.tmp 74))⟩ .done))))) (.op false ⟨(some 74), none, (.ld (some 6) (.tmp 73))⟩
  (.op false ⟨(some 70), none, (.ld (some 6) (.tmp 69))⟩
  (.op true ⟨(some 75), none, (.idx 6 (.tmp 61) (.tmp 62))⟩
  (.op false ⟨none, none, (.st 6 (.tmp 75) (.tmp 70))⟩
  (.op true ⟨(some 76), none, (.idx 6 (.tmp 63) (.tmp 65))⟩
  (.op false ⟨none, none, (.st 6 (.tmp 76) (.tmp 74))⟩ .done)))))))))))))))))))))
 (.reg false (.op false ⟨(some 59), none, (.mv (.tmp 13))⟩
  (.op false ⟨(some 60), none, (.bin .add (.tmp 59) (.const (.int .i64 1)))⟩
  (.op false ⟨(some 13), none, (.mv (.tmp 60))⟩ .done))))))))) .ret)))) .skip))
 (.seq (.seq
 (.reg false (.op false ⟨(some 77), none, (.mv (.tmp 3))⟩
  (.op false ⟨(some 78), none, (.mv (.tmp 2))⟩
  (.op false ⟨(some 79), none, (.bin .sub (.tmp 77) (.tmp 78))⟩
  (.op false ⟨(some 80), none, (.bin .eql (.tmp 79) (.const (.int .i64 1)))⟩ .done))))) (.cond (.tmp 80)
 (.seq
 (.reg false (.op false ⟨(some 81), none, (.mv (.tmp 1))⟩
  (.op false ⟨(some 14), none, (.mv (.tmp 81))⟩ .done)))
 (.seq
 (.reg false (.op false ⟨(some 82), none, (.mv (.tmp 2))⟩
  (.op false ⟨(some 15), none, (.mv (.tmp 82))⟩ .done)))
 (.seq (.block 4 (.loop
 (.seq (.seq
 (.reg false (.op false ⟨(some 83), none, (.mv (.tmp 14))⟩
  (.op false ⟨(some 84), none, (.mv (.tmp 15))⟩
  (.op false ⟨(some 85), none, (.bin .lss (.tmp 83) (.tmp 84))⟩ .done)))) (.cond (.tmp 85) .skip (.exit 4))) (.block 5
 (.seq
 (.reg false (.op false ⟨(some 86), none, (.mv (.tmp 14))⟩
  (.op false ⟨(some 87), none, (.mv (.tmp 15))⟩
  (.op false ⟨(some 88), none, (.bin .add (.tmp 86) (.tmp 87))⟩
  (.op false ⟨(some 89), none, (.cvi .u64 (.tmp 88))⟩
  (.op false ⟨(some 90), none, (.bin .shr (.tmp 89) (.const (.int .u64 1)))⟩
  (.op false ⟨(some 91), none, (.cvi .i64 (.tmp 90))⟩
  (.op false ⟨(some 16), none, (.mv (.tmp 91))⟩ .done))))))))
 (.seq
 (.reg true (.op true ⟨(some 92), none, (.mv (.tmp 4))⟩
  (.op true ⟨(some 93), none, (.mv (.tmp 0))⟩
  (.op true ⟨(some 94), none, (.mv (.tmp 2))⟩
  (.op true ⟨(some 95), none, (.idx 6 (.tmp 93) (.tmp 94))⟩
  (.op true ⟨(some 96), none, (.ld (some 6) (.tmp 95))⟩
  (.op true ⟨(some 97), none, (.mv (.tmp 0))⟩
  (.op true ⟨(some 98), none, (.mv (.tmp 16))⟩
  (.op true ⟨(some 99), none, (.idx 6 (.tmp 97) (.tmp 98))⟩
  (.op true ⟨(some 100), none, (.ld (some 6) (.tmp 99))⟩
  (.op false ⟨(some 101), none, (.callv (.tmp 92) [(.tmp 96), (.tmp 100)])⟩
  (.op true ⟨(some 102), none, (.bin .lss (.tmp 101) (.const (.int .i64 0)))⟩
  (.op true ⟨(some 103), none, (.un .not (.tmp 102))⟩ .done))))))))))))) (.cond (.tmp 103)
 (.reg false (.op false ⟨(some 104), none, (.mv (.tmp 16))⟩
  (.op false ⟨(some 105), none, (.bin .add (.tmp 104) (.const (.int .i64 1)))⟩
  (.op false ⟨(some 14), none, (.mv (.tmp 105))⟩ .done))))
 (.reg false (.op false ⟨(some 106), none, (.mv (.tmp 16))⟩
  (.op false ⟨(some 15), none, (.mv (.tmp 106))⟩ .done))))))))))
 (.seq (.seq
 (.reg false (.op false ⟨(some 107), none, (.mv (.tmp 2))⟩
  (.op false ⟨(some 17), none, (.mv (.tmp 107))⟩ .done))) (.block 6 (.loop
 (.seq (.seq
 (.reg false (.op false ⟨(some 108), none, (.mv (.tmp 17))⟩
  (.op false ⟨(some 109), none, (.mv (.tmp 14))⟩
  (.op false ⟨(some 110), none, (.bin .gtr (.tmp 108) (.tmp 109))⟩ .done)))) (.cond (.tmp 110) .skip (.exit 6)))
 (.seq (.block 7
 (.reg true (.op true ⟨(some 113), none, (.mv (.tmp 0))⟩
  (.op true ⟨(some 114), none, (.mv (.tmp 17))⟩
  (.op true ⟨(some 115), none, (.mv (.tmp 0))⟩
  (.op true ⟨(some 116), none, (.mv (.tmp 17))⟩
  (.op true ⟨(some 117), none, (.bin .sub (.tmp 116) (.const (.int .i64 1)))⟩
  (.op true ⟨(some 118), none, (.mv (.tmp 0))⟩
  (.op true ⟨(some 119), none, (.mv (.tmp 17))⟩
  (.op true ⟨(some 120), none, (.bin .sub (.tmp 119) (.const (.int .i64 1)))⟩
  (.op true ⟨(some 121), none, (.idx 6 (.tmp 118) (.tmp 120))⟩
  (.op true ⟨(some 123), none, (.mv (.tmp 0))⟩
  (.op true ⟨(some 124), none, (.mv (.tmp 17))⟩
  (.op true ⟨(some 125), none, (.idx 6 (.tmp 123) (.tmp 124))⟩
  (.alt ⟨(some 122), none, (.ld (some 6) (.tmp 121))⟩
  (.op false ⟨(some 126), none, (.ld (some 6) (.tmp 125))⟩
  (.op true ⟨(some 127), none, (.idx 6 (.tmp 113) (.tmp 114))⟩
  (.op false ⟨none, none, (.st 6 (.tmp 127) (.tmp 122))⟩
  (.op true ⟨(some 128), none, (.idx 6 (.tmp 115) (.tmp 117))⟩
  (.op false ⟨none, none, (.st 6 (.tmp 128) (.tmp 126))⟩ .done))))) (.op false ⟨(some 126), none, (.ld (some 6) (.tmp 125))⟩
  (.op false ⟨(some 122), none, (.ld (some 6) (.tmp 121))⟩
  (.op true ⟨(some 127), none, (.idx 6 (.tmp 113) (.tmp 114))⟩
  (.op false ⟨none, none, (.st 6 (.tmp 127) (.tmp 122))⟩
  (.op true ⟨(some 128), none, (.idx 6 (.tmp 115) (.tmp 117))⟩
  (.op false ⟨none, none, (.st 6 (.tmp 128) (.tmp 126))⟩ .done)))))))))))))))))))))
 (.reg false (.op false ⟨(some 111), none, (.mv (.tmp 17))⟩
  (.op false ⟨(some 112), none, (.bin .sub (.tmp 111) (.const (.int .i64 1)))⟩
  (.op false ⟨(some 17), none, (.mv (.tmp 112))⟩ .done))))))))) .ret)))) .skip))
 (.seq
 (.reg false (.op false ⟨(some 129), none, (.mv (.tmp 1))⟩
  (.op false ⟨(some 130), none, (.mv (.tmp 3))⟩
  (.op false ⟨(some 131), none, (.bin .add (.tmp 129) (.tmp 130))⟩
  (.op false ⟨(some 132), none, (.cvi .u64 (.tmp 131))⟩
  (.op false ⟨(some 133), none, (.bin .shr (.tmp 132) (.const (.int .u64 1)))⟩
  (.op false ⟨(some 134), none, (.cvi .i64 (.tmp 133))⟩
  (.op false ⟨(some 18), none, (.mv (.tmp 134))⟩ .done))))))))
 (.seq
 (.reg false (.op false ⟨(some 135), none, (.mv (.tmp 18))⟩
  (.op false ⟨(some 136), none, (.mv (.tmp 2))⟩
  (.op false ⟨(some 137), none, (.bin .add (.tmp 135) (.tmp 136))⟩
  (.op false ⟨(some 19), none, (.mv (.tmp 137))⟩ .done)))))
 (.seq
 (.reg false (.op false ⟨(some 20), none, (.mv (.const (.int .i64 0)))⟩
  (.op false ⟨(some 21), none, (.mv (.const (.int .i64 0)))⟩ .done)))
 (.seq (.seq
 (.reg false (.op false ⟨(some 138), none, (.mv (.tmp 2))⟩
  (.op false ⟨(some 139), none, (.mv (.tmp 18))⟩
  (.op false ⟨(some 140), none, (.bin .gtr (.tmp 138) (.tmp 139))⟩ .done)))) (.cond (.tmp 140)
 (.seq
 (.reg false (.op false ⟨(some 141), none, (.mv (.tmp 19))⟩
  (.op false ⟨(some 142), none, (.mv (.tmp 3))⟩
  (.op false ⟨(some 143), none, (.bin .sub (.tmp 141) (.tmp 142))⟩
  (.op false ⟨(some 20), none, (.mv (.tmp 143))⟩ .done)))))
 (.reg false (.op false ⟨(some 144), none, (.mv (.tmp 18))⟩
  (.op false ⟨(some 21), none, (.mv (.tmp 144))⟩ .done))))
 (.seq
 (.reg false (.op false ⟨(some 145), none, (.mv (.tmp 1))⟩
  (.op false ⟨(some 20), none, (.mv (.tmp 145))⟩ .done)))
 (.reg false (.op false ⟨(some 146), none, (.mv (.tmp 2))⟩
  (.op false ⟨(some 21), none, (.mv (.tmp 146))⟩ .done))))))
 (.seq
 (.reg false (.op false ⟨(some 147), none, (.mv (.tmp 19))⟩
  (.op false ⟨(some 148), none, (.bin .sub (.tmp 147) (.const (.int .i64 1)))⟩
  (.op false ⟨(some 22), none, (.mv (.tmp 148))⟩ .done))))
 (.seq (.block 8 (.loop
 (.seq (.seq
 (.reg false (.op false ⟨(some 149), none, (.mv (.tmp 20))⟩
  (.op false ⟨(some 150), none, (.mv (.tmp 21))⟩
  (.op false ⟨(some 151), none, (.bin .lss (.tmp 149) (.tmp 150))⟩ .done)))) (.cond (.tmp 151) .skip (.exit 8))) (.block 9
 (.seq
 (.reg false (.op false ⟨(some 152), none, (.mv (.tmp 20))⟩
  (.op false ⟨(some 153), none, (.mv (.tmp 21))⟩
  (.op false ⟨(some 154), none, (.bin .add (.tmp 152) (.tmp 153))⟩
  (.op false ⟨(some 155), none, (.cvi .u64 (.tmp 154))⟩
  (.op false ⟨(some 156), none, (.bin .shr (.tmp 155) (.const (.int .u64 1)))⟩
  (.op false ⟨(some 157), none, (.cvi .i64 (.tmp 156))⟩
  (.op false ⟨(some 23), none, (.mv (.tmp 157))⟩ .done))))))))
 (.seq
 (.reg true (.op true ⟨(some 158), none, (.mv (.tmp 4))⟩
  (.op true ⟨(some 159), none, (.mv (.tmp 0))⟩
  (.op true ⟨(some 160), none, (.mv (.tmp 22))⟩
  (.op true ⟨(some 161), none, (.mv (.tmp 23))⟩
  (.op true ⟨(some 162), none, (.bin .sub (.tmp 160) (.tmp 161))⟩
  (.op true ⟨(some 163), none, (.idx 6 (.tmp 159) (.tmp 162))⟩
  (.op true ⟨(some 164), none, (.ld (some 6) (.tmp 163))⟩
  (.op true ⟨(some 165), none, (.mv (.tmp 0))⟩
  (.op true ⟨(some 166), none, (.mv (.tmp 23))⟩
  (.op true ⟨(some 167), none, (.idx 6 (.tmp 165) (.tmp 166))⟩
  (.op true ⟨(some 168), none, (.ld (some 6) (.tmp 167))⟩
  (.op false ⟨(some 169), none, (.callv (.tmp 158) [(.tmp 164), (.tmp 168)])⟩
  (.op true ⟨(some 170), none, (.bin .lss (.tmp 169) (.const (.int .i64 0)))⟩
  (.op true ⟨(some 171), none, (.un .not (.tmp 170))⟩ .done))))))))))))))) (.cond (.tmp 171)
 (.reg false (.op false ⟨(some 172), none, (.mv (.tmp 23))⟩
  (.op false ⟨(some 173), none, (.bin .add (.tmp 172) (.const (.int .i64 1)))⟩
  (.op false ⟨(some 20), none, (.mv (.tmp 173))⟩ .done))))
 (.reg false (.op false ⟨(some 174), none, (.mv (.tmp 23))⟩
  (.op false ⟨(some 21), none, (.mv (.tmp 174))⟩ .done))))))))))
 (.seq
 (.reg false (.op false ⟨(some 175), none, (.mv (.tmp 19))⟩
  (.op false ⟨(some 176), none, (.mv (.tmp 20))⟩
  (.op false ⟨(some 177), none, (.bin .sub (.tmp 175) (.tmp 176))⟩
  (.op false ⟨(some 24), none, (.mv (.tmp 177))⟩ .done)))))
 (.seq (.seq
 (.reg false (.op false ⟨(some 178), none, (.mv (.tmp 20))⟩
  (.op false ⟨(some 179), none, (.mv (.tmp 2))⟩
  (.op false ⟨(some 180), none, (.bin .lss (.tmp 178) (.tmp 179))⟩
  (.op false ⟨(some 181), none, (.mv (.tmp 180))⟩
  (.op false ⟨(some 182), (some (181, true)), (.mv (.tmp 2))⟩
  (.op false ⟨(some 183), (some (181, true)), (.mv (.tmp 24))⟩
  (.op false ⟨(some 184), (some (181, true)), (.bin .lss (.tmp 182) (.tmp 183))⟩
  (.op false ⟨(some 185), none, (.pick (.tmp 181) (.tmp 184) (.const (.bool false)))⟩ .done))))))))) (.cond (.tmp 185)
 (.reg false (.op false ⟨(some 186), none, (.mv (.tmp 0))⟩
  (.op false ⟨(some 187), none, (.mv (.tmp 20))⟩
  (.op false ⟨(some 188), none, (.mv (.tmp 2))⟩
  (.op false ⟨(some 189), none, (.mv (.tmp 24))⟩
  (.op false ⟨(some 190), none, (.mv (.tmp 4))⟩
  (.op false ⟨(some 191), none, (.call f_slices_rotateCmpFunc_api_Value [(.tmp 186), (.tmp 187), (.tmp 188), (.tmp 189), (.tmp 190)])⟩ .done))))))) .skip))
 (.seq (.seq
 (.reg false (.op false ⟨(some 192), none, (.mv (.tmp 1))⟩
  (.op false ⟨(some 193), none, (.mv (.tmp 20))⟩
  (.op false ⟨(some 194), none, (.bin .lss (.tmp 192) (.tmp 193))⟩
  (.op false ⟨(some 195), none, (.mv (.tmp 194))⟩
  (.op false ⟨(some 196), (some (195, true)), (.mv (.tmp 20))⟩
  (.op false ⟨(some 197), (some (195, true)), (.mv (.tmp 18))⟩
  (.op false ⟨(some 198), (some (195, true)), (.bin .lss (.tmp 196) (.tmp 197))⟩
  (.op false ⟨(some 199), none, (.pick (.tmp 195) (.tmp 198) (.const (.bool false)))⟩ .done))))))))) (.cond (.tmp 199)
 (.reg false (.op false ⟨(some 200), none, (.mv (.tmp 0))⟩
  (.op false ⟨(some 201), none, (.mv (.tmp 1))⟩
  (.op false ⟨(some 202), none, (.mv (.tmp 20))⟩
  (.op false ⟨(some 203), none, (.mv (.tmp 18))⟩
  (.op false ⟨(some 204), none, (.mv (.tmp 4))⟩
  (.op false ⟨(some 205), none, (.call f_slices_symMergeCmpFunc_api_Value [(.tmp 200), (.tmp 201), (.tmp 202), (.tmp 203), (.tmp 204)])⟩ .done))))))) .skip))
 (.seq
 (.reg false (.op false ⟨(some 206), none, (.mv (.tmp 18))⟩
  (.op false ⟨(some 207), none, (.mv (.tmp 24))⟩
  (.op false ⟨(some 208), none, (.bin .lss (.tmp 206) (.tmp 207))⟩
  (.op false ⟨(some 209), none, (.mv (.tmp 208))⟩
  (.op false ⟨(some 210), (some (209, true)), (.mv (.tmp 24))⟩
  (.op false ⟨(some 211), (some (209, true)), (.mv (.tmp 3))⟩
  (.op false ⟨(some 212), (some (209, true)), (.bin .lss (.tmp 210) (.tmp 211))⟩
  (.op false ⟨(some 213), none, (.pick (.tmp 209) (.tmp 212) (.const (.bool false)))⟩ .done))))))))) (.cond (.tmp 213)
 (.reg false (.op false ⟨(some 214), none, (.mv (.tmp 0))⟩
  (.op false ⟨(some 215), none, (.mv (.tmp 18))⟩
  (.op false ⟨(some 216), none, (.mv (.tmp 24))⟩
  (.op false ⟨(some 217), none, (.mv (.tmp 3))⟩
  (.op false ⟨(some 218), none, (.mv (.tmp 4))⟩
  (.op false ⟨(some 219), none, (.call f_slices_symMergeCmpFunc_api_Value [(.tmp 214), (.tmp 215), (.tmp 216), (.tmp 217), (.tmp 218)])⟩ .done))))))) .skip)))))))))))))⟩

set_option maxHeartbeats 4000000 in
theorem sym_api_Value {P : Program} {f f1 : FuncId} (hd : dec P f = some (g_slices_symMergeCmpFunc_api_Value f1 f)) (h1 : RotOk 6 P f1) : SymOk 6 P f := by
  intro α R c d pa n cp g oc hc1 N
  induction N with
  | zero =>
    intro h A X Y B ia im ib hN ho hg hsx hsy hx hy
    exact absurd (List.eq_nil_of_length_eq_zero (by omega)) hx
  | succ N ih =>
  intro h A X Y B ia im ib hN ho hg hsx hsy hx hy ea em eb
  subst ea; subst eb; subst em
  have hll := ho.len_le
  simp only [List.length_append] at hll
  have hxl : X.length ≠ 0 := fun q => hx (List.eq_nil_of_length_eq_zero q)
  have hyl : Y.length ≠ 0 := fun q => hy (List.eq_nil_of_length_eq_zero q)
  have ho0 := ho
  obtain ⟨b, T, l, hpa, hn, hh, hll2, hRl, _⟩ := ho0.openW (by omega) (by simp; omega)
  subst hpa; subst hh
  have hlx : (A ++ X ++ Y ++ B).length = A.length + X.length + Y.length + B.length := by simp; omega
  have hX : ∀ i (hi : i < X.length), R d (chunk l (A.length + i) 6) X[i] ∧ X[i] ∈ A ++ X ++ Y ++ B := fun i hi => by
    have := hRl (A.length + i) (by omega)
    rw [at_app (A ++ X.take i) (X.drop (i + 1) ++ Y ++ B) (x := X[i]) (by rw [show A ++ X ++ Y ++ B = A ++ (X.take i ++ X[i] :: X.drop (i + 1)) ++ Y ++ B from congrArg (fun z => A ++ z ++ Y ++ B) (cut_at hi)]; simp only [List.append_assoc, List.cons_append]) (by simp; omega)] at this
    exact ⟨this, by simp⟩
  have hY : ∀ i (hi : i < Y.length), R d (chunk l (A.length + X.length + i) 6) Y[i] ∧ Y[i] ∈ A ++ X ++ Y ++ B := fun i hi => by
    have := hRl (A.length + X.length + i) (by omega)
    rw [at_app (A ++ X ++ Y.take i) (Y.drop (i + 1) ++ B) (x := Y[i]) (by rw [show A ++ X ++ Y ++ B = A ++ X ++ (Y.take i ++ Y[i] :: Y.drop (i + 1)) ++ B from congrArg (fun z => A ++ X ++ z ++ B) (cut_at hi)]; simp only [List.append_assoc, List.cons_append]) (by simp; omega)] at this
    exact ⟨this, by simp⟩
  refine GCall_of hd (Nat.le_of_ble_eq_true rfl) ?_
  show gwp P _ _ _ _ _
  by_cases hx1 : X.length = 1
  · obtain ⟨x, rfl⟩ := List.length_eq_one_iff.1 hx1
    simp only [List.length_cons, List.length_nil] at hlx hX hY hll
    have hx0 := hX 0 (by simp)
    simp only [List.getElem_cons_zero, Nat.add_zero] at hx0
    (apply w_sq; apply w_sq; apply w_reg; apply w_mvi; rfl; apply w_mvi; rfl; apply w_sub; rfl; rfl; omega; omega; apply w_eql; rfl; rfl; apply w_done0; refine w_ifdT rfl (by omega) ?_; apply w_sq; apply w_reg; apply w_mvi; rfl; apply w_mvi; rfl; apply w_done0; apply w_sq; apply w_reg; apply w_mvi; rfl; apply w_mvi; rfl; apply w_done0; apply w_sq; apply w_block)
    refine w_loopS (α := Nat × Nat) (fun k => [(0, .slice (some ⟨b, 0, none⟩) n cp), (1, .int .i64 A.length), (2, .int .i64 (A.length + 1 : Nat)), (3, .int .i64 (A.length + 1 + Y.length : Nat)), (4, .func (.func g) #[] #[]), (10, .int .i64 (A.length + 1 + k.1 : Nat)), (11, .int .i64 (A.length + 1 + k.2 : Nat))])
      (fun k d' L' => d' = d ∧ L' = [bx b T l] ∧ k.1 ≤ k.2 ∧ k.2 ≤ Y.length ∧ (k.1 = 0 ∨ ∃ q : k.1 - 1 < Y.length, 0 < k.1 ∧ c Y[k.1 - 1] x < 0) ∧ (k.2 = Y.length ∨ ∃ q : k.2 < Y.length, ¬ c Y[k.2] x < 0))
      (fun k => k.2 - k.1) (0, Y.length) ⟨rfl, rfl, rfl, rfl, rfl, rfl, rfl, trivial⟩ ⟨rfl, rfl, Nat.zero_le _, Nat.le_refl _, .inl rfl, .inl rfl⟩ ?_
    rintro ⟨k1, k2⟩ ρ d' L' ⟨hdd, hL, hk, hk2, hlo, hhi⟩
    subst hdd; subst hL
    simp only at hk hk2 hlo hhi
    by_cases hkk : k1 < k2
    · have hh1 : (k1 + k2) / 2 < k2 := by omega
      have hh2 : k1 ≤ (k1 + k2) / 2 := by omega
      obtain ⟨kh, hkh⟩ : ∃ kh, kh = (k1 + k2) / 2 := ⟨_, rfl⟩
      rw [← hkh] at hh1 hh2
      have hyk := hY kh (by omega)
      (apply w_sq; apply w_sq; apply w_reg; apply w_mvi; rfl; apply w_mvi; rfl; apply w_lss; rfl; rfl; apply w_done0; refine w_ifdT rfl (by omega) ?_; apply w_skip; apply w_block; apply w_sq; apply w_reg; apply w_mvi; rfl; apply w_mvi; rfl; apply w_add; rfl; rfl; omega; omega; apply w_cviu; rfl)
      refine w_half rfl rfl (by omega) (by omega) ?_
      (apply w_cvi64; rfl; omega; omega; apply w_mvi; rfl; apply w_done0; apply w_sq; apply w_drawn; apply w_mvf; rfl; apply w_mvs; rfl; apply w_mvi; rfl)
      refine w_idxC (A.length + 1 + kh) rfl rfl (by omega) (by omega) ?_
      refine w_ldC 0 rfl rfl (by omega) ?_
      (apply w_mvs; rfl; apply w_mvi; rfl)
      refine w_idxC A.length rfl rfl (by omega) (by omega) ?_
      refine w_ldC 0 rfl rfl (by omega) ?_
      refine w_purev rfl rfl (hg _ hyk.2 _ hx0.2 _ _ hyk.1 hx0.1) ?_
      by_cases hlt : c Y[kh] x < 0
      · (apply w_lss; rfl; rfl; apply w_done; refine w_ifdT rfl (by omega) ?_; apply w_reg; apply w_mvi; rfl; apply w_add; rfl; rfl; omega; omega; apply w_mvi; rfl; apply w_done0)
        exact ⟨(kh + 1, k2), by simp only; omega, ⟨rfl, rfl, rfl, rfl, rfl, int_eq (by show (_ : Int) = ((A.length + 1 + (kh + 1) : Nat) : Int); omega), rfl, trivial⟩, rfl, rfl, hh1, hk2, .inr ⟨by simp only; omega, Nat.succ_pos _, hlt⟩, hhi⟩
      · (apply w_lss; rfl; rfl; apply w_done; refine w_ifdF rfl (by omega) ?_; apply w_reg; apply w_mvi; rfl; apply w_mvi; rfl; apply w_done0)
        exact ⟨(k1, kh), by simp only; omega, ⟨rfl, rfl, rfl, rfl, rfl, rfl, int_eq (by show (_ : Int) = ((A.length + 1 + kh : Nat) : Int); omega), trivial⟩, rfl, rfl, hh2, by simp only; omega, hlo, .inr ⟨by simp only; omega, hlt⟩⟩
    · obtain rfl : k1 = k2 := by omega
      (apply w_sq; apply w_sq; apply w_reg; apply w_mvi; rfl; apply w_mvi; rfl; apply w_lss; rfl; rfl; apply w_done0; refine w_ifdF rfl (by omega) ?_; apply w_exit; apply w_sq; apply w_sq; apply w_reg; apply w_mvi; rfl; apply w_mvi; rfl; apply w_done0; apply w_block)
      refine w_loopS (α := Nat) (fun j => [(0, .slice (some ⟨b, 0, none⟩) n cp), (1, .int .i64 A.length), (2, .int .i64 (A.length + 1 : Nat)), (3, .int .i64 (A.length + 1 + Y.length : Nat)), (4, .func (.func g) #[] #[]), (10, .int .i64 (A.length + 1 + k1 : Nat)), (13, .int .i64 (A.length + j : Nat))])
        (fun j d2 L' => d2 = d' ∧ j ≤ k1 ∧ ∃ h', L' = [h'] ∧ GRow 6 R d' (.slice (some ⟨b, 0, none⟩) n cp) (A ++ (Y.take j ++ x :: Y.drop j) ++ B) h')
        (fun j => k1 - j) 0 ⟨rfl, rfl, rfl, rfl, rfl, rfl, rfl, trivial⟩ ⟨rfl, Nat.zero_le _, _, rfl, by simpa using ho⟩ ?_
      rintro j ρ d2 L' ⟨hdd, hj, h2, hL, ho2⟩
      subst hdd; subst hL
      by_cases hjk : j < k1
      · have hjy : j < Y.length := by omega
        have e1 : A ++ (Y.take j ++ x :: Y.drop j) ++ B = (A ++ Y.take j) ++ x :: ([] : List α) ++ Y[j] :: (Y.drop (j + 1) ++ B) := by
          rw [List.drop_eq_getElem_cons hjy]; simp only [List.append_assoc, List.cons_append, List.nil_append]
        have e2 : (A ++ Y.take j) ++ Y[j] :: ([] : List α) ++ x :: (Y.drop (j + 1) ++ B) = A ++ (Y.take (j + 1) ++ x :: Y.drop (j + 1)) ++ B := by
          rw [List.take_succ_eq_append_getElem hjy]; simp only [List.append_assoc, List.cons_append, List.nil_append]
        rw [e1] at ho2
        have q1 : (A ++ Y.take j).length = A.length + j := by simp; omega
        have hlx2 : ((A ++ Y.take j) ++ x :: ([] : List α) ++ Y[j] :: (Y.drop (j + 1) ++ B)).length = A.length + 1 + Y.length + B.length := by rw [← e1]; simp; omega
        obtain ⟨b2, T2, l2, hpa, hn2, hh, hll3, hRl2, hsw⟩ := ho2.openW (by omega) (by omega)
        obtain rfl : b = b2 := by injection hpa with hpa; injection hpa
        subst hh
        have hs1 := hsw (A.length + j) (A.length + j + 1) (by omega) (by omega)
        have hRx := hRl2 (A.length + j) (by omega)
        have hRy := hRl2 (A.length + j + 1) (by omega)
        have g1 : ((A ++ Y.take j) ++ x :: ([] : List α) ++ Y[j] :: (Y.drop (j + 1) ++ B))[A.length + j]'(by omega) = x := at_app (A ++ Y.take j) (Y[j] :: (Y.drop (j + 1) ++ B)) (by simp) (by omega) _
        have g2 : ((A ++ Y.take j) ++ x :: ([] : List α) ++ Y[j] :: (Y.drop (j + 1) ++ B))[A.length + j + 1]'(by omega) = Y[j] := at_app ((A ++ Y.take j) ++ [x]) (Y.drop (j + 1) ++ B) (by simp) (by simp; omega) _
        rw [g2] at hRy; rw [g1] at hRx
        rw [g1, g2, swp_app (by omega) (by simp; omega), e2] at hs1
        (apply w_sq; apply w_sq; apply w_reg; apply w_mvi; rfl; apply w_mvi; rfl; apply w_sub; rfl; rfl; omega; omega; apply w_lss; rfl; rfl; apply w_done0; refine w_ifdT rfl (by omega) ?_; apply w_skip; apply w_sq; apply w_block)
        refine w_drawnS [] [0] rfl ?_
        (apply w_mvs; rfl; apply w_mvi; rfl; apply w_mvs; rfl; apply w_mvi; rfl; apply w_add; rfl; rfl; omega; omega; apply w_mvs; rfl; apply w_mvi; rfl; apply w_add; rfl; rfl; omega; omega)
        refine w_idxC (A.length + j + 1) rfl rfl (by omega) (by omega) ?_
        (apply w_mvs; rfl; apply w_mvi; rfl)
        refine w_idxC (A.length + j) rfl rfl (by omega) (by omega) ?_
        refine w_swp rfl (by omega) (by omega) (by omega) (by omega) (hc1 _ _ _ hRy) (hc1 _ _ _ hRx) rfl rfl rfl rfl rfl rfl (by omega) rfl rfl rfl rfl (by omega) rfl rfl ?_
        (apply w_reg; apply w_mvi; rfl; apply w_add; rfl; rfl; omega; omega; apply w_mvi; rfl; apply w_done0)
        exact ⟨j + 1, by omega, ⟨rfl, rfl, rfl, rfl, rfl, rfl, int_eq (by omega), trivial⟩, rfl, hjk, _, rfl, hs1⟩
      · obtain rfl : j = k1 := by omega
        (apply w_sq; apply w_sq; apply w_reg; apply w_mvi; rfl; apply w_mvi; rfl; apply w_sub; rfl; rfl; omega; omega; apply w_lss; rfl; rfl; apply w_done0; refine w_ifdF rfl (by omega) ?_; apply w_exit; apply w_ret)
        refine fin0 _ (List.Sublist.refl _) ?_
        refine ⟨rfl, _, h2, rfl, ho2, ?_, Srt.put oc (by rw [List.take_append_drop]; exact hsy) ?_ ?_⟩
        · refine List.perm_middle.trans ?_
          rw [List.take_append_drop]; exact List.Perm.refl _
        · rcases hlo with rfl | ⟨q, q0, hlt⟩
          · exact .inl rfl
          · exact .inr ⟨Y[j - 1], by rw [List.getLast?_take]; simp [show j ≠ 0 by omega, q], by omega⟩
        · rcases hhi with rfl | ⟨q, hlt⟩
          · exact .inl (List.drop_length)
          · exact .inr ⟨Y[j], by rw [List.head?_drop]; simp [q], oc.le_of_not_lt hlt⟩
  · by_cases hy1 : Y.length = 1
    · obtain ⟨x, rfl⟩ := List.length_eq_one_iff.1 hy1
      simp only [List.length_cons, List.length_nil] at hlx hX hY hll
      have hx0 := hY 0 (by simp)
      simp only [List.getElem_cons_zero, Nat.add_zero] at hx0
      (apply w_sq; apply w_sq; apply w_reg; apply w_mvi; rfl; apply w_mvi; rfl; apply w_sub; rfl; rfl; omega; omega; apply w_eql; rfl; rfl; apply w_done0; refine w_ifdF rfl (by omega) ?_; apply w_skip; apply w_sq; apply w_sq; apply w_reg; apply w_mvi; rfl; apply w_mvi; rfl; apply w_sub; rfl; rfl; omega; omega; apply w_eql; rfl; rfl; apply w_done0; refine w_ifdT rfl (by omega) ?_; apply w_sq; apply w_reg; apply w_mvi; rfl; apply w_mvi; rfl; apply w_done0; apply w_sq; apply w_reg; apply w_mvi; rfl; apply w_mvi; rfl; apply w_done0; apply w_sq; apply w_block)
      refine w_loopS (α := Nat × Nat) (fun k => [(0, .slice (some ⟨b, 0, none⟩) n cp), (1, .int .i64 A.length), (2, .int .i64 (A.length + X.length : Nat)), (3, .int .i64 (A.length + X.length + 1 : Nat)), (4, .func (.func g) #[] #[]), (14, .int .i64 (A.length + k.1 : Nat)), (15, .int .i64 (A.length + k.2 : Nat))])
        (fun k d' L' => d' = d ∧ L' = [bx b T l] ∧ k.1 ≤ k.2 ∧ k.2 ≤ X.length ∧ (k.1 = 0 ∨ ∃ q : k.1 - 1 < X.length, 0 < k.1 ∧ ¬ c x X[k.1 - 1] < 0) ∧ (k.2 = X.length ∨ ∃ q : k.2 < X.length, c x X[k.2] < 0))
        (fun k => k.2 - k.1) (0, X.length) ⟨rfl, rfl, rfl, rfl, rfl, rfl, rfl, trivial⟩ ⟨rfl, rfl, Nat.zero_le _, Nat.le_refl _, .inl rfl, .inl rfl⟩ ?_
      rintro ⟨k1, k2⟩ ρ d' L' ⟨hdd, hL, hk, hk2, hlo, hhi⟩
      subst hdd; subst hL
      simp only at hk hk2 hlo hhi
      by_cases hkk : k1 < k2
      · have hh1 : (k1 + k2) / 2 < k2 := by omega
        have hh2 : k1 ≤ (k1 + k2) / 2 := by omega
        obtain ⟨kh, hkh⟩ : ∃ kh, kh = (k1 + k2) / 2 := ⟨_, rfl⟩
        rw [← hkh] at hh1 hh2
        have hyk := hX kh (by omega)
        (apply w_sq; apply w_sq; apply w_reg; apply w_mvi; rfl; apply w_mvi; rfl; apply w_lss; rfl; rfl; apply w_done0; refine w_ifdT rfl (by omega) ?_; apply w_skip; apply w_block; apply w_sq; apply w_reg; apply w_mvi; rfl; apply w_mvi; rfl; apply w_add; rfl; rfl; omega; omega; apply w_cviu; rfl)
        refine w_half rfl rfl (by omega) (by omega) ?_
        (apply w_cvi64; rfl; omega; omega; apply w_mvi; rfl; apply w_done0; apply w_sq; apply w_drawn; apply w_mvf; rfl; apply w_mvs; rfl; apply w_mvi; rfl)
        refine w_idxC (A.length + X.length) rfl rfl (by omega) (by omega) ?_
        refine w_ldC 0 rfl rfl (by omega) ?_
        (apply w_mvs; rfl; apply w_mvi; rfl)
        refine w_idxC (A.length + kh) rfl rfl (by omega) (by omega) ?_
        refine w_ldC 0 rfl rfl (by omega) ?_
        refine w_purev rfl rfl (hg _ hx0.2 _ hyk.2 _ _ hx0.1 hyk.1) ?_
        by_cases hlt : c x X[kh] < 0
        · have hlt' : (!decide (c x X[kh] < 0)) = false := by simp [hlt]
          (apply w_lss; rfl; rfl; apply w_not; rfl; apply w_done; apply w_ifbF; rfl; (with_reducible assumption); apply w_reg; apply w_mvi; rfl; apply w_mvi; rfl; apply w_done0)
          exact ⟨(k1, kh), by simp only; omega, ⟨rfl, rfl, rfl, rfl, rfl, rfl, int_eq (by show (_ : Int) = ((A.length + kh : Nat) : Int); omega), trivial⟩, rfl, rfl, hh2, by simp only; omega, hlo, .inr ⟨by simp only; omega, hlt⟩⟩
        · have hlt' : (!decide (c x X[kh] < 0)) = true := by simp [hlt]
          (apply w_lss; rfl; rfl; apply w_not; rfl; apply w_done; apply w_ifbT; rfl; (with_reducible assumption); apply w_reg; apply w_mvi; rfl; apply w_add; rfl; rfl; omega; omega; apply w_mvi; rfl; apply w_done0)
          exact ⟨(kh + 1, k2), by simp only; omega, ⟨rfl, rfl, rfl, rfl, rfl, int_eq (by show (_ : Int) = ((A.length + (kh + 1) : Nat) : Int); omega), rfl, trivial⟩, rfl, rfl, hh1, hk2, .inr ⟨by simp only; omega, Nat.succ_pos _, hlt⟩, hhi⟩
      · obtain rfl : k1 = k2 := by omega
        (apply w_sq; apply w_sq; apply w_reg; apply w_mvi; rfl; apply w_mvi; rfl; apply w_lss; rfl; rfl; apply w_done0; refine w_ifdF rfl (by omega) ?_; apply w_exit; apply w_sq; apply w_sq; apply w_reg; apply w_mvi; rfl; apply w_mvi; rfl; apply w_done0; apply w_block)
        refine w_loopS (α := Nat) (fun j => [(0, .slice (some ⟨b, 0, none⟩) n cp), (1, .int .i64 A.length), (2, .int .i64 (A.length + X.length : Nat)), (3, .int .i64 (A.length + X.length + 1 : Nat)), (4, .func (.func g) #[] #[]), (14, .int .i64 (A.length + k1 : Nat)), (17, .int .i64 (A.length + j : Nat))])
          (fun j d2 L' => d2 = d' ∧ k1 ≤ j ∧ j ≤ X.length ∧ ∃ h', L' = [h'] ∧ GRow 6 R d' (.slice (some ⟨b, 0, none⟩) n cp) (A ++ (X.take j ++ x :: X.drop j) ++ B) h')
          (fun j => j) X.length ⟨rfl, rfl, rfl, rfl, rfl, rfl, rfl, trivial⟩ ⟨rfl, hk2, Nat.le_refl _, _, rfl, by simpa using ho⟩ ?_
        rintro j ρ d2 L' ⟨hdd, hj, hjx, h2, hL, ho2⟩
        subst hdd; subst hL
        by_cases hjk : k1 < j
        · obtain ⟨i, rfl⟩ : ∃ i, j = i + 1 := ⟨j - 1, by omega⟩
          have hjy : i < X.length := by omega
          have e2 : A ++ (X.take i ++ x :: X.drop i) ++ B = (A ++ X.take i) ++ x :: ([] : List α) ++ X[i] :: (X.drop (i + 1) ++ B) := by
            rw [List.drop_eq_getElem_cons hjy]; simp only [List.append_assoc, List.cons_append, List.nil_append]
          have e1 : (A ++ X.take i) ++ X[i] :: ([] : List α) ++ x :: (X.drop (i + 1) ++ B) = A ++ (X.take (i + 1) ++ x :: X.drop (i + 1)) ++ B := by
            rw [List.take_succ_eq_append_getElem hjy]; simp only [List.append_assoc, List.cons_append, List.nil_append]
          rw [← e1] at ho2
          have q1 : (A ++ X.take i).length = A.length + i := by simp; omega
          have hlx2 : ((A ++ X.take i) ++ X[i] :: ([] : List α) ++ x :: (X.drop (i + 1) ++ B)).length = A.length + X.length + 1 + B.length := by rw [e1]; simp; omega
          obtain ⟨b2, T2, l2, hpa, hn2, hh, hll3, hRl2, hsw⟩ := ho2.openW (by omega) (by omega)
          obtain rfl : b = b2 := by injection hpa with hpa; injection hpa
          subst hh
          have hs1 := hsw (A.length + i + 1) (A.length + i) (by omega) (by omega)
          have hRx := hRl2 (A.length + i) (by omega)
          have hRy := hRl2 (A.length + i + 1) (by omega)
          have g1 : ((A ++ X.take i) ++ X[i] :: ([] : List α) ++ x :: (X.drop (i + 1) ++ B))[A.length + i]'(by omega) = X[i] := at_app (A ++ X.take i) (x :: (X.drop (i + 1) ++ B)) (by simp only [List.append_assoc, List.cons_append, List.nil_append]) (by omega) _
          have g2 : ((A ++ X.take i) ++ X[i] :: ([] : List α) ++ x :: (X.drop (i + 1) ++ B))[A.length + i + 1]'(by omega) = x := at_app ((A ++ X.take i) ++ [X[i]]) (X.drop (i + 1) ++ B) (by simp only [List.append_assoc, List.cons_append, List.nil_append]) (by simp; omega) _
          rw [g2] at hRy; rw [g1] at hRx
          rw [g1, g2, List.set_comm _ _ (by omega), swp_app (by omega) (by simp; omega), ← e2] at hs1
          (apply w_sq; apply w_sq; apply w_reg; apply w_mvi; rfl; apply w_mvi; rfl; apply w_gtr; rfl; rfl; apply w_done0; refine w_ifdT rfl (by omega) ?_; apply w_skip; apply w_sq; apply w_block)
          refine w_drawnS [] [0] rfl ?_
          (apply w_mvs; rfl; apply w_mvi; rfl; apply w_mvs; rfl; apply w_mvi; rfl; apply w_sub; rfl; rfl; omega; omega; apply w_mvs; rfl; apply w_mvi; rfl; apply w_sub; rfl; rfl; omega; omega)
          refine w_idxC (A.length + i) rfl rfl (by omega) (by omega) ?_
          (apply w_mvs; rfl; apply w_mvi; rfl)
          refine w_idxC (A.length + i + 1) rfl rfl (by omega) (by omega) ?_
          refine w_swp rfl (by omega) (by omega) (by omega) (by omega) (hc1 _ _ _ hRx) (hc1 _ _ _ hRy) rfl rfl rfl rfl rfl rfl (by omega) rfl rfl rfl rfl (by omega) rfl rfl ?_
          (apply w_reg; apply w_mvi; rfl; apply w_sub; rfl; rfl; omega; omega; apply w_mvi; rfl; apply w_done0)
          exact ⟨i, by omega, ⟨rfl, rfl, rfl, rfl, rfl, rfl, int_eq (by omega), trivial⟩, rfl, by omega, by omega, _, rfl, hs1⟩
        · obtain rfl : j = k1 := by omega
          (apply w_sq; apply w_sq; apply w_reg; apply w_mvi; rfl; apply w_mvi; rfl; apply w_gtr; rfl; rfl; apply w_done0; refine w_ifdF rfl (by omega) ?_; apply w_exit; apply w_ret)
          refine fin0 _ (List.Sublist.refl _) ?_
          refine ⟨rfl, _, h2, rfl, ho2, ?_, Srt.put oc (by rw [List.take_append_drop]; exact hsx) ?_ ?_⟩
          · refine List.perm_middle.trans ?_
            rw [List.take_append_drop]; exact (List.perm_append_singleton x X).symm
          · rcases hlo with rfl | ⟨q, q0, hlt⟩
            · exact .inl rfl
            · exact .inr ⟨X[j - 1], by rw [List.getLast?_take]; simp [show j ≠ 0 by omega, q], oc.le_of_not_lt hlt⟩
          · rcases hhi with rfl | ⟨q, hlt⟩
            · exact .inl (List.drop_length)
            · exact .inr ⟨X[j], by rw [List.head?_drop]; simp [q], by omega⟩
    · obtain ⟨md, hmd⟩ : ∃ md, md = (A.length + (A.length + X.length + Y.length)) / 2 := ⟨_, rfl⟩
      have hm1 : A.length < md := by omega
      have hm2 : md < A.length + X.length + Y.length := by omega
      obtain ⟨s0, hs0⟩ : ∃ s0 : Nat, s0 = if md < A.length + X.length then md - Y.length else A.length := ⟨_, rfl⟩
      obtain ⟨r0, hr0⟩ : ∃ r0 : Nat, r0 = if md < A.length + X.length then md else A.length + X.length := ⟨_, rfl⟩
      (apply w_sq; apply w_sq; apply w_reg; apply w_mvi; rfl; apply w_mvi; rfl; apply w_sub; rfl; rfl; omega; omega; apply w_eql; rfl; rfl; apply w_done0; refine w_ifdF rfl (by omega) ?_; apply w_skip; apply w_sq; apply w_sq; apply w_reg; apply w_mvi; rfl; apply w_mvi; rfl; apply w_sub; rfl; rfl; omega; omega; apply w_eql; rfl; rfl; apply w_done0; refine w_ifdF rfl (by omega) ?_; apply w_skip; apply w_sq; apply w_reg; apply w_mvi; rfl; apply w_mvi; rfl; apply w_add; rfl; rfl; omega; omega; apply w_cviu; rfl)
      refine w_half rfl rfl (by omega) (by omega) ?_
      (apply w_cvi64; rfl; omega; omega; apply w_mvi; rfl; apply w_done0)
      apply w_sq; apply w_reg
      (apply w_mvi; rfl; apply w_mvi; rfl; apply w_add; rfl; rfl; omega; omega; apply w_mvi; rfl; apply w_done0)
      apply w_sq; apply w_reg
      (apply w_mvi; rfl; apply w_mvi; rfl; apply w_done0)
      refine w_mid (fun ρ d' L' => d' = d ∧ L' = [bx b T l] ∧ SlotsAre ρ [(0, .slice (some ⟨b, 0, none⟩) n cp), (1, .int .i64 A.length), (2, .int .i64 (A.length + X.length : Nat)), (3, .int .i64 (A.length + X.length + Y.length : Nat)), (4, .func (.func g) #[] #[]), (18, .int .i64 md), (19, .int .i64 (md + (A.length + X.length) : Nat)), (20, .int .i64 s0), (21, .int .i64 r0)]) ?_ ?_
      · by_cases hq : md < A.length + X.length
        · rw [if_pos hq] at hs0 hr0
          (apply w_sq; apply w_reg; apply w_mvi; rfl; apply w_mvi; rfl; apply w_gtr; rfl; rfl; apply w_done0; refine w_ifdT rfl (by omega) ?_; apply w_sq; apply w_reg; apply w_mvi; rfl; apply w_mvi; rfl; apply w_sub; rfl; rfl; omega; omega; apply w_mvi; rfl; apply w_done0; apply w_reg; apply w_mvi; rfl; apply w_mvi; rfl; apply w_done0)
          exact ⟨rfl, rfl, rfl, rfl, rfl, rfl, rfl, int_eq (by omega), int_eq (by omega), int_eq (by omega), int_eq (by omega), trivial⟩
        · rw [if_neg hq] at hs0 hr0
          (apply w_sq; apply w_reg; apply w_mvi; rfl; apply w_mvi; rfl; apply w_gtr; rfl; rfl; apply w_done0; refine w_ifdF rfl (by omega) ?_; apply w_sq; apply w_reg; apply w_mvi; rfl; apply w_mvi; rfl; apply w_done0; apply w_reg; apply w_mvi; rfl; apply w_mvi; rfl; apply w_done0)
          exact ⟨rfl, rfl, rfl, rfl, rfl, rfl, rfl, int_eq (by omega), int_eq (by omega), int_eq (by omega), int_eq (by omega), trivial⟩
      rintro ρ d' L' ⟨hdd, hL, hs⟩
      subst hdd; subst hL
      refine gwp_slots _ hs ?_
      clear hs
      have hb1 : A.length ≤ s0 := by split at hs0 <;> omega
      have hb2 : s0 ≤ r0 := by split at hs0 <;> split at hr0 <;> omega
      have hb3 : r0 ≤ A.length + X.length := by split at hr0 <;> omega
      have hb4 : md ≤ s0 + Y.length := by split at hs0 <;> omega
      have hb5 : r0 ≤ md := by split at hr0 <;> omega
      apply w_sq; apply w_reg
      (apply w_mvi; rfl; apply w_sub; rfl; rfl; omega; omega; apply w_mvi; rfl; apply w_done0)
      refine w_mid (fun ρ d2 L' => d2 = d' ∧ L' = [bx b T l] ∧ ∃ s : Nat, SlotsAre ρ [(0, .slice (some ⟨b, 0, none⟩) n cp), (1, .int .i64 A.length), (2, .int .i64 (A.length + X.length : Nat)), (3, .int .i64 (A.length + X.length + Y.length : Nat)), (4, .func (.func g) #[] #[]), (18, .int .i64 md), (19, .int .i64 (md + (A.length + X.length) : Nat)), (20, .int .i64 s)] ∧ s0 ≤ s ∧ s ≤ r0 ∧
        (s = s0 ∨ ∃ (q : s - 1 - A.length < X.length) (q' : md - s < Y.length), A.length < s ∧ ¬ c Y[md - s] X[s - 1 - A.length] < 0) ∧ (s = r0 ∨ ∃ (q : s - A.length < X.length) (q' : md - s - 1 < Y.length), s < md ∧ c Y[md - s - 1] X[s - A.length] < 0)) ?_ ?_
      · (apply w_block)
        refine w_loopS (α := Nat × Nat) (fun k => [(0, .slice (some ⟨b, 0, none⟩) n cp), (1, .int .i64 A.length), (2, .int .i64 (A.length + X.length : Nat)), (3, .int .i64 (A.length + X.length + Y.length : Nat)), (4, .func (.func g) #[] #[]), (18, .int .i64 md), (19, .int .i64 (md + (A.length + X.length) : Nat)), (20, .int .i64 k.1), (21, .int .i64 k.2), (22, .int .i64 (md + (A.length + X.length) - 1 : Nat))])
          (fun k d2 L' => d2 = d' ∧ L' = [bx b T l] ∧ s0 ≤ k.1 ∧ k.1 ≤ k.2 ∧ k.2 ≤ r0 ∧
            (k.1 = s0 ∨ ∃ (q : k.1 - 1 - A.length < X.length) (q' : md - k.1 < Y.length), A.length < k.1 ∧ ¬ c Y[md - k.1] X[k.1 - 1 - A.length] < 0) ∧ (k.2 = r0 ∨ ∃ (q : k.2 - A.length < X.length) (q' : md - k.2 - 1 < Y.length), k.2 < md ∧ c Y[md - k.2 - 1] X[k.2 - A.length] < 0))
          (fun k => k.2 - k.1) (s0, r0) ⟨rfl, rfl, rfl, rfl, rfl, rfl, rfl, rfl, rfl, int_eq (by omega), trivial⟩ ⟨rfl, rfl, Nat.le_refl _, hb2, Nat.le_refl _, .inl rfl, .inl rfl⟩ ?_
        rintro ⟨k1, k2⟩ ρ d2 L' ⟨hdd, hL, hk0, hk, hk2, hlo, hhi⟩
        subst hdd; subst hL
        simp only at hk0 hk hk2 hlo hhi
        by_cases hkk : k1 < k2
        · have hh1 : (k1 + k2) / 2 < k2 := by omega
          have hh2 : k1 ≤ (k1 + k2) / 2 := by omega
          obtain ⟨kh, hkh⟩ : ∃ kh, kh = (k1 + k2) / 2 := ⟨_, rfl⟩
          rw [← hkh] at hh1 hh2
          have hxk := hX (kh - A.length) (by omega)
          have hyk := hY (md - 1 - kh) (by omega)
          have i1 : A.length + (kh - A.length) = kh := by omega
          rw [i1] at hxk
          (apply w_sq; apply w_sq; apply w_reg; apply w_mvi; rfl; apply w_mvi; rfl; apply w_lss; rfl; rfl; apply w_done0; refine w_ifdT rfl (by omega) ?_; apply w_skip; apply w_block; apply w_sq; apply w_reg; apply w_mvi; rfl; apply w_mvi; rfl; apply w_add; rfl; rfl; omega; omega; apply w_cviu; rfl)
          refine w_half rfl rfl (by omega) (by omega) ?_
          (apply w_cvi64; rfl; omega; omega; apply w_mvi; rfl; apply w_done0; apply w_sq; apply w_drawn; apply w_mvf; rfl; apply w_mvs; rfl; apply w_mvi; rfl; apply w_mvi; rfl; apply w_sub; rfl; rfl; omega; omega)
          refine w_idxC (A.length + X.length + (md - 1 - kh)) rfl rfl (by omega) (by omega) ?_
          refine w_ldC 0 rfl rfl (by omega) ?_
          (apply w_mvs; rfl; apply w_mvi; rfl)
          refine w_idxC kh rfl rfl (by omega) (by omega) ?_
          refine w_ldC 0 rfl rfl (by omega) ?_
          refine w_purev rfl rfl (hg _ hyk.2 _ hxk.2 _ _ hyk.1 hxk.1) ?_
          have j1 : md - kh - 1 = md - 1 - kh := by omega
          have j2 : md - (kh + 1) = md - 1 - kh := by omega
          have j3 : kh + 1 - 1 - A.length = kh - A.length := by omega
          by_cases hlt : c Y[md - 1 - kh] X[kh - A.length] < 0
          · have hlt' : (!decide (c Y[md - 1 - kh] X[kh - A.length] < 0)) = false := by simp [hlt]
            (apply w_lss; rfl; rfl; apply w_not; rfl; apply w_done; apply w_ifbF; rfl; (with_reducible assumption); apply w_reg; apply w_mvi; rfl; apply w_mvi; rfl; apply w_done0)
            exact ⟨(k1, kh), by simp only; omega, ⟨rfl, rfl, rfl, rfl, rfl, rfl, rfl, rfl, int_eq (by show (_ : Int) = (kh : Int); omega), rfl, trivial⟩, rfl, rfl, hk0, hh2, by simp only; omega, hlo, .inr ⟨by simp only; omega, by simp only; omega, by simp only; omega, by simp only [j1]; exact hlt⟩⟩
          · have hlt' : (!decide (c Y[md - 1 - kh] X[kh - A.length] < 0)) = true := by simp [hlt]
            (apply w_lss; rfl; rfl; apply w_not; rfl; apply w_done; apply w_ifbT; rfl; (with_reducible assumption); apply w_reg; apply w_mvi; rfl; apply w_add; rfl; rfl; omega; omega; apply w_mvi; rfl; apply w_done0)
            exact ⟨(kh + 1, k2), by simp only; omega, ⟨rfl, rfl, rfl, rfl, rfl, rfl, rfl, int_eq (by show (_ : Int) = ((kh + 1 : Nat) : Int); omega), rfl, rfl, trivial⟩, rfl, rfl, by simp only; omega, hh1, hk2, .inr ⟨by simp only; omega, by simp only; omega, by simp only; omega, by simp only [j2, j3]; exact hlt⟩, hhi⟩
        · obtain rfl : k1 = k2 := by omega
          (apply w_sq; apply w_sq; apply w_reg; apply w_mvi; rfl; apply w_mvi; rfl; apply w_lss; rfl; rfl; apply w_done0; refine w_ifdF rfl (by omega) ?_; apply w_exit)
          exact ⟨rfl, rfl, k1, ⟨rfl, rfl, rfl, rfl, rfl, rfl, rfl, rfl, trivial⟩, hk0, hk2, hlo, hhi⟩
      rintro ρ d2 L' ⟨hdd, hL, s, hs, hs1, hs2, hlo, hhi⟩
      subst hdd; subst hL
      refine gwp_slots _ hs ?_
      clear hs
      obtain ⟨sx, rfl⟩ : ∃ sx, s = A.length + sx := ⟨s - A.length, by omega⟩
      obtain ⟨ey, hey⟩ : ∃ ey, md = A.length + sx + ey := ⟨md - (A.length + sx), by omega⟩
      have hsx2 : sx ≤ X.length := by omega
      have hey2 : ey ≤ Y.length := by omega
      have hcr := cross oc hsx hsy hsx2 hey2 (by
        rcases hlo with hlo | ⟨q, q', h0, hlt⟩
        · by_cases hq : md < A.length + X.length
          · rw [if_pos hq] at hs0; exact .inr (.inl (by omega))
          · rw [if_neg hq] at hs0; exact .inl (by omega)
        · have j1 : md - (A.length + sx) = ey := by omega
          have j2 : A.length + sx - 1 - A.length = sx - 1 := by omega
          simp only [j1, j2] at q q' hlt
          exact .inr (.inr ⟨q, q', by omega, oc.le_of_not_lt hlt⟩)) (by
        rcases hhi with hhi | ⟨q, q', h0, hlt⟩
        · by_cases hq : md < A.length + X.length
          · rw [if_pos hq] at hr0; exact .inl (by omega)
          · rw [if_neg hq] at hr0; exact .inr (.inl (by omega))
        · have j1 : md - (A.length + sx) - 1 = ey - 1 := by omega
          have j2 : A.length + sx - A.length = sx := by omega
          simp only [j1, j2] at q q' hlt
          exact .inr (.inr ⟨q', q, by omega, by omega⟩))
      have hpm : (X.take sx ++ Y.take ey ++ (X.drop sx ++ Y.drop ey)).Perm (X ++ Y) := by
        have : (X.take sx ++ Y.take ey ++ (X.drop sx ++ Y.drop ey)).Perm (X.take sx ++ X.drop sx ++ (Y.take ey ++ Y.drop ey)) := by
          simp only [List.append_assoc]
          refine List.Perm.append_left _ ?_
          rw [← List.append_assoc, ← List.append_assoc]
          exact List.perm_append_comm.append_right _
        rwa [List.take_append_drop, List.take_append_drop] at this
      apply w_sq; apply w_reg
      (apply w_mvi; rfl; apply w_mvi; rfl; apply w_sub; rfl; rfl; omega; omega; apply w_mvi; rfl; apply w_done0)
      refine w_mid (fun ρ d' L' => d' = d2 ∧ ∃ h', L' = [h'] ∧ GRow 6 R d2 (.slice (some ⟨b, 0, none⟩) n cp) (A ++ (X.take sx ++ Y.take ey) ++ (X.drop sx ++ Y.drop ey) ++ B) h' ∧ SlotsAre ρ [(0, .slice (some ⟨b, 0, none⟩) n cp), (1, .int .i64 A.length), (2, .int .i64 (A.length + X.length : Nat)), (3, .int .i64 (A.length + X.length + Y.length : Nat)), (4, .func (.func g) #[] #[]), (18, .int .i64 md), (20, .int .i64 (A.length + sx : Nat)), (24, .int .i64 (A.length + X.length + ey : Nat))]) ?_ ?_
      · by_cases hr1 : sx < X.length
        · by_cases hr2 : 0 < ey
          · (apply w_sq; apply w_reg; apply w_mvi; rfl; apply w_mvi; rfl; apply w_lss; rfl; rfl; apply w_mvb; rfl; refine w_gdT rfl (by omega) ?_; apply w_gT; rfl; apply w_mvi; rfl; apply w_gT; rfl; apply w_mvi; rfl; apply w_gT; rfl; apply w_lss; rfl; rfl; apply w_pickTb; rfl; rfl; apply w_done0; refine w_ifdT rfl (by omega) ?_; apply w_reg; apply w_mvs; rfl; apply w_mvi; rfl; apply w_mvi; rfl; apply w_mvi; rfl; apply w_mvf; rfl)
            refine w_calln 1 rfl (h1 (A := A ++ X.take sx) (X := X.drop sx) (Y := Y.take ey) (B := Y.drop ey ++ B) hc1 (by
              have e : A ++ X.take sx ++ X.drop sx ++ Y.take ey ++ (Y.drop ey ++ B) = A ++ X ++ Y ++ B := by
                rw [List.append_assoc A, List.take_append_drop, ← List.append_assoc _ _ B, List.append_assoc (A ++ X), List.take_append_drop]
              rw [e]; exact ho) (fun q => by have := congrArg List.length q; simp only [List.length_take, List.length_drop, List.length_nil] at this; omega) (fun q => by have := congrArg List.length q; simp only [List.length_take, List.length_drop, List.length_nil] at this; omega) (by simp; omega) (by simp; omega) (by simp; omega)) (fun r d3 L3 _ ⟨hdd, h2, hL, ho2⟩ => ?_)
            subst hdd; subst hL
            (apply w_done0)
            refine ⟨rfl, h2, rfl, by simpa only [List.append_assoc] using ho2, rfl, rfl, rfl, rfl, rfl, rfl, rfl, int_eq (by omega), trivial⟩
          · obtain rfl : ey = 0 := by omega
            have hl2 : (decide (((A.length + X.length : Nat) : Int) < ((md + (A.length + X.length) : Nat) : Int) - ((A.length + sx : Nat) : Int))) = false := by simp; omega
            (apply w_sq; apply w_reg; apply w_mvi; rfl; apply w_mvi; rfl; apply w_lss; rfl; rfl; apply w_mvb; rfl; refine w_gdT rfl (by omega) ?_; apply w_gT; rfl; apply w_mvi; rfl; apply w_gT; rfl; apply w_mvi; rfl; apply w_gT; rfl; apply w_lss; rfl; rfl; apply w_pickTb; rfl; rfl; apply w_done0; refine w_ifdF rfl (by omega) ?_; apply w_skip)
            refine ⟨rfl, _, rfl, ?_, rfl, rfl, rfl, rfl, rfl, rfl, rfl, int_eq (by omega), trivial⟩
            rw [List.take_zero, List.drop_zero, List.append_nil, ← List.append_assoc, List.append_assoc A, List.take_append_drop]; exact ho
        · obtain rfl : sx = X.length := by omega
          (apply w_sq; apply w_reg; apply w_mvi; rfl; apply w_mvi; rfl; apply w_lss; rfl; rfl; apply w_mvb; rfl; refine w_gdF rfl (by omega) ?_; apply w_gF; rfl; apply w_gF; rfl; apply w_gF; rfl; apply w_pickFb; rfl; rfl; apply w_done0; apply w_ifF; rfl; apply w_skip)
          refine ⟨rfl, _, rfl, ?_, rfl, rfl, rfl, rfl, rfl, rfl, rfl, int_eq (by omega), trivial⟩
          rw [List.take_length, List.drop_length, List.nil_append, ← List.append_assoc, List.append_assoc (A ++ X), List.take_append_drop]; exact ho
      rintro ρ d3 L' ⟨hdd, h3, hL, ho3, hs⟩
      subst hdd; subst hL
      refine gwp_slots _ hs ?_
      clear hs
      refine w_mid (fun ρ d' L' => d' = d3 ∧ ∃ M1 h', L' = [h'] ∧ GRow 6 R d3 (.slice (some ⟨b, 0, none⟩) n cp) (A ++ M1 ++ (X.drop sx ++ Y.drop ey) ++ B) h' ∧ M1.Perm (X.take sx ++ Y.take ey) ∧ Srt c M1 ∧ SlotsAre ρ [(0, .slice (some ⟨b, 0, none⟩) n cp), (1, .int .i64 A.length), (2, .int .i64 (A.length + X.length : Nat)), (3, .int .i64 (A.length + X.length + Y.length : Nat)), (4, .func (.func g) #[] #[]), (18, .int .i64 md), (20, .int .i64 (A.length + sx : Nat)), (24, .int .i64 (A.length + X.length + ey : Nat))]) ?_ ?_
      · by_cases hr1 : 0 < sx
        · by_cases hr2 : 0 < ey
          · (apply w_sq; apply w_reg; apply w_mvi; rfl; apply w_mvi; rfl; apply w_lss; rfl; rfl; apply w_mvb; rfl; refine w_gdT rfl (by omega) ?_; apply w_gT; rfl; apply w_mvi; rfl; apply w_gT; rfl; apply w_mvi; rfl; apply w_gT; rfl; apply w_lss; rfl; rfl; apply w_pickTb; rfl; rfl; apply w_done0; refine w_ifdT rfl (by omega) ?_; apply w_reg; apply w_mvs; rfl; apply w_mvi; rfl; apply w_mvi; rfl; apply w_mvi; rfl; apply w_mvf; rfl)
            refine w_calln 1 rfl (ih (A := A) (X := X.take sx) (Y := Y.take ey) (B := X.drop sx ++ Y.drop ey ++ B) (by simp; omega) (by simpa only [List.append_assoc] using ho3) (hg.perm ?_) (hsx.take _) (hsy.take _) (fun q => by have := congrArg List.length q; simp only [List.length_take, List.length_drop, List.length_nil] at this; omega) (fun q => by have := congrArg List.length q; simp only [List.length_take, List.length_drop, List.length_nil] at this; omega) rfl (by simp; omega) (by simp; omega)) (fun r d4 L4 _ ⟨hdd, M1, h2, hL, ho2, hp2, hs2⟩ => ?_)
            · have := (hpm.append_left A).append_right B
              simpa only [List.append_assoc] using this
            subst hdd; subst hL
            (apply w_done0)
            exact ⟨rfl, M1, h2, rfl, by simpa only [List.append_assoc] using ho2, hp2, hs2, rfl, rfl, rfl, rfl, rfl, rfl, rfl, rfl, trivial⟩
          · obtain rfl : ey = 0 := by omega
            (apply w_sq; apply w_reg; apply w_mvi; rfl; apply w_mvi; rfl; apply w_lss; rfl; rfl; apply w_mvb; rfl; refine w_gdT rfl (by omega) ?_; apply w_gT; rfl; apply w_mvi; rfl; apply w_gT; rfl; apply w_mvi; rfl; apply w_gT; rfl; apply w_lss; rfl; rfl; apply w_pickTb; rfl; rfl; apply w_done0; refine w_ifdF rfl (by omega) ?_; apply w_skip)
            exact ⟨rfl, _, _, rfl, ho3, List.Perm.refl _, by rw [List.take_zero, List.append_nil]; exact hsx.take _, rfl, rfl, rfl, rfl, rfl, rfl, rfl, rfl, trivial⟩
        · obtain rfl : sx = 0 := by omega
          (apply w_sq; apply w_reg; apply w_mvi; rfl; apply w_mvi; rfl; apply w_lss; rfl; rfl; apply w_mvb; rfl; refine w_gdF rfl (by omega) ?_; apply w_gF; rfl; apply w_gF; rfl; apply w_gF; rfl; apply w_pickFb; rfl; rfl; apply w_done0; apply w_ifF; rfl; apply w_skip)
          exact ⟨rfl, _, _, rfl, ho3, List.Perm.refl _, by rw [List.take_zero, List.nil_append]; exact hsy.take _, rfl, rfl, rfl, rfl, rfl, rfl, rfl, rfl, trivial⟩
      rintro ρ d4 L' ⟨hdd, M1, h4, hL, ho4, hp1, hs1', hs⟩
      subst hdd; subst hL
      refine gwp_slots _ hs ?_
      clear hs
      have hM1 : M1.length = sx + ey := by have := hp1.length_eq; simp at this; omega
      have hfin : ∀ M2 : List α, M2.Perm (X.drop sx ++ Y.drop ey) → Srt c M2 → (M1 ++ M2).Perm (X ++ Y) ∧ Srt c (M1 ++ M2) := fun M2 p2 s2 =>
        ⟨(hp1.append p2).trans hpm, merge_srt hp1 p2 hs1' s2 (hsx.cut sx) hcr.1 hcr.2 (hsy.cut ey)⟩
      by_cases hr1 : sx < X.length
      · by_cases hr2 : ey < Y.length
        · (apply w_sq; apply w_reg; apply w_mvi; rfl; apply w_mvi; rfl; apply w_lss; rfl; rfl; apply w_mvb; rfl; refine w_gdT rfl (by omega) ?_; apply w_gT; rfl; apply w_mvi; rfl; apply w_gT; rfl; apply w_mvi; rfl; apply w_gT; rfl; apply w_lss; rfl; rfl; apply w_pickTb; rfl; rfl; apply w_done0; refine w_ifdT rfl (by omega) ?_; apply w_reg; apply w_mvs; rfl; apply w_mvi; rfl; apply w_mvi; rfl; apply w_mvi; rfl; apply w_mvf; rfl)
          refine w_calln 1 rfl (ih (A := A ++ M1) (X := X.drop sx) (Y := Y.drop ey) (B := B) (by simp; omega) (by simpa only [List.append_assoc] using ho4) (hg.perm ?_) (hsx.drop _) (hsy.drop _) (fun q => by have := congrArg List.length q; simp only [List.length_take, List.length_drop, List.length_nil] at this; omega) (fun q => by have := congrArg List.length q; simp only [List.length_take, List.length_drop, List.length_nil] at this; omega) (by simp; omega) (by simp; omega) (by simp; omega)) (fun r d5 L5 _ ⟨hdd, M2, h2, hL, ho2, hp2, hs2⟩ => ?_)
          · have := (((hp1.append_right (X.drop sx ++ Y.drop ey)).trans hpm).append_left A).append_right B
            simpa only [List.append_assoc] using this
          subst hdd; subst hL
          (apply w_done0)
          refine fin0 [h2] (by simp) ?_
          exact ⟨rfl, M1 ++ M2, h2, rfl, by simpa only [List.append_assoc] using ho2, hfin M2 hp2 hs2⟩
        · obtain rfl : ey = Y.length := by omega
          (apply w_sq; apply w_reg; apply w_mvi; rfl; apply w_mvi; rfl; apply w_lss; rfl; rfl; apply w_mvb; rfl; refine w_gdT rfl (by omega) ?_; apply w_gT; rfl; apply w_mvi; rfl; apply w_gT; rfl; apply w_mvi; rfl; apply w_gT; rfl; apply w_lss; rfl; rfl; apply w_pickTb; rfl; rfl; apply w_done0; refine w_ifdF rfl (by omega) ?_; apply w_skip)
          refine fin0 _ (List.Sublist.refl _) ?_
          exact ⟨rfl, _, _, rfl, by simpa only [List.append_assoc] using ho4, hfin _ (List.Perm.refl _) (by rw [List.drop_length, List.append_nil]; exact hsx.drop _)⟩
      · obtain rfl : sx = X.length := by omega
        (apply w_sq; apply w_reg; apply w_mvi; rfl; apply w_mvi; rfl; apply w_lss; rfl; rfl; apply w_mvb; rfl; refine w_gdF rfl (by omega) ?_; apply w_gF; rfl; apply w_gF; rfl; apply w_gF; rfl; apply w_pickFb; rfl; rfl; apply w_done0; apply w_ifF; rfl; apply w_skip)
        refine fin0 _ (List.Sublist.refl _) ?_
        exact ⟨rfl, _, _, rfl, by simpa only [List.append_assoc] using ho4, hfin _ (List.Perm.refl _) (by rw [List.drop_length, List.nil_append]; exact hsy.drop _)⟩
end Go.Gk
end

section
/-
  A stable sort, whole.
-/
namespace Go.Gk
open Go Srt
attribute [local irreducible] gwp gws

/-- What is sorted: the same ones, in order. -/
def SortedOk (sz : Nat) (P : Program) (f : FuncId) : Prop := ∀ {α : Type} {R : PHeap → List Value → α → Prop} {c : α → α → Int} {d : PHeap} {pa : Option Addr} {n cp : Nat} {g : FuncId} {h : PHeap} {xs : List α}, Ord c → Cell1 R →
  GRow sz R d (.slice pa n cp) xs h → CmpAt P R c g d xs →
  GCall P f [.slice pa n cp, .func (.func g) #[] #[]] d [h] (Ret fun _ d' L' => d' = d ∧ ∃ ys h', L' = [h'] ∧ GRow sz R d (.slice pa n cp) ys h' ∧ ys.Perm xs ∧ Srt c ys)
def StableOk (sz : Nat) (P : Program) (f : FuncId) : Prop := ∀ {α : Type} {R : PHeap → List Value → α → Prop} {c : α → α → Int} {d : PHeap} {pa : Option Addr} {n cp : Nat} {g : FuncId} {h : PHeap} {xs : List α}, Ord c → Cell1 R →
  GRow sz R d (.slice pa n cp) xs h → CmpAt P R c g d xs →
  GCall P f [.slice pa n cp, .int .i64 n, .func (.func g) #[] #[]] d [h] (Ret fun _ d' L' => d' = d ∧ ∃ ys h', L' = [h'] ∧ GRow sz R d (.slice pa n cp) ys h' ∧ ys.Perm xs ∧ Srt c ys)
def g_slices_stableCmpFunc_api_Value (f_slices_insertionSortCmpFunc_api_Value f_slices_symMergeCmpFunc_api_Value : Nat) : GFun :=
 ⟨63, [],
 (.seq
 (.reg false (.op false ⟨(some 6), none, (.mv (.const (.int .i64 20)))⟩ .done))
 (.seq
 (.reg false (.op false ⟨(some 10), none, (.mv (.tmp 6))⟩
  (.op false ⟨(some 7), none, (.mv (.const (.int .i64 0)))⟩
  (.op false ⟨(some 8), none, (.mv (.tmp 10))⟩ .done))))
 (.seq (.block 0 (.loop
 (.seq (.seq
 (.reg false (.op false ⟨(some 11), none, (.mv (.tmp 8))⟩
  (.op false ⟨(some 12), none, (.mv (.tmp 1))⟩
  (.op false ⟨(some 13), none, (.bin .leq (.tmp 11) (.tmp 12))⟩ .done)))) (.cond (.tmp 13) .skip (.exit 0))) (.block 1
 (.seq
 (.reg false (.op false ⟨(some 14), none, (.mv (.tmp 0))⟩
  (.op false ⟨(some 15), none, (.mv (.tmp 7))⟩
  (.op false ⟨(some 16), none, (.mv (.tmp 8))⟩
  (.op false ⟨(some 17), none, (.mv (.tmp 2))⟩
  (.op false ⟨(some 18), none, (.call f_slices_insertionSortCmpFunc_api_Value [(.tmp 14), (.tmp 15), (.tmp 16), (.tmp 17)])⟩ .done))))))
 (.seq
 (.reg false (.op false ⟨(some 19), none, (.mv (.tmp 8))⟩
  (.op false ⟨(some 7), none, (.mv (.tmp 19))⟩ .done)))
 (.reg false (.op false ⟨(some 20), none, (.mv (.tmp 8))⟩
  (.op false ⟨(some 21), none, (.mv (.tmp 6))⟩
  (.op false ⟨(some 22), none, (.bin .add (.tmp 20) (.tmp 21))⟩
  (.op false ⟨(some 8), none, (.mv (.tmp 22))⟩ .done)))))))))))
 (.seq
 (.reg false (.op false ⟨(some 23), none, (.mv (.tmp 0))⟩
  (.op false ⟨(some 24), none, (.mv (.tmp 7))⟩
  (.op false ⟨(some 25), none, (.mv (.tmp 1))⟩
  (.op false ⟨(some 26), none, (.mv (.tmp 2))⟩
  (.op false ⟨(some 27), none, (.call f_slices_insertionSortCmpFunc_api_Value [(.tmp 23), (.tmp 24), (.tmp 25), (.tmp 26)])⟩ .done)))))) (.block 2 (.loop
 (.seq (.seq
 (.reg false (.op false ⟨(some 28), none, (.mv (.tmp 6))⟩
  (.op false ⟨(some 29), none, (.mv (.tmp 1))⟩
  (.op false ⟨(some 30), none, (.bin .lss (.tmp 28) (.tmp 29))⟩ .done)))) (.cond (.tmp 30) .skip (.exit 2))) (.block 3
 (.seq
 (.reg false (.op false ⟨(some 31), none, (.mv (.tmp 6))⟩
  (.op false ⟨(some 32), none, (.bin .mul (.const (.int .i64 2)) (.tmp 31))⟩
  (.op false ⟨(some 7), none, (.mv (.const (.int .i64 0)))⟩
  (.op false ⟨(some 8), none, (.mv (.tmp 32))⟩ .done)))))
 (.seq (.block 4 (.loop
 (.seq (.seq
 (.reg false (.op false ⟨(some 33), none, (.mv (.tmp 8))⟩
  (.op false ⟨(some 34), none, (.mv (.tmp 1))⟩
  (.op false ⟨(some 35), none, (.bin .leq (.tmp 33) (.tmp 34))⟩ .done)))) (.cond (.tmp 35) .skip (.exit 4))) (.block 5
 (.seq
 (.reg false (.op false ⟨(some 36), none, (.mv (.tmp 0))⟩
  (.op false ⟨(some 37), none, (.mv (.tmp 7))⟩
  (.op false ⟨(some 38), none, (.mv (.tmp 7))⟩
  (.op false ⟨(some 39), none, (.mv (.tmp 6))⟩
  (.op false ⟨(some 40), none, (.bin .add (.tmp 38) (.tmp 39))⟩
  (.op false ⟨(some 41), none, (.mv (.tmp 8))⟩
  (.op false ⟨(some 42), none, (.mv (.tmp 2))⟩
  (.op false ⟨(some 43), none, (.call f_slices_symMergeCmpFunc_api_Value [(.tmp 36), (.tmp 37), (.tmp 40), (.tmp 41), (.tmp 42)])⟩ .done)))))))))
 (.seq
 (.reg false (.op false ⟨(some 44), none, (.mv (.tmp 8))⟩
  (.op false ⟨(some 7), none, (.mv (.tmp 44))⟩ .done)))
 (.reg false (.op false ⟨(some 45), none, (.mv (.tmp 8))⟩
  (.op false ⟨(some 46), none, (.mv (.tmp 6))⟩
  (.op false ⟨(some 47), none, (.bin .mul (.const (.int .i64 2)) (.tmp 46))⟩
  (.op false ⟨(some 48), none, (.bin .add (.tmp 45) (.tmp 47))⟩
  (.op false ⟨(some 8), none, (.mv (.tmp 48))⟩ .done))))))))))))
 (.seq (.seq
 (.reg false (.op false ⟨(some 49), none, (.mv (.tmp 7))⟩
  (.op false ⟨(some 50), none, (.mv (.tmp 6))⟩
  (.op false ⟨(some 51), none, (.bin .add (.tmp 49) (.tmp 50))⟩
  (.op false ⟨(some 9), none, (.mv (.tmp 51))⟩ .done)))))
 (.seq
 (.reg false (.op false ⟨(some 52), none, (.mv (.tmp 9))⟩
  (.op false ⟨(some 53), none, (.mv (.tmp 1))⟩
  (.op false ⟨(some 54), none, (.bin .lss (.tmp 52) (.tmp 53))⟩ .done)))) (.cond (.tmp 54)
 (.reg false (.op false ⟨(some 55), none, (.mv (.tmp 0))⟩
  (.op false ⟨(some 56), none, (.mv (.tmp 7))⟩
  (.op false ⟨(some 57), none, (.mv (.tmp 9))⟩
  (.op false ⟨(some 58), none, (.mv (.tmp 1))⟩
  (.op false ⟨(some 59), none, (.mv (.tmp 2))⟩
  (.op false ⟨(some 60), none, (.call f_slices_symMergeCmpFunc_api_Value [(.tmp 55), (.tmp 56), (.tmp 57), (.tmp 58), (.tmp 59)])⟩ .done))))))) .skip)))
 (.reg false (.op false ⟨(some 61), none, (.mv (.tmp 6))⟩
  (.op false ⟨(some 62), none, (.bin .mul (.tmp 61) (.const (.int .i64 2)))⟩
  (.op false ⟨(some 6), none, (.mv (.tmp 62))⟩ .done)))))))))))))))⟩

set_option maxHeartbeats 2000000 in
theorem stable_api_Value {P : Program} {f f1 f2 : FuncId} (hd : dec P f = some (g_slices_stableCmpFunc_api_Value f1 f2)) (h1 : InsOk 6 P f1) (h2 : SymOk 6 P f2) : StableOk 6 P f := by
  intro α R c d pa n cp g h xs oc hc1 ho hg
  have hll := ho.len_le
  obtain rfl : n = xs.length := by obtain ⟨_, _, e⟩ := ho.val; injection e
  refine GCall_of hd (Nat.le_of_ble_eq_true rfl) ?_
  show gwp P _ _ _ _ _
  apply w_sq; apply w_reg
  (apply w_mvi; rfl; apply w_done0)
  apply w_sq; apply w_reg
  (apply w_mvi; rfl; apply w_mvi; rfl; apply w_mvi; rfl; apply w_done0)
  refine w_mid (fun ρ d' L' => d' = d ∧ ∃ (a : Nat) (bl : List (List α)) (rest : List α) (h' : PHeap), bl.flatten.length = a ∧ (∀ x ∈ bl, x.length = 20 ∧ Srt c x) ∧ rest.length < 20 ∧ (bl.flatten ++ rest).Perm xs ∧ L' = [h'] ∧ GRow 6 R d (.slice pa xs.length cp) (bl.flatten ++ rest) h' ∧
    SlotsAre ρ [(0, .slice pa xs.length cp), (1, .int .i64 xs.length), (2, .func (.func g) #[] #[]), (6, .int .i64 20), (7, .int .i64 a)]) ?_ ?_
  · (apply w_block)
    refine w_loopS (α := Nat) (fun a => [(0, .slice pa xs.length cp), (1, .int .i64 xs.length), (2, .func (.func g) #[] #[]), (6, .int .i64 20), (7, .int .i64 a), (8, .int .i64 (a + 20 : Nat))])
      (fun a d' L' => d' = d ∧ ∃ (bl : List (List α)) (rest : List α) (h' : PHeap), bl.flatten.length = a ∧ (∀ x ∈ bl, x.length = 20 ∧ Srt c x) ∧ (bl.flatten ++ rest).Perm xs ∧ L' = [h'] ∧ GRow 6 R d (.slice pa xs.length cp) (bl.flatten ++ rest) h')
      (fun a => xs.length - a) 0 ⟨rfl, rfl, rfl, rfl, rfl, rfl, trivial⟩ ⟨rfl, [], xs, h, rfl, by simp, List.Perm.refl _, rfl, ho⟩ ?_
    rintro a ρ d' L' ⟨hdd, bl, rest, h', ha, hbl, hp, hL, ho'⟩
    subst hdd; subst hL
    have hlen := hp.length_eq
    simp only [List.length_append] at hlen
    by_cases hc : 20 ≤ rest.length
    · (apply w_sq; apply w_sq; apply w_reg; apply w_mvi; rfl; apply w_mvi; rfl; apply w_leq; rfl; rfl; apply w_done0; refine w_ifdT rfl (by omega) ?_; apply w_skip; apply w_block; apply w_sq; apply w_reg; apply w_mvs; rfl; apply w_mvi; rfl; apply w_mvi; rfl; apply w_mvf; rfl)
      refine w_calln 1 rfl (h1 (A := bl.flatten) (M := rest.take 20) (B := rest.drop 20) oc hc1 (by rw [List.append_assoc, List.take_append_drop]; exact ho') (by rw [List.append_assoc, List.take_append_drop]; exact hg.perm hp) (by omega) (by simp only [List.length_take]; omega)) (fun r d2 L2 _ ⟨hdd, M', h2, hL, ho2, hpm, hsm⟩ => ?_)
      subst hdd; subst hL
      (apply w_done0; apply w_sq; apply w_reg; apply w_mvi; rfl; apply w_mvi; rfl; apply w_done0; apply w_reg; apply w_mvi; rfl; apply w_mvi; rfl; apply w_add; rfl; rfl; omega; omega; apply w_mvi; rfl; apply w_done0)
      refine ⟨a + 20, by omega, ⟨rfl, rfl, rfl, rfl, rfl, int_eq (by omega), trivial⟩, rfl, bl ++ [M'], rest.drop 20, h2, ?_, ?_, ?_, rfl, by simpa using ho2⟩
      · have := hpm.length_eq
        simp only [List.length_take] at this
        simp only [List.flatten_append, List.length_append, List.flatten_cons, List.flatten_nil, List.length_nil]; omega
      · intro x hx
        rcases List.mem_append.1 hx with hx | hx
        · exact hbl x hx
        · rw [List.mem_singleton.1 hx]
          exact ⟨by have := hpm.length_eq; simp at this; omega, hsm⟩
      · refine List.Perm.trans ?_ hp
        rw [List.flatten_append, List.append_assoc]
        refine List.Perm.append_left _ ?_
        simp only [List.flatten_cons, List.flatten_nil, List.append_nil]
        have := hpm.append_right (rest.drop 20)
        rwa [List.take_append_drop] at this
    · (apply w_sq; apply w_sq; apply w_reg; apply w_mvi; rfl; apply w_mvi; rfl; apply w_leq; rfl; rfl; apply w_done0; refine w_ifdF rfl (by omega) ?_; apply w_exit)
      exact ⟨rfl, a, bl, rest, h', ha, hbl, by omega, hp, rfl, ho', rfl, rfl, rfl, rfl, rfl, trivial⟩
  rintro ρ d' L' ⟨hdd, a, bl, rest, h', ha, hbl, hrest, hp, hL, ho', hs⟩
  subst hdd; subst hL
  refine gwp_slots _ hs ?_
  clear hs
  have hlen := hp.length_eq
  simp only [List.length_append] at hlen
  (apply w_sq; apply w_reg; apply w_mvs; rfl; apply w_mvi; rfl; apply w_mvi; rfl; apply w_mvf; rfl)
  refine w_calln 1 rfl (h1 (A := bl.flatten) (M := rest) (B := []) oc hc1 (by simpa using ho') (by simpa using hg.perm hp) (by omega) (by omega)) (fun r d2 L2 _ ⟨hdd, M', h3, hL, ho2, hpm, hsm⟩ => ?_)
  subst hdd; subst hL
  have hml := hpm.length_eq
  (apply w_done0; apply w_block)
  refine w_loopS (α := Nat) (fun bs => [(0, .slice pa xs.length cp), (1, .int .i64 xs.length), (2, .func (.func g) #[] #[]), (6, .int .i64 bs)])
    (fun bs d' L' => d' = d2 ∧ 20 ≤ bs ∧ ∃ (bl : List (List α)) (rest : List α) (h' : PHeap), (∀ x ∈ bl, x.length = bs ∧ Srt c x) ∧ rest.length < bs ∧ Srt c rest ∧ (bl.flatten ++ rest).Perm xs ∧ L' = [h'] ∧ GRow 6 R d2 (.slice pa xs.length cp) (bl.flatten ++ rest) h')
    (fun bs => xs.length - bs) 20 ⟨rfl, rfl, rfl, rfl, trivial⟩ ⟨rfl, Nat.le_refl _, bl, M', h3, hbl, by omega, hsm, (hpm.append_left _).trans hp, rfl, by simpa using ho2⟩ ?_
  clear ho2 hbl hpm hsm hml hrest hp ho' ha hlen
  rintro bs ρ d3 L' ⟨hdd, hbs, bl, rest, h', hbl, hrest, hsr, hp, hL, ho'⟩
  subst hdd; subst hL
  have hlen := hp.length_eq
  simp only [List.length_append] at hlen
  by_cases hc : bs < xs.length
  · (apply w_sq; apply w_sq; apply w_reg; apply w_mvi; rfl; apply w_mvi; rfl; apply w_lss; rfl; rfl; apply w_done0; refine w_ifdT rfl (by omega) ?_; apply w_skip; apply w_block; apply w_sq; apply w_reg; apply w_mvi; rfl; apply w_mul; rfl; rfl; omega; omega; apply w_mvi; rfl; apply w_mvi; rfl; apply w_done0; apply w_sq; apply w_block)
    refine w_loopS (α := Nat) (fun a => [(0, .slice pa xs.length cp), (1, .int .i64 xs.length), (2, .func (.func g) #[] #[]), (6, .int .i64 bs), (7, .int .i64 a), (8, .int .i64 (a + 2 * bs : Nat))])
      (fun a d' L' => d' = d3 ∧ ∃ (D bl : List (List α)) (rest : List α) (h' : PHeap), D.flatten.length = a ∧ (∀ x ∈ D, x.length = 2 * bs ∧ Srt c x) ∧ (∀ x ∈ bl, x.length = bs ∧ Srt c x) ∧ rest.length < bs ∧ Srt c rest ∧ (D.flatten ++ (bl.flatten ++ rest)).Perm xs ∧ L' = [h'] ∧ GRow 6 R d3 (.slice pa xs.length cp) (D.flatten ++ (bl.flatten ++ rest)) h')
      (fun a => xs.length - a) 0 ⟨rfl, rfl, rfl, rfl, rfl, int_eq (by omega), trivial⟩ ⟨rfl, [], bl, rest, h', rfl, by simp, hbl, hrest, hsr, by simpa using hp, rfl, by simpa using ho'⟩ ?_
    clear ho' hp hbl hsr hrest hlen
    rintro a ρ d2 L' ⟨hdd, D, bl, rest, h', ha, hD, hbl, hrest, hsr, hp, hL, ho'⟩
    subst hdd; subst hL
    have hlen := hp.length_eq
    simp only [List.length_append] at hlen
    have hend : ∀ rest' : List α, rest'.length < 2 * bs → Srt c rest' → ∀ h2, (D.flatten ++ rest').Perm xs → GRow 6 R d2 (.slice pa xs.length cp) (D.flatten ++ rest') h2 → 20 ≤ bs * 2 ∧ ∃ (bl : List (List α)) (rest : List α) (h' : PHeap), (∀ x ∈ bl, x.length = bs * 2 ∧ Srt c x) ∧ rest.length < bs * 2 ∧ Srt c rest ∧ (bl.flatten ++ rest).Perm xs ∧ [h2] = [h'] ∧ GRow 6 R d2 (.slice pa xs.length cp) (bl.flatten ++ rest) h' :=
      fun rest' q1 q2 h2 q3 q4 => ⟨by omega, D, rest', h2, fun x hx => ⟨by have := (hD x hx).1; omega, (hD x hx).2⟩, by omega, q2, q3, rfl, q4⟩
    match bl, hbl, hlen, hp, ho' with
    | X :: Y :: bl, hbl, hlen, hp, ho' =>
      obtain ⟨hX1, hX2⟩ := hbl X (by simp)
      obtain ⟨hY1, hY2⟩ := hbl Y (by simp)
      simp only [List.flatten_cons, List.length_append] at hlen
      have e1 : D.flatten ++ ((X :: Y :: bl).flatten ++ rest) = D.flatten ++ X ++ Y ++ (bl.flatten ++ rest) := by simp only [List.flatten_cons, List.append_assoc]
      rw [e1] at ho' hp
      (apply w_sq; apply w_sq; apply w_reg; apply w_mvi; rfl; apply w_mvi; rfl; apply w_leq; rfl; rfl; apply w_done0; refine w_ifdT rfl (by omega) ?_; apply w_skip; apply w_block; apply w_sq; apply w_reg; apply w_mvs; rfl; apply w_mvi; rfl; apply w_mvi; rfl; apply w_mvi; rfl; apply w_add; rfl; rfl; omega; omega; apply w_mvi; rfl; apply w_mvf; rfl)
      refine w_calln 1 rfl (h2 oc hc1 _ (Nat.le_refl _) ho' (hg.perm hp) hX2 hY2 (fun q => by subst q; simp at hX1; omega) (fun q => by subst q; simp at hY1; omega) (by omega) (by omega) (by omega)) (fun r d3 L2 _ ⟨hdd, M', h3, hL, ho2, hpm, hsm⟩ => ?_)
      subst hdd; subst hL
      have hml := hpm.length_eq
      simp only [List.length_append] at hml
      (apply w_done0; apply w_sq; apply w_reg; apply w_mvi; rfl; apply w_mvi; rfl; apply w_done0; apply w_reg; apply w_mvi; rfl; apply w_mvi; rfl; apply w_mul; rfl; rfl; omega; omega; apply w_add; rfl; rfl; omega; omega; apply w_mvi; rfl; apply w_done0)
      refine ⟨a + 2 * bs, by omega, ⟨rfl, rfl, rfl, rfl, rfl, int_eq (by omega), trivial⟩, rfl, D ++ [M'], bl, rest, h3, ?_, ?_, fun x hx => hbl x (by simp [hx]), hrest, hsr, ?_, rfl, by simpa using ho2⟩
      · simp only [List.flatten_append, List.length_append, List.flatten_cons, List.flatten_nil, List.length_nil]; omega
      · intro x hx
        rcases List.mem_append.1 hx with hx | hx
        · exact hD x hx
        · rw [List.mem_singleton.1 hx]; exact ⟨by omega, hsm⟩
      · refine List.Perm.trans ?_ hp
        simp only [List.flatten_append, List.flatten_cons, List.flatten_nil, List.append_nil, List.append_assoc]
        have := (hpm.append_right (bl.flatten ++ rest)).append_left D.flatten
        simpa only [List.append_assoc] using this
    | [X], hbl, hlen, hp, ho' =>
      obtain ⟨hX1, hX2⟩ := hbl X (by simp)
      simp only [List.flatten_cons, List.flatten_nil, List.append_nil] at hlen ho' hp
      by_cases hr0 : rest = []
      · subst hr0
        simp only [List.length_nil] at hlen
        rw [List.append_nil] at ho' hp
        (apply w_sq; apply w_sq; apply w_reg; apply w_mvi; rfl; apply w_mvi; rfl; apply w_leq; rfl; rfl; apply w_done0; refine w_ifdF rfl (by omega) ?_; apply w_exit; apply w_sq; apply w_sq; apply w_reg; apply w_mvi; rfl; apply w_mvi; rfl; apply w_add; rfl; rfl; omega; omega; apply w_mvi; rfl; apply w_done0; apply w_sq; apply w_reg; apply w_mvi; rfl; apply w_mvi; rfl; apply w_lss; rfl; rfl; apply w_done0; refine w_ifdF rfl (by omega) ?_; apply w_skip; apply w_reg; apply w_mvi; rfl; apply w_mul; rfl; rfl; omega; omega; apply w_mvi; rfl; apply w_done0)
        exact ⟨bs * 2, by omega, ⟨rfl, rfl, rfl, int_eq (by omega), trivial⟩, rfl, hend X (by omega) hX2 h' hp ho'⟩
      · have hrl : rest.length ≠ 0 := fun q => hr0 (List.eq_nil_of_length_eq_zero q)
        rw [← List.append_assoc] at ho' hp
        (apply w_sq; apply w_sq; apply w_reg; apply w_mvi; rfl; apply w_mvi; rfl; apply w_leq; rfl; rfl; apply w_done0; refine w_ifdF rfl (by omega) ?_; apply w_exit; apply w_sq; apply w_sq; apply w_reg; apply w_mvi; rfl; apply w_mvi; rfl; apply w_add; rfl; rfl; omega; omega; apply w_mvi; rfl; apply w_done0; apply w_sq; apply w_reg; apply w_mvi; rfl; apply w_mvi; rfl; apply w_lss; rfl; rfl; apply w_done0; refine w_ifdT rfl (by omega) ?_; apply w_reg; apply w_mvs; rfl; apply w_mvi; rfl; apply w_mvi; rfl; apply w_mvi; rfl; apply w_mvf; rfl)
        refine w_calln 1 rfl (h2 (A := D.flatten) (X := X) (Y := rest) (B := []) oc hc1 _ (Nat.le_refl _) (by rw [List.append_nil]; exact ho') (by rw [List.append_nil]; exact hg.perm hp) hX2 hsr (fun q => by subst q; simp at hX1; omega) hr0 (by omega) (by omega) (by omega)) (fun r d3 L2 _ ⟨hdd, M', h3, hL, ho2, hpm, hsm⟩ => ?_)
        subst hdd; subst hL
        have hml := hpm.length_eq
        simp only [List.length_append] at hml
        rw [List.append_nil] at ho2
        (apply w_done0; apply w_reg; apply w_mvi; rfl; apply w_mul; rfl; rfl; omega; omega; apply w_mvi; rfl; apply w_done0)
        exact ⟨bs * 2, by omega, ⟨rfl, rfl, rfl, int_eq (by omega), trivial⟩, rfl, hend M' (by omega) hsm h3 (by rw [List.append_assoc] at hp; exact (hpm.append_left _).trans hp) ho2⟩
    | [], hbl, hlen, hp, ho' =>
      simp only [List.flatten_nil, List.nil_append, List.length_nil] at hlen ho' hp
      (apply w_sq; apply w_sq; apply w_reg; apply w_mvi; rfl; apply w_mvi; rfl; apply w_leq; rfl; rfl; apply w_done0; refine w_ifdF rfl (by omega) ?_; apply w_exit; apply w_sq; apply w_sq; apply w_reg; apply w_mvi; rfl; apply w_mvi; rfl; apply w_add; rfl; rfl; omega; omega; apply w_mvi; rfl; apply w_done0; apply w_sq; apply w_reg; apply w_mvi; rfl; apply w_mvi; rfl; apply w_lss; rfl; rfl; apply w_done0; refine w_ifdF rfl (by omega) ?_; apply w_skip; apply w_reg; apply w_mvi; rfl; apply w_mul; rfl; rfl; omega; omega; apply w_mvi; rfl; apply w_done0)
      exact ⟨bs * 2, by omega, ⟨rfl, rfl, rfl, int_eq (by omega), trivial⟩, rfl, hend rest (by omega) hsr h' hp ho'⟩
  · (apply w_sq; apply w_sq; apply w_reg; apply w_mvi; rfl; apply w_mvi; rfl; apply w_lss; rfl; rfl; apply w_done0; refine w_ifdF rfl (by omega) ?_; apply w_exit)
    refine fin0 _ (List.Sublist.refl _) ?_
    refine ⟨rfl, _, h', rfl, ho', hp, ?_⟩
    match bl, hbl, hlen with
    | [], _, _ => exact hsr
    | [X], hbl, hlen =>
      obtain ⟨hX1, hX2⟩ := hbl X (by simp)
      simp only [List.flatten_cons, List.flatten_nil, List.append_nil] at hlen ⊢
      obtain rfl : rest = [] := List.eq_nil_of_length_eq_zero (by omega)
      rw [List.append_nil]; exact hX2
    | X :: Y :: bl, hbl, hlen =>
      obtain ⟨hX1, _⟩ := hbl X (by simp)
      obtain ⟨hY1, _⟩ := hbl Y (by simp)
      simp only [List.flatten_cons, List.length_append] at hlen
      omega
def g_slices_SortStableFunc_api_Value_api_Value (f_slices_stableCmpFunc_api_Value : Nat) : GFun :=
 ⟨9, [],
 (.reg false (.op false ⟨(some 4), none, (.mv (.tmp 0))⟩
  (.op false ⟨(some 5), none, (.mv (.tmp 0))⟩
  (.op false ⟨(some 6), none, (.len (.tmp 5))⟩
  (.op false ⟨(some 7), none, (.mv (.tmp 1))⟩
  (.op false ⟨(some 8), none, (.call f_slices_stableCmpFunc_api_Value [(.tmp 4), (.tmp 6), (.tmp 7)])⟩ .done))))))⟩

theorem sorted_api_Value {P : Program} {f f1 : FuncId} (hd : dec P f = some (g_slices_SortStableFunc_api_Value_api_Value f1)) (h1 : StableOk 6 P f1) : SortedOk 6 P f := by
  intro α R c d pa n cp g h xs oc hc1 ho hg
  refine GCall_of hd (Nat.le_of_ble_eq_true rfl) ?_
  show gwp P _ _ _ _ _
  (apply w_reg; apply w_mvs; rfl; apply w_mvs; rfl; apply w_len; rfl; apply w_mvf; rfl)
  refine w_calln 1 rfl (h1 oc hc1 ho hg) (fun r d2 L2 _ ⟨hdd, ys, h2, hL, ho2, hp, hs⟩ => ?_)
  subst hdd; subst hL
  (apply w_done0)
  refine fin0 [h2] (by simp) ?_
  exact ⟨rfl, ys, h2, rfl, ho2, hp, hs⟩
end Go.Gk
end

section
/-
  Values sorted, and the least one: the program.
-/
namespace Go.Gk.Val
open Go Go.Gk Go.Gk.Srt
attribute [local irreducible] gwp gws

def LeastOk (T : PHeap → Prop) (P : Program) (f : FuncId) : Prop := ∀ {d : PHeap} {v : Value} {l : List V}, T d → RVals d v l → l.length ≤ 1000000000 → (∀ x ∈ l, depthV x ≤ 1000000000) → GPure P f [v] d (.tuple #[.int .i64 (leastTop l).1, .int .i64 (leastTop l).2])
def g_order_Least (f_value_Right f_order_compare : Nat) : GFun :=
 ⟨33, [(.tmp 2), (.tmp 3)],
 (.seq
 (.reg false (.op false ⟨(some 2), none, (.mv (.const (.int .i64 0)))⟩
  (.op false ⟨(some 3), none, (.mv (.const (.int .i64 0)))⟩ .done)))
 (.seq
 (.reg false (.op false ⟨(some 4), none, (.mv (.const (.int .i64 0)))⟩ .done))
 (.seq (.seq
 (.reg false (.op false ⟨(some 8), none, (.mv (.tmp 0))⟩
  (.op false ⟨(some 9), none, (.len (.tmp 8))⟩
  (.op false ⟨(some 10), none, (.mv (.const (.int .i64 0)))⟩ .done)))) (.block 0 (.loop
 (.seq
 (.reg false (.op false ⟨(some 11), none, (.bin .lss (.tmp 10) (.tmp 9))⟩ .done))
 (.seq (.cond (.tmp 11) .skip (.exit 0))
 (.seq (.block 1
 (.seq
 (.reg false (.op false ⟨(some 12), none, (.mv (.tmp 10))⟩
  (.op false ⟨(some 13), none, (.idx 6 (.tmp 8) (.tmp 10))⟩
  (.op false ⟨(some 14), none, (.ld (some 6) (.tmp 13))⟩
  (.op false ⟨(some 6), none, (.alo (.agg #[(.int .i64 0), (.int .i64 0), (.int .i64 0), (strV []), (.slice none 0 0), (.slice none 0 0)]))⟩
  (.op false ⟨(some 5), none, (.mv (.tmp 12))⟩
  (.op false ⟨none, none, (.st 6 (.tmp 6) (.tmp 14))⟩ .done)))))))
 (.seq (.seq
 (.reg false (.op false ⟨(some 15), none, (.ld (some 6) (.tmp 6))⟩
  (.op false ⟨(some 16), none, (.call f_value_Right [(.tmp 15)])⟩
  (.op false ⟨(some 7), none, (.mv (.tmp 16))⟩ .done))))
 (.seq
 (.reg false (.op false ⟨(some 17), none, (.mv (.tmp 7))⟩
  (.op false ⟨(some 18), none, (.bin .neq (.tmp 17) (.const (.int .i64 0)))⟩ .done))) (.cond (.tmp 18)
 (.seq
 (.reg false (.op false ⟨(some 19), none, (.mv (.tmp 7))⟩
  (.op false ⟨(some 2), none, (.mv (.const (.int .i64 0)))⟩
  (.op false ⟨(some 3), none, (.mv (.tmp 19))⟩ .done)))) .ret) .skip)))
 (.seq
 (.reg true (.op true ⟨(some 20), none, (.ld (some 6) (.tmp 6))⟩
  (.op true ⟨(some 21), none, (.mv (.tmp 0))⟩
  (.op true ⟨(some 22), none, (.mv (.tmp 4))⟩
  (.op true ⟨(some 23), none, (.idx 6 (.tmp 21) (.tmp 22))⟩
  (.op true ⟨(some 24), none, (.ld (some 6) (.tmp 23))⟩
  (.op false ⟨(some 25), none, (.call f_order_compare [(.tmp 20), (.tmp 24)])⟩
  (.op true ⟨(some 26), none, (.bin .lss (.tmp 25) (.const (.int .i64 0)))⟩ .done)))))))) (.cond (.tmp 26)
 (.reg false (.op false ⟨(some 27), none, (.mv (.tmp 5))⟩
  (.op false ⟨(some 4), none, (.mv (.tmp 27))⟩ .done))) .skip)))))
 (.reg false (.op false ⟨(some 28), none, (.bin .add (.tmp 10) (.const (.int .i64 1)))⟩
  (.op false ⟨(some 10), none, (.mv (.tmp 28))⟩ .done)))))))))
 (.seq (.seq
 (.reg false (.op false ⟨(some 29), none, (.mv (.tmp 0))⟩
  (.op false ⟨(some 30), none, (.len (.tmp 29))⟩
  (.op false ⟨(some 31), none, (.bin .eql (.tmp 30) (.const (.int .i64 0)))⟩ .done)))) (.cond (.tmp 31)
 (.seq
 (.reg false (.op false ⟨(some 2), none, (.mv (.const (.int .i64 0)))⟩
  (.op false ⟨(some 3), none, (.mv (.const (.int .i64 240)))⟩ .done))) .ret) .skip))
 (.seq
 (.reg false (.op false ⟨(some 32), none, (.mv (.tmp 4))⟩
  (.op false ⟨(some 2), none, (.mv (.tmp 32))⟩
  (.op false ⟨(some 3), none, (.mv (.const (.int .i64 0)))⟩ .done)))) .ret)))))⟩

set_option maxHeartbeats 1000000 in
theorem oleast_ok {T : PHeap → Prop} {P : Program} {f f1 f2 : FuncId} (hTm : ∀ {d d' : PHeap}, Le d d' → T d → T d') (hd : dec P f = some (g_order_Least f1 f2)) (h1 : RightOk T P f1) (h2 : CmpVOk T P f2) : LeastOk T P f := by
  intro d v l ht hv hb _
  obtain ⟨pa, ca, rfl⟩ := RSl.val hv
  have hv' : RSl 6 RVal d (.slice pa l.length ca) l := hv
  refine GPure.of' hd (Nat.le_of_ble_eq_true rfl) ?_
  show gwp P _ _ _ _ _
  (apply w_sq; apply w_reg; apply w_mvi; rfl; apply w_mvi; rfl; apply w_done0; apply w_sq; apply w_reg; apply w_mvi; rfl; apply w_done0; apply w_sq; apply w_sq; apply w_reg; apply w_mvs; rfl; apply w_len; rfl; apply w_mvi; rfl; apply w_done0; apply w_block)
  refine w_loopS (α := Nat) (fun i => [(0, .slice pa l.length ca), (4, .int .i64 (leastN l i)), (8, .slice pa l.length ca), (9, .int .i64 l.length), (10, .int .i64 i)]) (fun i d' L' => Le d d' ∧ i ≤ l.length ∧ wrongL (l.take i) = 0) (fun i => l.length - i) 0 ⟨rfl, rfl, rfl, rfl, rfl, trivial⟩ ⟨Le.refl _, Nat.zero_le _, rfl⟩ ?_
  rintro i ρ d1 L' ⟨hl1, hi, hw⟩
  have hv1 : RSl 6 RVal d1 (.slice pa l.length ca) l := RVals.mono hv' hl1
  have ht1 := hTm hl1 ht
  by_cases hc : i < l.length
  · have hwt := wrongL_take hc hw
    have hs := right_small l[i]
    by_cases hr : rightV l[i] = 0
    · have hw2 := wrongL_snoc hc hw hr
      have hbl : leastN l i < l.length := by have := leastN_lt hc; omega
      have hst := leastN_step hc hbl
      have m1 : mayV l[i] = true := (right_iff.1 hr).1
      have m2 : mayV l[leastN l i] = true := by
        by_cases q : leastN l i = i
        · simp only [q]; exact m1
        · have := leastN_lt hc
          exact wrongL_may hw2 _ (by rw [List.mem_take_iff_getElem]; exact ⟨leastN l i, by omega, rfl⟩)
      (apply w_sq; apply w_reg; apply w_lss; rfl; rfl; apply w_done0; apply w_sq; refine w_ifdT rfl (by omega) ?_; apply w_skip; apply w_sq; apply w_block; apply w_sq; apply w_reg; apply w_mvi; rfl; refine w_idxR (sz := 6) (R := RVal) (by rfl) (by assumption) (by rfl) rfl (by omega) ?_; rintro _ _ _ _ _ _; apply w_ldd; rfl; assumption; assumption; apply w_alo; intro _ _; apply w_mvi; rfl)
      rename_i cs hcs hD hR b6 T6
      obtain ⟨c0, c1, c2, c3, c4, c5, rfl⟩ := six hcs
      refine w_stE 0 [c0, c1, c2, c3, c4, c5] rfl rfl rfl rfl (Nat.le_of_ble_eq_true rfl) (cell1_val _ _ _ hR) rfl ?_
      (apply w_done0; apply w_sq; apply w_sq; apply w_reg; apply w_ldb 0; rfl; rfl; rfl)
      refine w_pure rfl (h1 ht1 hR) ?_
      (apply w_mvi; rfl; apply w_done0; apply w_sq; apply w_reg; apply w_mvi; rfl; apply w_neq; rfl; rfl; apply w_done0; refine w_ifdF rfl (by omega) ?_; apply w_skip; apply w_sq; apply w_drawn; apply w_ldb 0; rfl; rfl; rfl; apply w_mvs; rfl; apply w_mvi; rfl; refine w_idxR (sz := 6) (R := RVal) (by rfl) (by assumption) (by rfl) rfl (by omega) ?_; rintro _ _ _ _ _ _; apply w_ldd; rfl; assumption; assumption)
      rename_i es hes hE hS
      refine w_pure rfl (h2 _ _ ht1 hR hS m1 m2) ?_
      by_cases hlt : cmpV l[i] l[leastN l i] < 0
      · rw [if_pos hlt] at hst
        (apply w_lss; rfl; rfl; apply w_done; refine w_ifdT rfl (by omega) ?_; apply w_reg; apply w_mvi; rfl; apply w_mvi; rfl; apply w_done0; apply w_reg; apply w_add; rfl; rfl; omega; omega; apply w_mvi; rfl; apply w_done0)
        exact ⟨i + 1, by omega, ⟨rfl, int_eq (by rw [hst]), rfl, rfl, int_eq (by omega), trivial⟩, hl1, hc, hw2⟩
      · rw [if_neg hlt] at hst
        (apply w_lss; rfl; rfl; apply w_done; refine w_ifdF rfl (by omega) ?_; apply w_skip; apply w_reg; apply w_add; rfl; rfl; omega; omega; apply w_mvi; rfl; apply w_done0)
        exact ⟨i + 1, by omega, ⟨rfl, int_eq (by rw [hst]), rfl, rfl, int_eq (by omega), trivial⟩, hl1, hc, hw2⟩
    · rw [if_pos hr] at hwt
      rw [leastTop, if_pos (by omega), hwt]
      (apply w_sq; apply w_reg; apply w_lss; rfl; rfl; apply w_done0; apply w_sq; refine w_ifdT rfl (by omega) ?_; apply w_skip; apply w_sq; apply w_block; apply w_sq; apply w_reg; apply w_mvi; rfl; refine w_idxR (sz := 6) (R := RVal) (by rfl) (by assumption) (by rfl) rfl (by omega) ?_; rintro _ _ _ _ _ _; apply w_ldd; rfl; assumption; assumption; apply w_alo; intro _ _; apply w_mvi; rfl)
      rename_i cs hcs hD hR b6 T6
      obtain ⟨c0, c1, c2, c3, c4, c5, rfl⟩ := six hcs
      refine w_stE 0 [c0, c1, c2, c3, c4, c5] rfl rfl rfl rfl (Nat.le_of_ble_eq_true rfl) (cell1_val _ _ _ hR) rfl ?_
      (apply w_done0; apply w_sq; apply w_sq; apply w_reg; apply w_ldb 0; rfl; rfl; rfl)
      refine w_pure rfl (h1 ht1 hR) ?_
      (apply w_mvi; rfl; apply w_done0; apply w_sq; apply w_reg; apply w_mvi; rfl; apply w_neq; rfl; rfl; apply w_done0; refine w_ifdT rfl (by omega) ?_; apply w_sq; apply w_reg; apply w_mvi; rfl; apply w_mvi; rfl; apply w_mvi; rfl; apply w_done0; apply w_ret)
      exact finQ2 rfl rfl
  · obtain rfl : i = l.length := by omega
    rw [List.take_length] at hw
    rw [leastTop, if_neg (by omega)]
    by_cases h0 : l = []
    · have hl0 : l.length = 0 := by rw [h0]; rfl
      rw [if_pos h0]
      (apply w_sq; apply w_reg; apply w_lss; rfl; rfl; apply w_done0; apply w_sq; refine w_ifdF rfl (by omega) ?_; apply w_exit; apply w_sq; apply w_sq; apply w_reg; apply w_mvs; rfl; apply w_len; rfl; apply w_eql; rfl; rfl; apply w_done0; refine w_ifdT rfl (by omega) ?_; apply w_sq; apply w_reg; apply w_mvi; rfl; apply w_mvi; rfl; apply w_done0; apply w_ret)
      exact finQ2 rfl rfl
    · rw [if_neg h0]
      have : l.length ≠ 0 := fun q => h0 (List.eq_nil_of_length_eq_zero q)
      (apply w_sq; apply w_reg; apply w_lss; rfl; rfl; apply w_done0; apply w_sq; refine w_ifdF rfl (by omega) ?_; apply w_exit; apply w_sq; apply w_sq; apply w_reg; apply w_mvs; rfl; apply w_len; rfl; apply w_eql; rfl; rfl; apply w_done0; refine w_ifdF rfl (by omega) ?_; apply w_skip; apply w_sq; apply w_reg; apply w_mvi; rfl; apply w_mvi; rfl; apply w_mvi; rfl; apply w_done0; apply w_ret)
      exact finQ2 rfl rfl
end Go.Gk.Val
end

section
/-
  Values sorted: the program; the copies are its own.
-/
namespace Go.Gk.Val
open Go Go.Gk Go.Gk.Srt
attribute [local irreducible] gwp gws

/-- Values in a row of their own, each with its own memory. -/
def OVals (v : Value) (ys : List V) (hl : PHeap) (hs : List PHeap) : Prop := ∃ ccs, ORow 6 v ys.length ccs hl ∧ hs.length = ys.length ∧ ∀ i (hi : i < ys.length), OVal (chunk ccs i 6) ys[i] (hs.getD i emp)
theorem OVals.rvals {v : Value} {ys : List V} {hl : PHeap} {hs : List PHeap} (o : OVals v ys hl hs) {d : PHeap} (h1 : Le hl d) (h2 : ∀ k ∈ hs, Le k d) : RVals d v ys := by
  obtain ⟨ccs, h3, h4, h5⟩ := o
  refine h3.rsl h1 rfl (by omega) (fun i hi => ?_)
  have hi' : i < hs.length := by omega
  refine (h5 i hi).rval ?_
  rw [show hs.getD i emp = hs[i] by simp [hi']]
  exact h2 _ (List.getElem_mem hi')
abbrev VP := List Value × V × PHeap
def RP (d : PHeap) (cs : List Value) (p : VP) : Prop := cs = p.1 ∧ OVal p.1 p.2.1 p.2.2 ∧ Le p.2.2 d
theorem cell1_rp : Cell1 RP := fun d cs p h => by rw [h.1]; exact h.2.1.cells.2
theorem map_range {α : Type} (l : List α) (z : α) : (List.range l.length).map (fun i => l.getD i z) = l := by
  apply List.ext_getElem
  · simp
  · intro i h1 h2; simp at h1; simp [h1]
/-- The row, told with its parts. -/
theorem OVals.rows {v : Value} {ys : List V} {hl : PHeap} {hs : List PHeap} (o : OVals v ys hl hs) {d : PHeap} (h2 : ∀ k ∈ hs, Le k d) : ∃ ps : List VP, GRow 6 RP d v ps hl ∧ ps.map (·.2.1) = ys ∧ ps.map (·.2.2) = hs := by
  obtain ⟨ccs, h3, h4, h5⟩ := o
  refine ⟨(List.range ys.length).map fun i => (chunk ccs i 6, ys.getD i V.zero, hs.getD i emp), ⟨ccs, by simpa using h3, fun i hi => ?_⟩, ?_, ?_⟩
  · have hi' : i < ys.length := by simpa using hi
    have hi2 : i < hs.length := by omega
    simp only [List.getElem_map, List.getElem_range]
    refine ⟨rfl, ?_, ?_⟩
    · have := h5 i hi'
      rwa [show ys.getD i V.zero = ys[i] by simp [hi']]
    · show Le (hs.getD i emp) d
      rw [show hs.getD i emp = hs[i] by simp [hi2]]
      exact h2 _ (List.getElem_mem hi2)
  · rw [List.map_map]; exact map_range ys V.zero
  · rw [List.map_map, ← h4]; exact map_range hs emp
theorem OVals.of_rows {v : Value} {ps : List VP} {hl d : PHeap} (o : GRow 6 RP d v ps hl) : OVals v (ps.map (·.2.1)) hl (ps.map (·.2.2)) := by
  obtain ⟨ccs, h1, h2⟩ := o
  refine ⟨ccs, by rw [List.length_map]; exact h1, by simp, fun i hi => ?_⟩
  have hi' : i < ps.length := by simpa using hi
  obtain ⟨e, ho, _⟩ := h2 i hi'
  rw [e]
  simpa [hi'] using ho
def g_order_Sort_1 (f_order_compare : Nat) : GFun :=
 ⟨8, [(.tmp 4)],
 (.seq
 (.reg false (.op false ⟨(some 2), none, (.box (.tmp 0))⟩
  (.op false ⟨(some 3), none, (.box (.tmp 1))⟩
  (.op false ⟨(some 4), none, (.mv (.const (.int .i64 0)))⟩ .done))))
 (.seq
 (.reg false (.op false ⟨(some 5), none, (.ld (some 6) (.tmp 2))⟩
  (.op false ⟨(some 6), none, (.ld (some 6) (.tmp 3))⟩
  (.op false ⟨(some 7), none, (.call f_order_compare [(.tmp 5), (.tmp 6)])⟩
  (.op false ⟨(some 4), none, (.mv (.tmp 7))⟩ .done))))) .ret))⟩

theorem osort1_ok {T : PHeap → Prop} {P : Program} {f f1 : FuncId} (hTm : ∀ {d d' : PHeap}, Le d d' → T d → T d') (hd : dec P f = some (g_order_Sort_1 f1)) (h1 : CmpVOk T P f1) : CmpVOk T P f := by
  intro a b d cs ds ht ha hb ma mb
  refine GPure.of' hd (Nat.le_of_ble_eq_true rfl) ?_
  obtain ⟨c0, c1, c2, c3, c4, c5, rfl⟩ := six ha.len
  obtain ⟨e0, e1, e2, e3, e4, e5, rfl⟩ := six hb.len
  show gwp P _ _ _ _ _
  apply w_sq; apply w_reg
  refine w_boxa (l := [c0, c1, c2, c3, c4, c5]) rfl (fun b2 T2 => ?_)
  refine w_boxa (l := [e0, e1, e2, e3, e4, e5]) rfl (fun b3 T3 => ?_)
  (apply w_mvi; rfl; apply w_done0; apply w_sq; apply w_reg; apply w_ldb 1; rfl; rfl; rfl; apply w_ldb 0; rfl; rfl; rfl)
  refine w_pure rfl (h1 a b ht ha hb ma mb) ?_
  (apply w_mvi; rfl; apply w_done0; apply w_ret)
  exact finQ rfl
def OSortOk (T : PHeap → Prop) (P : Program) (f : FuncId) : Prop := ∀ {d : PHeap} {v : Value} {l : List V}, T d → RVals d v l → l.length ≤ 1000000000 → (∀ x ∈ l, cntV x ≤ 1000000000) →
  GCall P f [v] d [] (Ret fun r d' L' => d' = d ∧ ((wrongL l ≠ 0 ∧ r = .tuple #[.slice none 0 0, .int .i64 (wrongL l)] ∧ L' = []) ∨
    (wrongL l = 0 ∧ ∃ ra rc ys hl hs, r = .tuple #[.slice ra ys.length rc, .int .i64 0] ∧ OVals (.slice ra ys.length rc) ys hl hs ∧ L' = hl :: hs ∧ ys.Perm l ∧ Srt cmpV ys)))
/-- The sort of such a row. -/
theorem sort_rows {T : PHeap → Prop} {P : Program} {f g : FuncId} (hTm : ∀ {d d' : PHeap}, Le d d' → T d → T d') (h1 : SortedOk 6 P f) (h2 : CmpVOk T P g) {d : PHeap} {pa : Option Addr} {c : Nat} {ys : List V} {hl : PHeap} {hs : List PHeap} (ht : T d) (o : OVals (.slice pa ys.length c) ys hl hs) (hm : ∀ x ∈ ys, mayV x = true) :
    GCall P f [.slice pa ys.length c, .func (.func g) #[] #[]] d (hl :: hs) (Ret fun _ d' L' => d' = d ∧ ∃ zs hl' hs', L' = hl' :: hs' ∧ OVals (.slice pa zs.length c) zs hl' hs' ∧ zs.Perm ys ∧ Srt cmpV zs) := by
  refine (GCall.borrowA (A := [hl]) (B := hs) (Q := fun r L' => ∃ zs hl' hs', hs'.Perm hs ∧ L' = [hl'] ∧ OVals (.slice pa zs.length c) zs hl' hs' ∧ zs.Perm ys ∧ Srt cmpV zs) (fun d1 hl1 hk => ?_)).monoR (fun r d' L' _ ⟨hdd, L1, hL, zs, hl', hs', hp, hL1, ho, hp2, hs2⟩ => ?_)
  · obtain ⟨ps, hg, e1, e2⟩ := o.rows hk
    refine (h1 (c := fun a b : VP => cmpV a.2.1 b.2.1) (R := RP) (ord_comap fun p : VP => p.2.1) cell1_rp hg (fun x hx y hy cs ds hx' hy' => ?_)).monoR (fun r d' L' _ ⟨hdd, qs, h', hL, ho, hp, hs'⟩ => ?_)
    · have mx : mayV x.2.1 = true := hm _ (by rw [← e1]; exact List.mem_map_of_mem hx)
      have my : mayV y.2.1 = true := hm _ (by rw [← e1]; exact List.mem_map_of_mem hy)
      obtain ⟨rfl, ox, lx⟩ := hx'
      obtain ⟨rfl, oy, ly⟩ := hy'
      exact h2 _ _ (hTm hl1 ht) (ox.rval lx) (oy.rval ly) mx my
    · have e3 : (qs.map fun p : VP => p.2.1).length = ys.length := by rw [← e1]; simpa using hp.length_eq
      refine ⟨d', L', Vs.refl _ _, hdd, qs.map fun p : VP => p.2.1, h', qs.map fun p : VP => p.2.2, by rw [← e2]; exact hp.map _, hL, by rw [e3]; exact OVals.of_rows ho, by rw [← e1]; exact hp.map _, ?_⟩
      exact List.pairwise_map.2 hs'
  · subst hL1; subst hL
    exact ⟨d', hl' :: hs', Vs.perm (hp.symm.cons hl'), hdd, zs, hl', hs', rfl, ho, hp2, hs2⟩
def g_order_Sort (f_value_Right f_value_Copy f_slices_SortStableFunc_api_Value_api_Value f_order_Sort_1 : Nat) : GFun :=
 ⟨28, [(.tmp 2), (.tmp 3)],
 (.seq
 (.reg false (.op false ⟨(some 2), none, (.mv (.const (.slice none 0 0)))⟩
  (.op false ⟨(some 3), none, (.mv (.const (.int .i64 0)))⟩ .done)))
 (.seq
 (.reg false (.op false ⟨(some 4), none, (.mv (.const (.slice none 0 0)))⟩ .done))
 (.seq (.seq
 (.reg false (.op false ⟨(some 8), none, (.mv (.tmp 0))⟩
  (.op false ⟨(some 9), none, (.len (.tmp 8))⟩
  (.op false ⟨(some 10), none, (.mv (.const (.int .i64 0)))⟩ .done)))) (.block 0 (.loop
 (.seq
 (.reg false (.op false ⟨(some 11), none, (.bin .lss (.tmp 10) (.tmp 9))⟩ .done))
 (.seq (.cond (.tmp 11) .skip (.exit 0))
 (.seq (.block 1
 (.seq
 (.reg false (.op false ⟨(some 12), none, (.idx 6 (.tmp 8) (.tmp 10))⟩
  (.op false ⟨(some 13), none, (.ld (some 6) (.tmp 12))⟩
  (.op false ⟨(some 6), none, (.alo (.agg #[(.int .i64 0), (.int .i64 0), (.int .i64 0), (strV []), (.slice none 0 0), (.slice none 0 0)]))⟩
  (.op false ⟨none, none, (.st 6 (.tmp 6) (.tmp 13))⟩ .done)))))
 (.seq (.seq
 (.reg false (.op false ⟨(some 14), none, (.ld (some 6) (.tmp 6))⟩
  (.op false ⟨(some 15), none, (.call f_value_Right [(.tmp 14)])⟩
  (.op false ⟨(some 7), none, (.mv (.tmp 15))⟩ .done))))
 (.seq
 (.reg false (.op false ⟨(some 16), none, (.mv (.tmp 7))⟩
  (.op false ⟨(some 17), none, (.bin .neq (.tmp 16) (.const (.int .i64 0)))⟩ .done))) (.cond (.tmp 17)
 (.seq
 (.reg false (.op false ⟨(some 18), none, (.mv (.tmp 7))⟩
  (.op false ⟨(some 2), none, (.mv (.const (.slice none 0 0)))⟩
  (.op false ⟨(some 3), none, (.mv (.tmp 18))⟩ .done)))) .ret) .skip)))
 (.reg false (.op false ⟨(some 19), none, (.mv (.tmp 4))⟩
  (.op false ⟨(some 20), none, (.ld (some 6) (.tmp 6))⟩
  (.op false ⟨(some 21), none, (.call f_value_Copy [(.tmp 20)])⟩
  (.op false ⟨(some 22), none, (.bsl 1 6 [(.int .i64 0), (.int .i64 0), (.int .i64 0), (strV []), (.slice none 0 0), (.slice none 0 0)] [(0, (.tmp 21))])⟩
  (.op false ⟨(some 23), none, (.app 6 88 [(.int .i64 0), (.int .i64 0), (.int .i64 0), (strV []), (.slice none 0 0), (.slice none 0 0)] (.tmp 19) (.tmp 22))⟩
  (.op false ⟨(some 4), none, (.mv (.tmp 23))⟩ .done))))))))))
 (.reg false (.op false ⟨(some 24), none, (.bin .add (.tmp 10) (.const (.int .i64 1)))⟩
  (.op false ⟨(some 10), none, (.mv (.tmp 24))⟩ .done)))))))))
 (.seq
 (.reg false (.op false ⟨(some 25), none, (.mv (.tmp 4))⟩
  (.op false ⟨(some 26), none, (.call f_slices_SortStableFunc_api_Value_api_Value [(.tmp 25), (.func f_order_Sort_1)])⟩ .done)))
 (.seq
 (.reg false (.op false ⟨(some 27), none, (.mv (.tmp 4))⟩
  (.op false ⟨(some 2), none, (.mv (.tmp 27))⟩
  (.op false ⟨(some 3), none, (.mv (.const (.int .i64 0)))⟩ .done)))) .ret)))))⟩

set_option maxHeartbeats 2000000 in
theorem osort_ok {T : PHeap → Prop} {P : Program} {f f1 f2 f3 f4 : FuncId} (hTm : ∀ {d d' : PHeap}, Le d d' → T d → T d') (hd : dec P f = some (g_order_Sort f1 f2 f3 f4)) (h1 : RightOk T P f1) (h2 : VCopyOk P f2) (h3 : SortedOk 6 P f3) (h4 : CmpVOk T P f4) : OSortOk T P f := by
  intro d v l ht hv hb hcn
  obtain ⟨pa, ca, rfl⟩ := RSl.val hv
  have hv' : RSl 6 RVal d (.slice pa l.length ca) l := hv
  refine GCall_of hd (Nat.le_of_ble_eq_true rfl) ?_
  show gwp P _ _ _ _ _
  apply w_sq; apply w_reg
  (apply w_mvs; rfl; apply w_mvi; rfl; apply w_done0)
  apply w_sq; apply w_reg
  refine w_vs d [emp] Vs.emp ?_
  (apply w_mvs; rfl; apply w_done0; apply w_sq; apply w_sq; apply w_reg; apply w_mvs; rfl; apply w_len; rfl; apply w_mvi; rfl; apply w_done0; apply w_block)
  refine w_loopV (α := Nat) (fun i w => [(4, w), (8, .slice pa l.length ca), (9, .int .i64 l.length), (10, .int .i64 i)])
    (fun i w h d' L' => d' = d ∧ i ≤ l.length ∧ wrongL (l.take i) = 0 ∧ ∃ ra rc hs, w = .slice ra i rc ∧ OVals w (l.take i) h hs ∧ L' = h :: hs)
    (fun i => l.length - i) 0 (.slice none 0 0) emp ⟨rfl, rfl, rfl, rfl, trivial⟩ ⟨rfl, Nat.zero_le _, rfl, none, 0, [], rfl, ⟨[], ORow.nil 6, rfl, fun j h => absurd h (Nat.not_lt_zero j)⟩, rfl⟩ ?_
  rintro i w h ρ d' L' ⟨hdd, hi, hw, ra, rc, hs, hwe, ho, hL⟩
  subst hdd; subst hL; subst hwe
  have hv1 : RSl 6 RVal d' (.slice pa l.length ca) l := hv'
  by_cases hc : i < l.length
  · have hwt := wrongL_take hc hw
    have hsm := right_small l[i]
    by_cases hr : rightV l[i] = 0
    · have hw2 := wrongL_snoc hc hw hr
      obtain ⟨ccs, hrow, hhs, hel⟩ := ho
      have htl : (l.take i).length = i := by simp; omega
      rw [htl] at hrow hhs
      (apply w_sq; apply w_reg; apply w_lss; rfl; rfl; apply w_done0; apply w_sq; refine w_ifdT rfl (by omega) ?_; apply w_skip; apply w_sq; apply w_block; apply w_sq; apply w_reg; refine w_idxR (sz := 6) (R := RVal) (by rfl) (by assumption) (by rfl) rfl (by omega) ?_; rintro _ _ _ _ _ _; apply w_ldd; rfl; assumption; assumption; apply w_alo; intro _ _)
      rename_i cs hcs hD hR b6 T6
      obtain ⟨c0, c1, c2, c3, c4, c5, rfl⟩ := six hcs
      refine w_stE 0 [c0, c1, c2, c3, c4, c5] rfl rfl rfl rfl (Nat.le_of_ble_eq_true rfl) (cell1_val _ _ _ hR) rfl ?_
      (apply w_done0; apply w_sq; apply w_sq; apply w_reg; apply w_ldb 0; rfl; rfl; rfl)
      refine w_pure rfl (h1 ht hR) ?_
      (apply w_mvi; rfl; apply w_done0; apply w_sq; apply w_reg; apply w_mvi; rfl; apply w_neq; rfl; rfl; apply w_done0; refine w_ifdF rfl (by omega) ?_; apply w_skip; apply w_reg; apply w_mvs; rfl; apply w_ldb 0; rfl; rfl; rfl)
      refine w_call0 rfl (h2 _ hR (hcn _ (List.getElem_mem hc))) (fun r d4 L4 _ ⟨hdd, cs', g, hr, hL, ho⟩ => ?_)
      subst hdd; subst hr; subst hL
      obtain ⟨hc6, hc1'⟩ := ho.cells
      refine w_bsV rfl hc6 (fun b27 T27 => ?_)
      refine w_appLO 2 rfl rfl hrow rfl (by rw [hc6]) hc1' (by omega) (by omega) (by omega) (fun v5 h5 o5 => ?_)
      obtain ⟨a5, _, c5', rfl, _⟩ := o5.slice
      refine w_vs _ (h5 :: (hs ++ [g])) ((Vs.perm (List.perm_append_singleton g (bx b6 T6 [c0, c1, c2, c3, c4, c5] :: h5 :: hs)).symm).trans (Vs.drop (List.sublist_cons_self _ _))) ?_
      (apply w_mvs; rfl; apply w_done0; apply w_reg; apply w_add; rfl; rfl; omega; omega; apply w_mvi; rfl; apply w_done0)
      refine ⟨i + 1, _, h5, by omega, ⟨rfl, rfl, rfl, int_eq (by omega), trivial⟩, rfl, hc, hw2, a5, c5', hs ++ [g], rfl, ⟨_, by rw [List.length_take, Nat.min_eq_left hc]; exact o5, by simp [hhs]; omega, fun j hj => ?_⟩, rfl⟩
      have hj' : j < i + 1 := by simp at hj; omega
      have h6 : ccs.length = i * 6 := hrow.1
      rw [List.getElem_take]
      by_cases e : j < i
      · rw [chunk_app_left h6 e, show (hs ++ [g]).getD j emp = hs.getD j emp by simp [List.getD, List.getElem?_append_left (show j < hs.length by omega)]]
        have := hel j (by omega)
        rwa [List.getElem_take] at this
      · obtain rfl : j = i := by omega
        rw [chunk_app_right h6 (Nat.le_refl _), Nat.sub_self, show chunk cs' 0 6 = cs' by simp only [chunk, Nat.zero_mul, List.drop_zero]; exact List.take_of_length_le (by omega), show (hs ++ [g]).getD j emp = g by simp [List.getD, List.getElem?_append_right (show hs.length ≤ j by omega), hhs]]
        exact ho
    · rw [if_pos hr] at hwt
      (apply w_sq; apply w_reg; apply w_lss; rfl; rfl; apply w_done0; apply w_sq; refine w_ifdT rfl (by omega) ?_; apply w_skip; apply w_sq; apply w_block; apply w_sq; apply w_reg; refine w_idxR (sz := 6) (R := RVal) (by rfl) (by assumption) (by rfl) rfl (by omega) ?_; rintro _ _ _ _ _ _; apply w_ldd; rfl; assumption; assumption; apply w_alo; intro _ _)
      rename_i cs hcs hD hR b6 T6
      obtain ⟨c0, c1, c2, c3, c4, c5, rfl⟩ := six hcs
      refine w_stE 0 [c0, c1, c2, c3, c4, c5] rfl rfl rfl rfl (Nat.le_of_ble_eq_true rfl) (cell1_val _ _ _ hR) rfl ?_
      (apply w_done0; apply w_sq; apply w_sq; apply w_reg; apply w_ldb 0; rfl; rfl; rfl)
      refine w_pure rfl (h1 ht hR) ?_
      (apply w_mvi; rfl; apply w_done0; apply w_sq; apply w_reg; apply w_mvi; rfl; apply w_neq; rfl; rfl; apply w_done0; refine w_ifdT rfl (by omega) ?_; apply w_sq; apply w_reg; apply w_mvi; rfl; apply w_mvs; rfl; apply w_mvi; rfl; apply w_done0; apply w_ret)
      exact fin2 rfl rfl (List.nil_sublist _) ⟨rfl, .inl ⟨by omega, by rw [hwt]; rfl, rfl⟩⟩
  · obtain rfl : i = l.length := by omega
    rw [List.take_length] at hw ho
    (apply w_sq; apply w_reg; apply w_lss; rfl; rfl; apply w_done0; apply w_sq; refine w_ifdF rfl (by omega) ?_; apply w_exit; apply w_sq; apply w_reg; apply w_mvs; rfl)
    refine w_callA (A := h :: hs) (B := []) (by simp) rfl (sort_rows hTm h3 h4 ht ho (wrongL_may hw)) (fun r d2 L2 _ ⟨hdd, zs, hl', hs', hL, ho2, hp, hsr⟩ => ?_)
    subst hdd; subst hL
    (apply w_done0; apply w_sq; apply w_reg; apply w_mvs; rfl; apply w_mvs; rfl; apply w_mvi; rfl; apply w_done0; apply w_ret)
    refine fin2 (L' := hl' :: hs') rfl rfl (by simp) ⟨rfl, .inr ⟨hw, ra, rc, zs, hl', hs', by rw [hp.length_eq]; rfl, ho2, rfl, hp, hsr⟩⟩
end Go.Gk.Val
end

section
/-
  Values sorted, and the least one: the reference.
-/
namespace Go.Gk.Val
open Go Go.Gk Go.Gk.Srt
attribute [local irreducible] gwp gws

def RSortOk (T : PHeap → Prop) (P : Program) (f : FuncId) : Prop := ∀ {d : PHeap} {v : Value} {l : List V}, T d → RVals d v l → l.length ≤ 1000000000 → (∀ x ∈ l, depthV x ≤ 1000000000) →
  GCall P f [v] d [] (Ret fun r d' L' => L' = [] ∧ ((wrongL l ≠ 0 ∧ r = .tuple #[.slice none 0 0, .int .i64 (wrongL l)]) ∨
    (wrongL l = 0 ∧ ∃ ra rc ys, r = .tuple #[.slice ra ys.length rc, .int .i64 0] ∧ RVals d' (.slice ra ys.length rc) ys ∧ ys.Perm l ∧ Srt cmpV ys)))
def g_thimbleref04_Sort (f_thimbleref04_wrong f_thimbleref04_Compare : Nat) : GFun :=
 ⟨54, [(.tmp 2), (.tmp 3)],
 (.seq
 (.reg false (.op false ⟨(some 2), none, (.mv (.const (.slice none 0 0)))⟩
  (.op false ⟨(some 3), none, (.mv (.const (.int .i64 0)))⟩ .done)))
 (.seq
 (.reg false (.op false ⟨(some 8), none, (.mv (.tmp 0))⟩
  (.op false ⟨(some 9), none, (.call f_thimbleref04_wrong [(.tmp 8)])⟩
  (.op false ⟨(some 4), none, (.mv (.tmp 9))⟩ .done))))
 (.seq (.seq
 (.reg false (.op false ⟨(some 10), none, (.mv (.tmp 4))⟩
  (.op false ⟨(some 11), none, (.bin .neq (.tmp 10) (.const (.int .i64 0)))⟩ .done))) (.cond (.tmp 11)
 (.seq
 (.reg false (.op false ⟨(some 12), none, (.mv (.tmp 4))⟩
  (.op false ⟨(some 2), none, (.mv (.const (.slice none 0 0)))⟩
  (.op false ⟨(some 3), none, (.mv (.tmp 12))⟩ .done)))) .ret) .skip))
 (.seq
 (.reg false (.op false ⟨(some 5), none, (.mv (.const (.slice none 0 0)))⟩ .done))
 (.seq (.seq
 (.reg false (.op false ⟨(some 6), none, (.mv (.const (.int .i64 0)))⟩ .done)) (.block 0 (.loop
 (.seq (.seq
 (.reg false (.op false ⟨(some 13), none, (.mv (.tmp 6))⟩
  (.op false ⟨(some 14), none, (.mv (.tmp 0))⟩
  (.op false ⟨(some 15), none, (.len (.tmp 14))⟩
  (.op false ⟨(some 16), none, (.bin .lss (.tmp 13) (.tmp 15))⟩ .done))))) (.cond (.tmp 16) .skip (.exit 0)))
 (.seq (.block 1
 (.seq
 (.reg false (.op false ⟨(some 19), none, (.mv (.tmp 5))⟩
  (.op false ⟨(some 20), none, (.len (.tmp 19))⟩
  (.op false ⟨(some 7), none, (.mv (.tmp 20))⟩ .done))))
 (.seq (.block 2 (.loop
 (.seq (.seq
 (.reg true (.op true ⟨(some 21), none, (.mv (.tmp 7))⟩
  (.op true ⟨(some 22), none, (.bin .gtr (.tmp 21) (.const (.int .i64 0)))⟩
  (.op true ⟨(some 23), none, (.mv (.tmp 22))⟩
  (.op true ⟨(some 24), (some (23, true)), (.mv (.tmp 5))⟩
  (.op true ⟨(some 25), (some (23, true)), (.mv (.tmp 7))⟩
  (.op true ⟨(some 26), (some (23, true)), (.bin .sub (.tmp 25) (.const (.int .i64 1)))⟩
  (.op true ⟨(some 27), (some (23, true)), (.idx 6 (.tmp 24) (.tmp 26))⟩
  (.op true ⟨(some 28), (some (23, true)), (.ld (some 6) (.tmp 27))⟩
  (.op true ⟨(some 29), (some (23, true)), (.mv (.tmp 0))⟩
  (.op true ⟨(some 30), (some (23, true)), (.mv (.tmp 6))⟩
  (.op true ⟨(some 31), (some (23, true)), (.idx 6 (.tmp 29) (.tmp 30))⟩
  (.op true ⟨(some 32), (some (23, true)), (.ld (some 6) (.tmp 31))⟩
  (.op false ⟨(some 33), (some (23, true)), (.call f_thimbleref04_Compare [(.tmp 28), (.tmp 32)])⟩
  (.op true ⟨(some 34), (some (23, true)), (.bin .gtr (.tmp 33) (.const (.int .i64 0)))⟩
  (.op true ⟨(some 35), none, (.pick (.tmp 23) (.tmp 34) (.const (.bool false)))⟩ .done)))))))))))))))) (.cond (.tmp 35) .skip (.exit 2))) (.block 3
 (.reg false (.op false ⟨(some 36), none, (.mv (.tmp 7))⟩
  (.op false ⟨(some 37), none, (.bin .sub (.tmp 36) (.const (.int .i64 1)))⟩
  (.op false ⟨(some 7), none, (.mv (.tmp 37))⟩ .done))))))))
 (.reg true (.op true ⟨(some 39), none, (.mv (.tmp 5))⟩
  (.op true ⟨(some 40), none, (.mv (.tmp 7))⟩
  (.op true ⟨(some 41), none, (.sl 6 (.tmp 39) none (some (.tmp 40)) none)⟩
  (.op true ⟨(some 43), none, (.mv (.tmp 0))⟩
  (.op true ⟨(some 44), none, (.mv (.tmp 6))⟩
  (.op true ⟨(some 45), none, (.idx 6 (.tmp 43) (.tmp 44))⟩
  (.op true ⟨(some 46), none, (.ld (some 6) (.tmp 45))⟩
  (.op true ⟨(some 49), none, (.mv (.tmp 5))⟩
  (.op true ⟨(some 50), none, (.mv (.tmp 7))⟩
  (.op true ⟨(some 51), none, (.sl 6 (.tmp 49) (some (.tmp 50)) none none)⟩ (.par (.op false ⟨(some 47), none, (.bsl 1 6 [(.int .i64 0), (.int .i64 0), (.int .i64 0), (strV []), (.slice none 0 0), (.slice none 0 0)] [(0, (.tmp 46))])⟩ .done) (.op false ⟨(some 38), none, (.bsl 0 6 [(.int .i64 0), (.int .i64 0), (.int .i64 0), (strV []), (.slice none 0 0), (.slice none 0 0)] [])⟩
  (.op false ⟨(some 42), none, (.app 6 88 [(.int .i64 0), (.int .i64 0), (.int .i64 0), (strV []), (.slice none 0 0), (.slice none 0 0)] (.tmp 38) (.tmp 41))⟩ .done)) (.op false ⟨(some 48), none, (.app 6 88 [(.int .i64 0), (.int .i64 0), (.int .i64 0), (strV []), (.slice none 0 0), (.slice none 0 0)] (.tmp 42) (.tmp 47))⟩
  (.op false ⟨(some 52), none, (.app 6 88 [(.int .i64 0), (.int .i64 0), (.int .i64 0), (strV []), (.slice none 0 0), (.slice none 0 0)] (.tmp 48) (.tmp 51))⟩
  (.bar (.op true ⟨(some 5), none, (.mv (.tmp 52))⟩ .done)))))))))))))))))))
 (.reg false (.op false ⟨(some 17), none, (.mv (.tmp 6))⟩
  (.op false ⟨(some 18), none, (.bin .add (.tmp 17) (.const (.int .i64 1)))⟩
  (.op false ⟨(some 6), none, (.mv (.tmp 18))⟩ .done)))))))))
 (.seq
 (.reg false (.op false ⟨(some 53), none, (.mv (.tmp 5))⟩
  (.op false ⟨(some 2), none, (.mv (.tmp 53))⟩
  (.op false ⟨(some 3), none, (.mv (.const (.int .i64 0)))⟩ .done)))) .ret))))))⟩

set_option maxHeartbeats 2000000 in
theorem rsort_ok {T : PHeap → Prop} {P : Program} {f f1 f2 : FuncId} (hTm : ∀ {d d' : PHeap}, Le d d' → T d → T d') (hd : decp P f = some (g_thimbleref04_Sort f1 f2)) (h1 : WrongLOk T P f1) (h2 : CmpVOk T P f2) : RSortOk T P f := by
  intro d v l ht hv hb hdp
  obtain ⟨pa, ca, rfl⟩ := RSl.val hv
  have hv' : RSl 6 RVal d (.slice pa l.length ca) l := hv
  refine GCall_of hd (Nat.le_of_ble_eq_true rfl) ?_
  show gwp P _ _ _ _ _
  (apply w_sq; apply w_reg; apply w_mvs; rfl; apply w_mvi; rfl; apply w_done0; apply w_sq; apply w_reg; apply w_mvs; rfl)
  refine w_pure rfl (h1 ht hv hdp) ?_
  by_cases hw : wrongL l = 0
  · rw [hw]
    have hmay := wrongL_may hw
    (apply w_mvi; rfl; apply w_done0; apply w_sq; apply w_sq; apply w_reg; apply w_mvi; rfl; apply w_neq; rfl; rfl; apply w_done0; refine w_ifdF rfl (by omega) ?_; apply w_skip; apply w_sq; apply w_reg; apply w_mvs; rfl; apply w_done0; apply w_sq; apply w_sq; apply w_reg; apply w_mvi; rfl; apply w_done0; apply w_block)
    refine w_loopS (α := Nat × Option Addr × Nat) (fun x => [(0, .slice pa l.length ca), (5, .slice x.2.1 x.1 x.2.2), (6, .int .i64 x.1)])
      (fun x d' L' => Le d d' ∧ x.1 ≤ l.length ∧ ∃ ys, ys.length = x.1 ∧ RVals d' (.slice x.2.1 x.1 x.2.2) ys ∧ ys.Perm (l.take x.1) ∧ Srt cmpV ys)
      (fun x => l.length - x.1) (0, none, 0) ⟨rfl, rfl, rfl, trivial⟩ ⟨Le.refl _, Nat.zero_le _, [], rfl, RSl.nil, List.Perm.refl _, Srt.nil⟩ ?_
    rintro ⟨i, ra, rc⟩ ρ d1 L1 ⟨hl1, hi, ys, hyl, hys, hp, hsr⟩
    simp only at hi hyl hys hp
    have hv1 : RSl 6 RVal d1 (.slice pa l.length ca) l := RVals.mono hv' hl1
    have hys1 : RSl 6 RVal d1 (.slice ra i rc) ys := hys
    have ht1 := hTm hl1 ht
    by_cases hc : i < l.length
    · have mi : mayV l[i] = true := hmay _ (List.getElem_mem hc)
      have my : ∀ y ∈ ys, mayV y = true := fun y hy => hmay _ (List.mem_of_mem_take (hp.mem_iff.1 hy))
      apply w_sq; apply w_sq; apply w_reg
      (apply w_mvi; rfl; apply w_mvs; rfl; apply w_len; rfl; apply w_lss; rfl; rfl; apply w_done0)
      refine w_ifdT rfl (by omega) ?_
      apply w_skip; apply w_sq; apply w_block; apply w_sq; apply w_reg
      (apply w_mvs; rfl; apply w_len; rfl; apply w_mvi; rfl; apply w_done0)
      refine w_mid (fun ρ d2 L' => Le d1 d2 ∧ ∃ p : Nat, p ≤ i ∧ (p = 0 ∨ ∃ q : p - 1 < ys.length, 0 < p ∧ ¬ 0 < cmpV ys[p - 1] l[i]) ∧ (p = i ∨ ∃ q : p < ys.length, 0 < cmpV ys[p] l[i]) ∧ SlotsAre ρ [(0, .slice pa l.length ca), (5, .slice ra i rc), (6, .int .i64 i), (7, .int .i64 p)]) ?_ ?_
      · apply w_block
        refine w_loopS (α := Nat) (fun p => [(0, .slice pa l.length ca), (5, .slice ra i rc), (6, .int .i64 i), (7, .int .i64 p)]) (fun p d2 L' => Le d1 d2 ∧ p ≤ i ∧ (p = i ∨ ∃ q : p < ys.length, 0 < cmpV ys[p] l[i])) (fun p => p) i ⟨rfl, rfl, rfl, rfl, trivial⟩ ⟨Le.refl _, Nat.le_refl _, .inl rfl⟩ ?_
        rintro p ρ d2 L2 ⟨hl2, hpi, hpr⟩
        have hv2 : RSl 6 RVal d2 (.slice pa l.length ca) l := RVals.mono hv1 hl2
        have hys2 : RSl 6 RVal d2 (.slice ra i rc) ys := RVals.mono hys1 hl2
        have ht2 := hTm hl2 ht1
        cases p with
        | zero =>
          (apply w_sq; apply w_sq; apply w_drawn; apply w_mvi; rfl; apply w_gtr; rfl; rfl; apply w_mvb; rfl; refine w_gdF rfl (by omega) ?_; apply w_gF; rfl; apply w_gF; rfl; apply w_gF; rfl; apply w_gF; rfl; apply w_gF; rfl; apply w_gF; rfl; apply w_gF; rfl; apply w_gF; rfl; apply w_gF; rfl; apply w_gF; rfl; apply w_gF; rfl; apply w_pickFb; rfl; rfl; apply w_done; apply w_ifF; rfl; apply w_exit)
          exact ⟨hl2, 0, hpi, .inl rfl, hpr, rfl, rfl, rfl, rfl, trivial⟩
        | succ p =>
          have hpl : p < ys.length := by omega
          (apply w_sq; apply w_sq; apply w_drawn; apply w_mvi; rfl; apply w_gtr; rfl; rfl; apply w_mvb; rfl; refine w_gdT rfl (by omega) ?_; apply w_gT; rfl; apply w_mvs; rfl; apply w_gT; rfl; apply w_mvi; rfl; apply w_gT; rfl; apply w_sub; rfl; rfl; omega; omega; apply w_gT; rfl)
          refine w_idxR (sz := 6) (R := RVal) (m := p) rfl hys2 rfl (by omega) hpl ?_
          rintro _ _ es hes hE hS
          (apply w_gT; rfl; apply w_ldd; rfl; assumption; assumption; apply w_gT; rfl; apply w_mvs; rfl; apply w_gT; rfl; apply w_mvi; rfl; apply w_gT; rfl; refine w_idxR (sz := 6) (R := RVal) (by rfl) (by assumption) (by rfl) rfl (by omega) ?_; rintro _ _ _ _ _ _; apply w_gT; rfl; apply w_ldd; rfl; assumption; assumption; apply w_gT; rfl)
          rename_i cs hcs hD hR
          refine w_pure rfl (h2 _ _ ht2 hS hR (my _ (List.getElem_mem hpl)) mi) ?_
          by_cases hgt : 0 < cmpV ys[p] l[i]
          · (apply w_gT; rfl; apply w_gtr; rfl; rfl; apply w_pickTb; rfl; rfl; apply w_done; refine w_ifdT rfl (by omega) ?_; apply w_skip; apply w_block; apply w_reg; apply w_mvi; rfl; apply w_sub; rfl; rfl; omega; omega; apply w_mvi; rfl; apply w_done0)
            exact ⟨p, by omega, ⟨rfl, rfl, rfl, int_eq (by omega), trivial⟩, hl2, by omega, .inr ⟨hpl, hgt⟩⟩
          · (apply w_gT; rfl; apply w_gtr; rfl; rfl; apply w_pickTb; rfl; rfl; apply w_done; refine w_ifdF rfl (by omega) ?_; apply w_exit)
            exact ⟨hl2, p + 1, hpi, .inr ⟨hpl, Nat.succ_pos _, hgt⟩, hpr, rfl, rfl, rfl, rfl, trivial⟩
      rintro ρ d2 L2 ⟨hl2, p, hpi, hlo, hhi, hs⟩
      refine gwp_slots _ hs ?_
      clear hs
      have hv2 : RSl 6 RVal d2 (.slice pa l.length ca) l := RVals.mono hv1 hl2
      have hys2 : RSl 6 RVal d2 (.slice ra i rc) ys := RVals.mono hys1 hl2
      refine w_drawn ?_
      (apply w_mvs; rfl; apply w_mvi; rfl)
      refine w_slTo (n := p) rfl hys2 rfl rfl (by omega) (fun v41 r41 => ?_)
      (apply w_mvs; rfl; apply w_mvi; rfl; refine w_idxR (sz := 6) (R := RVal) (by rfl) (by assumption) (by rfl) rfl (by omega) ?_; rintro _ _ _ _ _ _; apply w_ldd; rfl; assumption; assumption; apply w_mvs; rfl; apply w_mvi; rfl)
      rename_i cs hcs hD hR
      refine w_slFrom (n := p) rfl hys2 rfl rfl (by omega) (fun v51 r51 => ?_)
      refine w_par (α := Nat × TypeId) (β := Value × PHeap) [(0, .slice pa l.length ca), (6, .int .i64 i), (51, v51)]
        (fun x => [(47, .slice (some ⟨x.1, 0, none⟩) 1 1)]) (fun x d L => L = [bx x.1 x.2 cs])
        (fun y => [(42, y.1)]) (fun y d L => GRow 6 RVal d y.1 (ys.take p) y.2 ∧ L = [y.2]) [] [] rfl
        (fun x d d' M hl h => h) (fun y d d' M hl h => ⟨GRow.mono (R := RVal) mono_val h.1 hl, h.2⟩) (fun x => rfl) (fun y => rfl) rfl ⟨rfl, rfl, rfl, trivial⟩ ?_ ?_ ?_
      · refine w_bsV rfl hcs (fun b92 T92 => ?_)
        refine w_done ?_
        exact ⟨_, rfl, (b92, T92), ⟨rfl, trivial⟩, rfl⟩
      · refine w_cat1 (R := RVal) (xs := ys.take p) mono_val cell1_val (by omega) r41 (fun _ => rfl) (by simp; omega) (by simp; omega) (fun v0 v1 g1 o1 => ?_)
        refine w_done ?_
        exact ⟨_, rfl, (v1, g1), ⟨rfl, trivial⟩, o1, rfl⟩
      rintro ⟨b47, T47⟩ ⟨v42, g42⟩ ρ d5 M1 M2 hl5 hM1 ⟨o42, hM2⟩
      subst hM1; subst hM2
      refine w_appL (R := RVal) 0 rfl rfl o42 rfl (GRow.lit1 (R := RVal) hcs (RVal.mono hl5 hR)) cell1_val (by omega) (by simp; omega) (by simp; omega) (fun v48 g48 o48 => ?_)
      refine w_appGF (R := RVal) (xs := ys.take p ++ [l[i]]) (ys := ys.drop p) mono_val rfl o48 rfl (RSl.src (R := RVal) (RVals.mono r51 hl5) cell1_val (by omega) _) (by omega) (by simp; omega) (by simp; omega) (fun a52 c52 d6 hl6 r52 => ?_)
      have hlen : (ys.take p ++ [l[i]] ++ ys.drop p).length = i + 1 := by simp; omega
      rw [hlen] at r52 ⊢
      (apply w_bar; apply w_mvs; rfl; apply w_done0; apply w_reg; apply w_mvi; rfl; apply w_add; rfl; rfl; omega; omega; apply w_mvi; rfl; apply w_done0)
      refine ⟨(i + 1, a52, c52), by simp only; omega, ⟨rfl, rfl, int_eq (by simp), trivial⟩, ((hl1.trans hl2).trans hl5).trans hl6, hc, ys.take p ++ [l[i]] ++ ys.drop p, hlen, r52, ?_, ?_⟩
      · simp only
        rw [List.take_succ_eq_append_getElem hc]
        simp only [List.append_assoc, List.cons_append, List.nil_append]
        refine List.perm_middle.trans ?_
        rw [List.take_append_drop]
        exact (List.perm_append_singleton l[i] ys).symm.trans (hp.append_right _)
      · simp only [List.append_assoc, List.cons_append, List.nil_append]
        refine Srt.put cmpV_ord (by rw [List.take_append_drop]; exact hsr) ?_ ?_
        · rcases hlo with rfl | ⟨q, q0, hlt⟩
          · exact .inl rfl
          · exact .inr ⟨ys[p - 1], by rw [List.getLast?_take]; simp [show p ≠ 0 by omega, q], by omega⟩
        · rcases hhi with rfl | ⟨q, hlt⟩
          · exact .inl (List.drop_of_length_le (by omega))
          · exact .inr ⟨ys[p], by rw [List.head?_drop]; simp [q], by have := cmpV_swap ys[p] l[i]; omega⟩
    · obtain rfl : i = l.length := by omega
      (apply w_sq; apply w_sq; apply w_reg; apply w_mvi; rfl; apply w_mvs; rfl; apply w_len; rfl; apply w_lss; rfl; rfl; apply w_done0; refine w_ifdF rfl (by omega) ?_; apply w_exit; apply w_sq; apply w_reg; apply w_mvs; rfl; apply w_mvs; rfl; apply w_mvi; rfl; apply w_done0; apply w_ret)
      refine fin2 rfl rfl (List.nil_sublist _) ⟨rfl, .inr ⟨rfl, ra, rc, ys, by rw [hyl]; rfl, by rw [hyl]; exact hys, by rwa [List.take_length] at hp, hsr⟩⟩
  · (apply w_mvi; rfl; apply w_done0; apply w_sq; apply w_sq; apply w_reg; apply w_mvi; rfl; apply w_neq; rfl; rfl; apply w_done0; refine w_ifdT rfl (by omega) ?_; apply w_sq; apply w_reg; apply w_mvi; rfl; apply w_mvs; rfl; apply w_mvi; rfl; apply w_done0; apply w_ret)
    exact fin2 rfl rfl (List.nil_sublist _) ⟨rfl, .inl ⟨hw, rfl⟩⟩
/-- None of the first 'k' is below the one at 'i'. -/
def noneB (l : List V) (x : V) (k : Nat) : Bool := (l.take k).all fun y => decide (0 ≤ cmpV y x)
theorem noneB_succ {l : List V} {x : V} {k : Nat} (h : k < l.length) : noneB l x (k + 1) = (noneB l x k && decide (0 ≤ cmpV l[k] x)) := by
  rw [noneB, List.take_succ_eq_append_getElem h, List.all_append]; simp [noneB]
theorem noneB_iff {l : List V} {x : V} : noneB l x l.length = true ↔ ∀ k (hk : k < l.length), 0 ≤ cmpV l[k] x := by
  rw [noneB, List.take_length, List.all_eq_true]
  constructor
  · intro h k hk; simpa using h _ (List.getElem_mem hk)
  · intro h y hy
    obtain ⟨k, hk, rfl⟩ := List.getElem_of_mem hy
    simpa using h k hk
/-- The first of which none is below is the least one. -/
theorem least_first {l : List V} {i : Nat} (hi : i < l.length) (h1 : noneB l l[i] l.length = true) (h2 : ∀ j (hj : j < i), noneB l (l[j]'(by omega)) l.length = false) : leastN l l.length = i := by
  obtain ⟨hb, _, h3, h4⟩ := leastN_spec (l := l) (Nat.le_refl _) (by omega)
  rw [noneB_iff] at h1
  rcases Nat.lt_trichotomy (leastN l l.length) i with h | h | h
  · have := h2 _ h
    rw [Bool.eq_false_iff] at this
    exact absurd (noneB_iff.2 h3) this
  · exact h
  · have a := h4 i h
    have b := h1 _ hb
    omega
theorem least_is {l : List V} (h : 0 < l.length) : ∃ hb : leastN l l.length < l.length, noneB l l[leastN l l.length] l.length = true := by
  obtain ⟨hb, _, h3, h4⟩ := leastN_spec (l := l) (Nat.le_refl _) h
  exact ⟨hb, noneB_iff.2 h3⟩
def g_thimbleref04_Least (f_thimbleref04_wrong f_thimbleref04_Compare : Nat) : GFun :=
 ⟨40, [(.tmp 2), (.tmp 3)],
 (.seq
 (.reg false (.op false ⟨(some 2), none, (.mv (.const (.int .i64 0)))⟩
  (.op false ⟨(some 3), none, (.mv (.const (.int .i64 0)))⟩ .done)))
 (.seq
 (.reg false (.op false ⟨(some 8), none, (.mv (.tmp 0))⟩
  (.op false ⟨(some 9), none, (.call f_thimbleref04_wrong [(.tmp 8)])⟩
  (.op false ⟨(some 4), none, (.mv (.tmp 9))⟩ .done))))
 (.seq (.seq
 (.reg false (.op false ⟨(some 10), none, (.mv (.tmp 4))⟩
  (.op false ⟨(some 11), none, (.bin .neq (.tmp 10) (.const (.int .i64 0)))⟩ .done))) (.cond (.tmp 11)
 (.seq
 (.reg false (.op false ⟨(some 12), none, (.mv (.tmp 4))⟩
  (.op false ⟨(some 2), none, (.mv (.const (.int .i64 0)))⟩
  (.op false ⟨(some 3), none, (.mv (.tmp 12))⟩ .done)))) .ret) .skip))
 (.seq (.seq
 (.reg false (.op false ⟨(some 5), none, (.mv (.const (.int .i64 0)))⟩ .done)) (.block 0 (.loop
 (.seq (.seq
 (.reg false (.op false ⟨(some 13), none, (.mv (.tmp 5))⟩
  (.op false ⟨(some 14), none, (.mv (.tmp 0))⟩
  (.op false ⟨(some 15), none, (.len (.tmp 14))⟩
  (.op false ⟨(some 16), none, (.bin .lss (.tmp 13) (.tmp 15))⟩ .done))))) (.cond (.tmp 16) .skip (.exit 0)))
 (.seq (.block 1
 (.seq
 (.reg false (.op false ⟨(some 6), none, (.mv (.const (.bool true)))⟩ .done))
 (.seq (.seq
 (.reg false (.op false ⟨(some 7), none, (.mv (.const (.int .i64 0)))⟩ .done)) (.block 2 (.loop
 (.seq (.seq
 (.reg false (.op false ⟨(some 19), none, (.mv (.tmp 7))⟩
  (.op false ⟨(some 20), none, (.mv (.tmp 0))⟩
  (.op false ⟨(some 21), none, (.len (.tmp 20))⟩
  (.op false ⟨(some 22), none, (.bin .lss (.tmp 19) (.tmp 21))⟩ .done))))) (.cond (.tmp 22) .skip (.exit 2)))
 (.seq (.block 3
 (.reg true (.op true ⟨(some 25), none, (.mv (.tmp 6))⟩
  (.op true ⟨(some 26), none, (.mv (.tmp 25))⟩
  (.op true ⟨(some 27), (some (26, true)), (.mv (.tmp 0))⟩
  (.op true ⟨(some 28), (some (26, true)), (.mv (.tmp 7))⟩
  (.op true ⟨(some 29), (some (26, true)), (.idx 6 (.tmp 27) (.tmp 28))⟩
  (.op true ⟨(some 30), (some (26, true)), (.ld (some 6) (.tmp 29))⟩
  (.op true ⟨(some 31), (some (26, true)), (.mv (.tmp 0))⟩
  (.op true ⟨(some 32), (some (26, true)), (.mv (.tmp 5))⟩
  (.op true ⟨(some 33), (some (26, true)), (.idx 6 (.tmp 31) (.tmp 32))⟩
  (.op true ⟨(some 34), (some (26, true)), (.ld (some 6) (.tmp 33))⟩
  (.op false ⟨(some 35), (some (26, true)), (.call f_thimbleref04_Compare [(.tmp 30), (.tmp 34)])⟩
  (.op true ⟨(some 36), (some (26, true)), (.bin .geq (.tmp 35) (.const (.int .i64 0)))⟩
  (.op true ⟨(some 37), none, (.pick (.tmp 26) (.tmp 36) (.const (.bool false)))⟩
  (.bar (.op true ⟨(some 6), none, (.mv (.tmp 37))⟩ .done)))))))))))))))))
 (.reg false (.op false ⟨(some 23), none, (.mv (.tmp 7))⟩
  (.op false ⟨(some 24), none, (.bin .add (.tmp 23) (.const (.int .i64 1)))⟩
  (.op false ⟨(some 7), none, (.mv (.tmp 24))⟩ .done)))))))))
 (.seq
 (.reg false (.op false ⟨(some 38), none, (.mv (.tmp 6))⟩ .done)) (.cond (.tmp 38)
 (.seq
 (.reg false (.op false ⟨(some 39), none, (.mv (.tmp 5))⟩
  (.op false ⟨(some 2), none, (.mv (.tmp 39))⟩
  (.op false ⟨(some 3), none, (.mv (.const (.int .i64 0)))⟩ .done)))) .ret) .skip)))))
 (.reg false (.op false ⟨(some 17), none, (.mv (.tmp 5))⟩
  (.op false ⟨(some 18), none, (.bin .add (.tmp 17) (.const (.int .i64 1)))⟩
  (.op false ⟨(some 5), none, (.mv (.tmp 18))⟩ .done)))))))))
 (.seq
 (.reg false (.op false ⟨(some 2), none, (.mv (.const (.int .i64 0)))⟩
  (.op false ⟨(some 3), none, (.mv (.const (.int .i64 240)))⟩ .done))) .ret)))))⟩

set_option maxHeartbeats 1000000 in
theorem rleast_ok {T : PHeap → Prop} {P : Program} {f f1 f2 : FuncId} (hTm : ∀ {d d' : PHeap}, Le d d' → T d → T d') (hd : decp P f = some (g_thimbleref04_Least f1 f2)) (h1 : WrongLOk T P f1) (h2 : CmpVOk T P f2) : LeastOk T P f := by
  intro d v l ht hv hb hdp
  obtain ⟨pa, ca, rfl⟩ := RSl.val hv
  have hv' : RSl 6 RVal d (.slice pa l.length ca) l := hv
  refine GPure.of' hd (Nat.le_of_ble_eq_true rfl) ?_
  show gwp P _ _ _ _ _
  (apply w_sq; apply w_reg; apply w_mvi; rfl; apply w_mvi; rfl; apply w_done0; apply w_sq; apply w_reg; apply w_mvs; rfl)
  refine w_pure rfl (h1 ht hv hdp) ?_
  by_cases hw : wrongL l = 0
  · have hmay := wrongL_may hw
    rw [hw, leastTop, if_neg (by omega)]
    (apply w_mvi; rfl; apply w_done0; apply w_sq; apply w_sq; apply w_reg; apply w_mvi; rfl; apply w_neq; rfl; rfl; apply w_done0; refine w_ifdF rfl (by omega) ?_; apply w_skip; apply w_sq; apply w_sq; apply w_reg; apply w_mvi; rfl; apply w_done0; apply w_block)
    refine w_loopN (α := Nat) (fun i => [(0, .slice pa l.length ca), (5, .int .i64 i)]) (fun _ => []) (fun i => i ≤ l.length ∧ ∀ j (hj : j < i) (hj2 : j < l.length), noneB l l[j] l.length = false) (fun i => l.length - i) 0 ⟨rfl, rfl, trivial⟩ rfl ⟨Nat.zero_le _, fun j hj => absurd hj (Nat.not_lt_zero j)⟩ ?_
    rintro i ρ ⟨hi, hn⟩
    by_cases hc : i < l.length
    · have mi : mayV l[i] = true := hmay _ (List.getElem_mem hc)
      apply w_sq; apply w_sq; apply w_reg
      (apply w_mvi; rfl; apply w_mvs; rfl; apply w_len; rfl; apply w_lss; rfl; rfl; apply w_done0)
      refine w_ifdT rfl (by omega) ?_
      apply w_skip; apply w_sq; apply w_block; apply w_sq; apply w_reg
      (apply w_mvb; rfl; apply w_done0)
      refine w_mid (fun ρ d2 L' => d2 = d ∧ L' = [] ∧ SlotsAre ρ [(0, .slice pa l.length ca), (5, .int .i64 i), (6, .bool (noneB l l[i] l.length))]) ?_ ?_
      · apply w_sq; apply w_reg
        (apply w_mvi; rfl; apply w_done0)
        apply w_block
        refine w_loopN (α := Nat) (fun k => [(0, .slice pa l.length ca), (5, .int .i64 i), (6, .bool (noneB l l[i] k)), (7, .int .i64 k)]) (fun _ => []) (fun k => k ≤ l.length) (fun k => l.length - k) 0 ⟨rfl, rfl, rfl, rfl, trivial⟩ rfl (Nat.zero_le _) ?_
        rintro k ρ hk
        by_cases hkc : k < l.length
        · have hns := noneB_succ (x := l[i]) hkc
          by_cases hb : noneB l l[i] k = true
          · rw [hb, Bool.true_and] at hns
            (apply w_sq; apply w_sq; apply w_reg; apply w_mvi; rfl; apply w_mvs; rfl; apply w_len; rfl; apply w_lss; rfl; rfl; apply w_done0; refine w_ifdT rfl (by omega) ?_; apply w_skip; apply w_sq; apply w_block; apply w_drawn; apply w_mvb; rfl; apply w_mvb; rfl; apply w_gbT; rfl; (with_reducible assumption); apply w_gT; rfl; apply w_mvs; rfl; apply w_gT; rfl; apply w_mvi; rfl; apply w_gT; rfl; refine w_idxR (sz := 6) (R := RVal) (by rfl) (by assumption) (by rfl) rfl (by omega) ?_; rintro _ _ _ _ _ _; apply w_gT; rfl; apply w_ldd; rfl; assumption; assumption; apply w_gT; rfl; apply w_mvs; rfl; apply w_gT; rfl; apply w_mvi; rfl; apply w_gT; rfl; refine w_idxR (sz := 6) (R := RVal) (by rfl) (by assumption) (by rfl) rfl (by omega) ?_; rintro _ _ _ _ _ _; apply w_gT; rfl; apply w_ldd; rfl; assumption; assumption; apply w_gT; rfl)
            rename_i cs hcs hD hR _ _ es hes hE hS
            refine w_pure rfl (h2 _ _ ht hR hS (hmay _ (List.getElem_mem hkc)) mi) ?_
            (apply w_gT; rfl; apply w_geq; rfl; rfl; apply w_pickTb; rfl; rfl; apply w_bar; apply w_mvb; rfl; apply w_done0; apply w_reg; apply w_mvi; rfl; apply w_add; rfl; rfl; omega; omega; apply w_mvi; rfl; apply w_done0)
            exact ⟨k + 1, by omega, ⟨rfl, rfl, bool_eq hns.symm, int_eq (by omega), trivial⟩, rfl, rfl, hkc⟩
          · have hb : noneB l l[i] k = false := by simpa using hb
            rw [hb, Bool.false_and] at hns
            (apply w_sq; apply w_sq; apply w_reg; apply w_mvi; rfl; apply w_mvs; rfl; apply w_len; rfl; apply w_lss; rfl; rfl; apply w_done0; refine w_ifdT rfl (by omega) ?_; apply w_skip; apply w_sq; apply w_block; apply w_drawn; apply w_mvb; rfl; apply w_mvb; rfl; apply w_gbF; rfl; (with_reducible assumption); apply w_gF; rfl; apply w_gF; rfl; apply w_gF; rfl; apply w_gF; rfl; apply w_gF; rfl; apply w_gF; rfl; apply w_gF; rfl; apply w_gF; rfl; apply w_gF; rfl; apply w_gF; rfl; apply w_pickFb; rfl; rfl; apply w_bar; apply w_mvb; rfl; apply w_done0; apply w_reg; apply w_mvi; rfl; apply w_add; rfl; rfl; omega; omega; apply w_mvi; rfl; apply w_done0)
            exact ⟨k + 1, by omega, ⟨rfl, rfl, bool_eq hns.symm, int_eq (by omega), trivial⟩, rfl, rfl, hkc⟩
        · obtain rfl : k = l.length := by omega
          (apply w_sq; apply w_sq; apply w_reg; apply w_mvi; rfl; apply w_mvs; rfl; apply w_len; rfl; apply w_lss; rfl; rfl; apply w_done0; refine w_ifdF rfl (by omega) ?_; apply w_exit)
          exact ⟨rfl, rfl, rfl, rfl, rfl, trivial⟩
      rintro ρ d2 L' ⟨hdd, hL, hs⟩
      subst hdd; subst hL
      refine gwp_slots _ hs ?_
      clear hs
      by_cases hb : noneB l l[i] l.length = true
      · have hlf := least_first hc hb (fun j hj => hn j hj (by omega))
        rw [if_neg (fun q => by subst q; cases hc), hlf]
        (apply w_sq; apply w_reg; apply w_mvb; rfl; apply w_done0; apply w_ifbT; rfl; (with_reducible assumption); apply w_sq; apply w_reg; apply w_mvi; rfl; apply w_mvi; rfl; apply w_mvi; rfl; apply w_done0; apply w_ret)
        exact finQ2 rfl rfl
      · have hb : noneB l l[i] l.length = false := by simpa using hb
        (apply w_sq; apply w_reg; apply w_mvb; rfl; apply w_done0; apply w_ifbF; rfl; (with_reducible assumption); apply w_skip; apply w_reg; apply w_mvi; rfl; apply w_add; rfl; rfl; omega; omega; apply w_mvi; rfl; apply w_done0)
        refine ⟨i + 1, by omega, ⟨rfl, int_eq (by omega), trivial⟩, rfl, rfl, hc, fun j hj hj2 => ?_⟩
        by_cases q : j = i
        · subst q; exact hb
        · exact hn j (by omega) hj2
    · obtain rfl : i = l.length := by omega
      have h0 : l = [] := by
        apply Classical.byContradiction
        intro q
        have hl : 0 < l.length := Nat.pos_of_ne_zero fun q2 => q (List.eq_nil_of_length_eq_zero q2)
        obtain ⟨hb2, hbt⟩ := least_is hl
        rw [hn _ hb2 hb2] at hbt; cases hbt
      rw [if_pos h0]
      (apply w_sq; apply w_sq; apply w_reg; apply w_mvi; rfl; apply w_mvs; rfl; apply w_len; rfl; apply w_lss; rfl; rfl; apply w_done0; refine w_ifdF rfl (by omega) ?_; apply w_exit; apply w_sq; apply w_reg; apply w_mvi; rfl; apply w_mvi; rfl; apply w_done0; apply w_ret)
      exact finQ2 rfl rfl
  · rw [leastTop, if_pos hw]
    (apply w_mvi; rfl; apply w_done0; apply w_sq; apply w_sq; apply w_reg; apply w_mvi; rfl; apply w_neq; rfl; rfl; apply w_done0; refine w_ifdT rfl (by omega) ?_; apply w_sq; apply w_reg; apply w_mvi; rfl; apply w_mvi; rfl; apply w_mvi; rfl; apply w_done0; apply w_ret)
    exact finQ2 rfl rfl
end Go.Gk.Val
end

section
/-
  Literals of values, and of numbers.
-/
namespace Go.Gk.Val
open Go Go.Gk Go.Gk.Utf
attribute [local irreducible] gwp gws

section
variable {P : Program} {pan : List PanicEntry → Post} {Qn : Env → Post} {Ls L : List PHeap} {ρ : Env} {d : PHeap} {s : GS} {t : Nat} {tk : Bool}
theorem w_bnum {x : Operand} {a : Int} (ex : ev ρ x = .int .i64 a) (h : gws P pan Qn s Ls (upd ρ t (.agg [.int .i64 a, .int .i64 0].toArray)) d L) :
    gws P pan Qn (.op tk ⟨some t, none, .bld [(0, 1), (1, 1)] [.int .i64 0, .int .i64 0] [(0, x)]⟩ s) Ls ρ d L :=
  w_bld (cs := [.int .i64 a, .int .i64 0]) (by simp [Instr.fill, ex, Value.cells]) h
theorem w_bvD {x y : Operand} {k : IntKind} {a m e : Int} (ex : ev ρ x = .int k a) (ey : ev ρ y = .agg [.int .i64 m, .int .i64 e].toArray) (h : gws P pan Qn s Ls (upd ρ t (.agg [.int k a, .int .i64 m, .int .i64 e, strV [], .slice none 0 0, .slice none 0 0].toArray)) d L) :
    gws P pan Qn (.op tk ⟨some t, none, .bld [(0, 1), (1, 2), (3, 1), (4, 1), (5, 1)] [.int .i64 0, .int .i64 0, .int .i64 0, strV [], .slice none 0 0, .slice none 0 0] [(0, x), (1, y)]⟩ s) Ls ρ d L :=
  w_bld (cs := [.int k a, .int .i64 m, .int .i64 e, strV [], .slice none 0 0, .slice none 0 0]) (by simp [Instr.fill, ex, ey, Value.cells, strV]) h
/-- Keys and a list. -/
theorem w_bvQ {y z : Operand} {b b' : Option Addr} {n c n' c' : Nat} (ey : ev ρ y = .slice b' n' c') (ez : ev ρ z = .slice b n c)
    (h : gws P pan Qn s Ls (upd ρ t (.agg [.int .i64 0, .int .i64 0, .int .i64 0, strV [], .slice b n c, .slice b' n' c'].toArray)) d L) :
    gws P pan Qn (.op tk ⟨some t, none, .bld [(0, 1), (1, 2), (3, 1), (4, 1), (5, 1)] [.int .i64 0, .int .i64 0, .int .i64 0, strV [], .slice none 0 0, .slice none 0 0] [(4, y), (3, z)]⟩ s) Ls ρ d L :=
  w_bld (cs := [.int .i64 0, .int .i64 0, .int .i64 0, strV [], .slice b n c, .slice b' n' c']) (by simp [Instr.fill, ey, ez, Value.cells, strV]) h
end
theorem row_strs {d : PHeap} {ks : List (List UInt8)} (h : ∀ k ∈ ks, k.length ≤ 140737488355328) : ∀ i (hi : i < ks.length), RStr d (chunk (ks.map strV) i 1) ks[i] := fun i hi => by
  have hc : chunk (ks.map strV) i 1 = [strV ks[i]] := by
    simp only [chunk, Nat.mul_one]
    rw [List.drop_eq_getElem_cons (by simpa using hi)]; simp
  rw [hc]
  exact ⟨rfl, h _ (List.getElem_mem hi)⟩
theorem rstrs_lit {d : PHeap} {q : Nat} {T : TypeId} {ks : List (List UInt8)} (hk : ∀ k ∈ ks, k.length ≤ 140737488355328) (hl : ks.length ≤ 140737488355328) (h : Le (bx q T (ks.map strV)) d) : RStrs d (.slice (some ⟨q, 0, none⟩) ks.length ks.length) ks :=
  (ORow.lit (sz := 1) (b := q) (T := T) (n := ks.length) (l := ks.map strV) (by simp) hl).rsl (R := RStr) h rfl (by omega) (row_strs hk)
def digV (n : Int) : V := .mk 3 n 0 [] [] []
abbrev digL (n : Int) : List Value := [.int .i64 3, .int .i64 n, .int .i64 0, strV [], .slice none 0 0, .slice none 0 0]
theorem i64_3 : I64 3 := ⟨by decide, by decide⟩
theorem dig_rval {d : PHeap} {n : Int} (h : I64 n) : RVal d (digL n) (digV n) := RVal.close (v := digV n) i64_3 h i64_0 (by simp [digV, V.text]) RSl.nil RSl.nil
theorem orow_openP {sz n : Nat} {v : Value} {us : List Value} {h : PHeap} (o : ORow sz v n us h) {m : Nat} (hm : m < n) :
    ∃ b T l c, v = .slice (some ⟨b, 0, none⟩) n c ∧ h = bx b T l ∧ n * sz ≤ l.length ∧ l.take (n * sz) = us ∧ ∀ xs, xs.length = sz → ORow sz v n (patch us (m * sz) xs) (bx b T (patch l (m * sz) xs)) := by
  obtain ⟨h1, h2, ⟨rfl, rfl, rfl⟩ | ⟨b, T, l, c, rfl, rfl, h3, h4, h5, h6⟩⟩ := o
  · omega
  · have hmz : m * sz + sz ≤ n * sz := by have := Nat.mul_le_mul_right sz (show m + 1 ≤ n from hm); rwa [Nat.add_mul, Nat.one_mul] at this
    have hnc : n * sz ≤ c * sz := Nat.mul_le_mul_right sz h3
    refine ⟨b, T, l, c, rfl, rfl, by omega, by rw [← h1]; exact h6, fun xs hx => ?_⟩
    have hp : (patch us (m * sz) xs).length = us.length := patch_len (by omega)
    refine ⟨by rw [hp, h1], h2, .inr ⟨b, T, _, c, rfl, rfl, h3, h4, by rw [patch_len (by omega)]; exact h5, ?_⟩⟩
    rw [hp, take_patch (by omega) (by omega), h6]
/-- One cell of an element is written. -/
theorem patch_one {l cs : List Value} {o k sz : Nat} {x : Value} (hl : o + sz ≤ l.length) (hc : (l.drop o).take sz = cs) (hk : k < sz) : patch l (o + k) [x] = patch l o (cs.set k x) := by
  have hcl : cs.length = sz := by rw [← hc]; simp; omega
  refine List.ext_getElem? fun m => ?_
  rw [get_patch (by simp; omega), get_patch (by rw [List.length_set]; omega), List.length_set, hcl]
  by_cases h1 : o + k ≤ m ∧ m < o + k + [x].length
  · have : m = o + k := by simp at h1; omega
    subst this
    rw [if_pos (by simp), if_pos (by omega), Nat.sub_self, show o + k - o = k by omega, List.getElem?_set_self (by omega)]; rfl
  · rw [if_neg h1]
    simp only [List.length_cons, List.length_nil] at h1
    by_cases h2 : o ≤ m ∧ m < o + sz
    · rw [if_pos h2, List.getElem?_set_ne (by omega), ← hc, List.getElem?_take, if_pos (by omega), List.getElem?_drop, show o + (m - o) = m by omega]
    · rw [if_neg h2]
end Go.Gk.Val
end

section
/-
  The laws of order: the example, how great; OrderCompares, OrderTotal.
-/
namespace Go.Gk.Val
open Go Go.Gk Go.Gk.Srt
attribute [local irreducible] gwp gws

def Great4Ok (P : Program) (f : FuncId) : Prop := ∀ {d : PHeap} {v : Value} {l : List V}, RVals d v l → GCall P f [v] d [] (Ret fun r d' L' => d' = d ∧ L' = [] ∧ ∃ b : Bool, r = .bool b ∧ (b = false → bulkV (.mk 0 0 0 [] l []) ≤ 2000))
def g_thimblelaw04_great (f_thimbleref03_Bulk : Nat) : GFun :=
 ⟨7, [(.tmp 2)],
 (.seq
 (.reg false (.op false ⟨(some 2), none, (.mv (.const (.bool false)))⟩ .done))
 (.seq
 (.reg false (.op false ⟨(some 3), none, (.mv (.tmp 0))⟩
  (.op false ⟨(some 4), none, (.bld [(0, 1), (1, 2), (3, 1), (4, 1), (5, 1)] [(.int .i64 0), (.int .i64 0), (.int .i64 0), (strV []), (.slice none 0 0), (.slice none 0 0)] [(3, (.tmp 3))])⟩
  (.op false ⟨(some 5), none, (.call f_thimbleref03_Bulk [(.tmp 4), (.const (.int .i64 2000))])⟩
  (.op false ⟨(some 6), none, (.bin .gtr (.tmp 5) (.const (.int .i64 2000)))⟩
  (.op false ⟨(some 2), none, (.mv (.tmp 6))⟩ .done)))))) .ret))⟩

theorem great4_ok {P : Program} {f f1 : FuncId} (hd : dec P f = some (g_thimblelaw04_great f1)) (h1 : BulkOk P f1) : Great4Ok P f := by
  intro d v l hv
  obtain ⟨a2, c2, rfl⟩ := RSl.val hv
  refine GCall_of hd (Nat.le_of_ble_eq_true rfl) ?_
  show gwp P _ _ _ _ _
  have hv2 : RVal d [.int .i64 0, .int .i64 0, .int .i64 0, strV [], .slice a2 l.length c2, .slice none 0 0] (.mk 0 0 0 [] l []) := RVal.close (v := .mk 0 0 0 [] l []) i64_0 i64_0 i64_0 (by simp) hv RSl.nil
  (apply w_sq; apply w_reg; apply w_mvb; rfl; apply w_done0; apply w_sq; apply w_reg; apply w_mvs; rfl; apply w_bvL; rfl)
  refine w_call0 rfl (h1 (.mk 0 0 0 [] l []) (most := 2000) hv2 (by omega)) (fun r d3 L3 _ ⟨hdd, z, hr, hz1, hz2, hz3, hL⟩ => ?_)
  subst hdd; subst hr; subst hL
  (apply w_gtr; rfl; rfl; apply w_mvb; rfl; apply w_done0; apply w_ret)
  exact fin1n rfl ⟨rfl, rfl, _, rfl, fun h => by
    have : ¬ 2000 < z := by simpa using h
    have := hz3 (by omega); omega⟩
/-- What a list of values within bounds has. -/
theorem bulk_list {l : List V} {n : Nat} (h : bulkV (.mk 0 0 0 [] l []) ≤ n) : l.length ≤ n ∧ ∀ x ∈ l, cntV x ≤ n ∧ depthV x ≤ n ∧ bulkV x ≤ n := by
  have h1 := cnt_bulk (.mk 0 0 0 [] l [])
  have h2 := cntV_eq (.mk 0 0 0 [] l [])
  have h3 := cnts_len l
  simp only [V.keys, V.list, List.length_nil] at h2
  refine ⟨by omega, fun x hx => ?_⟩
  have h4 := cnts_mem hx
  have hb : bulkV x ≤ n := by
    have h5 := bulkV_eq (.mk 0 0 0 [] l [])
    simp only [V.keys, V.list, V.text] at h5
    have h6 := bulks_mem hx
    omega
  have h7 := depth_txt x
  have h8 := txt_bulk x
  exact ⟨by omega, by omega, hb⟩
def trueV : V := .mk 2 0 0 [] [] []
theorem true_rval {d : PHeap} : RVal d [.int .i64 2, .int .i64 0, .int .i64 0, strV [], .slice none 0 0, .slice none 0 0] trueV := RVal.close (v := trueV) ⟨by decide, by decide⟩ i64_0 i64_0 (by simp [trueV, V.text]) RSl.nil RSl.nil
theorem w4_a : cmpTop (.mk 5 0 0 [] [digV 1] []) (.mk 5 0 0 [] [digV 1, V.zero] []) = (-1, 0) := by rfl
theorem w4_b : cmpTop (.mk 6 0 0 [] [digV 1, V.zero] [[97], [98]]) (.mk 6 0 0 [] [digV 2] [[97]]) = (1, 0) := by rfl
theorem w4_c : wrongL [digV 1, V.zero, trueV] = 0 := by rfl
theorem w4_d {ys : List V} (h : ys.Perm [digV 1, V.zero, trueV]) (hs : Srt cmpV ys) : ys = [V.zero, trueV, digV 1] := by
  refine srt_unique (fun x hx => wrongL_may w4_c x (h.mem_iff.1 hx)) (h.trans ((List.Perm.swap V.zero (digV 1) [trueV]).trans ((List.Perm.swap trueV (digV 1) []).cons _))) hs ?_
  simp only [Srt, List.pairwise_cons, List.mem_cons, List.not_mem_nil, or_false, forall_eq_or_imp, forall_eq, false_implies, implies_true, and_true, List.Pairwise.nil]
  refine ⟨⟨?_, ?_⟩, ?_⟩ <;> decide +kernel
theorem rvals1 {d d' : PHeap} {q : Nat} {T : TypeId} {a : List Value} {x : V} (hx : RVal d a x) (hl : Le d d') (h : Le (bx q T a) d') : RVals d' (.slice (some ⟨q, 0, none⟩) 1 1) [x] :=
  (GRow.lit1 (R := RVal) (d := d) hx.len hx).rsl mono_val (by omega) hl h
def W4Ok (T : PHeap → Prop) (P : Program) (f : FuncId) : Prop := ∀ {d : PHeap}, T d → GPure P f [] d (.bool true)
def g_thimblelaw04_works (f_order_Cmp f_order_Sort : Nat) : GFun :=
 ⟨80, [(.tmp 0)],
 (.seq
 (.reg false (.op false ⟨(some 0), none, (.mv (.const (.bool false)))⟩ .done))
 (.seq
 (.reg false (.op false ⟨(some 8), none, (.bld [(0, 1), (1, 1)] [(.int .i64 0), (.int .i64 0)] [(0, (.const (.int .i64 1)))])⟩
  (.op false ⟨(some 9), none, (.bld [(0, 1), (1, 2), (3, 1), (4, 1), (5, 1)] [(.int .i64 0), (.int .i64 0), (.int .i64 0), (strV []), (.slice none 0 0), (.slice none 0 0)] [(0, (.const (.int .i64 3))), (1, (.tmp 8))])⟩
  (.op false ⟨(some 1), none, (.alo (.agg #[(.int .i64 0), (.int .i64 0), (.int .i64 0), (strV []), (.slice none 0 0), (.slice none 0 0)]))⟩
  (.op false ⟨none, none, (.st 6 (.tmp 1) (.tmp 9))⟩ .done)))))
 (.seq
 (.reg false (.op false ⟨(some 11), none, (.ld (some 6) (.tmp 1))⟩
  (.op false ⟨(some 12), none, (.bsl 1 6 [(.int .i64 0), (.int .i64 0), (.int .i64 0), (strV []), (.slice none 0 0), (.slice none 0 0)] [(0, (.tmp 11))])⟩
  (.op false ⟨(some 13), none, (.bld [(0, 1), (1, 2), (3, 1), (4, 1), (5, 1)] [(.int .i64 0), (.int .i64 0), (.int .i64 0), (strV []), (.slice none 0 0), (.slice none 0 0)] [(0, (.const (.int .i64 5))), (3, (.tmp 12))])⟩
  (.op false ⟨(some 14), none, (.ld (some 6) (.tmp 1))⟩
  (.op false ⟨(some 15), none, (.bld [(0, 1), (1, 2), (3, 1), (4, 1), (5, 1)] [(.int .i64 0), (.int .i64 0), (.int .i64 0), (strV []), (.slice none 0 0), (.slice none 0 0)] [])⟩
  (.op false ⟨(some 16), none, (.bsl 2 6 [(.int .i64 0), (.int .i64 0), (.int .i64 0), (strV []), (.slice none 0 0), (.slice none 0 0)] [(0, (.tmp 14)), (1, (.tmp 15))])⟩
  (.op false ⟨(some 17), none, (.bld [(0, 1), (1, 2), (3, 1), (4, 1), (5, 1)] [(.int .i64 0), (.int .i64 0), (.int .i64 0), (strV []), (.slice none 0 0), (.slice none 0 0)] [(0, (.const (.int .i64 5))), (3, (.tmp 16))])⟩
  (.op false ⟨(some 18), none, (.call f_order_Cmp [(.tmp 13), (.tmp 17)])⟩
  (.op false ⟨(some 10), none, (.mv (.tmp 18))⟩
  (.op false ⟨(some 19), none, (.ext (.tmp 10) 0)⟩
  (.op false ⟨(some 20), none, (.ext (.tmp 10) 1)⟩
  (.op false ⟨(some 2), none, (.mv (.tmp 19))⟩
  (.op false ⟨(some 3), none, (.mv (.tmp 20))⟩ .done))))))))))))))
 (.seq
 (.reg false (.op false ⟨(some 22), none, (.bsl 2 1 [(strV [])] [(0, (.const (strV [97]))), (1, (.const (strV [98])))])⟩
  (.op false ⟨(some 23), none, (.ld (some 6) (.tmp 1))⟩
  (.op false ⟨(some 24), none, (.bld [(0, 1), (1, 2), (3, 1), (4, 1), (5, 1)] [(.int .i64 0), (.int .i64 0), (.int .i64 0), (strV []), (.slice none 0 0), (.slice none 0 0)] [])⟩
  (.op false ⟨(some 25), none, (.bsl 2 6 [(.int .i64 0), (.int .i64 0), (.int .i64 0), (strV []), (.slice none 0 0), (.slice none 0 0)] [(0, (.tmp 23)), (1, (.tmp 24))])⟩
  (.op false ⟨(some 26), none, (.bld [(0, 1), (1, 2), (3, 1), (4, 1), (5, 1)] [(.int .i64 0), (.int .i64 0), (.int .i64 0), (strV []), (.slice none 0 0), (.slice none 0 0)] [(0, (.const (.int .i64 6))), (4, (.tmp 22)), (3, (.tmp 25))])⟩
  (.op false ⟨(some 27), none, (.bsl 1 1 [(strV [])] [(0, (.const (strV [97])))])⟩
  (.op false ⟨(some 28), none, (.bld [(0, 1), (1, 1)] [(.int .i64 0), (.int .i64 0)] [(0, (.const (.int .i64 2)))])⟩
  (.op false ⟨(some 29), none, (.bld [(0, 1), (1, 2), (3, 1), (4, 1), (5, 1)] [(.int .i64 0), (.int .i64 0), (.int .i64 0), (strV []), (.slice none 0 0), (.slice none 0 0)] [(0, (.const (.int .i64 3))), (1, (.tmp 28))])⟩
  (.op false ⟨(some 30), none, (.bsl 1 6 [(.int .i64 0), (.int .i64 0), (.int .i64 0), (strV []), (.slice none 0 0), (.slice none 0 0)] [(0, (.tmp 29))])⟩
  (.op false ⟨(some 31), none, (.bld [(0, 1), (1, 2), (3, 1), (4, 1), (5, 1)] [(.int .i64 0), (.int .i64 0), (.int .i64 0), (strV []), (.slice none 0 0), (.slice none 0 0)] [(0, (.const (.int .i64 6))), (4, (.tmp 27)), (3, (.tmp 30))])⟩
  (.op false ⟨(some 32), none, (.call f_order_Cmp [(.tmp 26), (.tmp 31)])⟩
  (.op false ⟨(some 21), none, (.mv (.tmp 32))⟩
  (.op false ⟨(some 33), none, (.ext (.tmp 21) 0)⟩
  (.op false ⟨(some 34), none, (.ext (.tmp 21) 1)⟩
  (.op false ⟨(some 4), none, (.mv (.tmp 33))⟩
  (.op false ⟨(some 5), none, (.mv (.tmp 34))⟩ .done)))))))))))))))))
 (.seq
 (.reg false (.op false ⟨(some 36), none, (.ld (some 6) (.tmp 1))⟩
  (.op false ⟨(some 37), none, (.bld [(0, 1), (1, 2), (3, 1), (4, 1), (5, 1)] [(.int .i64 0), (.int .i64 0), (.int .i64 0), (strV []), (.slice none 0 0), (.slice none 0 0)] [])⟩
  (.op false ⟨(some 38), none, (.bld [(0, 1), (1, 2), (3, 1), (4, 1), (5, 1)] [(.int .i64 0), (.int .i64 0), (.int .i64 0), (strV []), (.slice none 0 0), (.slice none 0 0)] [(0, (.const (.int .i64 2)))])⟩
  (.op false ⟨(some 39), none, (.bsl 3 6 [(.int .i64 0), (.int .i64 0), (.int .i64 0), (strV []), (.slice none 0 0), (.slice none 0 0)] [(0, (.tmp 36)), (1, (.tmp 37)), (2, (.tmp 38))])⟩
  (.op false ⟨(some 40), none, (.call f_order_Sort [(.tmp 39)])⟩
  (.op false ⟨(some 35), none, (.mv (.tmp 40))⟩
  (.op false ⟨(some 41), none, (.ext (.tmp 35) 0)⟩
  (.op false ⟨(some 42), none, (.ext (.tmp 35) 1)⟩
  (.op false ⟨(some 6), none, (.mv (.tmp 41))⟩
  (.op false ⟨(some 7), none, (.mv (.tmp 42))⟩ .done)))))))))))
 (.seq
 (.reg false (.op false ⟨(some 43), none, (.mv (.tmp 3))⟩
  (.op false ⟨(some 44), none, (.bin .eql (.tmp 43) (.const (.int .i64 0)))⟩
  (.op false ⟨(some 45), none, (.mv (.tmp 44))⟩
  (.op false ⟨(some 46), (some (45, true)), (.mv (.tmp 5))⟩
  (.op false ⟨(some 47), (some (45, true)), (.bin .eql (.tmp 46) (.const (.int .i64 0)))⟩
  (.op false ⟨(some 48), none, (.pick (.tmp 45) (.tmp 47) (.const (.bool false)))⟩
  (.op false ⟨(some 49), none, (.mv (.tmp 48))⟩
  (.op false ⟨(some 50), (some (49, true)), (.mv (.tmp 7))⟩
  (.op false ⟨(some 51), (some (49, true)), (.bin .eql (.tmp 50) (.const (.int .i64 0)))⟩
  (.op false ⟨(some 52), none, (.pick (.tmp 49) (.tmp 51) (.const (.bool false)))⟩
  (.op false ⟨(some 53), none, (.mv (.tmp 52))⟩
  (.op false ⟨(some 54), (some (53, true)), (.mv (.tmp 2))⟩
  (.op false ⟨(some 55), (some (53, true)), (.bin .eql (.tmp 54) (.const (.int .i64 (-1))))⟩
  (.op false ⟨(some 56), none, (.pick (.tmp 53) (.tmp 55) (.const (.bool false)))⟩
  (.op false ⟨(some 57), none, (.mv (.tmp 56))⟩
  (.op false ⟨(some 58), (some (57, true)), (.mv (.tmp 4))⟩
  (.op false ⟨(some 59), (some (57, true)), (.bin .eql (.tmp 58) (.const (.int .i64 1)))⟩
  (.op false ⟨(some 60), none, (.pick (.tmp 57) (.tmp 59) (.const (.bool false)))⟩
  (.op false ⟨(some 61), none, (.mv (.tmp 60))⟩
  (.op false ⟨(some 62), (some (61, true)), (.mv (.tmp 6))⟩
  (.op false ⟨(some 63), (some (61, true)), (.len (.tmp 62))⟩
  (.op false ⟨(some 64), (some (61, true)), (.bin .eql (.tmp 63) (.const (.int .i64 3)))⟩
  (.op false ⟨(some 65), none, (.pick (.tmp 61) (.tmp 64) (.const (.bool false)))⟩
  (.op false ⟨(some 66), none, (.mv (.tmp 65))⟩
  (.op false ⟨(some 67), (some (66, true)), (.mv (.tmp 6))⟩
  (.op false ⟨(some 68), (some (66, true)), (.idx 6 (.tmp 67) (.const (.int .i64 0)))⟩
  (.op false ⟨(some 69), (some (66, true)), (.fld 0 (.tmp 68))⟩
  (.op false ⟨(some 70), (some (66, true)), (.ld none (.tmp 69))⟩
  (.op false ⟨(some 71), (some (66, true)), (.bin .eql (.tmp 70) (.const (.int .i64 0)))⟩
  (.op false ⟨(some 72), none, (.pick (.tmp 66) (.tmp 71) (.const (.bool false)))⟩
  (.op false ⟨(some 73), none, (.mv (.tmp 72))⟩
  (.op false ⟨(some 74), (some (73, true)), (.mv (.tmp 6))⟩
  (.op false ⟨(some 75), (some (73, true)), (.idx 6 (.tmp 74) (.const (.int .i64 2)))⟩
  (.op false ⟨(some 76), (some (73, true)), (.fld 0 (.tmp 75))⟩
  (.op false ⟨(some 77), (some (73, true)), (.ld none (.tmp 76))⟩
  (.op false ⟨(some 78), (some (73, true)), (.bin .eql (.tmp 77) (.const (.int .i64 3)))⟩
  (.op false ⟨(some 79), none, (.pick (.tmp 73) (.tmp 78) (.const (.bool false)))⟩
  (.op false ⟨(some 0), none, (.mv (.tmp 79))⟩ .done))))))))))))))))))))))))))))))))))))))) .ret))))))⟩

set_option maxHeartbeats 2000000 in
theorem works4_ok {T : PHeap → Prop} (hTm : ∀ {d d' : PHeap}, Le d d' → T d → T d') {P : Program} {f f1 f2 : FuncId} (hd : decp P f = some (g_thimblelaw04_works f1 f2)) (h1 : CmpTopOk T P f1) (h2 : OSortOk T P f2) : W4Ok T P f := by
  intro d ht
  have i1 : I64 1 := ⟨by decide, by decide⟩
  have i2 : I64 2 := ⟨by decide, by decide⟩
  refine GPure.of' hd (Nat.le_of_ble_eq_true rfl) ?_
  show gwp P _ _ _ _ _
  (apply w_sq; apply w_reg; apply w_mvb; rfl; apply w_done0; apply w_sq; apply w_reg; apply w_bnum; rfl; apply w_bvD; rfl; rfl; apply w_alo; intro _ _)
  rename_i b1 T1
  refine w_stE 0 (digL 1) rfl rfl rfl rfl (Nat.le_of_ble_eq_true rfl) rfl rfl ?_
  (apply w_done0; apply w_sq; apply w_reg; apply w_ldb 0; rfl; rfl; rfl)
  refine w_bsV (cs := digL 1) rfl rfl (fun b12 T12 => ?_)
  refine w_frz (fun d1 hl1 hg1 => ?_)
  have r12 : RVals d1 (.slice (some ⟨b12, 0, none⟩) 1 1) [digV 1] := rvals1 (dig_rval i1) hl1 hg1
  (apply w_bvKL; rfl; rfl; apply w_ldb 0; rfl; rfl; rfl; apply w_bvZ)
  refine w_bsV2 (a := digL 1) (b := z6) rfl rfl rfl rfl (fun b16 T16 => ?_)
  refine w_frz (fun d2 hl2 hg2 => ?_)
  have r16 : RVals d2 (.slice (some ⟨b16, 0, none⟩) 2 2) [digV 1, V.zero] := rvals2 (d := d1) (dig_rval i1) RVal.zero hl2 hg2
  have ht2 := hTm (hl1.trans hl2) ht
  have hA : RVal d2 [.int .i64 5, .int .i64 0, .int .i64 0, strV [], .slice (some ⟨b12, 0, none⟩) 1 1, .slice none 0 0] (.mk 5 0 0 [] [digV 1] []) := RVal.close (v := .mk 5 0 0 [] [digV 1] []) i64_5 i64_0 i64_0 (by simp [V.text]) (RVals.mono r12 hl2) RSl.nil
  have hB : RVal d2 [.int .i64 5, .int .i64 0, .int .i64 0, strV [], .slice (some ⟨b16, 0, none⟩) 2 2, .slice none 0 0] (.mk 5 0 0 [] [digV 1, V.zero] []) := RVal.close (v := .mk 5 0 0 [] [digV 1, V.zero] []) i64_5 i64_0 i64_0 (by simp [V.text]) r16 RSl.nil
  have hc1 := h1 _ _ ht2 hA hB (by decide) (by decide)
  rw [w4_a] at hc1
  (apply w_bvKL; rfl; rfl)
  refine w_pure rfl hc1 ?_
  (apply w_mvu; rfl; apply w_ext; rfl; rfl; apply w_ext; rfl; rfl; apply w_mvi; rfl; apply w_mvi; rfl; apply w_done0; apply w_sq; apply w_reg)
  refine w_bs2 (v0 := strV [97]) (v1 := strV [98]) rfl rfl rfl rfl (fun b22 T22 => ?_)
  refine w_frz (fun d3 hl3 hg3 => ?_)
  have r22 : RStrs d3 (.slice (some ⟨b22, 0, none⟩) 2 2) [[97], [98]] := rstrs_lit (ks := [[97], [98]]) (by decide) (by decide) hg3
  (apply w_ldb 0; rfl; rfl; rfl; apply w_bvZ)
  refine w_bsV2 (a := digL 1) (b := z6) rfl rfl rfl rfl (fun b25 T25 => ?_)
  refine w_frz (fun d4 hl4 hg4 => ?_)
  have r25 : RVals d4 (.slice (some ⟨b25, 0, none⟩) 2 2) [digV 1, V.zero] := rvals2 (d := d3) (dig_rval i1) RVal.zero hl4 hg4
  (apply w_bvM; rfl; rfl; rfl)
  refine w_bs1 (v0 := strV [97]) rfl rfl (fun b27 T27 => ?_)
  refine w_frz (fun d5 hl5 hg5 => ?_)
  have r27 : RStrs d5 (.slice (some ⟨b27, 0, none⟩) 1 1) [[97]] := rstrs_lit (ks := [[97]]) (by decide) (by decide) hg5
  (apply w_bnum; rfl; apply w_bvD; rfl; rfl)
  refine w_bsV (cs := digL 2) rfl rfl (fun b30 T30 => ?_)
  refine w_frz (fun d6 hl6 hg6 => ?_)
  have r30 : RVals d6 (.slice (some ⟨b30, 0, none⟩) 1 1) [digV 2] := rvals1 (dig_rval i2) hl6 hg6
  have ht6 := hTm (((hl3.trans hl4).trans hl5).trans hl6) ht2
  have hC : RVal d6 [.int .i64 6, .int .i64 0, .int .i64 0, strV [], .slice (some ⟨b25, 0, none⟩) 2 2, .slice (some ⟨b22, 0, none⟩) 2 2] (.mk 6 0 0 [] [digV 1, V.zero] [[97], [98]]) := RVal.close (v := .mk 6 0 0 [] [digV 1, V.zero] [[97], [98]]) i64_6 i64_0 i64_0 (by simp [V.text]) (RVals.mono r25 (hl5.trans hl6)) (RStrs.mono r22 ((hl4.trans hl5).trans hl6))
  have hD : RVal d6 [.int .i64 6, .int .i64 0, .int .i64 0, strV [], .slice (some ⟨b30, 0, none⟩) 1 1, .slice (some ⟨b27, 0, none⟩) 1 1] (.mk 6 0 0 [] [digV 2] [[97]]) := RVal.close (v := .mk 6 0 0 [] [digV 2] [[97]]) i64_6 i64_0 i64_0 (by simp [V.text]) r30 (RStrs.mono r27 hl6)
  have hc2 := h1 _ _ ht6 hC hD (by decide) (by decide)
  rw [w4_b] at hc2
  (apply w_bvM; rfl; rfl; rfl)
  refine w_pure rfl hc2 ?_
  (apply w_mvu; rfl; apply w_ext; rfl; rfl; apply w_ext; rfl; rfl; apply w_mvi; rfl; apply w_mvi; rfl; apply w_done0; apply w_sq; apply w_reg; apply w_ldb 0; rfl; rfl; rfl; apply w_bvZ; apply w_bvK; rfl)
  refine w_bsV3 (a := digL 1) (b := z6) (c := [.int .i64 2, .int .i64 0, .int .i64 0, strV [], .slice none 0 0, .slice none 0 0]) rfl rfl rfl rfl rfl rfl (fun b39 T39 => ?_)
  refine w_frz (fun d7 hl7 hg7 => ?_)
  have r39 : RVals d7 (.slice (some ⟨b39, 0, none⟩) 3 3) [digV 1, V.zero, trueV] := rvals3 (d := d6) (dig_rval i1) RVal.zero true_rval hl7 hg7
  have ht7 := hTm hl7 ht6
  refine w_call0 rfl (h2 ht7 r39 (by decide) (by decide)) (fun r d8 L8 _ ⟨hdd, hr⟩ => ?_)
  subst hdd
  rcases hr with ⟨hr, _⟩ | ⟨_, ra, rc, ys, hl, hs, hr, ho, hL, hp, hsr⟩
  · exact absurd w4_c hr
  subst hL
  have hys := w4_d hp hsr
  have hl3 : ys.length = 3 := by rw [hys]; rfl
  rw [hl3] at hr ho
  subst hys
  subst hr
  obtain ⟨d9, hv9, hl9, hk9⟩ := Vs.frzSome [bx b1 T1 (digL 1)] (hl :: hs) d8
  refine w_vs d9 _ hv9 ?_
  have r40 : RSl 6 RVal d9 (.slice ra 3 rc) [V.zero, trueV, digV 1] := ho.rvals (hk9 hl (by simp)) (fun k hk => hk9 k (by simp [hk]))
  (apply w_mvu; rfl; apply w_ext; rfl; rfl; apply w_ext; rfl; rfl; apply w_mvs; rfl; apply w_mvi; rfl; apply w_done0; apply w_sq; apply w_reg; apply w_mvi; rfl; apply w_eql; rfl; rfl; apply w_mvb; rfl; refine w_gdT rfl (by omega) ?_; apply w_gT; rfl; apply w_mvi; rfl; apply w_gT; rfl; apply w_eql; rfl; rfl; apply w_pickTb; rfl; rfl; apply w_mvb; rfl; refine w_gdT rfl (by omega) ?_; apply w_gT; rfl; apply w_mvi; rfl; apply w_gT; rfl; apply w_eql; rfl; rfl; apply w_pickTb; rfl; rfl; apply w_mvb; rfl; refine w_gdT rfl (by omega) ?_; apply w_gT; rfl; apply w_mvi; rfl; apply w_gT; rfl; apply w_eql; rfl; rfl; apply w_pickTb; rfl; rfl; apply w_mvb; rfl; refine w_gdT rfl (by omega) ?_; apply w_gT; rfl; apply w_mvi; rfl; apply w_gT; rfl; apply w_eql; rfl; rfl; apply w_pickTb; rfl; rfl; apply w_mvb; rfl; refine w_gdT rfl (by omega) ?_; apply w_gT; rfl; apply w_mvs; rfl; apply w_gT; rfl; apply w_len; rfl; apply w_gT; rfl; apply w_eql; rfl; rfl; apply w_pickTb; rfl; rfl; apply w_mvb; rfl; refine w_gdT rfl (by omega) ?_; apply w_gT; rfl; apply w_mvs; rfl; apply w_gT; rfl; refine w_idxR (m := 0) (sz := 6) (R := RVal) (by rfl) (by assumption) (by rfl) rfl (by omega) ?_; rintro _ _ _ _ _ _; apply w_gT; rfl; apply w_fld; rfl; apply w_gT; rfl)
  rename_i b68 o68 cs68 h68 hD68 hR68
  obtain ⟨lv2, kv2, hcs2, _, _, _, _, _, _⟩ := hR68.open
  subst hcs2
  refine w_ld rfl (hc_ds0 hD68 (show _ = some (Value.int .i64 0) from rfl)) ?_
  (apply w_gT; rfl; apply w_eql; rfl; rfl; apply w_pickTb; rfl; rfl; apply w_mvb; rfl; refine w_gdT rfl (by omega) ?_; apply w_gT; rfl; apply w_mvs; rfl; apply w_gT; rfl; refine w_idxR (m := 2) (sz := 6) (R := RVal) (by rfl) (by assumption) (by rfl) rfl (by omega) ?_; rintro _ _ _ _ _ _; apply w_gT; rfl; apply w_fld; rfl; apply w_gT; rfl)
  rename_i b75 o75 cs75 h75 hD75 hR75
  obtain ⟨lv3, kv3, hcs3, _, _, _, _, _, _⟩ := hR75.open
  subst hcs3
  refine w_ld rfl (hc_ds0 hD75 (show _ = some (Value.int .i64 3) from rfl)) ?_
  (apply w_gT; rfl; apply w_eql; rfl; rfl; apply w_pickTb; rfl; rfl; apply w_mvb; rfl; apply w_done0; apply w_ret)
  exact finQ rfl
theorem cmpTop_errs {a b : V} : (cmpTop a b).2 = 0 ↔ rightV a = 0 ∧ rightV b = 0 := by
  by_cases p : rightV a = 0
  · by_cases q : rightV b = 0
    · rw [cmpTop, if_neg (by omega), if_neg (by omega)]; simp [p, q]
    · rw [cmpTop, if_neg (by omega), if_pos q]; simp [q]
  · rw [cmpTop, if_pos p]; simp [p]
def g_thimblelaw04_OrderCompares (f_thimblelaw04_great f_thimblelaw04_works f_order_Cmp f_thimbleref04_Cmp : Nat) : GFun :=
 ⟨37, [(.tmp 4)],
 (.seq
 (.reg false (.op false ⟨(some 2), none, (.box (.tmp 0))⟩
  (.op false ⟨(some 3), none, (.box (.tmp 1))⟩
  (.op false ⟨(some 4), none, (.mv (.const (.bool false)))⟩ .done))))
 (.seq (.seq
 (.reg false (.op false ⟨(some 9), none, (.ld (some 6) (.tmp 2))⟩
  (.op false ⟨(some 10), none, (.ld (some 6) (.tmp 3))⟩
  (.op false ⟨(some 11), none, (.bsl 2 6 [(.int .i64 0), (.int .i64 0), (.int .i64 0), (strV []), (.slice none 0 0), (.slice none 0 0)] [(0, (.tmp 9)), (1, (.tmp 10))])⟩
  (.op false ⟨(some 12), none, (.call f_thimblelaw04_great [(.tmp 11)])⟩ .done))))) (.cond (.tmp 12)
 (.seq
 (.reg false (.op false ⟨(some 13), none, (.call f_thimblelaw04_works [])⟩
  (.op false ⟨(some 4), none, (.mv (.tmp 13))⟩ .done))) .ret) .skip))
 (.seq
 (.reg false (.op false ⟨(some 15), none, (.ld (some 6) (.tmp 2))⟩
  (.op false ⟨(some 16), none, (.ld (some 6) (.tmp 3))⟩
  (.op false ⟨(some 17), none, (.call f_order_Cmp [(.tmp 15), (.tmp 16)])⟩
  (.op false ⟨(some 14), none, (.mv (.tmp 17))⟩
  (.op false ⟨(some 18), none, (.ext (.tmp 14) 0)⟩
  (.op false ⟨(some 19), none, (.ext (.tmp 14) 1)⟩
  (.op false ⟨(some 5), none, (.mv (.tmp 18))⟩
  (.op false ⟨(some 6), none, (.mv (.tmp 19))⟩ .done)))))))))
 (.seq
 (.reg false (.op false ⟨(some 21), none, (.ld (some 6) (.tmp 2))⟩
  (.op false ⟨(some 22), none, (.ld (some 6) (.tmp 3))⟩
  (.op false ⟨(some 23), none, (.call f_thimbleref04_Cmp [(.tmp 21), (.tmp 22)])⟩
  (.op false ⟨(some 20), none, (.mv (.tmp 23))⟩
  (.op false ⟨(some 24), none, (.ext (.tmp 20) 0)⟩
  (.op false ⟨(some 25), none, (.ext (.tmp 20) 1)⟩
  (.op false ⟨(some 7), none, (.mv (.tmp 24))⟩
  (.op false ⟨(some 8), none, (.mv (.tmp 25))⟩ .done)))))))))
 (.seq
 (.reg false (.op false ⟨(some 26), none, (.mv (.tmp 5))⟩
  (.op false ⟨(some 27), none, (.mv (.tmp 7))⟩
  (.op false ⟨(some 28), none, (.bin .eql (.tmp 26) (.tmp 27))⟩
  (.op false ⟨(some 29), none, (.mv (.tmp 28))⟩
  (.op false ⟨(some 30), (some (29, true)), (.mv (.tmp 6))⟩
  (.op false ⟨(some 31), (some (29, true)), (.mv (.tmp 8))⟩
  (.op false ⟨(some 32), (some (29, true)), (.bin .eql (.tmp 30) (.tmp 31))⟩
  (.op false ⟨(some 33), none, (.pick (.tmp 29) (.tmp 32) (.const (.bool false)))⟩
  (.op false ⟨(some 34), none, (.mv (.tmp 33))⟩
  (.op false ⟨(some 35), (some (34, true)), (.call f_thimblelaw04_works [])⟩
  (.op false ⟨(some 36), none, (.pick (.tmp 34) (.tmp 35) (.const (.bool false)))⟩
  (.op false ⟨(some 4), none, (.mv (.tmp 36))⟩ .done))))))))))))) .ret)))))⟩

set_option maxHeartbeats 1000000 in
theorem orderCompares_ok {T : PHeap → Prop} {P : Program} {f f1 f2 f3 f4 : FuncId} (hT : ∀ {d d' : PHeap}, Le d d' → T d → T d') (hd : decp P f = some (g_thimblelaw04_OrderCompares f1 f2 f3 f4)) (h1 : Great4Ok P f1) (h2 : W4Ok T P f2) (h3 : CmpTopOk T P f3) (h4 : CmpTopOk T P f4)
    {d : PHeap} {cs ds : List Value} {a b : V} (ht : T d) (ha : RVal d cs a) (hb : RVal d ds b) : GPure P f [.agg cs.toArray, .agg ds.toArray] d (.bool true) := by
  obtain ⟨c0, c1, c2, c3, c4, c5, rfl⟩ := six ha.len
  obtain ⟨e0, e1, e2, e3, e4, e5, rfl⟩ := six hb.len
  refine GPure.of' hd (Nat.le_of_ble_eq_true rfl) ?_
  show gwp P _ _ _ _ _
  apply w_sq; apply w_reg
  refine w_boxa (l := [c0, c1, c2, c3, c4, c5]) rfl (fun b2 T2 => ?_)
  refine w_boxa (l := [e0, e1, e2, e3, e4, e5]) rfl (fun b3 T3 => ?_)
  (apply w_mvb; rfl; apply w_done0; apply w_sq; apply w_sq; apply w_reg; apply w_ldb 1; rfl; rfl; rfl; apply w_ldb 0; rfl; rfl; rfl)
  refine w_bsV2 rfl rfl rfl rfl (fun b11 T11 => ?_)
  refine w_frz (fun d1 hl1 hg1 => ?_)
  have r11 : RVals d1 (.slice (some ⟨b11, 0, none⟩) 2 2) [a, b] := rvals2 (d := d) ha hb hl1 hg1
  have ht1 := hT hl1 ht
  refine w_call0 rfl (h1 r11) (fun r d2 L2 _ ⟨hdd, hL, q, hr, hq⟩ => ?_)
  subst hdd; subst hL; subst hr
  cases q with
  | true =>
    (apply w_done0; apply w_ifT; rfl; apply w_sq; apply w_reg)
    refine w_pure rfl (h2 ht1) ?_
    (apply w_mvb; rfl; apply w_done0; apply w_ret)
    exact finQ rfl
  | false =>
    obtain ⟨_, hbd⟩ := bulk_list (hq rfl)
    obtain ⟨_, da, _⟩ := hbd a (by simp)
    obtain ⟨_, db, _⟩ := hbd b (by simp)
    (apply w_done0; apply w_ifF; rfl; apply w_skip; apply w_sq; apply w_reg; apply w_ldb 1; rfl; rfl; rfl; apply w_ldb 0; rfl; rfl; rfl)
    refine w_pure rfl (h3 a b ht1 (ha.mono hl1) (hb.mono hl1) (by omega) (by omega)) ?_
    (apply w_mvu; rfl; apply w_ext; rfl; rfl; apply w_ext; rfl; rfl; apply w_mvi; rfl; apply w_mvi; rfl; apply w_done0; apply w_sq; apply w_reg; apply w_ldb 1; rfl; rfl; rfl; apply w_ldb 0; rfl; rfl; rfl)
    refine w_pure rfl (h4 a b ht1 (ha.mono hl1) (hb.mono hl1) (by omega) (by omega)) ?_
    (apply w_mvu; rfl; apply w_ext; rfl; rfl; apply w_ext; rfl; rfl; apply w_mvi; rfl; apply w_mvi; rfl; apply w_done0; apply w_sq; apply w_reg; apply w_mvi; rfl; apply w_mvi; rfl; apply w_eql; rfl; rfl; apply w_mvb; rfl; refine w_gdT rfl (by omega) ?_; apply w_gT; rfl; apply w_mvi; rfl; apply w_gT; rfl; apply w_mvi; rfl; apply w_gT; rfl; apply w_eql; rfl; rfl; apply w_pickTb; rfl; rfl; apply w_mvb; rfl; refine w_gdT rfl (by omega) ?_; apply w_gT; rfl)
    refine w_pure rfl (h2 ht1) ?_
    (apply w_pickTb; rfl; rfl; apply w_mvb; rfl; apply w_done0; apply w_ret)
    exact finQ rfl
def g_thimblelaw04_OrderTotal (f_thimblelaw04_works f_thimblelaw04_great f_order_Cmp f_thimbleref03_Same : Nat) : GFun :=
 ⟨115, [(.tmp 6)],
 (.seq
 (.reg false (.op false ⟨(some 3), none, (.box (.tmp 0))⟩
  (.op false ⟨(some 4), none, (.box (.tmp 1))⟩
  (.op false ⟨(some 5), none, (.box (.tmp 2))⟩
  (.op false ⟨(some 6), none, (.mv (.const (.bool false)))⟩ .done)))))
 (.seq (.seq
 (.reg false (.op false ⟨(some 15), none, (.call f_thimblelaw04_works [])⟩
  (.op false ⟨(some 16), none, (.un .not (.tmp 15))⟩ .done))) (.cond (.tmp 16)
 (.seq
 (.reg false (.op false ⟨(some 6), none, (.mv (.const (.bool false)))⟩ .done)) .ret) .skip))
 (.seq (.seq
 (.reg false (.op false ⟨(some 17), none, (.ld (some 6) (.tmp 3))⟩
  (.op false ⟨(some 18), none, (.ld (some 6) (.tmp 4))⟩
  (.op false ⟨(some 19), none, (.ld (some 6) (.tmp 5))⟩
  (.op false ⟨(some 20), none, (.bsl 3 6 [(.int .i64 0), (.int .i64 0), (.int .i64 0), (strV []), (.slice none 0 0), (.slice none 0 0)] [(0, (.tmp 17)), (1, (.tmp 18)), (2, (.tmp 19))])⟩
  (.op false ⟨(some 21), none, (.call f_thimblelaw04_great [(.tmp 20)])⟩ .done)))))) (.cond (.tmp 21)
 (.seq
 (.reg false (.op false ⟨(some 6), none, (.mv (.const (.bool true)))⟩ .done)) .ret) .skip))
 (.seq
 (.reg false (.op false ⟨(some 23), none, (.ld (some 6) (.tmp 3))⟩
  (.op false ⟨(some 24), none, (.ld (some 6) (.tmp 4))⟩
  (.op false ⟨(some 25), none, (.call f_order_Cmp [(.tmp 23), (.tmp 24)])⟩
  (.op false ⟨(some 22), none, (.mv (.tmp 25))⟩
  (.op false ⟨(some 26), none, (.ext (.tmp 22) 0)⟩
  (.op false ⟨(some 27), none, (.ext (.tmp 22) 1)⟩
  (.op false ⟨(some 7), none, (.mv (.tmp 26))⟩
  (.op false ⟨(some 8), none, (.mv (.tmp 27))⟩ .done)))))))))
 (.seq
 (.reg false (.op false ⟨(some 29), none, (.ld (some 6) (.tmp 4))⟩
  (.op false ⟨(some 30), none, (.ld (some 6) (.tmp 3))⟩
  (.op false ⟨(some 31), none, (.call f_order_Cmp [(.tmp 29), (.tmp 30)])⟩
  (.op false ⟨(some 28), none, (.mv (.tmp 31))⟩
  (.op false ⟨(some 32), none, (.ext (.tmp 28) 0)⟩
  (.op false ⟨(some 33), none, (.ext (.tmp 28) 1)⟩
  (.op false ⟨(some 9), none, (.mv (.tmp 32))⟩
  (.op false ⟨(some 10), none, (.mv (.tmp 33))⟩ .done)))))))))
 (.seq
 (.reg false (.op false ⟨(some 35), none, (.ld (some 6) (.tmp 4))⟩
  (.op false ⟨(some 36), none, (.ld (some 6) (.tmp 5))⟩
  (.op false ⟨(some 37), none, (.call f_order_Cmp [(.tmp 35), (.tmp 36)])⟩
  (.op false ⟨(some 34), none, (.mv (.tmp 37))⟩
  (.op false ⟨(some 38), none, (.ext (.tmp 34) 0)⟩
  (.op false ⟨(some 39), none, (.ext (.tmp 34) 1)⟩
  (.op false ⟨(some 11), none, (.mv (.tmp 38))⟩
  (.op false ⟨(some 12), none, (.mv (.tmp 39))⟩ .done)))))))))
 (.seq
 (.reg false (.op false ⟨(some 41), none, (.ld (some 6) (.tmp 3))⟩
  (.op false ⟨(some 42), none, (.ld (some 6) (.tmp 5))⟩
  (.op false ⟨(some 43), none, (.call f_order_Cmp [(.tmp 41), (.tmp 42)])⟩
  (.op false ⟨(some 40), none, (.mv (.tmp 43))⟩
  (.op false ⟨(some 44), none, (.ext (.tmp 40) 0)⟩
  (.op false ⟨(some 45), none, (.ext (.tmp 40) 1)⟩
  (.op false ⟨(some 13), none, (.mv (.tmp 44))⟩
  (.op false ⟨(some 14), none, (.mv (.tmp 45))⟩ .done)))))))))
 (.seq (.seq
 (.reg false (.op false ⟨(some 46), none, (.mv (.tmp 8))⟩
  (.op false ⟨(some 47), none, (.bin .eql (.tmp 46) (.const (.int .i64 0)))⟩
  (.op false ⟨(some 48), none, (.mv (.tmp 10))⟩
  (.op false ⟨(some 49), none, (.bin .eql (.tmp 48) (.const (.int .i64 0)))⟩
  (.op false ⟨(some 50), none, (.eqb true (.tmp 47) (.tmp 49))⟩ .done)))))) (.cond (.tmp 50)
 (.seq
 (.reg false (.op false ⟨(some 6), none, (.mv (.const (.bool false)))⟩ .done)) .ret) .skip))
 (.seq (.seq
 (.reg false (.op false ⟨(some 51), none, (.mv (.tmp 8))⟩
  (.op false ⟨(some 52), none, (.bin .neq (.tmp 51) (.const (.int .i64 0)))⟩
  (.op false ⟨(some 53), none, (.mv (.tmp 52))⟩
  (.op false ⟨(some 54), (some (53, false)), (.mv (.tmp 12))⟩
  (.op false ⟨(some 55), (some (53, false)), (.bin .neq (.tmp 54) (.const (.int .i64 0)))⟩
  (.op false ⟨(some 56), none, (.pick (.tmp 53) (.const (.bool true)) (.tmp 55))⟩ .done))))))) (.cond (.tmp 56)
 (.seq
 (.reg false (.op false ⟨(some 6), none, (.mv (.const (.bool true)))⟩ .done)) .ret) .skip))
 (.seq (.seq
 (.reg false (.op false ⟨(some 57), none, (.mv (.tmp 14))⟩
  (.op false ⟨(some 58), none, (.bin .neq (.tmp 57) (.const (.int .i64 0)))⟩
  (.op false ⟨(some 59), none, (.mv (.tmp 58))⟩
  (.op false ⟨(some 60), (some (59, false)), (.mv (.tmp 7))⟩
  (.op false ⟨(some 61), (some (59, false)), (.bin .lss (.tmp 60) (.const (.int .i64 (-1))))⟩
  (.op false ⟨(some 62), none, (.pick (.tmp 59) (.const (.bool true)) (.tmp 61))⟩
  (.op false ⟨(some 63), none, (.mv (.tmp 62))⟩
  (.op false ⟨(some 64), (some (63, false)), (.mv (.tmp 7))⟩
  (.op false ⟨(some 65), (some (63, false)), (.bin .gtr (.tmp 64) (.const (.int .i64 1)))⟩
  (.op false ⟨(some 66), none, (.pick (.tmp 63) (.const (.bool true)) (.tmp 65))⟩
  (.op false ⟨(some 67), none, (.mv (.tmp 66))⟩
  (.op false ⟨(some 68), (some (67, false)), (.mv (.tmp 7))⟩
  (.op false ⟨(some 69), (some (67, false)), (.mv (.tmp 9))⟩
  (.op false ⟨(some 70), (some (67, false)), (.un .neg (.tmp 69))⟩
  (.op false ⟨(some 71), (some (67, false)), (.bin .neq (.tmp 68) (.tmp 70))⟩
  (.op false ⟨(some 72), none, (.pick (.tmp 67) (.const (.bool true)) (.tmp 71))⟩
  (.op false ⟨(some 73), none, (.mv (.tmp 72))⟩
  (.op false ⟨(some 74), (some (73, false)), (.mv (.tmp 7))⟩
  (.op false ⟨(some 75), (some (73, false)), (.bin .eql (.tmp 74) (.const (.int .i64 0)))⟩
  (.op false ⟨(some 76), (some (73, false)), (.ld (some 6) (.tmp 3))⟩
  (.op false ⟨(some 77), (some (73, false)), (.ld (some 6) (.tmp 4))⟩
  (.op false ⟨(some 78), (some (73, false)), (.call f_thimbleref03_Same [(.tmp 76), (.tmp 77)])⟩
  (.op false ⟨(some 79), (some (73, false)), (.eqb true (.tmp 75) (.tmp 78))⟩
  (.op false ⟨(some 80), none, (.pick (.tmp 73) (.const (.bool true)) (.tmp 79))⟩ .done))))))))))))))))))))))))) (.cond (.tmp 80)
 (.seq
 (.reg false (.op false ⟨(some 6), none, (.mv (.const (.bool false)))⟩ .done)) .ret) .skip))
 (.seq
 (.reg false (.op false ⟨(some 81), none, (.mv (.tmp 7))⟩
  (.op false ⟨(some 82), none, (.bin .gtr (.tmp 81) (.const (.int .i64 0)))⟩
  (.op false ⟨(some 83), none, (.mv (.tmp 82))⟩
  (.op false ⟨(some 84), (some (83, false)), (.mv (.tmp 11))⟩
  (.op false ⟨(some 85), (some (83, false)), (.bin .gtr (.tmp 84) (.const (.int .i64 0)))⟩
  (.op false ⟨(some 86), none, (.pick (.tmp 83) (.const (.bool true)) (.tmp 85))⟩
  (.op false ⟨(some 87), none, (.mv (.tmp 86))⟩
  (.op false ⟨(some 88), (some (87, false)), (.mv (.tmp 13))⟩
  (.op false ⟨(some 89), (some (87, false)), (.bin .leq (.tmp 88) (.const (.int .i64 0)))⟩
  (.op false ⟨(some 90), none, (.pick (.tmp 87) (.const (.bool true)) (.tmp 89))⟩
  (.op false ⟨(some 91), none, (.mv (.tmp 90))⟩
  (.op false ⟨(some 92), (some (91, true)), (.mv (.tmp 7))⟩
  (.op false ⟨(some 93), (some (91, true)), (.bin .geq (.tmp 92) (.const (.int .i64 0)))⟩
  (.op false ⟨(some 94), (some (91, true)), (.mv (.tmp 93))⟩
  (.op false ⟨(some 95), (some (94, false)), (.mv (.tmp 11))⟩
  (.op false ⟨(some 96), (some (94, false)), (.bin .gtr (.tmp 95) (.const (.int .i64 0)))⟩
  (.op false ⟨(some 97), (some (91, true)), (.pick (.tmp 94) (.const (.bool true)) (.tmp 96))⟩
  (.op false ⟨(some 98), (some (91, true)), (.mv (.tmp 97))⟩
  (.op false ⟨(some 99), (some (98, false)), (.mv (.tmp 13))⟩
  (.op false ⟨(some 100), (some (98, false)), (.bin .lss (.tmp 99) (.const (.int .i64 0)))⟩
  (.op false ⟨(some 101), (some (91, true)), (.pick (.tmp 98) (.const (.bool true)) (.tmp 100))⟩
  (.op false ⟨(some 102), none, (.pick (.tmp 91) (.tmp 101) (.const (.bool false)))⟩
  (.op false ⟨(some 103), none, (.mv (.tmp 102))⟩
  (.op false ⟨(some 104), (some (103, true)), (.mv (.tmp 7))⟩
  (.op false ⟨(some 105), (some (103, true)), (.bin .gtr (.tmp 104) (.const (.int .i64 0)))⟩
  (.op false ⟨(some 106), (some (103, true)), (.mv (.tmp 105))⟩
  (.op false ⟨(some 107), (some (106, false)), (.mv (.tmp 11))⟩
  (.op false ⟨(some 108), (some (106, false)), (.bin .geq (.tmp 107) (.const (.int .i64 0)))⟩
  (.op false ⟨(some 109), (some (103, true)), (.pick (.tmp 106) (.const (.bool true)) (.tmp 108))⟩
  (.op false ⟨(some 110), (some (103, true)), (.mv (.tmp 109))⟩
  (.op false ⟨(some 111), (some (110, false)), (.mv (.tmp 13))⟩
  (.op false ⟨(some 112), (some (110, false)), (.bin .lss (.tmp 111) (.const (.int .i64 0)))⟩
  (.op false ⟨(some 113), (some (103, true)), (.pick (.tmp 110) (.const (.bool true)) (.tmp 112))⟩
  (.op false ⟨(some 114), none, (.pick (.tmp 103) (.tmp 113) (.const (.bool false)))⟩
  (.op false ⟨(some 6), none, (.mv (.tmp 114))⟩ .done)))))))))))))))))))))))))))))))))))) .ret)))))))))))⟩

set_option maxHeartbeats 2000000 in
theorem orderTotal_ok {T : PHeap → Prop} {P : Program} {f f1 f2 f3 f4 : FuncId} (hT : ∀ {d d' : PHeap}, Le d d' → T d → T d') (hd : decp P f = some (g_thimblelaw04_OrderTotal f1 f2 f3 f4)) (h1 : W4Ok T P f1) (h2 : Great4Ok P f2) (h3 : CmpTopOk T P f3) (h4 : SameOk P f4)
    {d : PHeap} {cs ds es : List Value} {a b c : V} (ht : T d) (ha : RVal d cs a) (hb : RVal d ds b) (hc : RVal d es c) : GPure P f [.agg cs.toArray, .agg ds.toArray, .agg es.toArray] d (.bool true) := by
  obtain ⟨c0, c1, c2, c3, c4, c5, rfl⟩ := six ha.len
  obtain ⟨e0, e1, e2, e3, e4, e5, rfl⟩ := six hb.len
  obtain ⟨m0, m1, m2, m3, m4, m5, rfl⟩ := six hc.len
  refine GPure.of' hd (Nat.le_of_ble_eq_true rfl) ?_
  show gwp P _ _ _ _ _
  apply w_sq; apply w_reg
  refine w_boxa (l := [c0, c1, c2, c3, c4, c5]) rfl (fun b3 T3 => ?_)
  refine w_boxa (l := [e0, e1, e2, e3, e4, e5]) rfl (fun b4 T4 => ?_)
  refine w_boxa (l := [m0, m1, m2, m3, m4, m5]) rfl (fun b5 T5 => ?_)
  (apply w_mvb; rfl; apply w_done0; apply w_sq; apply w_sq; apply w_reg)
  refine w_pure rfl (h1 ht) ?_
  (apply w_not; rfl; apply w_done0; apply w_ifF; rfl; apply w_skip; apply w_sq; apply w_sq; apply w_reg; apply w_ldb 2; rfl; rfl; rfl; apply w_ldb 1; rfl; rfl; rfl; apply w_ldb 0; rfl; rfl; rfl)
  refine w_bsV3 rfl rfl rfl rfl rfl rfl (fun b20 T20 => ?_)
  refine w_frz (fun d1 hl1 hg1 => ?_)
  have r20 : RVals d1 (.slice (some ⟨b20, 0, none⟩) 3 3) [a, b, c] := rvals3 (d := d) ha hb hc hl1 hg1
  have ht1 := hT hl1 ht
  refine w_call0 rfl (h2 r20) (fun r d2 L2 _ ⟨hdd, hL, q, hr, hq⟩ => ?_)
  subst hdd; subst hL; subst hr
  cases q with
  | true =>
    (apply w_done0; apply w_ifT; rfl; apply w_sq; apply w_reg; apply w_mvb; rfl; apply w_done0; apply w_ret)
    exact finQ rfl
  | false =>
    obtain ⟨_, hbd⟩ := bulk_list (hq rfl)
    obtain ⟨_, da, _⟩ := hbd a (by simp)
    obtain ⟨_, db, _⟩ := hbd b (by simp)
    obtain ⟨_, dc, _⟩ := hbd c (by simp)
    have ha1 := ha.mono hl1
    have hb1 := hb.mono hl1
    have hc1 := hc.mono hl1
    have qa := right_small a
    have qb := right_small b
    have qc := right_small c
    (apply w_done0; apply w_ifF; rfl; apply w_skip; apply w_sq; apply w_reg; apply w_ldb 2; rfl; rfl; rfl; apply w_ldb 1; rfl; rfl; rfl)
    refine w_pure rfl (h3 a b ht1 ha1 hb1 (by omega) (by omega)) ?_
    (apply w_mvu; rfl; apply w_ext; rfl; rfl; apply w_ext; rfl; rfl; apply w_mvi; rfl; apply w_mvi; rfl; apply w_done0; apply w_sq; apply w_reg; apply w_ldb 1; rfl; rfl; rfl; apply w_ldb 2; rfl; rfl; rfl)
    refine w_pure rfl (h3 b a ht1 hb1 ha1 (by omega) (by omega)) ?_
    (apply w_mvu; rfl; apply w_ext; rfl; rfl; apply w_ext; rfl; rfl; apply w_mvi; rfl; apply w_mvi; rfl; apply w_done0; apply w_sq; apply w_reg; apply w_ldb 1; rfl; rfl; rfl; apply w_ldb 0; rfl; rfl; rfl)
    refine w_pure rfl (h3 b c ht1 hb1 hc1 (by omega) (by omega)) ?_
    (apply w_mvu; rfl; apply w_ext; rfl; rfl; apply w_ext; rfl; rfl; apply w_mvi; rfl; apply w_mvi; rfl; apply w_done0; apply w_sq; apply w_reg; apply w_ldb 2; rfl; rfl; rfl; apply w_ldb 0; rfl; rfl; rfl)
    refine w_pure rfl (h3 a c ht1 ha1 hc1 (by omega) (by omega)) ?_
    by_cases pa : rightV a = 0
    · by_cases pb : rightV b = 0
      · have e1 : cmpTop a b = (cmpV a b, 0) := by rw [cmpTop, if_neg (by omega), if_neg (by omega)]
        have e2 : cmpTop b a = (cmpV b a, 0) := by rw [cmpTop, if_neg (by omega), if_neg (by omega)]
        have hq1 : (true ^^ (decide ((0 : Int) = 0) == decide ((0 : Int) = 0))) = false := by rfl
        rw [e1, e2]
        by_cases pc : rightV c = 0
        · have e3 : cmpTop b c = (cmpV b c, 0) := by rw [cmpTop, if_neg (by omega), if_neg (by omega)]
          have e4 : cmpTop a c = (cmpV a c, 0) := by rw [cmpTop, if_neg (by omega), if_neg (by omega)]
          rw [e3, e4]
          have hx := cmpV_i a b
          have hsw := cmpV_swap a b
          obtain ⟨t1, t2, t3, t4⟩ := cmpV_trans a b c
          have hq2 : (true ^^ (decide (cmpV a b = 0) == sameV a b)) = false := by
            have h0 := cmpV_zero (wrongL_may (l := [a]) (by rw [wrongL, if_neg (by omega)]; rfl) a (by simp)) (wrongL_may (l := [b]) (by rw [wrongL, if_neg (by omega)]; rfl) b (by simp))
            by_cases q : a = b
            · have s1 : sameV a b = true := (sameV_iff _ _).2 q
              rw [s1, decide_eq_true (h0.2 q)]; rfl
            · have s1 : sameV a b = false := by rw [Bool.eq_false_iff]; exact fun h => q ((sameV_iff _ _).1 h)
              rw [s1, decide_eq_false (fun h => q (h0.1 h))]; rfl
          (apply w_mvu; rfl; apply w_ext; rfl; rfl; apply w_ext; rfl; rfl; apply w_mvi; rfl; apply w_mvi; rfl; apply w_done0; apply w_sq; apply w_sq; apply w_reg; apply w_mvi; rfl; apply w_eql; rfl; rfl; apply w_mvi; rfl; apply w_eql; rfl; rfl; apply w_eqb; rfl; rfl; apply w_done0; apply w_ifbF; rfl; (with_reducible assumption); apply w_skip; apply w_sq; apply w_sq; apply w_reg; apply w_mvi; rfl; apply w_neq; rfl; rfl; apply w_mvb; rfl; refine w_gdF rfl (by omega) ?_; apply w_gT; rfl; apply w_mvi; rfl; apply w_gT; rfl; apply w_neq; rfl; rfl; apply w_pickFb; rfl; rfl; apply w_done0; refine w_ifdF rfl (by omega) ?_; apply w_skip; apply w_sq; apply w_sq; apply w_reg; apply w_mvi; rfl; apply w_neq; rfl; rfl; apply w_mvb; rfl; refine w_gdF rfl (by omega) ?_; apply w_gT; rfl; apply w_mvi; rfl; apply w_gT; rfl; apply w_lss; rfl; rfl; apply w_pickFb; rfl; rfl; apply w_mvb; rfl; refine w_gdF rfl (by omega) ?_; apply w_gT; rfl; apply w_mvi; rfl; apply w_gT; rfl; apply w_gtr; rfl; rfl; apply w_pickFb; rfl; rfl; apply w_mvb; rfl; refine w_gdF rfl (by omega) ?_; apply w_gT; rfl; apply w_mvi; rfl; apply w_gT; rfl; apply w_mvi; rfl; apply w_gT; rfl; apply w_neg; rfl; omega; omega; apply w_gT; rfl; apply w_neq; rfl; rfl; apply w_pickFb; rfl; rfl; apply w_mvb; rfl; refine w_gdF rfl (by omega) ?_; apply w_gT; rfl; apply w_mvi; rfl; apply w_gT; rfl; apply w_eql; rfl; rfl; apply w_gT; rfl; apply w_ldb 2; rfl; rfl; rfl; apply w_gT; rfl; apply w_ldb 1; rfl; rfl; rfl; apply w_gT; rfl)
          refine w_pure rfl (h4 a b ha1 hb1) ?_
          by_cases x1 : 0 < cmpV a b
          · (apply w_gT; rfl; apply w_eqb; rfl; rfl; apply w_pickFb; rfl; rfl; apply w_done0; apply w_ifbF; rfl; (with_reducible assumption); apply w_skip; apply w_sq; apply w_reg; apply w_mvi; rfl; apply w_gtr; rfl; rfl; apply w_mvb; rfl; refine w_gdT rfl (by omega) ?_; apply w_gF; rfl; apply w_gF; rfl; apply w_pickTb; rfl; rfl; apply w_mvb; rfl; apply w_gF; rfl; apply w_gF; rfl; apply w_pickTb; rfl; rfl; apply w_mvb; rfl; apply w_gT; rfl; apply w_mvi; rfl; apply w_gT; rfl; apply w_geq; rfl; rfl; apply w_gT; rfl; apply w_mvb; rfl; refine w_gdT rfl (by omega) ?_; apply w_gF; rfl; apply w_gF; rfl; apply w_gT; rfl; apply w_pickTb; rfl; rfl; apply w_gT; rfl; apply w_mvb; rfl; apply w_gF; rfl; apply w_gF; rfl; apply w_gT; rfl; apply w_pickTb; rfl; rfl; apply w_pickTb; rfl; rfl; apply w_mvb; rfl; apply w_gT; rfl; apply w_mvi; rfl; apply w_gT; rfl; apply w_gtr; rfl; rfl; apply w_gT; rfl; apply w_mvb; rfl; refine w_gdT rfl (by omega) ?_; apply w_gF; rfl; apply w_gF; rfl; apply w_gT; rfl; apply w_pickTb; rfl; rfl; apply w_gT; rfl; apply w_mvb; rfl; apply w_gF; rfl; apply w_gF; rfl; apply w_gT; rfl; apply w_pickTb; rfl; rfl; apply w_pickTb; rfl; rfl; apply w_mvb; rfl; apply w_done0; apply w_ret)
            first | exact finQ rfl | exact finQb rfl (decide_eq_true (by omega))
          by_cases z1 : 0 < cmpV b c
          · by_cases x2 : cmpV a b < 0
            · (apply w_gT; rfl; apply w_eqb; rfl; rfl; apply w_pickFb; rfl; rfl; apply w_done0; apply w_ifbF; rfl; (with_reducible assumption); apply w_skip; apply w_sq; apply w_reg; apply w_mvi; rfl; apply w_gtr; rfl; rfl; apply w_mvb; rfl; refine w_gdF rfl (by omega) ?_; apply w_gT; rfl; apply w_mvi; rfl; apply w_gT; rfl; apply w_gtr; rfl; rfl; apply w_pickFb; rfl; rfl; apply w_mvb; rfl; refine w_gdT rfl (by omega) ?_; apply w_gF; rfl; apply w_gF; rfl; apply w_pickTb; rfl; rfl; apply w_mvb; rfl; apply w_gT; rfl; apply w_mvi; rfl; apply w_gT; rfl; apply w_geq; rfl; rfl; apply w_gT; rfl; apply w_mvb; rfl; refine w_gdF rfl (by omega) ?_; apply w_gT; rfl; apply w_mvi; rfl; apply w_gT; rfl; apply w_gtr; rfl; rfl; apply w_gT; rfl; apply w_pickFb; rfl; rfl; apply w_gT; rfl; apply w_mvb; rfl; refine w_gdT rfl (by omega) ?_; apply w_gF; rfl; apply w_gF; rfl; apply w_gT; rfl; apply w_pickTb; rfl; rfl; apply w_pickTb; rfl; rfl; apply w_mvb; rfl; apply w_gT; rfl; apply w_mvi; rfl; apply w_gT; rfl; apply w_gtr; rfl; rfl; apply w_gT; rfl; apply w_mvb; rfl; refine w_gdF rfl (by omega) ?_; apply w_gT; rfl; apply w_mvi; rfl; apply w_gT; rfl; apply w_geq; rfl; rfl; apply w_gT; rfl; apply w_pickFb; rfl; rfl; apply w_gT; rfl; apply w_mvb; rfl; refine w_gdT rfl (by omega) ?_; apply w_gF; rfl; apply w_gF; rfl; apply w_gT; rfl; apply w_pickTb; rfl; rfl; apply w_pickTb; rfl; rfl; apply w_mvb; rfl; apply w_done0; apply w_ret)
              first | exact finQ rfl | exact finQb rfl (decide_eq_true (by omega))
            · (apply w_gT; rfl; apply w_eqb; rfl; rfl; apply w_pickFb; rfl; rfl; apply w_done0; apply w_ifbF; rfl; (with_reducible assumption); apply w_skip; apply w_sq; apply w_reg; apply w_mvi; rfl; apply w_gtr; rfl; rfl; apply w_mvb; rfl; refine w_gdF rfl (by omega) ?_; apply w_gT; rfl; apply w_mvi; rfl; apply w_gT; rfl; apply w_gtr; rfl; rfl; apply w_pickFb; rfl; rfl; apply w_mvb; rfl; refine w_gdT rfl (by omega) ?_; apply w_gF; rfl; apply w_gF; rfl; apply w_pickTb; rfl; rfl; apply w_mvb; rfl; apply w_gT; rfl; apply w_mvi; rfl; apply w_gT; rfl; apply w_geq; rfl; rfl; apply w_gT; rfl; apply w_mvb; rfl; refine w_gdT rfl (by omega) ?_; apply w_gF; rfl; apply w_gF; rfl; apply w_gT; rfl; apply w_pickTb; rfl; rfl; apply w_gT; rfl; apply w_mvb; rfl; apply w_gF; rfl; apply w_gF; rfl; apply w_gT; rfl; apply w_pickTb; rfl; rfl; apply w_pickTb; rfl; rfl; apply w_mvb; rfl; apply w_gT; rfl; apply w_mvi; rfl; apply w_gT; rfl; apply w_gtr; rfl; rfl; apply w_gT; rfl; apply w_mvb; rfl; refine w_gdF rfl (by omega) ?_; apply w_gT; rfl; apply w_mvi; rfl; apply w_gT; rfl; apply w_geq; rfl; rfl; apply w_gT; rfl; apply w_pickFb; rfl; rfl; apply w_gT; rfl; apply w_mvb; rfl; refine w_gdT rfl (by omega) ?_; apply w_gF; rfl; apply w_gF; rfl; apply w_gT; rfl; apply w_pickTb; rfl; rfl; apply w_pickTb; rfl; rfl; apply w_mvb; rfl; apply w_done0; apply w_ret)
              first | exact finQ rfl | exact finQb rfl (decide_eq_true (by omega))
          have hw := t1 (by omega) (by omega)
          by_cases x2 : cmpV a b < 0
          · have hw2 := t2 x2 (by omega)
            by_cases z2 : cmpV b c < 0
            · (apply w_gT; rfl; apply w_eqb; rfl; rfl; apply w_pickFb; rfl; rfl; apply w_done0; apply w_ifbF; rfl; (with_reducible assumption); apply w_skip; apply w_sq; apply w_reg; apply w_mvi; rfl; apply w_gtr; rfl; rfl; apply w_mvb; rfl; refine w_gdF rfl (by omega) ?_; apply w_gT; rfl; apply w_mvi; rfl; apply w_gT; rfl; apply w_gtr; rfl; rfl; apply w_pickFb; rfl; rfl; apply w_mvb; rfl; refine w_gdF rfl (by omega) ?_; apply w_gT; rfl; apply w_mvi; rfl; apply w_gT; rfl; apply w_leq; rfl; rfl; apply w_pickFb; rfl; rfl; apply w_mvb; rfl; refine w_gdT rfl (by omega) ?_; apply w_gT; rfl; apply w_mvi; rfl; apply w_gT; rfl; apply w_geq; rfl; rfl; apply w_gT; rfl; apply w_mvb; rfl; refine w_gdF rfl (by omega) ?_; apply w_gT; rfl; apply w_mvi; rfl; apply w_gT; rfl; apply w_gtr; rfl; rfl; apply w_gT; rfl; apply w_pickFb; rfl; rfl; apply w_gT; rfl; apply w_mvb; rfl; refine w_gdF rfl (by omega) ?_; apply w_gT; rfl; apply w_mvi; rfl; apply w_gT; rfl; apply w_lss; rfl; rfl; apply w_gT; rfl; apply w_pickFb; rfl; rfl; apply w_pickTb; rfl; rfl; apply w_mvb; rfl; refine w_gdT rfl (by omega) ?_; apply w_gT; rfl; apply w_mvi; rfl; apply w_gT; rfl; apply w_gtr; rfl; rfl; apply w_gT; rfl; apply w_mvb; rfl; refine w_gdF rfl (by omega) ?_; apply w_gT; rfl; apply w_mvi; rfl; apply w_gT; rfl; apply w_geq; rfl; rfl; apply w_gT; rfl; apply w_pickFb; rfl; rfl; apply w_gT; rfl; apply w_mvb; rfl; refine w_gdF rfl (by omega) ?_; apply w_gT; rfl; apply w_mvi; rfl; apply w_gT; rfl; apply w_lss; rfl; rfl; apply w_gT; rfl; apply w_pickFb; rfl; rfl; apply w_pickTb; rfl; rfl; apply w_mvb; rfl; apply w_done0; apply w_ret)
              first | exact finQ rfl | exact finQb rfl (decide_eq_true (by omega))
            · (apply w_gT; rfl; apply w_eqb; rfl; rfl; apply w_pickFb; rfl; rfl; apply w_done0; apply w_ifbF; rfl; (with_reducible assumption); apply w_skip; apply w_sq; apply w_reg; apply w_mvi; rfl; apply w_gtr; rfl; rfl; apply w_mvb; rfl; refine w_gdF rfl (by omega) ?_; apply w_gT; rfl; apply w_mvi; rfl; apply w_gT; rfl; apply w_gtr; rfl; rfl; apply w_pickFb; rfl; rfl; apply w_mvb; rfl; refine w_gdF rfl (by omega) ?_; apply w_gT; rfl; apply w_mvi; rfl; apply w_gT; rfl; apply w_leq; rfl; rfl; apply w_pickFb; rfl; rfl; apply w_mvb; rfl; refine w_gdT rfl (by omega) ?_; apply w_gT; rfl; apply w_mvi; rfl; apply w_gT; rfl; apply w_geq; rfl; rfl; apply w_gT; rfl; apply w_mvb; rfl; refine w_gdF rfl (by omega) ?_; apply w_gT; rfl; apply w_mvi; rfl; apply w_gT; rfl; apply w_gtr; rfl; rfl; apply w_gT; rfl; apply w_pickFb; rfl; rfl; apply w_gT; rfl; apply w_mvb; rfl; refine w_gdF rfl (by omega) ?_; apply w_gT; rfl; apply w_mvi; rfl; apply w_gT; rfl; apply w_lss; rfl; rfl; apply w_gT; rfl; apply w_pickFb; rfl; rfl; apply w_pickTb; rfl; rfl; apply w_mvb; rfl; refine w_gdT rfl (by omega) ?_; apply w_gT; rfl; apply w_mvi; rfl; apply w_gT; rfl; apply w_gtr; rfl; rfl; apply w_gT; rfl; apply w_mvb; rfl; refine w_gdF rfl (by omega) ?_; apply w_gT; rfl; apply w_mvi; rfl; apply w_gT; rfl; apply w_geq; rfl; rfl; apply w_gT; rfl; apply w_pickFb; rfl; rfl; apply w_gT; rfl; apply w_mvb; rfl; refine w_gdT rfl (by omega) ?_; apply w_gF; rfl; apply w_gF; rfl; apply w_gT; rfl; apply w_pickTb; rfl; rfl; apply w_pickTb; rfl; rfl; apply w_mvb; rfl; apply w_done0; apply w_ret)
              first | exact finQ rfl | exact finQb rfl (decide_eq_true (by omega))
          · by_cases z2 : cmpV b c < 0
            · have hw3 := t3 (by omega) z2
              (apply w_gT; rfl; apply w_eqb; rfl; rfl; apply w_pickFb; rfl; rfl; apply w_done0; apply w_ifbF; rfl; (with_reducible assumption); apply w_skip; apply w_sq; apply w_reg; apply w_mvi; rfl; apply w_gtr; rfl; rfl; apply w_mvb; rfl; refine w_gdF rfl (by omega) ?_; apply w_gT; rfl; apply w_mvi; rfl; apply w_gT; rfl; apply w_gtr; rfl; rfl; apply w_pickFb; rfl; rfl; apply w_mvb; rfl; refine w_gdF rfl (by omega) ?_; apply w_gT; rfl; apply w_mvi; rfl; apply w_gT; rfl; apply w_leq; rfl; rfl; apply w_pickFb; rfl; rfl; apply w_mvb; rfl; refine w_gdT rfl (by omega) ?_; apply w_gT; rfl; apply w_mvi; rfl; apply w_gT; rfl; apply w_geq; rfl; rfl; apply w_gT; rfl; apply w_mvb; rfl; refine w_gdT rfl (by omega) ?_; apply w_gF; rfl; apply w_gF; rfl; apply w_gT; rfl; apply w_pickTb; rfl; rfl; apply w_gT; rfl; apply w_mvb; rfl; apply w_gF; rfl; apply w_gF; rfl; apply w_gT; rfl; apply w_pickTb; rfl; rfl; apply w_pickTb; rfl; rfl; apply w_mvb; rfl; apply w_gT; rfl; apply w_mvi; rfl; apply w_gT; rfl; apply w_gtr; rfl; rfl; apply w_gT; rfl; apply w_mvb; rfl; refine w_gdF rfl (by omega) ?_; apply w_gT; rfl; apply w_mvi; rfl; apply w_gT; rfl; apply w_geq; rfl; rfl; apply w_gT; rfl; apply w_pickFb; rfl; rfl; apply w_gT; rfl; apply w_mvb; rfl; refine w_gdF rfl (by omega) ?_; apply w_gT; rfl; apply w_mvi; rfl; apply w_gT; rfl; apply w_lss; rfl; rfl; apply w_gT; rfl; apply w_pickFb; rfl; rfl; apply w_pickTb; rfl; rfl; apply w_mvb; rfl; apply w_done0; apply w_ret)
              first | exact finQ rfl | exact finQb rfl (decide_eq_true (by omega))
            · (apply w_gT; rfl; apply w_eqb; rfl; rfl; apply w_pickFb; rfl; rfl; apply w_done0; apply w_ifbF; rfl; (with_reducible assumption); apply w_skip; apply w_sq; apply w_reg; apply w_mvi; rfl; apply w_gtr; rfl; rfl; apply w_mvb; rfl; refine w_gdF rfl (by omega) ?_; apply w_gT; rfl; apply w_mvi; rfl; apply w_gT; rfl; apply w_gtr; rfl; rfl; apply w_pickFb; rfl; rfl; apply w_mvb; rfl; refine w_gdF rfl (by omega) ?_; apply w_gT; rfl; apply w_mvi; rfl; apply w_gT; rfl; apply w_leq; rfl; rfl; apply w_pickFb; rfl; rfl; apply w_mvb; rfl; refine w_gdT rfl (by omega) ?_; apply w_gT; rfl; apply w_mvi; rfl; apply w_gT; rfl; apply w_geq; rfl; rfl; apply w_gT; rfl; apply w_mvb; rfl; refine w_gdT rfl (by omega) ?_; apply w_gF; rfl; apply w_gF; rfl; apply w_gT; rfl; apply w_pickTb; rfl; rfl; apply w_gT; rfl; apply w_mvb; rfl; apply w_gF; rfl; apply w_gF; rfl; apply w_gT; rfl; apply w_pickTb; rfl; rfl; apply w_pickTb; rfl; rfl; apply w_mvb; rfl; apply w_gT; rfl; apply w_mvi; rfl; apply w_gT; rfl; apply w_gtr; rfl; rfl; apply w_gT; rfl; apply w_mvb; rfl; refine w_gdF rfl (by omega) ?_; apply w_gT; rfl; apply w_mvi; rfl; apply w_gT; rfl; apply w_geq; rfl; rfl; apply w_gT; rfl; apply w_pickFb; rfl; rfl; apply w_gT; rfl; apply w_mvb; rfl; refine w_gdT rfl (by omega) ?_; apply w_gF; rfl; apply w_gF; rfl; apply w_gT; rfl; apply w_pickTb; rfl; rfl; apply w_pickTb; rfl; rfl; apply w_mvb; rfl; apply w_done0; apply w_ret)
              first | exact finQ rfl | exact finQb rfl (decide_eq_true (by omega))
        · have e3 : cmpTop b c = (0, rightV c) := by rw [cmpTop, if_neg (by omega), if_pos pc]
          rw [e3]
          (apply w_mvu; rfl; apply w_ext; rfl; rfl; apply w_ext; rfl; rfl; apply w_mvi; rfl; apply w_mvi; rfl; apply w_done0; apply w_sq; apply w_sq; apply w_reg; apply w_mvi; rfl; apply w_eql; rfl; rfl; apply w_mvi; rfl; apply w_eql; rfl; rfl; apply w_eqb; rfl; rfl; apply w_done0; apply w_ifbF; rfl; (with_reducible assumption); apply w_skip; apply w_sq; apply w_sq; apply w_reg; apply w_mvi; rfl; apply w_neq; rfl; rfl; apply w_mvb; rfl; refine w_gdF rfl (by omega) ?_; apply w_gT; rfl; apply w_mvi; rfl; apply w_gT; rfl; apply w_neq; rfl; rfl; apply w_pickFb; rfl; rfl; apply w_done0; refine w_ifdT rfl (by omega) ?_; apply w_sq; apply w_reg; apply w_mvb; rfl; apply w_done0; apply w_ret)
          exact finQ rfl
      · have e1 : cmpTop a b = (0, rightV b) := by rw [cmpTop, if_neg (by omega), if_pos pb]
        have e2 : cmpTop b a = (0, rightV b) := by rw [cmpTop, if_pos pb]
        have hq1 : (true ^^ (decide (rightV b = 0) == decide (rightV b = 0))) = false := by simp
        rw [e1, e2]
        (apply w_mvu; rfl; apply w_ext; rfl; rfl; apply w_ext; rfl; rfl; apply w_mvi; rfl; apply w_mvi; rfl; apply w_done0; apply w_sq; apply w_sq; apply w_reg; apply w_mvi; rfl; apply w_eql; rfl; rfl; apply w_mvi; rfl; apply w_eql; rfl; rfl; apply w_eqb; rfl; rfl; apply w_done0; apply w_ifbF; rfl; (with_reducible assumption); apply w_skip; apply w_sq; apply w_sq; apply w_reg; apply w_mvi; rfl; apply w_neq; rfl; rfl; apply w_mvb; rfl; refine w_gdT rfl (by omega) ?_; apply w_gF; rfl; apply w_gF; rfl; apply w_pickTb; rfl; rfl; apply w_done0; apply w_ifT; rfl; apply w_sq; apply w_reg; apply w_mvb; rfl; apply w_done0; apply w_ret)
        exact finQ rfl
    · have e1 : cmpTop a b = (0, rightV a) := by rw [cmpTop, if_pos pa]
      obtain ⟨eb, e2, heb⟩ : ∃ eb, cmpTop b a = (0, eb) ∧ eb ≠ 0 := by
        by_cases pb : rightV b = 0
        · exact ⟨rightV a, by rw [cmpTop, if_neg (by omega), if_pos pa], pa⟩
        · exact ⟨rightV b, by rw [cmpTop, if_pos pb], pb⟩
      have hq1 : (true ^^ (decide (rightV a = 0) == decide (eb = 0))) = false := by simp [pa, heb]
      rw [e1, e2]
      (apply w_mvu; rfl; apply w_ext; rfl; rfl; apply w_ext; rfl; rfl; apply w_mvi; rfl; apply w_mvi; rfl; apply w_done0; apply w_sq; apply w_sq; apply w_reg; apply w_mvi; rfl; apply w_eql; rfl; rfl; apply w_mvi; rfl; apply w_eql; rfl; rfl; apply w_eqb; rfl; rfl; apply w_done0; apply w_ifbF; rfl; (with_reducible assumption); apply w_skip; apply w_sq; apply w_sq; apply w_reg; apply w_mvi; rfl; apply w_neq; rfl; rfl; apply w_mvb; rfl; refine w_gdT rfl (by omega) ?_; apply w_gF; rfl; apply w_gF; rfl; apply w_pickTb; rfl; rfl; apply w_done0; apply w_ifT; rfl; apply w_sq; apply w_reg; apply w_mvb; rfl; apply w_done0; apply w_ret)
      exact finQ rfl
end Go.Gk.Val
end
