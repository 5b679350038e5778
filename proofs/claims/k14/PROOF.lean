import PyProof.Rows.All
import Wide.All
import OpenK.AllK
import Wide.FinOn
import HandS.ForMost
import HandS.IsInst
import HandS.TryOnly
import HandS.ForExc
import HandS.ExcIs
import HandS.ExcInit
import HandS.ExcField
import KE.KExcIs
import HandS.Wide
import HandS.WideBits
import HandS.SortKw
import HandS.Style
import HandS.Text
import HandS.Codes
import HandS.FStr
import HandS.ClsMeth
import HandS.DictComp
import HandS.ListItems
import HandS.Deep
import KE.GoesEnum
import KE.GoesMore
import HandS.Conv
import KE.SortUse
import HandS.DictTup
import KE.DatumOrd
import KE.GoesRaise
import PySem.Challenge.RW_chancehall_k14_rows_walked
set_option Elab.async false
set_option linter.all false
set_option maxRecDepth 100000
set_option maxHeartbeats 4000000
set_option synthInstance.maxSize 2000
namespace P.My
open PySem L2
def top (i : Nat) : Stmt := PySem.Challenge.pw_chancehall_k14_rows_walked.main.body.getD i (.Pass ⟨0, 0, 0, 0⟩)
end P.My
namespace PHd
open PySem PySem.W PySem.Calls PyProof.Rows L2 P.My
noncomputable def spl : List Obj → List Obj × List Obj
  | [] => ([], [])
  | x :: r => (x :: (spl r).2, (spl r).1)
noncomputable def mkT : Nat → List Obj → BT
  | 0, _ => .nil
  | _, [] => .nil
  | n + 1, x :: r => .node x (mkT n (spl r).1) (mkT n (spl r).2)
noncomputable def s0 : Str := .ofString "<module>"
noncomputable def s1 : Str := .ofString "/claim/cut.py"
noncomputable def s2 : Str := .ofString "__main__"
noncomputable def s3 : Str := .ofString "__name__"
noncomputable def s4 : Str := .ofString "law_chancehall_k14_rows_walked"
noncomputable def s5 : Str := .ofString "__doc__"
noncomputable def s6 : Str := .ofString "__package__"
noncomputable def s7 : Str := .ofString "__loader__"
noncomputable def s8 : Str := .ofString "__spec__"
noncomputable def s9 : Str := .ofString "__annotations__"
noncomputable def s10 : Str := .ofString "__builtins__"
noncomputable def s11 : Str := .ofString "__file__"
noncomputable def s12 : Str := .ofString "__cached__"
noncomputable def s13 : Str := .ofString "HallError"
noncomputable def s14 : Str := .ofString "NoNumber"
noncomputable def s15 : Str := .ofString "is_whole"
noncomputable def s16 : Str := .ofString "divisor"
noncomputable def s17 : Str := .ofString "ratio"
noncomputable def s18 : Str := .ofString "plus"
noncomputable def s19 : Str := .ofString "times"
noncomputable def s20 : Str := .ofString "added"
noncomputable def s21 : Str := .ofString "stepped"
noncomputable def s22 : Str := .ofString "walked"
noncomputable def s23 : Str := .ofString "_law_cell"
noncomputable def s24 : Str := .ofString "_law_stream"
noncomputable def s25 : Str := .ofString "_law_gcd"
noncomputable def s26 : Str := .ofString "__module__"
noncomputable def s27 : Str := .ofString "chancehall.errors"
noncomputable def s28 : Str := .ofString "__qualname__"
noncomputable def s29 : Str := .ofString "__firstlineno__"
noncomputable def s30 : Str := .ofString "__static_attributes__"
noncomputable def s31 : Str := .ofString "__weakref__"
noncomputable def s32 : Str := .ofString "thing"
noncomputable def s33 : Str := .ofString "chancehall.wholes"
noncomputable def s34 : Str := .ofString "one"
noncomputable def s35 : Str := .ofString "other"
noncomputable def s36 : Str := .ofString "top"
noncomputable def s37 : Str := .ofString "bottom"
noncomputable def s38 : Str := .ofString "common"
noncomputable def s39 : Str := .ofString "chancehall.ratios"
noncomputable def s40 : Str := .ofString "row"
noncomputable def s41 : Str := .ofString "share"
noncomputable def s42 : Str := .ofString "found"
noncomputable def s43 : Str := .ofString "more"
noncomputable def s44 : Str := .ofString "chancehall.papers"
noncomputable def s45 : Str := .ofString "_law_script"
noncomputable def s46 : Str := .ofString "_law_k"
noncomputable def s47 : Str := .ofString "_law_start"
noncomputable def s48 : Str := .ofString "_law_many"
noncomputable def s49 : Str := .ofString "_law_found"
noncomputable def s50 : Str := .ofString "_law_number"
noncomputable def s51 : Str := .ofString "_law_one"
noncomputable def s52 : Str := .ofString "_law_other"
noncomputable def s53 : Str := .ofString "_law_low"
noncomputable def s54 : Str := .ofString "_law_high"
noncomputable def s55 : Str := .ofString "_law_ratio"
noncomputable def s56 : Str := .ofString "_law_fraction"
noncomputable def s57 : Str := .ofString "_law_rows"
noncomputable def s58 : Str := .ofString "_law_step"
noncomputable def s59 : Str := .ofString "_law_steps"
noncomputable def s60 : Str := .ofString "_law_whole"
noncomputable def s61 : Str := .ofString "_law_is_fraction"
noncomputable def s62 : Str := .ofString "_law_fractions"
noncomputable def s63 : Str := .ofString "_law_sum"
noncomputable def s64 : Str := .ofString "_law_step_done"
noncomputable def s65 : Str := .ofString "_law_alike"
noncomputable def s66 : Str := .ofString "law"
noncomputable def s67 : Str := .ofString "_law_top"
noncomputable def s68 : Str := .ofString "_law_bottom"
noncomputable def s69 : Str := .ofString "_law_common"
noncomputable def s70 : Str := .ofString "_law_two"
noncomputable def s71 : Str := .ofString "_law_share"
noncomputable def s72 : Str := .ofString "_law_more"
noncomputable def s73 : Str := .ofString "_law_due"
noncomputable def s74 : Str := .ofString "_law_row"
noncomputable def o0 (P : Params) : Obj := ⟨(.type SL.s2766695959194262286x5), none, (.seq ⟨[]⟩ 0), ⟨[]⟩⟩
noncomputable def o1 (P : Params) : Obj := ⟨.none, none, (.fields ⟨[]⟩), ⟨[]⟩⟩
noncomputable def o2 (P : Params) : Obj := ⟨(.type SL.s5856160107412720595x4), none, (.fields ⟨[(.str s0 182), (.str s0 183), (.str s1 184), (.int 1 0), (.int 0 0), (.int 0 0), (.int 0 0), (.int 0 0), (.ref 11), (.bool false), (.int 181 0), (.ref 12), .none, .none, .none, .none, (.int 185 0), (.int 1 0), (.str s1 186)]⟩), ⟨[]⟩⟩
noncomputable def o3 (P : Params) : Obj := ⟨(.type SL.s658472552662922059x5), none, .plain, ⟨[(some (.ref 13)), (some (.ref 3)), (some (.ref 3)), none, (some (.str s2 164)), none, (some (.ref 0))]⟩⟩
noncomputable def o4 (P : Params) : Obj := ⟨(.type SL.s14018661285674007319x4), none, (.dict ⟨[⟨(PyData.keyHash P s3), (.str s3 165), (.str s4 293)⟩, ⟨(PyData.keyHash P s5), (.str s5 166), .none⟩, ⟨(PyData.keyHash P s6), (.str s6 167), .none⟩, ⟨(PyData.keyHash P s7), (.str s7 168), (.builtin SL.s7097527257260152453x26)⟩, ⟨(PyData.keyHash P s8), (.str s8 169), .none⟩, ⟨(PyData.keyHash P s9), (.str s9 170), (.ref 6)⟩, ⟨(PyData.keyHash P s10), (.str s10 171), (.ref 4)⟩, ⟨(PyData.keyHash P s11), (.str s11 173), (.str s1 172)⟩, ⟨(PyData.keyHash P s12), (.str s12 174), .none⟩, ⟨(PyData.keyHash P s13), (.str s13 206), (.ref 24)⟩, ⟨(PyData.keyHash P s14), (.str s14 222), (.ref 37)⟩, ⟨(PyData.keyHash P s15), (.str s15 231), (.ref 46)⟩, ⟨(PyData.keyHash P s16), (.str s16 239), (.ref 53)⟩, ⟨(PyData.keyHash P s17), (.str s17 250), (.ref 60)⟩, ⟨(PyData.keyHash P s18), (.str s18 258), (.ref 67)⟩, ⟨(PyData.keyHash P s19), (.str s19 266), (.ref 74)⟩, ⟨(PyData.keyHash P s20), (.str s20 280), (.ref 81)⟩, ⟨(PyData.keyHash P s21), (.str s21 286), (.ref 86)⟩, ⟨(PyData.keyHash P s22), (.str s22 292), (.ref 91)⟩, ⟨(PyData.keyHash P s23), (.str s23 302), (.ref 98)⟩, ⟨(PyData.keyHash P s24), (.str s24 314), (.ref 105)⟩, ⟨(PyData.keyHash P s25), (.str s25 324), (.ref 112)⟩]⟩ 22), ⟨[]⟩⟩
noncomputable def o5 (P : Params) : Obj := ⟨.none, none, (.fields ⟨[(.int 2 0), (.int 0 0), (.ref 20), (.int 4 0), (.int 0 0), (.ref 33), (.int 7 0), (.int 0 0), (.ref 45), (.int 9 0), (.int 0 0), (.ref 52), (.int 14 0), (.int 0 0), (.ref 59), (.int 21 0), (.int 0 0), (.ref 66), (.int 23 0), (.int 0 0), (.ref 73), (.int 26 0), (.int 0 0), (.ref 80), (.int 34 0), (.int 0 0), (.ref 85), (.int 44 0), (.int 0 0), (.ref 90), (.int 50 0), (.int 0 0), (.ref 97), (.int 52 0), (.int 0 0), (.ref 104), (.int 59 0), (.int 0 0), (.ref 111)]⟩), ⟨[]⟩⟩
noncomputable def o6 (P : Params) : Obj := ⟨(.type SL.s2766695959194262286x5), none, (.seq ⟨[(.type SL.s6070975301684473832x10)]⟩ 0), ⟨[]⟩⟩
noncomputable def o7 (P : Params) : Obj := ⟨(.type SL.s11030030927630378310x26), none, (.fields ⟨[(.builtin SL.s10062305145149207511x16), (.type SL.s17162191345867700912x4)]⟩), ⟨[]⟩⟩
noncomputable def o8 (P : Params) : Obj := ⟨(.type SL.s14018661285674007319x4), none, (.dict ⟨[⟨(PyData.keyHash P s26), (.str s26 196), (.str s27 187)⟩, ⟨(PyData.keyHash P s28), (.str s28 198), (.str s13 197)⟩, ⟨(PyData.keyHash P s29), (.str s29 200), (.int 2 199)⟩, ⟨(PyData.keyHash P s30), (.str s30 201), (.ref 22)⟩]⟩ 4), ⟨[]⟩⟩
noncomputable def o9 (P : Params) : Obj := ⟨(.type SL.s2766695959194262286x5), none, (.seq ⟨[]⟩ 0), ⟨[]⟩⟩
noncomputable def o10 (P : Params) : Obj := ⟨.none, none, (.fields ⟨[]⟩), ⟨[]⟩⟩
noncomputable def o11 (P : Params) : Obj := ⟨(.type SL.s5856160107412720595x4), none, (.fields ⟨[(.str s13 191), (.str s13 192), (.str s1 193), (.int 2 0), (.int 0 0), (.int 0 0), (.int 0 0), (.int 0 0), (.ref 18), (.bool false), (.int 181 0), (.ref 19), .none, .none, .none, .none, (.int 194 0), (.int 2 0), (.str s1 195)]⟩), ⟨[]⟩⟩
noncomputable def o12 (P : Params) : Obj := ⟨(.type SL.s658472552662922059x5), none, .plain, ⟨[(some (.ref 20)), (some (.ref 3)), (some (.ref 17)), none, (some (.str s27 187)), none, (some (.ref 0))]⟩⟩
noncomputable def o13 (P : Params) : Obj := ⟨(.type SL.s2766695959194262286x5), none, (.seq ⟨[]⟩ 0), ⟨[]⟩⟩
noncomputable def o14 (P : Params) : Obj := ⟨(.type SL.s14018661285674007319x4), none, (.dict ⟨[⟨(PyData.keyHash P s26), (.str s26 196), (.str s27 187)⟩, ⟨(PyData.keyHash P s29), (.str s29 200), (.int 2 199)⟩, ⟨(PyData.keyHash P s30), (.str s30 201), (.ref 22)⟩, ⟨(PyData.keyHash P s31), (.str s31 203), (.ref 25)⟩, ⟨(PyData.keyHash P s5), (.str s5 204), .none⟩]⟩ 3), ⟨[]⟩⟩
noncomputable def o15 (P : Params) : Obj := ⟨(.type SL.s17162191345867700912x4), none, (.cls ⟨s13, [(.type SL.s6070975301684473832x10)], [(.ref 24), (.type SL.s6070975301684473832x10), (.type SL.s5946037652744460706x9), (.type SL.s4278001404047624695x13), (.type SL.s2742458400755230247x6)], 23, s13, true, [], [(.ref 37)], false, none, false⟩), ⟨[(some (.ref 15)), none, (some (.str s13 189)), (some (.str s13 197)), (some (.builtin SL.s4209523147560561109x18)), (some (.bool true))]⟩⟩
noncomputable def o16 (P : Params) : Obj := ⟨(.type SL.s14755015743595814543x17), none, (.fields ⟨[(.str s31 202), (.ref 24), (.builtin SL.s10220274742760427390x26), .none]⟩), ⟨[]⟩⟩
noncomputable def o17 (P : Params) : Obj := ⟨(.type SL.s4290257624100764138x5), none, (.fields ⟨[(.ref 24), (.ref 24), (.ref 24)]⟩), ⟨[]⟩⟩
noncomputable def o18 (P : Params) : Obj := ⟨(.type SL.s11030030927630378310x26), none, (.fields ⟨[(.builtin SL.s4860613602091757760x24), (.ref 24)]⟩), ⟨[]⟩⟩
noncomputable def o19 (P : Params) : Obj := ⟨(.type SL.s2766695959194262286x5), none, (.seq ⟨[(.ref 24)]⟩ 0), ⟨[]⟩⟩
noncomputable def o20 (P : Params) : Obj := ⟨(.type SL.s11030030927630378310x26), none, (.fields ⟨[(.builtin SL.s10062305145149207511x16), (.type SL.s17162191345867700912x4)]⟩), ⟨[]⟩⟩
noncomputable def o21 (P : Params) : Obj := ⟨(.type SL.s14018661285674007319x4), none, (.dict ⟨[⟨(PyData.keyHash P s26), (.str s26 214), (.str s27 187)⟩, ⟨(PyData.keyHash P s28), (.str s28 216), (.str s14 215)⟩, ⟨(PyData.keyHash P s29), (.str s29 218), (.int 4 217)⟩, ⟨(PyData.keyHash P s30), (.str s30 219), (.ref 35)⟩]⟩ 4), ⟨[]⟩⟩
noncomputable def o22 (P : Params) : Obj := ⟨(.type SL.s2766695959194262286x5), none, (.seq ⟨[]⟩ 0), ⟨[]⟩⟩
noncomputable def o23 (P : Params) : Obj := ⟨.none, none, (.fields ⟨[]⟩), ⟨[]⟩⟩
noncomputable def o24 (P : Params) : Obj := ⟨(.type SL.s5856160107412720595x4), none, (.fields ⟨[(.str s14 209), (.str s14 210), (.str s1 211), (.int 4 0), (.int 0 0), (.int 0 0), (.int 0 0), (.int 0 0), (.ref 31), (.bool false), (.int 181 0), (.ref 32), .none, .none, .none, .none, (.int 212 0), (.int 4 0), (.str s1 213)]⟩), ⟨[]⟩⟩
noncomputable def o25 (P : Params) : Obj := ⟨(.type SL.s658472552662922059x5), none, .plain, ⟨[(some (.ref 33)), (some (.ref 3)), (some (.ref 30)), none, (some (.str s27 187)), none, (some (.ref 0))]⟩⟩
noncomputable def o26 (P : Params) : Obj := ⟨(.type SL.s2766695959194262286x5), none, (.seq ⟨[]⟩ 0), ⟨[]⟩⟩
noncomputable def o27 (P : Params) : Obj := ⟨(.type SL.s14018661285674007319x4), none, (.dict ⟨[⟨(PyData.keyHash P s26), (.str s26 214), (.str s27 187)⟩, ⟨(PyData.keyHash P s29), (.str s29 218), (.int 4 217)⟩, ⟨(PyData.keyHash P s30), (.str s30 219), (.ref 35)⟩, ⟨(PyData.keyHash P s5), (.str s5 220), .none⟩]⟩ 2), ⟨[]⟩⟩
noncomputable def o28 (P : Params) : Obj := ⟨(.type SL.s17162191345867700912x4), none, (.cls ⟨s14, [(.ref 24)], [(.ref 37), (.ref 24), (.type SL.s6070975301684473832x10), (.type SL.s5946037652744460706x9), (.type SL.s4278001404047624695x13), (.type SL.s2742458400755230247x6)], 36, s14, true, [], [], false, none, false⟩), ⟨[(some (.ref 28)), none, (some (.str s14 207)), (some (.str s14 215)), (some (.builtin SL.s4209523147560561109x18)), (some (.bool true))]⟩⟩
noncomputable def o29 (P : Params) : Obj := ⟨(.type SL.s4290257624100764138x5), none, (.fields ⟨[(.ref 37), (.ref 37), (.ref 37)]⟩), ⟨[]⟩⟩
noncomputable def o30 (P : Params) : Obj := ⟨(.type SL.s11030030927630378310x26), none, (.fields ⟨[(.builtin SL.s4860613602091757760x24), (.ref 37)]⟩), ⟨[]⟩⟩
noncomputable def o31 (P : Params) : Obj := ⟨(.type SL.s2766695959194262286x5), none, (.seq ⟨[]⟩ 0), ⟨[]⟩⟩
noncomputable def o32 (P : Params) : Obj := ⟨.none, none, (.fields ⟨[]⟩), ⟨[]⟩⟩
noncomputable def o33 (P : Params) : Obj := ⟨(.type SL.s2766695959194262286x5), none, (.seq ⟨[(.str s32 228)]⟩ 0), ⟨[]⟩⟩
noncomputable def o34 (P : Params) : Obj := ⟨(.type SL.s2766695959194262286x5), none, (.seq ⟨[]⟩ 0), ⟨[]⟩⟩
noncomputable def o35 (P : Params) : Obj := ⟨.none, none, (.func ⟨s15, s15, defArgs (top 4), .stmts (defBody (top 4)), defScope (top 4), 0, [], .none, .none, .none, .none, none, .none, .none, 0⟩), ⟨[]⟩⟩
noncomputable def o36 (P : Params) : Obj := ⟨(.type SL.s5856160107412720595x4), none, (.fields ⟨[(.str s15 225), (.str s15 226), (.str s1 227), (.int 7 0), (.int 1 0), (.int 0 0), (.int 0 0), (.int 3 0), (.ref 40), (.bool true), (.int 181 0), (.ref 41), .none, (.ref 42), (.ref 43), (.ref 44), (.int 229 0), (.int 7 0), (.str s1 230)]⟩), ⟨[]⟩⟩
noncomputable def o37 (P : Params) : Obj := ⟨(.type SL.s7174869446012820540x8), none, (.func (fnOf s15 s15 (defArgs (top 4)) (defBody (top 4)) (defScope (top 4)) .none .none .none (.str s33 223) none (.ref 45) .none)), ⟨[]⟩⟩
noncomputable def o38 (P : Params) : Obj := ⟨(.type SL.s2766695959194262286x5), none, (.seq ⟨[]⟩ 0), ⟨[]⟩⟩
noncomputable def o39 (P : Params) : Obj := ⟨.none, none, (.fields ⟨[]⟩), ⟨[]⟩⟩
noncomputable def o40 (P : Params) : Obj := ⟨(.type SL.s2766695959194262286x5), none, (.seq ⟨[(.str s34 235), (.str s35 236)]⟩ 0), ⟨[]⟩⟩
noncomputable def o41 (P : Params) : Obj := ⟨(.type SL.s2766695959194262286x5), none, (.seq ⟨[]⟩ 0), ⟨[]⟩⟩
noncomputable def o42 (P : Params) : Obj := ⟨.none, none, (.func ⟨s16, s16, defArgs (top 5), .stmts (defBody (top 5)), defScope (top 5), 0, [], .none, .none, .none, .none, none, .none, .none, 0⟩), ⟨[]⟩⟩
noncomputable def o43 (P : Params) : Obj := ⟨(.type SL.s5856160107412720595x4), none, (.fields ⟨[(.str s16 232), (.str s16 233), (.str s1 234), (.int 9 0), (.int 2 0), (.int 0 0), (.int 0 0), (.int 3 0), (.ref 47), (.bool true), (.int 181 0), (.ref 48), .none, (.ref 49), (.ref 50), (.ref 51), (.int 237 0), (.int 9 0), (.str s1 238)]⟩), ⟨[]⟩⟩
noncomputable def o44 (P : Params) : Obj := ⟨(.type SL.s7174869446012820540x8), none, (.func (fnOf s16 s16 (defArgs (top 5)) (defBody (top 5)) (defScope (top 5)) .none .none .none (.str s33 223) none (.ref 52) .none)), ⟨[]⟩⟩
noncomputable def o45 (P : Params) : Obj := ⟨(.type SL.s2766695959194262286x5), none, (.seq ⟨[]⟩ 0), ⟨[]⟩⟩
noncomputable def o46 (P : Params) : Obj := ⟨.none, none, (.fields ⟨[]⟩), ⟨[]⟩⟩
noncomputable def o47 (P : Params) : Obj := ⟨(.type SL.s2766695959194262286x5), none, (.seq ⟨[(.str s36 245), (.str s37 246), (.str s38 247)]⟩ 0), ⟨[]⟩⟩
noncomputable def o48 (P : Params) : Obj := ⟨(.type SL.s2766695959194262286x5), none, (.seq ⟨[]⟩ 0), ⟨[]⟩⟩
noncomputable def o49 (P : Params) : Obj := ⟨.none, none, (.func ⟨s17, s17, defArgs (top 7), .stmts (defBody (top 7)), defScope (top 7), 0, [], .none, .none, .none, .none, none, .none, .none, 0⟩), ⟨[]⟩⟩
noncomputable def o50 (P : Params) : Obj := ⟨(.type SL.s5856160107412720595x4), none, (.fields ⟨[(.str s17 242), (.str s17 243), (.str s1 244), (.int 14 0), (.int 2 0), (.int 0 0), (.int 0 0), (.int 3 0), (.ref 54), (.bool true), (.int 181 0), (.ref 55), .none, (.ref 56), (.ref 57), (.ref 58), (.int 248 0), (.int 14 0), (.str s1 249)]⟩), ⟨[]⟩⟩
noncomputable def o51 (P : Params) : Obj := ⟨(.type SL.s7174869446012820540x8), none, (.func (fnOf s17 s17 (defArgs (top 7)) (defBody (top 7)) (defScope (top 7)) .none .none .none (.str s39 240) none (.ref 59) .none)), ⟨[]⟩⟩
noncomputable def o52 (P : Params) : Obj := ⟨(.type SL.s2766695959194262286x5), none, (.seq ⟨[]⟩ 0), ⟨[]⟩⟩
noncomputable def o53 (P : Params) : Obj := ⟨.none, none, (.fields ⟨[]⟩), ⟨[]⟩⟩
noncomputable def o54 (P : Params) : Obj := ⟨(.type SL.s2766695959194262286x5), none, (.seq ⟨[(.str s34 254), (.str s35 255)]⟩ 0), ⟨[]⟩⟩
noncomputable def o55 (P : Params) : Obj := ⟨(.type SL.s2766695959194262286x5), none, (.seq ⟨[]⟩ 0), ⟨[]⟩⟩
noncomputable def o56 (P : Params) : Obj := ⟨.none, none, (.func ⟨s18, s18, defArgs (top 8), .stmts (defBody (top 8)), defScope (top 8), 0, [], .none, .none, .none, .none, none, .none, .none, 0⟩), ⟨[]⟩⟩
noncomputable def o57 (P : Params) : Obj := ⟨(.type SL.s5856160107412720595x4), none, (.fields ⟨[(.str s18 251), (.str s18 252), (.str s1 253), (.int 21 0), (.int 2 0), (.int 0 0), (.int 0 0), (.int 3 0), (.ref 61), (.bool true), (.int 181 0), (.ref 62), .none, (.ref 63), (.ref 64), (.ref 65), (.int 256 0), (.int 21 0), (.str s1 257)]⟩), ⟨[]⟩⟩
noncomputable def o58 (P : Params) : Obj := ⟨(.type SL.s7174869446012820540x8), none, (.func (fnOf s18 s18 (defArgs (top 8)) (defBody (top 8)) (defScope (top 8)) .none .none .none (.str s39 240) none (.ref 66) .none)), ⟨[]⟩⟩
noncomputable def o59 (P : Params) : Obj := ⟨(.type SL.s2766695959194262286x5), none, (.seq ⟨[]⟩ 0), ⟨[]⟩⟩
noncomputable def o60 (P : Params) : Obj := ⟨.none, none, (.fields ⟨[]⟩), ⟨[]⟩⟩
noncomputable def o61 (P : Params) : Obj := ⟨(.type SL.s2766695959194262286x5), none, (.seq ⟨[(.str s34 262), (.str s35 263)]⟩ 0), ⟨[]⟩⟩
noncomputable def o62 (P : Params) : Obj := ⟨(.type SL.s2766695959194262286x5), none, (.seq ⟨[]⟩ 0), ⟨[]⟩⟩
noncomputable def o63 (P : Params) : Obj := ⟨.none, none, (.func ⟨s19, s19, defArgs (top 9), .stmts (defBody (top 9)), defScope (top 9), 0, [], .none, .none, .none, .none, none, .none, .none, 0⟩), ⟨[]⟩⟩
noncomputable def o64 (P : Params) : Obj := ⟨(.type SL.s5856160107412720595x4), none, (.fields ⟨[(.str s19 259), (.str s19 260), (.str s1 261), (.int 23 0), (.int 2 0), (.int 0 0), (.int 0 0), (.int 3 0), (.ref 68), (.bool true), (.int 181 0), (.ref 69), .none, (.ref 70), (.ref 71), (.ref 72), (.int 264 0), (.int 23 0), (.str s1 265)]⟩), ⟨[]⟩⟩
noncomputable def o65 (P : Params) : Obj := ⟨(.type SL.s7174869446012820540x8), none, (.func (fnOf s19 s19 (defArgs (top 9)) (defBody (top 9)) (defScope (top 9)) .none .none .none (.str s39 240) none (.ref 73) .none)), ⟨[]⟩⟩
noncomputable def o66 (P : Params) : Obj := ⟨(.type SL.s2766695959194262286x5), none, (.seq ⟨[]⟩ 0), ⟨[]⟩⟩
noncomputable def o67 (P : Params) : Obj := ⟨.none, none, (.fields ⟨[]⟩), ⟨[]⟩⟩
noncomputable def o68 (P : Params) : Obj := ⟨(.type SL.s2766695959194262286x5), none, (.seq ⟨[(.str s40 272), (.str s35 273), (.str s41 274), (.str s42 275), (.str s34 276), (.str s43 277)]⟩ 0), ⟨[]⟩⟩
noncomputable def o69 (P : Params) : Obj := ⟨(.type SL.s2766695959194262286x5), none, (.seq ⟨[]⟩ 0), ⟨[]⟩⟩
noncomputable def o70 (P : Params) : Obj := ⟨.none, none, (.func ⟨s20, s20, defArgs (top 11), .stmts (defBody (top 11)), defScope (top 11), 0, [], .none, .none, .none, .none, none, .none, .none, 0⟩), ⟨[]⟩⟩
noncomputable def o71 (P : Params) : Obj := ⟨(.type SL.s5856160107412720595x4), none, (.fields ⟨[(.str s20 269), (.str s20 270), (.str s1 271), (.int 26 0), (.int 3 0), (.int 0 0), (.int 0 0), (.int 3 0), (.ref 75), (.bool true), (.int 181 0), (.ref 76), .none, (.ref 77), (.ref 78), (.ref 79), (.int 278 0), (.int 26 0), (.str s1 279)]⟩), ⟨[]⟩⟩
noncomputable def o72 (P : Params) : Obj := ⟨(.type SL.s7174869446012820540x8), none, (.func (fnOf s20 s20 (defArgs (top 11)) (defBody (top 11)) (defScope (top 11)) .none .none .none (.str s44 267) none (.ref 80) .none)), ⟨[]⟩⟩
noncomputable def o73 (P : Params) : Obj := ⟨(.type SL.s2766695959194262286x5), none, (.seq ⟨[]⟩ 0), ⟨[]⟩⟩
noncomputable def o74 (P : Params) : Obj := ⟨.none, none, (.fields ⟨[]⟩), ⟨[]⟩⟩
noncomputable def o75 (P : Params) : Obj := ⟨.none, none, (.func ⟨s21, s21, defArgs (top 12), .stmts (defBody (top 12)), defScope (top 12), 0, [], .none, .none, .none, .none, none, .none, .none, 0⟩), ⟨[]⟩⟩
noncomputable def o76 (P : Params) : Obj := ⟨(.type SL.s5856160107412720595x4), none, (.fields ⟨[(.str s21 281), (.str s21 282), (.str s1 283), (.int 34 0), (.int 2 0), (.int 0 0), (.int 0 0), (.int 3 0), (.ref 82), (.bool true), (.int 181 0), (.ref 83), .none, .none, .none, (.ref 84), (.int 284 0), (.int 34 0), (.str s1 285)]⟩), ⟨[]⟩⟩
noncomputable def o77 (P : Params) : Obj := ⟨(.type SL.s7174869446012820540x8), none, (.func (fnOf s21 s21 (defArgs (top 12)) (defBody (top 12)) (defScope (top 12)) .none .none .none (.str s44 267) none (.ref 85) .none)), ⟨[]⟩⟩
noncomputable def o78 (P : Params) : Obj := ⟨(.type SL.s2766695959194262286x5), none, (.seq ⟨[]⟩ 0), ⟨[]⟩⟩
noncomputable def o79 (P : Params) : Obj := ⟨.none, none, (.fields ⟨[]⟩), ⟨[]⟩⟩
noncomputable def o80 (P : Params) : Obj := ⟨.none, none, (.func ⟨s22, s22, defArgs (top 13), .stmts (defBody (top 13)), defScope (top 13), 0, [], .none, .none, .none, .none, none, .none, .none, 0⟩), ⟨[]⟩⟩
noncomputable def o81 (P : Params) : Obj := ⟨(.type SL.s5856160107412720595x4), none, (.fields ⟨[(.str s22 287), (.str s22 288), (.str s1 289), (.int 44 0), (.int 2 0), (.int 0 0), (.int 0 0), (.int 3 0), (.ref 87), (.bool true), (.int 181 0), (.ref 88), .none, .none, .none, (.ref 89), (.int 290 0), (.int 44 0), (.str s1 291)]⟩), ⟨[]⟩⟩
noncomputable def o82 (P : Params) : Obj := ⟨(.type SL.s7174869446012820540x8), none, (.func (fnOf s22 s22 (defArgs (top 13)) (defBody (top 13)) (defScope (top 13)) .none .none .none (.str s44 267) none (.ref 90) .none)), ⟨[]⟩⟩
noncomputable def o83 (P : Params) : Obj := ⟨(.type SL.s2766695959194262286x5), none, (.seq ⟨[]⟩ 0), ⟨[]⟩⟩
noncomputable def o84 (P : Params) : Obj := ⟨.none, none, (.fields ⟨[]⟩), ⟨[]⟩⟩
noncomputable def o85 (P : Params) : Obj := ⟨(.type SL.s2766695959194262286x5), none, (.seq ⟨[(.str s45 298), (.str s46 299)]⟩ 0), ⟨[]⟩⟩
noncomputable def o86 (P : Params) : Obj := ⟨(.type SL.s2766695959194262286x5), none, (.seq ⟨[]⟩ 0), ⟨[]⟩⟩
noncomputable def o87 (P : Params) : Obj := ⟨.none, none, (.func ⟨s23, s23, defArgs (top 15), .stmts (defBody (top 15)), defScope (top 15), 0, [], .none, .none, .none, .none, none, .none, .none, 0⟩), ⟨[]⟩⟩
noncomputable def o88 (P : Params) : Obj := ⟨(.type SL.s5856160107412720595x4), none, (.fields ⟨[(.str s23 295), (.str s23 296), (.str s1 297), (.int 50 0), (.int 2 0), (.int 0 0), (.int 0 0), (.int 3 0), (.ref 92), (.bool true), (.int 181 0), (.ref 93), .none, (.ref 94), (.ref 95), (.ref 96), (.int 300 0), (.int 50 0), (.str s1 301)]⟩), ⟨[]⟩⟩
noncomputable def o89 (P : Params) : Obj := ⟨(.type SL.s7174869446012820540x8), none, (.func (fnOf s23 s23 (defArgs (top 15)) (defBody (top 15)) (defScope (top 15)) .none .none .none (.str s4 293) none (.ref 97) .none)), ⟨[]⟩⟩
noncomputable def o90 (P : Params) : Obj := ⟨(.type SL.s2766695959194262286x5), none, (.seq ⟨[]⟩ 0), ⟨[]⟩⟩
noncomputable def o91 (P : Params) : Obj := ⟨.none, none, (.fields ⟨[]⟩), ⟨[]⟩⟩
noncomputable def o92 (P : Params) : Obj := ⟨(.type SL.s2766695959194262286x5), none, (.seq ⟨[(.str s45 306), (.str s47 307), (.str s48 308), (.str s49 309), (.str s50 310), (.str s46 311)]⟩ 0), ⟨[]⟩⟩
noncomputable def o93 (P : Params) : Obj := ⟨(.type SL.s2766695959194262286x5), none, (.seq ⟨[]⟩ 0), ⟨[]⟩⟩
noncomputable def o94 (P : Params) : Obj := ⟨.none, none, (.func ⟨s24, s24, defArgs (top 16), .stmts (defBody (top 16)), defScope (top 16), 0, [], .none, .none, .none, .none, none, .none, .none, 0⟩), ⟨[]⟩⟩
noncomputable def o95 (P : Params) : Obj := ⟨(.type SL.s5856160107412720595x4), none, (.fields ⟨[(.str s24 303), (.str s24 304), (.str s1 305), (.int 52 0), (.int 3 0), (.int 0 0), (.int 0 0), (.int 3 0), (.ref 99), (.bool true), (.int 181 0), (.ref 100), .none, (.ref 101), (.ref 102), (.ref 103), (.int 312 0), (.int 52 0), (.str s1 313)]⟩), ⟨[]⟩⟩
noncomputable def o96 (P : Params) : Obj := ⟨(.type SL.s7174869446012820540x8), none, (.func (fnOf s24 s24 (defArgs (top 16)) (defBody (top 16)) (defScope (top 16)) .none .none .none (.str s4 293) none (.ref 104) .none)), ⟨[]⟩⟩
noncomputable def o97 (P : Params) : Obj := ⟨(.type SL.s2766695959194262286x5), none, (.seq ⟨[]⟩ 0), ⟨[]⟩⟩
noncomputable def o98 (P : Params) : Obj := ⟨.none, none, (.fields ⟨[]⟩), ⟨[]⟩⟩
noncomputable def o99 (P : Params) : Obj := ⟨(.type SL.s2766695959194262286x5), none, (.seq ⟨[(.str s51 318), (.str s52 319), (.str s53 320), (.str s54 321)]⟩ 0), ⟨[]⟩⟩
noncomputable def o100 (P : Params) : Obj := ⟨(.type SL.s2766695959194262286x5), none, (.seq ⟨[]⟩ 0), ⟨[]⟩⟩
noncomputable def o101 (P : Params) : Obj := ⟨.none, none, (.func ⟨s25, s25, defArgs (top 17), .stmts (defBody (top 17)), defScope (top 17), 0, [], .none, .none, .none, .none, none, .none, .none, 0⟩), ⟨[]⟩⟩
noncomputable def o102 (P : Params) : Obj := ⟨(.type SL.s5856160107412720595x4), none, (.fields ⟨[(.str s25 315), (.str s25 316), (.str s1 317), (.int 59 0), (.int 2 0), (.int 0 0), (.int 0 0), (.int 3 0), (.ref 106), (.bool true), (.int 181 0), (.ref 107), .none, (.ref 108), (.ref 109), (.ref 110), (.int 322 0), (.int 59 0), (.str s1 323)]⟩), ⟨[]⟩⟩
noncomputable def o103 (P : Params) : Obj := ⟨(.type SL.s7174869446012820540x8), none, (.func (fnOf s25 s25 (defArgs (top 17)) (defBody (top 17)) (defScope (top 17)) .none .none .none (.str s4 293) none (.ref 111) .none)), ⟨[]⟩⟩
noncomputable def o104 (P : Params) : Obj := ⟨(.type SL.s14018661285674007319x4), none, (.dict ⟨[⟨(PyData.keyHash P s3), (.str s3 165), (.str s4 293)⟩, ⟨(PyData.keyHash P s5), (.str s5 166), .none⟩, ⟨(PyData.keyHash P s6), (.str s6 167), .none⟩, ⟨(PyData.keyHash P s7), (.str s7 168), (.builtin SL.s7097527257260152453x26)⟩, ⟨(PyData.keyHash P s8), (.str s8 169), .none⟩, ⟨(PyData.keyHash P s9), (.str s9 170), (.ref 6)⟩, ⟨(PyData.keyHash P s10), (.str s10 171), (.ref 4)⟩, ⟨(PyData.keyHash P s11), (.str s11 173), (.str s1 172)⟩, ⟨(PyData.keyHash P s12), (.str s12 174), .none⟩, ⟨(PyData.keyHash P s13), (.str s13 206), (.ref 24)⟩, ⟨(PyData.keyHash P s14), (.str s14 222), (.ref 37)⟩, ⟨(PyData.keyHash P s15), (.str s15 231), (.ref 46)⟩, ⟨(PyData.keyHash P s16), (.str s16 239), (.ref 53)⟩, ⟨(PyData.keyHash P s17), (.str s17 250), (.ref 60)⟩, ⟨(PyData.keyHash P s18), (.str s18 258), (.ref 67)⟩, ⟨(PyData.keyHash P s19), (.str s19 266), (.ref 74)⟩, ⟨(PyData.keyHash P s20), (.str s20 280), (.ref 81)⟩, ⟨(PyData.keyHash P s21), (.str s21 286), (.ref 86)⟩, ⟨(PyData.keyHash P s22), (.str s22 292), (.ref 91)⟩, ⟨(PyData.keyHash P s23), (.str s23 302), (.ref 98)⟩, ⟨(PyData.keyHash P s24), (.str s24 314), (.ref 105)⟩, ⟨(PyData.keyHash P s25), (.str s25 324), (.ref 112)⟩, ⟨(PyData.keyHash P s55), (.str s55 333), (.ref 119)⟩, ⟨(PyData.keyHash P s56), (.str s56 340), (.ref 126)⟩, ⟨(PyData.keyHash P s57), (.str s57 346), (.ref 131)⟩, ⟨(PyData.keyHash P s58), (.str s58 358), (.ref 138)⟩, ⟨(PyData.keyHash P s59), (.str s59 364), (.ref 143)⟩, ⟨(PyData.keyHash P s60), (.str s60 371), (.ref 150)⟩, ⟨(PyData.keyHash P s61), (.str s61 378), (.ref 157)⟩, ⟨(PyData.keyHash P s62), (.str s62 384), (.ref 162)⟩, ⟨(PyData.keyHash P s63), (.str s63 393), (.ref 169)⟩, ⟨(PyData.keyHash P s64), (.str s64 399), (.ref 174)⟩, ⟨(PyData.keyHash P s65), (.str s65 409), (.ref 181)⟩, ⟨(PyData.keyHash P s66), (.str s66 415), (.ref 186)⟩]⟩ 34), ⟨[]⟩⟩
noncomputable def o105 (P : Params) : Obj := ⟨.none, none, (.fields ⟨[(.int 2 0), (.int 0 0), (.ref 20), (.int 4 0), (.int 0 0), (.ref 33), (.int 7 0), (.int 0 0), (.ref 45), (.int 9 0), (.int 0 0), (.ref 52), (.int 14 0), (.int 0 0), (.ref 59), (.int 21 0), (.int 0 0), (.ref 66), (.int 23 0), (.int 0 0), (.ref 73), (.int 26 0), (.int 0 0), (.ref 80), (.int 34 0), (.int 0 0), (.ref 85), (.int 44 0), (.int 0 0), (.ref 90), (.int 50 0), (.int 0 0), (.ref 97), (.int 52 0), (.int 0 0), (.ref 104), (.int 59 0), (.int 0 0), (.ref 111), (.int 64 0), (.int 0 0), (.ref 118), (.int 67 0), (.int 0 0), (.ref 125), (.int 71 0), (.int 0 0), (.ref 130), (.int 80 0), (.int 0 0), (.ref 137), (.int 89 0), (.int 0 0), (.ref 142), (.int 95 0), (.int 0 0), (.ref 149), (.int 97 0), (.int 0 0), (.ref 156), (.int 103 0), (.int 0 0), (.ref 161), (.int 107 0), (.int 0 0), (.ref 168), (.int 109 0), (.int 0 0), (.ref 173), (.int 119 0), (.int 0 0), (.ref 180), (.int 126 0), (.int 0 0), (.ref 185)]⟩), ⟨[]⟩⟩
noncomputable def o106 (P : Params) : Obj := ⟨(.type SL.s2766695959194262286x5), none, (.seq ⟨[]⟩ 0), ⟨[]⟩⟩
noncomputable def o107 (P : Params) : Obj := ⟨.none, none, (.fields ⟨[]⟩), ⟨[]⟩⟩
noncomputable def o108 (P : Params) : Obj := ⟨(.type SL.s2766695959194262286x5), none, (.seq ⟨[(.str s67 328), (.str s68 329), (.str s69 330)]⟩ 0), ⟨[]⟩⟩
noncomputable def o109 (P : Params) : Obj := ⟨(.type SL.s2766695959194262286x5), none, (.seq ⟨[]⟩ 0), ⟨[]⟩⟩
noncomputable def o110 (P : Params) : Obj := ⟨.none, none, (.func ⟨s55, s55, defArgs (top 18), .stmts (defBody (top 18)), defScope (top 18), 0, [], .none, .none, .none, .none, none, .none, .none, 0⟩), ⟨[]⟩⟩
noncomputable def o111 (P : Params) : Obj := ⟨(.type SL.s5856160107412720595x4), none, (.fields ⟨[(.str s55 325), (.str s55 326), (.str s1 327), (.int 64 0), (.int 2 0), (.int 0 0), (.int 0 0), (.int 3 0), (.ref 113), (.bool true), (.int 181 0), (.ref 114), .none, (.ref 115), (.ref 116), (.ref 117), (.int 331 0), (.int 64 0), (.str s1 332)]⟩), ⟨[]⟩⟩
noncomputable def o112 (P : Params) : Obj := ⟨(.type SL.s7174869446012820540x8), none, (.func (fnOf s55 s55 (defArgs (top 18)) (defBody (top 18)) (defScope (top 18)) .none .none .none (.str s4 293) none (.ref 118) .none)), ⟨[]⟩⟩
noncomputable def o113 (P : Params) : Obj := ⟨(.type SL.s2766695959194262286x5), none, (.seq ⟨[]⟩ 0), ⟨[]⟩⟩
noncomputable def o114 (P : Params) : Obj := ⟨.none, none, (.fields ⟨[]⟩), ⟨[]⟩⟩
noncomputable def o115 (P : Params) : Obj := ⟨(.type SL.s2766695959194262286x5), none, (.seq ⟨[(.str s50 337)]⟩ 0), ⟨[]⟩⟩
noncomputable def o116 (P : Params) : Obj := ⟨(.type SL.s2766695959194262286x5), none, (.seq ⟨[]⟩ 0), ⟨[]⟩⟩
noncomputable def o117 (P : Params) : Obj := ⟨.none, none, (.func ⟨s56, s56, defArgs (top 19), .stmts (defBody (top 19)), defScope (top 19), 0, [], .none, .none, .none, .none, none, .none, .none, 0⟩), ⟨[]⟩⟩
noncomputable def o118 (P : Params) : Obj := ⟨(.type SL.s5856160107412720595x4), none, (.fields ⟨[(.str s56 334), (.str s56 335), (.str s1 336), (.int 67 0), (.int 1 0), (.int 0 0), (.int 0 0), (.int 3 0), (.ref 120), (.bool true), (.int 181 0), (.ref 121), .none, (.ref 122), (.ref 123), (.ref 124), (.int 338 0), (.int 67 0), (.str s1 339)]⟩), ⟨[]⟩⟩
noncomputable def o119 (P : Params) : Obj := ⟨(.type SL.s7174869446012820540x8), none, (.func (fnOf s56 s56 (defArgs (top 19)) (defBody (top 19)) (defScope (top 19)) .none .none .none (.str s4 293) none (.ref 125) .none)), ⟨[]⟩⟩
noncomputable def o120 (P : Params) : Obj := ⟨(.type SL.s2766695959194262286x5), none, (.seq ⟨[]⟩ 0), ⟨[]⟩⟩
noncomputable def o121 (P : Params) : Obj := ⟨.none, none, (.fields ⟨[]⟩), ⟨[]⟩⟩
noncomputable def o122 (P : Params) : Obj := ⟨.none, none, (.func ⟨s57, s57, defArgs (top 20), .stmts (defBody (top 20)), defScope (top 20), 0, [], .none, .none, .none, .none, none, .none, .none, 0⟩), ⟨[]⟩⟩
noncomputable def o123 (P : Params) : Obj := ⟨(.type SL.s5856160107412720595x4), none, (.fields ⟨[(.str s57 341), (.str s57 342), (.str s1 343), (.int 71 0), (.int 1 0), (.int 0 0), (.int 0 0), (.int 3 0), (.ref 127), (.bool true), (.int 181 0), (.ref 128), .none, .none, .none, (.ref 129), (.int 344 0), (.int 71 0), (.str s1 345)]⟩), ⟨[]⟩⟩
noncomputable def o124 (P : Params) : Obj := ⟨(.type SL.s7174869446012820540x8), none, (.func (fnOf s57 s57 (defArgs (top 20)) (defBody (top 20)) (defScope (top 20)) .none .none .none (.str s4 293) none (.ref 130) .none)), ⟨[]⟩⟩
noncomputable def o125 (P : Params) : Obj := ⟨(.type SL.s2766695959194262286x5), none, (.seq ⟨[]⟩ 0), ⟨[]⟩⟩
noncomputable def o126 (P : Params) : Obj := ⟨.none, none, (.fields ⟨[]⟩), ⟨[]⟩⟩
noncomputable def o127 (P : Params) : Obj := ⟨(.type SL.s2766695959194262286x5), none, (.seq ⟨[(.str s50 350), (.str s52 351), (.str s48 352), (.str s51 353), (.str s70 354), (.str s71 355)]⟩ 0), ⟨[]⟩⟩
noncomputable def o128 (P : Params) : Obj := ⟨(.type SL.s2766695959194262286x5), none, (.seq ⟨[]⟩ 0), ⟨[]⟩⟩
noncomputable def o129 (P : Params) : Obj := ⟨.none, none, (.func ⟨s58, s58, defArgs (top 21), .stmts (defBody (top 21)), defScope (top 21), 0, [], .none, .none, .none, .none, none, .none, .none, 0⟩), ⟨[]⟩⟩
noncomputable def o130 (P : Params) : Obj := ⟨(.type SL.s5856160107412720595x4), none, (.fields ⟨[(.str s58 347), (.str s58 348), (.str s1 349), (.int 80 0), (.int 3 0), (.int 0 0), (.int 0 0), (.int 3 0), (.ref 132), (.bool true), (.int 181 0), (.ref 133), .none, (.ref 134), (.ref 135), (.ref 136), (.int 356 0), (.int 80 0), (.str s1 357)]⟩), ⟨[]⟩⟩
noncomputable def o131 (P : Params) : Obj := ⟨(.type SL.s7174869446012820540x8), none, (.func (fnOf s58 s58 (defArgs (top 21)) (defBody (top 21)) (defScope (top 21)) .none .none .none (.str s4 293) none (.ref 137) .none)), ⟨[]⟩⟩
noncomputable def o132 (P : Params) : Obj := ⟨(.type SL.s2766695959194262286x5), none, (.seq ⟨[]⟩ 0), ⟨[]⟩⟩
noncomputable def o133 (P : Params) : Obj := ⟨.none, none, (.fields ⟨[]⟩), ⟨[]⟩⟩
noncomputable def o134 (P : Params) : Obj := ⟨.none, none, (.func ⟨s59, s59, defArgs (top 22), .stmts (defBody (top 22)), defScope (top 22), 0, [], .none, .none, .none, .none, none, .none, .none, 0⟩), ⟨[]⟩⟩
noncomputable def o135 (P : Params) : Obj := ⟨(.type SL.s5856160107412720595x4), none, (.fields ⟨[(.str s59 359), (.str s59 360), (.str s1 361), (.int 89 0), (.int 2 0), (.int 0 0), (.int 0 0), (.int 3 0), (.ref 139), (.bool true), (.int 181 0), (.ref 140), .none, .none, .none, (.ref 141), (.int 362 0), (.int 89 0), (.str s1 363)]⟩), ⟨[]⟩⟩
noncomputable def o136 (P : Params) : Obj := ⟨(.type SL.s7174869446012820540x8), none, (.func (fnOf s59 s59 (defArgs (top 22)) (defBody (top 22)) (defScope (top 22)) .none .none .none (.str s4 293) none (.ref 142) .none)), ⟨[]⟩⟩
noncomputable def o137 (P : Params) : Obj := ⟨(.type SL.s2766695959194262286x5), none, (.seq ⟨[]⟩ 0), ⟨[]⟩⟩
noncomputable def o138 (P : Params) : Obj := ⟨.none, none, (.fields ⟨[]⟩), ⟨[]⟩⟩
noncomputable def o139 (P : Params) : Obj := ⟨(.type SL.s2766695959194262286x5), none, (.seq ⟨[(.str s49 368)]⟩ 0), ⟨[]⟩⟩
noncomputable def o140 (P : Params) : Obj := ⟨(.type SL.s2766695959194262286x5), none, (.seq ⟨[]⟩ 0), ⟨[]⟩⟩
noncomputable def o141 (P : Params) : Obj := ⟨.none, none, (.func ⟨s60, s60, defArgs (top 23), .stmts (defBody (top 23)), defScope (top 23), 0, [], .none, .none, .none, .none, none, .none, .none, 0⟩), ⟨[]⟩⟩
noncomputable def o142 (P : Params) : Obj := ⟨(.type SL.s5856160107412720595x4), none, (.fields ⟨[(.str s60 365), (.str s60 366), (.str s1 367), (.int 95 0), (.int 1 0), (.int 0 0), (.int 0 0), (.int 3 0), (.ref 144), (.bool true), (.int 181 0), (.ref 145), .none, (.ref 146), (.ref 147), (.ref 148), (.int 369 0), (.int 95 0), (.str s1 370)]⟩), ⟨[]⟩⟩
noncomputable def o143 (P : Params) : Obj := ⟨(.type SL.s7174869446012820540x8), none, (.func (fnOf s60 s60 (defArgs (top 23)) (defBody (top 23)) (defScope (top 23)) .none .none .none (.str s4 293) none (.ref 149) .none)), ⟨[]⟩⟩
noncomputable def o144 (P : Params) : Obj := ⟨(.type SL.s2766695959194262286x5), none, (.seq ⟨[]⟩ 0), ⟨[]⟩⟩
noncomputable def o145 (P : Params) : Obj := ⟨.none, none, (.fields ⟨[]⟩), ⟨[]⟩⟩
noncomputable def o146 (P : Params) : Obj := ⟨(.type SL.s2766695959194262286x5), none, (.seq ⟨[(.str s49 375)]⟩ 0), ⟨[]⟩⟩
noncomputable def o147 (P : Params) : Obj := ⟨(.type SL.s2766695959194262286x5), none, (.seq ⟨[]⟩ 0), ⟨[]⟩⟩
noncomputable def o148 (P : Params) : Obj := ⟨.none, none, (.func ⟨s61, s61, defArgs (top 24), .stmts (defBody (top 24)), defScope (top 24), 0, [], .none, .none, .none, .none, none, .none, .none, 0⟩), ⟨[]⟩⟩
noncomputable def o149 (P : Params) : Obj := ⟨(.type SL.s5856160107412720595x4), none, (.fields ⟨[(.str s61 372), (.str s61 373), (.str s1 374), (.int 97 0), (.int 1 0), (.int 0 0), (.int 0 0), (.int 3 0), (.ref 151), (.bool true), (.int 181 0), (.ref 152), .none, (.ref 153), (.ref 154), (.ref 155), (.int 376 0), (.int 97 0), (.str s1 377)]⟩), ⟨[]⟩⟩
noncomputable def o150 (P : Params) : Obj := ⟨(.type SL.s7174869446012820540x8), none, (.func (fnOf s61 s61 (defArgs (top 24)) (defBody (top 24)) (defScope (top 24)) .none .none .none (.str s4 293) none (.ref 156) .none)), ⟨[]⟩⟩
noncomputable def o151 (P : Params) : Obj := ⟨(.type SL.s2766695959194262286x5), none, (.seq ⟨[]⟩ 0), ⟨[]⟩⟩
noncomputable def o152 (P : Params) : Obj := ⟨.none, none, (.fields ⟨[]⟩), ⟨[]⟩⟩
noncomputable def o153 (P : Params) : Obj := ⟨.none, none, (.func ⟨s62, s62, defArgs (top 25), .stmts (defBody (top 25)), defScope (top 25), 0, [], .none, .none, .none, .none, none, .none, .none, 0⟩), ⟨[]⟩⟩
noncomputable def o154 (P : Params) : Obj := ⟨(.type SL.s5856160107412720595x4), none, (.fields ⟨[(.str s62 379), (.str s62 380), (.str s1 381), (.int 103 0), (.int 2 0), (.int 0 0), (.int 0 0), (.int 3 0), (.ref 158), (.bool true), (.int 181 0), (.ref 159), .none, .none, .none, (.ref 160), (.int 382 0), (.int 103 0), (.str s1 383)]⟩), ⟨[]⟩⟩
noncomputable def o155 (P : Params) : Obj := ⟨(.type SL.s7174869446012820540x8), none, (.func (fnOf s62 s62 (defArgs (top 25)) (defBody (top 25)) (defScope (top 25)) .none .none .none (.str s4 293) none (.ref 161) .none)), ⟨[]⟩⟩
noncomputable def o156 (P : Params) : Obj := ⟨(.type SL.s2766695959194262286x5), none, (.seq ⟨[]⟩ 0), ⟨[]⟩⟩
noncomputable def o157 (P : Params) : Obj := ⟨.none, none, (.fields ⟨[]⟩), ⟨[]⟩⟩
noncomputable def o158 (P : Params) : Obj := ⟨(.type SL.s2766695959194262286x5), none, (.seq ⟨[(.str s51 388), (.str s71 389), (.str s72 390)]⟩ 0), ⟨[]⟩⟩
noncomputable def o159 (P : Params) : Obj := ⟨(.type SL.s2766695959194262286x5), none, (.seq ⟨[]⟩ 0), ⟨[]⟩⟩
noncomputable def o160 (P : Params) : Obj := ⟨.none, none, (.func ⟨s63, s63, defArgs (top 26), .stmts (defBody (top 26)), defScope (top 26), 0, [], .none, .none, .none, .none, none, .none, .none, 0⟩), ⟨[]⟩⟩
noncomputable def o161 (P : Params) : Obj := ⟨(.type SL.s5856160107412720595x4), none, (.fields ⟨[(.str s63 385), (.str s63 386), (.str s1 387), (.int 107 0), (.int 3 0), (.int 0 0), (.int 0 0), (.int 3 0), (.ref 163), (.bool true), (.int 181 0), (.ref 164), .none, (.ref 165), (.ref 166), (.ref 167), (.int 391 0), (.int 107 0), (.str s1 392)]⟩), ⟨[]⟩⟩
noncomputable def o162 (P : Params) : Obj := ⟨(.type SL.s7174869446012820540x8), none, (.func (fnOf s63 s63 (defArgs (top 26)) (defBody (top 26)) (defScope (top 26)) .none .none .none (.str s4 293) none (.ref 168) .none)), ⟨[]⟩⟩
noncomputable def o163 (P : Params) : Obj := ⟨(.type SL.s2766695959194262286x5), none, (.seq ⟨[]⟩ 0), ⟨[]⟩⟩
noncomputable def o164 (P : Params) : Obj := ⟨.none, none, (.fields ⟨[]⟩), ⟨[]⟩⟩
noncomputable def o165 (P : Params) : Obj := ⟨.none, none, (.func ⟨s64, s64, defArgs (top 27), .stmts (defBody (top 27)), defScope (top 27), 0, [], .none, .none, .none, .none, none, .none, .none, 0⟩), ⟨[]⟩⟩
noncomputable def o166 (P : Params) : Obj := ⟨(.type SL.s5856160107412720595x4), none, (.fields ⟨[(.str s64 394), (.str s64 395), (.str s1 396), (.int 109 0), (.int 2 0), (.int 0 0), (.int 0 0), (.int 3 0), (.ref 170), (.bool true), (.int 181 0), (.ref 171), .none, .none, .none, (.ref 172), (.int 397 0), (.int 109 0), (.str s1 398)]⟩), ⟨[]⟩⟩
noncomputable def o167 (P : Params) : Obj := ⟨(.type SL.s7174869446012820540x8), none, (.func (fnOf s64 s64 (defArgs (top 27)) (defBody (top 27)) (defScope (top 27)) .none .none .none (.str s4 293) none (.ref 173) .none)), ⟨[]⟩⟩
noncomputable def o168 (P : Params) : Obj := ⟨(.type SL.s2766695959194262286x5), none, (.seq ⟨[]⟩ 0), ⟨[]⟩⟩
noncomputable def o169 (P : Params) : Obj := ⟨.none, none, (.fields ⟨[]⟩), ⟨[]⟩⟩
noncomputable def o170 (P : Params) : Obj := ⟨(.type SL.s2766695959194262286x5), none, (.seq ⟨[(.str s49 403), (.str s73 404), (.str s74 405), (.str s52 406)]⟩ 0), ⟨[]⟩⟩
noncomputable def o171 (P : Params) : Obj := ⟨(.type SL.s2766695959194262286x5), none, (.seq ⟨[]⟩ 0), ⟨[]⟩⟩
noncomputable def o172 (P : Params) : Obj := ⟨.none, none, (.func ⟨s65, s65, defArgs (top 28), .stmts (defBody (top 28)), defScope (top 28), 0, [], .none, .none, .none, .none, none, .none, .none, 0⟩), ⟨[]⟩⟩
noncomputable def o173 (P : Params) : Obj := ⟨(.type SL.s5856160107412720595x4), none, (.fields ⟨[(.str s65 400), (.str s65 401), (.str s1 402), (.int 119 0), (.int 2 0), (.int 0 0), (.int 0 0), (.int 3 0), (.ref 175), (.bool true), (.int 181 0), (.ref 176), .none, (.ref 177), (.ref 178), (.ref 179), (.int 407 0), (.int 119 0), (.str s1 408)]⟩), ⟨[]⟩⟩
noncomputable def o174 (P : Params) : Obj := ⟨(.type SL.s7174869446012820540x8), none, (.func (fnOf s65 s65 (defArgs (top 28)) (defBody (top 28)) (defScope (top 28)) .none .none .none (.str s4 293) none (.ref 180) .none)), ⟨[]⟩⟩
noncomputable def o175 (P : Params) : Obj := ⟨(.type SL.s2766695959194262286x5), none, (.seq ⟨[]⟩ 0), ⟨[]⟩⟩
noncomputable def o176 (P : Params) : Obj := ⟨.none, none, (.fields ⟨[]⟩), ⟨[]⟩⟩
noncomputable def o177 (P : Params) : Obj := ⟨.none, none, (.func ⟨s66, s66, defArgs (top 29), .stmts (defBody (top 29)), defScope (top 29), 0, [], .none, .none, .none, .none, none, .none, .none, 0⟩), ⟨[]⟩⟩
noncomputable def o178 (P : Params) : Obj := ⟨(.type SL.s5856160107412720595x4), none, (.fields ⟨[(.str s66 410), (.str s66 411), (.str s1 412), (.int 126 0), (.int 1 0), (.int 0 0), (.int 0 0), (.int 3 0), (.ref 182), (.bool true), (.int 181 0), (.ref 183), .none, .none, .none, (.ref 184), (.int 413 0), (.int 126 0), (.str s1 414)]⟩), ⟨[]⟩⟩
noncomputable def o179 (P : Params) : Obj := ⟨(.type SL.s7174869446012820540x8), none, (.func (fnOf s66 s66 (defArgs (top 29)) (defBody (top 29)) (defScope (top 29)) .none .none .none (.str s4 293) none (.ref 185) .none)), ⟨[]⟩⟩
noncomputable abbrev pg : Program := PySem.Challenge.pw_chancehall_k14_rows_walked
noncomputable def hEnv : Env := ⟨pg.main.scope, mainNs, mainNs, [], Str.empty, none, (.ref 13), some 14, 0⟩
noncomputable abbrev fp : Pos := ⟨0, 0, 0, 0⟩
noncomputable abbrev cE : Code := .body (behindTheImports pg) hEnv
noncomputable def L0 (P : Params) : List Obj := [boot_o_0 P, boot_o_1 P, boot_o_2 P, boot_o_3 P, boot_o_4 P, boot_o_5 P, boot_o_6 P, boot_o_7 P, boot_o_8 P, boot_o_9 P, boot_o_10 P, o0 P, o1 P, o2 P, o3 P]
noncomputable def L1 (P : Params) : List Obj := [boot_o_0 P, boot_o_1 P, boot_o_2 P, boot_o_3 P, boot_o_4 P, boot_o_5 P, boot_o_6 P, boot_o_7 P, boot_o_8 P, boot_o_9 P, boot_o_10 P, o0 P, o1 P, o2 P, o3 P]
noncomputable def L2 (P : Params) : List Obj := [boot_o_0 P, boot_o_1 P, boot_o_2 P, o4 P, boot_o_4 P, boot_o_5 P, boot_o_6 P, boot_o_7 P, boot_o_8 P, boot_o_9 P, boot_o_10 P, o0 P, o5 P, o2 P, o3 P, o6 P, o7 P, o8 P, o9 P, o10 P, o11 P, o12 P, o13 P, o14 P, o15 P, o16 P, o17 P, o18 P, o19 P, o20 P, o21 P, o22 P, o23 P, o24 P, o25 P, o26 P, o27 P, o28 P, o29 P, o30 P, o31 P, o32 P, o33 P, o34 P, o35 P, o36 P, o37 P, o38 P, o39 P, o40 P, o41 P, o42 P, o43 P, o44 P, o45 P, o46 P, o47 P, o48 P, o49 P, o50 P, o51 P, o52 P, o53 P, o54 P, o55 P, o56 P, o57 P, o58 P, o59 P, o60 P, o61 P, o62 P, o63 P, o64 P, o65 P, o66 P, o67 P, o68 P, o69 P, o70 P, o71 P, o72 P, o73 P, o74 P, o75 P, o76 P, o77 P, o78 P, o79 P, o80 P, o81 P, o82 P, o83 P, o84 P, o85 P, o86 P, o87 P, o88 P, o89 P, o90 P, o91 P, o92 P, o93 P, o94 P, o95 P, o96 P, o97 P, o98 P, o99 P, o100 P, o101 P, o102 P, o103 P]
noncomputable def L3 (P : Params) : List Obj := [boot_o_0 P, boot_o_1 P, boot_o_2 P, o104 P, boot_o_4 P, boot_o_5 P, boot_o_6 P, boot_o_7 P, boot_o_8 P, boot_o_9 P, boot_o_10 P, o0 P, o105 P, o2 P, o3 P, o6 P, o7 P, o8 P, o9 P, o10 P, o11 P, o12 P, o13 P, o14 P, o15 P, o16 P, o17 P, o18 P, o19 P, o20 P, o21 P, o22 P, o23 P, o24 P, o25 P, o26 P, o27 P, o28 P, o29 P, o30 P, o31 P, o32 P, o33 P, o34 P, o35 P, o36 P, o37 P, o38 P, o39 P, o40 P, o41 P, o42 P, o43 P, o44 P, o45 P, o46 P, o47 P, o48 P, o49 P, o50 P, o51 P, o52 P, o53 P, o54 P, o55 P, o56 P, o57 P, o58 P, o59 P, o60 P, o61 P, o62 P, o63 P, o64 P, o65 P, o66 P, o67 P, o68 P, o69 P, o70 P, o71 P, o72 P, o73 P, o74 P, o75 P, o76 P, o77 P, o78 P, o79 P, o80 P, o81 P, o82 P, o83 P, o84 P, o85 P, o86 P, o87 P, o88 P, o89 P, o90 P, o91 P, o92 P, o93 P, o94 P, o95 P, o96 P, o97 P, o98 P, o99 P, o100 P, o101 P, o102 P, o103 P, o106 P, o107 P, o108 P, o109 P, o110 P, o111 P, o112 P, o113 P, o114 P, o115 P, o116 P, o117 P, o118 P, o119 P, o120 P, o121 P, o122 P, o123 P, o124 P, o125 P, o126 P, o127 P, o128 P, o129 P, o130 P, o131 P, o132 P, o133 P, o134 P, o135 P, o136 P, o137 P, o138 P, o139 P, o140 P, o141 P, o142 P, o143 P, o144 P, o145 P, o146 P, o147 P, o148 P, o149 P, o150 P, o151 P, o152 P, o153 P, o154 P, o155 P, o156 P, o157 P, o158 P, o159 P, o160 P, o161 P, o162 P, o163 P, o164 P, o165 P, o166 P, o167 P, o168 P, o169 P, o170 P, o171 P, o172 P, o173 P, o174 P, o175 P, o176 P, o177 P, o178 P, o179 P]
noncomputable def L4 (P : Params) : List Obj := [boot_o_0 P, boot_o_1 P, boot_o_2 P, o104 P, boot_o_4 P, boot_o_5 P, boot_o_6 P, boot_o_7 P, boot_o_8 P, boot_o_9 P, boot_o_10 P, o0 P, o105 P, o2 P, o3 P, o6 P, o7 P, o8 P, o9 P, o10 P, o11 P, o12 P, o13 P, o14 P, o15 P, o16 P, o17 P, o18 P, o19 P, o20 P, o21 P, o22 P, o23 P, o24 P, o25 P, o26 P, o27 P, o28 P, o29 P, o30 P, o31 P, o32 P, o33 P, o34 P, o35 P, o36 P, o37 P, o38 P, o39 P, o40 P, o41 P, o42 P, o43 P, o44 P, o45 P, o46 P, o47 P, o48 P, o49 P, o50 P, o51 P, o52 P, o53 P, o54 P, o55 P, o56 P, o57 P, o58 P, o59 P, o60 P, o61 P, o62 P, o63 P, o64 P, o65 P, o66 P, o67 P, o68 P, o69 P, o70 P, o71 P, o72 P, o73 P, o74 P, o75 P, o76 P, o77 P, o78 P, o79 P, o80 P, o81 P, o82 P, o83 P, o84 P, o85 P, o86 P, o87 P, o88 P, o89 P, o90 P, o91 P, o92 P, o93 P, o94 P, o95 P, o96 P, o97 P, o98 P, o99 P, o100 P, o101 P, o102 P, o103 P, o106 P, o107 P, o108 P, o109 P, o110 P, o111 P, o112 P, o113 P, o114 P, o115 P, o116 P, o117 P, o118 P, o119 P, o120 P, o121 P, o122 P, o123 P, o124 P, o125 P, o126 P, o127 P, o128 P, o129 P, o130 P, o131 P, o132 P, o133 P, o134 P, o135 P, o136 P, o137 P, o138 P, o139 P, o140 P, o141 P, o142 P, o143 P, o144 P, o145 P, o146 P, o147 P, o148 P, o149 P, o150 P, o151 P, o152 P, o153 P, o154 P, o155 P, o156 P, o157 P, o158 P, o159 P, o160 P, o161 P, o162 P, o163 P, o164 P, o165 P, o166 P, o167 P, o168 P, o169 P, o170 P, o171 P, o172 P, o173 P, o174 P, o175 P, o176 P, o177 P, o178 P, o179 P]
noncomputable def H0 (P : Params) : Heap := boot_heap P
noncomputable def H1 (P : Params) : Heap := (⟨⟨L4 P⟩, (⟨[], [], [], 0, [], [], false, ⟨[]⟩, [], 0, false, false, false, 0, [2000, 10, 10], false, 0, true, [], [], 0, false⟩ : Life)⟩ : Heap)
noncomputable abbrev S0 (w : World) (os : OsState) : Shared := ⟨boot_heap w.params, ⟨[]⟩, boot_drawn, boot_toks, os⟩
noncomputable def Ha (P : Params) : Heap := (⟨⟨L0 P⟩, (⟨[], [], [], 0, [], [], false, ⟨[]⟩, [], 0, false, false, false, 0, [2000, 10, 10], false, 0, true, [], [], 0, false⟩ : Life)⟩ : Heap)
noncomputable abbrev Sa (w : World) (os : OsState) : Shared := ⟨Ha w.params, ⟨[]⟩, (⟨0, 0, 0, 0⟩ : Drawn), 187, os⟩
noncomputable abbrev T0 (w : World) (os : OsState) : SharedT := ⟨mkT 14 (L1 w.params), 15, (⟨[], [], [], 0, [], [], false, ⟨[]⟩, [], 0, false, false, false, 0, [2000, 10, 10], false, 0, true, [], [], 0, false⟩ : Life), ⟨[]⟩, (⟨0, 0, 0, 0⟩ : Drawn), 187, os⟩
noncomputable abbrev T1 (w : World) (os : OsState) : SharedT := ⟨mkT 14 (L2 w.params), 113, (⟨[], [], [], 0, [], [], false, ⟨[]⟩, [], 0, false, false, false, 0, [2000, 10, 10], false, 0, true, [], [], 0, false⟩ : Life), ⟨[]⟩, (⟨0, 0, 0, 0⟩ : Drawn), 325, os⟩
noncomputable abbrev T2 (w : World) (os : OsState) : SharedT := ⟨mkT 14 (L3 w.params), 187, (⟨[], [], [], 0, [], [], false, ⟨[]⟩, [], 0, false, false, false, 0, [2000, 10, 10], false, 0, true, [], [], 0, false⟩ : Life), ⟨[]⟩, (⟨0, 0, 0, 0⟩ : Drawn), 416, os⟩
noncomputable abbrev Sf (w : World) (os : OsState) : Shared := ⟨H1 w.params, ⟨[]⟩, (⟨0, 0, 0, 0⟩ : Drawn), 416, os⟩
theorem hPre (w : World) (os : OsState) : topGo treeTable pg w 11 (some (.ref 6)) 12 (S0 w os) (topStub pg) = some (Sa w os, ⟨denote treeTable cE, cE, ⟨0, 0, 0, 0⟩, [topFrame fp]⟩) := by
  unfold S0
  rw [PySem.W.Fast.te15667345088766844465, PySem.W.Fast.te14364793385576792824, PySem.W.Fast.te11892475500146522536]
  kernel_rfl
theorem hBlk (w : World) (os : OsState) : segRun treeTable pg w 11 (some (.ref 6)) 1 1 (Sa w os) (blockOf (behindTheImports pg) hEnv cE ⟨0, 0, 0, 0⟩ [topFrame fp]) = some (.next, (T0 w os).abs, cE, ⟨0, 0, 0, 0⟩) := by
  rw [PySem.W.Fast.te14374325043358763698, PySem.W.Fast.te14364793385576792824]
  kernel_rfl
theorem g0 (w : World) (os : OsState) : segRunT treeTable pg w 11 (some (.ref 6)) 1 777 (T0 w os) (piecesOf (((behindTheImports pg).drop 0).take 18) hEnv cE ⟨0, 0, 0, 0⟩ [topFrame fp]) = some (.next, T1 w os, cE, ⟨59, 0, 63, 20⟩) := by
  rw [PySem.W.Fast.te10110043849684766642, PySem.W.Fast.te14364793385576792824]
  kernel_rfl
theorem g1 (w : World) (os : OsState) : segRunT treeTable pg w 11 (some (.ref 6)) 1 346 (T1 w os) (piecesOf (((behindTheImports pg).drop 18).take 12) hEnv cE ⟨59, 0, 63, 20⟩ [topFrame fp]) = some (.next, T2 w os, cE, ⟨126, 0, 144, 111⟩) := by
  rw [PySem.W.Fast.te10110043849684766642, PySem.W.Fast.te14364793385576792824]
  kernel_rfl
theorem hFin (w : World) (os : OsState) : topRun treeTable pg w 11 (some (.ref 6)) 2 (T2 w os).abs ⟨doneF .next, cE, ⟨126, 0, 144, 111⟩, [topFrame fp]⟩ = some (Sf w os) := by
  rw [PySem.W.Fast.te14082659384304107361, PySem.W.Fast.te14364793385576792824]
  kernel_rfl
theorem hCut : behindTheImports pg = ((behindTheImports pg).drop 0).take 18 ++ (((behindTheImports pg).drop 18).take 12 ++ []) := by kernel_rfl
theorem hRun (w : World) (os : OsState) : topRun treeTable pg w 11 (some (.ref 6)) (12 + (1 + (777 + (346 + 2)))) (S0 w os) (topStub pg) = some (Sf w os) :=
  go_top (hPre w os) (piece_block (hBlk w os) ((congrArg (fun b => topRun treeTable pg w 11 (some (.ref 6)) (777 + (346 + 2)) (T0 w os).abs (restOf b hEnv cE ⟨0, 0, 0, 0⟩ [topFrame fp])) hCut).trans (piece_app (l := ((behindTheImports pg).drop 0).take 18) (segRun_of (g0 w os)) (piece_app (l := ((behindTheImports pg).drop 18).take 12) (segRun_of (g1 w os)) (piece_nil (hFin w os))))))
theorem hOpen (w : World) : (fencedOpening treeTable pg w 2368).map (fun s => (s.heap, s.gens, s.drawn, s.toks)) = some (H0 w.params, ⟨[]⟩, boot_drawn, boot_toks) :=
  boot_open (by kernel_rfl) (by decide +kernel) (fun s => by kernel_rfl) w
theorem hSize (w : World) : ((H0 w.params).isNs mainGlobals && (⟨[]⟩ : Array GenState).size == 0, (H0 w.params).objs.size, (H0 w.params).nsMap mainGlobals "__annotations__") = (true, 11, (some (.ref 6))) := by
  unfold H0
  rw []
  kernel_rfl
noncomputable def hQ : Program := view pg [1, 2, 4, 5, 7, 8, 9, 11, 12, 13, 15, 16, 17, 18, 19, 20, 21, 22, 23, 24, 25, 26, 27, 28, 29]
noncomputable def hLoose : List Str := []
noncomputable def hK : Params → Frag := fun P => ((nat_lit 2), boot_o_2 P) :: ((nat_lit 3), o104 P) :: ((nat_lit 15), o6 P) :: ((nat_lit 22), o13 P) :: ((nat_lit 23), o14 P) :: ((nat_lit 24), o15 P) :: ((nat_lit 25), o16 P) :: ((nat_lit 28), o19 P) :: ((nat_lit 35), o26 P) :: ((nat_lit 36), o27 P) :: ((nat_lit 37), o28 P) :: ((nat_lit 40), o31 P) :: ((nat_lit 42), o33 P) :: ((nat_lit 43), o34 P) :: ((nat_lit 45), o36 P) :: ((nat_lit 46), o37 P) :: ((nat_lit 47), o38 P) :: ((nat_lit 49), o40 P) :: ((nat_lit 50), o41 P) :: ((nat_lit 52), o43 P) :: ((nat_lit 53), o44 P) :: ((nat_lit 54), o45 P) :: ((nat_lit 56), o47 P) :: ((nat_lit 57), o48 P) :: ((nat_lit 59), o50 P) :: ((nat_lit 60), o51 P) :: ((nat_lit 61), o52 P) :: ((nat_lit 63), o54 P) :: ((nat_lit 64), o55 P) :: ((nat_lit 66), o57 P) :: ((nat_lit 67), o58 P) :: ((nat_lit 68), o59 P) :: ((nat_lit 70), o61 P) :: ((nat_lit 71), o62 P) :: ((nat_lit 73), o64 P) :: ((nat_lit 74), o65 P) :: ((nat_lit 75), o66 P) :: ((nat_lit 77), o68 P) :: ((nat_lit 78), o69 P) :: ((nat_lit 80), o71 P) :: ((nat_lit 81), o72 P) :: ((nat_lit 82), o73 P) :: ((nat_lit 85), o76 P) :: ((nat_lit 86), o77 P) :: ((nat_lit 87), o78 P) :: ((nat_lit 90), o81 P) :: ((nat_lit 91), o82 P) :: ((nat_lit 92), o83 P) :: ((nat_lit 94), o85 P) :: ((nat_lit 95), o86 P) :: ((nat_lit 97), o88 P) :: ((nat_lit 98), o89 P) :: ((nat_lit 99), o90 P) :: ((nat_lit 101), o92 P) :: ((nat_lit 102), o93 P) :: ((nat_lit 104), o95 P) :: ((nat_lit 105), o96 P) :: ((nat_lit 106), o97 P) :: ((nat_lit 108), o99 P) :: ((nat_lit 109), o100 P) :: ((nat_lit 111), o102 P) :: ((nat_lit 112), o103 P) :: ((nat_lit 113), o106 P) :: ((nat_lit 115), o108 P) :: ((nat_lit 116), o109 P) :: ((nat_lit 118), o111 P) :: ((nat_lit 119), o112 P) :: ((nat_lit 120), o113 P) :: ((nat_lit 122), o115 P) :: ((nat_lit 123), o116 P) :: ((nat_lit 125), o118 P) :: ((nat_lit 126), o119 P) :: ((nat_lit 127), o120 P) :: ((nat_lit 130), o123 P) :: ((nat_lit 131), o124 P) :: ((nat_lit 132), o125 P) :: ((nat_lit 134), o127 P) :: ((nat_lit 135), o128 P) :: ((nat_lit 137), o130 P) :: ((nat_lit 138), o131 P) :: ((nat_lit 139), o132 P) :: ((nat_lit 142), o135 P) :: ((nat_lit 143), o136 P) :: ((nat_lit 144), o137 P) :: ((nat_lit 146), o139 P) :: ((nat_lit 147), o140 P) :: ((nat_lit 149), o142 P) :: ((nat_lit 150), o143 P) :: ((nat_lit 151), o144 P) :: ((nat_lit 153), o146 P) :: ((nat_lit 154), o147 P) :: ((nat_lit 156), o149 P) :: ((nat_lit 157), o150 P) :: ((nat_lit 158), o151 P) :: ((nat_lit 161), o154 P) :: ((nat_lit 162), o155 P) :: ((nat_lit 163), o156 P) :: ((nat_lit 165), o158 P) :: ((nat_lit 166), o159 P) :: ((nat_lit 168), o161 P) :: ((nat_lit 169), o162 P) :: ((nat_lit 170), o163 P) :: ((nat_lit 173), o166 P) :: ((nat_lit 174), o167 P) :: ((nat_lit 175), o168 P) :: ((nat_lit 177), o170 P) :: ((nat_lit 178), o171 P) :: ((nat_lit 180), o173 P) :: ((nat_lit 181), o174 P) :: ((nat_lit 182), o175 P) :: ((nat_lit 185), o178 P) :: ((nat_lit 186), o179 P) :: []
noncomputable abbrev hHook : Hook := kHook hK [2, 3, 15, 22, 23, 24, 25, 28, 35, 36, 37, 40, 42, 43, 45, 46, 47, 49, 50, 52, 53, 54, 56, 57, 59, 60, 61, 63, 64, 66, 67, 68, 70, 71, 73, 74, 75, 77, 78, 80, 81, 82, 85, 86, 87, 90, 91, 92, 94, 95, 97, 98, 99, 101, 102, 104, 105, 106, 108, 109, 111, 112, 113, 115, 116, 118, 119, 120, 122, 123, 125, 126, 127, 130, 131, 132, 134, 135, 137, 138, 139, 142, 143, 144, 146, 147, 149, 150, 151, 153, 154, 156, 157, 158, 161, 162, 163, 165, 166, 168, 169, 170, 173, 174, 175, 177, 178, 180, 181, 182, 185, 186] (fun _ => by kernel_rfl)
noncomputable abbrev hXt (s : Shared) : Bool := xlAt hQ [] s && recOk (RowW.records (OpenRow.toRowW (OpenLaw.row PySem.Challenge.rw_chancehall_k14_rows_walked))) s
theorem hl1 (w : World) (os : OsState) : (staticsOk (importedModules pg.main.body) (H0 w.params) (H1 w.params) && namesBound pg (H1 w.params) && gensDone (Sf w os) && laidKept (H0 w.params) (H1 w.params)) = true := by
  unfold H0 Sf
  rw [PySem.W.Fast.te5923862056798008813]
  kernel_rfl
theorem hl2a (w : World) (os : OsState) : seen ((recsOf hQ).map (·.name)) (ownsOf hQ) [] { Sf w os with gens := #[] } = expectedOf hQ := by
  unfold Sf
  rw [PySem.W.Fast.te5160383126252970620]
  kernel_rfl
theorem hl2b (w : World) (os : OsState) : (Sf w os).heap.bltView = bltViewBooted := by
  unfold Sf
  kernel_rfl
theorem hl2c (w : World) (os : OsState) : (Sf w os).heap.keysOk (looseW hQ hLoose) ((recsOf hQ).map (·.name)) ((litsOf hQ).map (·.1)) ((clssOf hQ (looseW hQ hLoose)).map (·.name)) = true := by
  unfold Sf
  rw [PySem.W.Fast.te10880121769531294198]
  kernel_rfl
theorem hl2m (w : World) (os : OsState) : (Sf w os).heap.accountedOkI (importedModules pg.main.body) = true := by
  unfold Sf
  rw [PySem.W.Fast.te14722251495701143533, PySem.W.Fast.te5923862056798008813]
  kernel_rfl
theorem hl2n (w : World) (os : OsState) : (Sf w os).heap.isNs mainGlobals = true := by
  unfold Sf
  kernel_rfl
theorem hl2o (w : World) (os : OsState) : (Sf w os).heap.isNs builtinsNs = true := by
  unfold Sf
  kernel_rfl
theorem hl2p (w : World) (os : OsState) : tablesOk hQ (Sf w os).heap = true := by
  unfold Sf
  rw [PySem.W.Fast.te10994771534591457954]
  kernel_rfl
theorem hl2q (w : World) (os : OsState) : hXt (Sf w os) = true := by
  unfold Sf
  kernel_rfl
theorem hl2r (w : World) (os : OsState) : ((Sf w os).gens.size == 0) = true := by
  unfold Sf
  kernel_rfl
theorem hl2d (w : World) (os : OsState) : tabsOk hQ (Sf w os) = true := by
  unfold Sf
  rw [PySem.W.Fast.te479339242167458305]
  kernel_rfl
theorem hl2e (w : World) (os : OsState) : pinSeenD hQ (drecsOf hQ) (Sf w os) = pinGoodD (drecsOf hQ) := by
  unfold Sf
  rw [PySem.W.Fast.te16090120013241838585]
  kernel_rfl
theorem hl2f (w : World) (os : OsState) : plainSeenE hQ (looseW hQ hLoose) (Sf w os) = plainGoodE hQ (looseW hQ hLoose) := by
  unfold Sf
  rw [PySem.W.Fast.te2386780881361962483]
  kernel_rfl
theorem hl2g (w : World) (os : OsState) : plainSeenD hQ hLoose (Sf w os) = plainGoodD hQ hLoose := by
  unfold Sf
  rw [PySem.W.Fast.te11698064438423848299]
  kernel_rfl
theorem hl2h (w : World) (os : OsState) : wideSeen hQ (Sf w os) = wideGood hQ := by
  unfold Sf
  rw [PySem.W.Fast.te7317090234206586261]
  kernel_rfl
theorem hl2i (w : World) (os : OsState) : clsSeenW hQ hLoose (Sf w os) = clsGoodW hQ hLoose := by
  unfold Sf
  rw [PySem.W.Fast.te7369524293546568484]
  kernel_rfl
theorem hl2 (w : World) (os : OsState) : openSeen hQ hLoose (importedModules pg.main.body) hXt true (Sf w os) = openGood hQ hLoose := by
  unfold openSeen openGood
  rw [hl2a w os, hl2b w os, hl2c w os, hl2m w os, hl2n w os, hl2o w os, hl2p w os, hl2q w os, hl2d w os, hl2e w os, hl2f w os, hl2g w os, hl2h w os, hl2i w os, if_pos rfl, hl2r w os]
  rfl
theorem hl3 (w : World) (os : OsState) : hHook.obs (Sf w os) = hHook.val w := by
  kernel_rfl
theorem hLeft : LeftO pg hQ hLoose hXt hHook.obs hHook.val 2368 true :=
  LeftO.of_pieces (H₀ := H0) (H₁ := H1) hOpen hSize hRun (by decide +kernel) fun w => funext fun os => by
    rw [hl1 w os, hl2 w os, hl3 w os]
noncomputable abbrev hN : Nat := 2368
end PHd
namespace P
open PySem L2
inductive D where
  | non | bl (b : Bool) | int (i : Int) | str (x : Str) | ty (n : String) | cls (x : Str)
  | lst (ds : List D) | tup (ds : List D) | rd (ns : List Int) | ins (C : Str) (fs : List (Str × D)) | dic (kvs : List (Key × D)) | xo (x : Str) (own : Option (Str × D))
def XO (cls : Value) (d : Option Addr) (a : Addr) : HO := .ext fun h => ∃ (oe : Obj) (vs : Array Value), h.get? a = some oe ∧ oe.cls = cls ∧ oe.dict = d ∧ oe.data = .fields vs
mutual
inductive Rep (K : PySem.W.Frag) (H : Hp) : V → D → Prop
  | non : Rep K H .non .non
  | bl (b : Bool) : Rep K H (.bl b) (.bl b)
  | int (i : Int) : Rep K H (.int i) (.int i)
  | str (x : Str) : Rep K H (.str x) (.str x)
  | ty (n : String) : Rep K H (.ty n) (.ty n)
  | cls {x : Str} {C : Addr} : PySem.W.nsIn K mainGlobals x = some (some (.ref C)) → Rep K H (.ref C) (.cls x)
  | lst {a : Addr} {vs : List V} {ds : List D} : H a = some (.lst vs) → Reps K H vs ds → Rep K H (.ref a) (.lst ds)
  | tup {a : Addr} {vs : List V} {ds : List D} : H a = some (.tup vs) → Reps K H vs ds → Rep K H (.ref a) (.tup ds)
  | rd {a : Addr} {ns : List Int} : SqL K H a (ns.map V.int) → Rep K H (.ref a) (.rd ns)
  | ins {x : Str} {a C dx : Addr} {fs : List (Str × V)} {gs : List (Str × D)} : PySem.W.nsIn K mainGlobals x = some (some (.ref C)) → H a = some (.ins C dx fs) → RepF K H fs gs → Rep K H (.ref a) (.ins x gs)
  | dic {a : Addr} {kvs : List (Key × V)} {kds : List (Key × D)} : H a = some (.dK kvs) → RepK K H kvs kds → Rep K H (.ref a) (.dic kds)
  | xo0 {a C : Addr} {x : Str} : PySem.W.nsIn K mainGlobals x = some (some (.ref C)) → H a = some (XO (.ref C) none a) → Rep K H (.ref a) (.xo x none)
  | xo1 {a C dx : Addr} {x f : Str} {v : V} {d : D} : PySem.W.nsIn K mainGlobals x = some (some (.ref C)) → H a = some (XO (.ref C) (some dx) a) → H dx = some (.xd [(f, v)]) → Rep K H v d → Rep K H (.ref a) (.xo x (some (f, d)))
inductive Reps (K : PySem.W.Frag) (H : Hp) : List V → List D → Prop
  | nil : Reps K H [] []
  | cons {v : V} {d : D} {vs : List V} {ds : List D} : Rep K H v d → Reps K H vs ds → Reps K H (v :: vs) (d :: ds)
inductive RepF (K : PySem.W.Frag) (H : Hp) : List (Str × V) → List (Str × D) → Prop
  | nil : RepF K H [] []
  | cons {f : Str} {v : V} {d : D} {vs : List (Str × V)} {ds : List (Str × D)} : Rep K H v d → RepF K H vs ds → RepF K H ((f, v) :: vs) ((f, d) :: ds)
inductive RepK (K : PySem.W.Frag) (H : Hp) : List (Key × V) → List (Key × D) → Prop
  | nil : RepK K H [] []
  | cons {f : Key} {v : V} {d : D} {vs : List (Key × V)} {ds : List (Key × D)} : Rep K H v d → RepK K H vs ds → RepK K H ((f, v) :: vs) ((f, d) :: ds)
end
section
variable {K : PySem.W.Frag} {H H' : Hp}
mutual
theorem Rep.mono (e : Same H H') : ∀ {v : V} {d : D}, Rep K H v d → Rep K H' v d
  | _, _, .non => .non
  | _, _, .bl b => .bl b
  | _, _, .int b => .int b
  | _, _, .str b => .str b
  | _, _, .ty b => .ty b
  | _, _, .cls n => .cls n
  | _, _, .lst h r => .lst (e _ _ h) (Reps.mono e r)
  | _, _, .tup h r => .tup (e _ _ h) (Reps.mono e r)
  | _, _, .rd h => .rd (e.seq h)
  | _, _, .ins n h r => .ins n (e _ _ h) (RepF.mono e r)
  | _, _, .dic h r => .dic (e _ _ h) (RepK.mono e r)
  | _, _, .xo0 n h => .xo0 n (e _ _ h)
  | _, _, .xo1 n h h' r => .xo1 n (e _ _ h) (e _ _ h') (Rep.mono e r)
theorem Reps.mono (e : Same H H') : ∀ {v : List V} {d : List D}, Reps K H v d → Reps K H' v d
  | _, _, .nil => .nil
  | _, _, .cons a b => .cons (Rep.mono e a) (Reps.mono e b)
theorem RepF.mono (e : Same H H') : ∀ {v : List (Str × V)} {d : List (Str × D)}, RepF K H v d → RepF K H' v d
  | _, _, .nil => .nil
  | _, _, .cons a b => .cons (Rep.mono e a) (RepF.mono e b)
theorem RepK.mono (e : Same H H') : ∀ {v : List (Key × V)} {d : List (Key × D)}, RepK K H v d → RepK K H' v d
  | _, _, .nil => .nil
  | _, _, .cons a b => .cons (Rep.mono e a) (RepK.mono e b)
end
theorem Reps.length : ∀ {v : List V} {d : List D}, Reps K H v d → v.length = d.length
  | _, _, .nil => rfl
  | _, _, .cons _ b => congrArg (· + 1) b.length
theorem Reps.get : ∀ {v : List V} {d : List D} {i : Nat} {x : V}, Reps K H v d → v[i]? = some x → ∃ y, d[i]? = some y ∧ Rep K H x y
  | _, _, _, _, .nil, h => by cases h
  | _, _, 0, _, .cons a b, h => by cases h; exact ⟨_, rfl, a⟩
  | _, _, i + 1, _, .cons a b, h => b.get (i := i) h
theorem Reps.get' : ∀ {v : List V} {d : List D} {i : Nat} {y : D}, Reps K H v d → d[i]? = some y → ∃ x, v[i]? = some x ∧ Rep K H x y
  | _, _, _, _, .nil, h => by cases h
  | _, _, 0, _, .cons a b, h => by cases h; exact ⟨_, rfl, a⟩
  | _, _, i + 1, _, .cons a b, h => b.get' (i := i) h
theorem Reps.append : ∀ {v v' : List V} {d d' : List D}, Reps K H v d → Reps K H v' d' → Reps K H (v ++ v') (d ++ d')
  | _, _, _, _, .nil, h => h
  | _, _, _, _, .cons a b, h => .cons a (b.append h)
theorem Reps.take : ∀ {v : List V} {d : List D} (i : Nat), Reps K H v d → Reps K H (v.take i) (d.take i)
  | _, _, 0, _ => .nil
  | _, _, _ + 1, .nil => .nil
  | _, _, i + 1, .cons a b => .cons a (b.take i)
theorem Reps.drop : ∀ {v : List V} {d : List D} (i : Nat), Reps K H v d → Reps K H (v.drop i) (d.drop i)
  | _, _, 0, r => r
  | _, _, _ + 1, .nil => .nil
  | _, _, i + 1, .cons _ b => b.drop i
theorem Reps.ints : ∀ {v : List V} {ns : List Int}, Reps K H v (ns.map D.int) → v = ns.map V.int
  | _, [], .nil => rfl
  | _, _ :: _, .cons (.int _) b => congrArg (_ :: ·) b.ints
theorem Reps.of_ints : ∀ (ns : List Int), Reps K H (ns.map V.int) (ns.map D.int)
  | [] => .nil
  | n :: r => .cons (.int n) (Reps.of_ints r)
theorem Reps.bls : ∀ {v : List V} {ns : List Bool}, Reps K H v (ns.map D.bl) → v = ns.map V.bl
  | _, [], .nil => rfl
  | _, _ :: _, .cons (.bl _) b => congrArg (_ :: ·) b.bls
theorem RepF.look : ∀ {fs : List (Str × V)} {gs : List (Str × D)} {f : Str} {d : D}, RepF K H fs gs → gs.lookup f = some d → ∃ v, fs.lookup f = some v ∧ Rep K H v d
  | _, _, _, _, .nil, h => by cases h
  | _, _, f, d, .cons (f := g) a b, h => by
    rw [List.lookup_cons] at h ⊢
    by_cases e : f == g
    · rw [e] at h ⊢
      cases h
      exact ⟨_, rfl, a⟩
    · rw [Bool.not_eq_true] at e
      rw [e] at h ⊢
      exact b.look h
end
open Classical in
noncomputable def del (H : Hp) (O : Addr → Prop) : Hp := fun b => if O b then none else H b
theorem del_some {H : Hp} {O : Addr → Prop} {a : Addr} {o : HO} : del H O a = some o ↔ ¬ O a ∧ H a = some o := by
  unfold del
  split
  · rename_i h
    constructor
    · intro z; cases z
    · rintro ⟨z, _⟩; exact absurd h z
  · rename_i h
    exact ⟨fun z => ⟨h, z⟩, fun z => z.2⟩
theorem del_mono {H H' : Hp} {O : Addr → Prop} (e : Same H H') : Same (del H O) (del H' O) := fun b o h => by
  rw [del_some] at h ⊢
  exact ⟨h.1, e _ _ h.2⟩
theorem del_sub {H : Hp} {O O' : Addr → Prop} (e : ∀ a, O' a → O a) : Same (del H O) (del H O') := fun b o h => by
  rw [del_some] at h ⊢
  exact ⟨fun z => h.1 (e _ z), h.2⟩
theorem del_same (H : Hp) (O : Addr → Prop) : Same (del H O) H := fun b o h => (del_some.mp h).2
theorem del_nil (H : Hp) : del H (fun _ => False) = H := by
  funext b
  unfold del
  rw [if_neg (by simp)]
def isMut : HO → Bool
  | .lst _ => true | .dK _ => true | .ins _ _ _ => true | .frz _ _ => true | _ => false
def Mu (H : Hp) (a : Addr) : Prop := ∃ o, H a = some o ∧ isMut o = true
theorem Mu.mono {H H' : Hp} {a : Addr} (e : Same H H') (h : Mu H a) : Mu H' a := by
  obtain ⟨o, h1, h2⟩ := h
  exact ⟨o, e _ _ h1, h2⟩
def KeepI (H H' : Hp) : Prop := ∀ a o, H a = some o → isMut o = false → H' a = some o
theorem same_upd {H : Hp} {p : Addr} (o : HO) (h : H p = none) : Same H (upd H p o) := fun b u q => by
  rw [upd_ne (ne_of_none q h)]
  exact q
def flat : D → Bool
  | .lst _ => false | .rd _ => false | .ins _ _ => false | .dic _ => false
  | .tup ds => flats ds
  | .xo _ (some (_, d)) => flat d
  | _ => true
where flats : List D → Bool
  | [] => true
  | d :: ds => flat d && flats ds
abbrev flats := flat.flats
mutual
theorem Rep.flat {K : PySem.W.Frag} {H H' : Hp} (e : KeepI H H') : ∀ {v : V} {d : D}, Rep K H v d → flat d = true → Rep K H' v d
  | _, _, .non, _ => .non
  | _, _, .bl b, _ => .bl b
  | _, _, .int b, _ => .int b
  | _, _, .str b, _ => .str b
  | _, _, .ty b, _ => .ty b
  | _, _, .cls n, _ => .cls n
  | _, _, .lst h r, q => nomatch q
  | _, _, .tup h r, q => .tup (e _ _ h rfl) (Reps.flat e r q)
  | _, _, .rd h, q => nomatch q
  | _, _, .ins n h r, q => nomatch q
  | _, _, .dic h r, q => nomatch q
  | _, _, .xo0 n h, _ => .xo0 n (e _ _ h rfl)
  | _, _, .xo1 n h h' r, q => .xo1 n (e _ _ h rfl) (e _ _ h' rfl) (Rep.flat e r q)
theorem Reps.flat {K : PySem.W.Frag} {H H' : Hp} (e : KeepI H H') : ∀ {v : List V} {d : List D}, Reps K H v d → flats d = true → Reps K H' v d
  | _, _, .nil, _ => .nil
  | _, _, .cons a b, q => by
    have q' : (P.flat _ && flats _) = true := q
    rw [Bool.and_eq_true] at q'
    exact .cons (Rep.flat e a q'.1) (Reps.flat e b q'.2)
end
theorem flats_mem : ∀ {ds : List D} {d : D}, flats ds = true → d ∈ ds → flat d = true
  | e :: ds, d, h, hd => by
    have q' : (flat e && flats ds) = true := h
    rw [Bool.and_eq_true] at q'
    rcases List.mem_cons.mp hd with rfl | hd
    · exact q'.1
    · exact flats_mem q'.2 hd

inductive Root where
  | sl (i : Nat) | tm (j : Nat)
  deriving DecidableEq
abbrev Own := Addr → Option (Root × List Nat)
def Av (B : Addr → Prop) (o : Own) : Addr → Prop := fun a => B a ∨ ∃ p, o a = some p
mutual
inductive RO (K : PySem.W.Frag) (H : Hp) (A : Addr → Prop) (o : Own) : Root → List Nat → Nat → V → D → Prop
  | st {r : Root} {p : List Nat} {v : V} {d : D} : Rep K (del H A) v d → RO K H A o r p 0 v d
  | flat {r : Root} {p : List Nat} {k : Nat} {v : V} {d : D} : flat d = true → Rep K H v d → RO K H A o r p (k + 1) v d
  | lst {r : Root} {p : List Nat} {k : Nat} {a : Addr} {vs : List V} {ds : List D} : o a = some (r, p) → H a = some (.lst vs) → ROs K H A o r p 0 k vs ds → RO K H A o r p (k + 1) (.ref a) (.lst ds)
  | tup {r : Root} {p : List Nat} {k : Nat} {a : Addr} {vs : List V} {ds : List D} : H a = some (.tup vs) → ROs K H A o r p 0 (k + 1) vs ds → RO K H A o r p (k + 1) (.ref a) (.tup ds)
  | ins {r : Root} {p : List Nat} {k : Nat} {x : Str} {a C dx : Addr} {fs : List (Str × V)} {gs : List (Str × D)} : o a = some (r, p) → PySem.W.nsIn K mainGlobals x = some (some (.ref C)) → H a = some (.ins C dx fs) → ROs K H A o r p 0 k (fs.map (·.2)) (gs.map (·.2)) → fs.map (·.1) = gs.map (·.1) → RO K H A o r p (k + 1) (.ref a) (.ins x gs)
  | dic {r : Root} {p : List Nat} {k : Nat} {a : Addr} {kvs : List (Key × V)} {kds : List (Key × D)} : o a = some (r, p) → H a = some (.dK kvs) → ROs K H A o r p 0 k (kvs.map (·.2)) (kds.map (·.2)) → kvs.map (·.1) = kds.map (·.1) → RO K H A o r p (k + 1) (.ref a) (.dic kds)
inductive ROs (K : PySem.W.Frag) (H : Hp) (A : Addr → Prop) (o : Own) : Root → List Nat → Nat → Nat → List V → List D → Prop
  | nil {r : Root} {p : List Nat} {i k : Nat} : ROs K H A o r p i k [] []
  | cons {r : Root} {p : List Nat} {i k : Nat} {v : V} {d : D} {vs : List V} {ds : List D} : RO K H A o r (p ++ [i]) k v d → ROs K H A o r p (i + 1) k vs ds → ROs K H A o r p i k (v :: vs) (d :: ds)
end
section
variable {K : PySem.W.Frag} {H H' : Hp} {A A' : Addr → Prop} {o o' : Own}
structure Tr (K : PySem.W.Frag) (H H' : Hp) (A A' : Addr → Prop) (o o' : Own) (r : Root) (p : List Nat) (r' : Root) (p' : List Nat) : Prop where
  st : Same (del H A) (del H' A')
  ki : KeepI H H'
  nd : ∀ a q, o a = some (r, p ++ q) → o' a = some (r', p' ++ q) ∧ ∀ u, H a = some u → H' a = some u
mutual
theorem RO.tr {r r' : Root} {p0 p0' : List Nat} (T : Tr K H H' A A' o o' r p0 r' p0') : ∀ {p : List Nat} {k : Nat} {v : V} {d : D} {q : List Nat}, p = p0 ++ q → RO K H A o r p k v d → RO K H' A' o' r' (p0' ++ q) k v d
  | _, _, _, _, q, _, .st h => .st (h.mono T.st)
  | _, _, _, _, q, _, .flat f h => .flat f (h.flat T.ki f)
  | _, _, _, _, q, e, .lst ha hh hs => .lst (T.nd _ q (e ▸ ha)).1 ((T.nd _ q (e ▸ ha)).2 _ hh) (ROs.tr T e hs)
  | _, _, _, _, q, e, .tup hh hs => .tup (T.ki _ _ hh rfl) (ROs.tr T e hs)
  | _, _, _, _, q, e, .ins ha hn hh hs hk => .ins (T.nd _ q (e ▸ ha)).1 hn ((T.nd _ q (e ▸ ha)).2 _ hh) (ROs.tr T e hs) hk
  | _, _, _, _, q, e, .dic ha hh hs hk => .dic (T.nd _ q (e ▸ ha)).1 ((T.nd _ q (e ▸ ha)).2 _ hh) (ROs.tr T e hs) hk
theorem ROs.tr {r r' : Root} {p0 p0' : List Nat} (T : Tr K H H' A A' o o' r p0 r' p0') : ∀ {p : List Nat} {i k : Nat} {vs : List V} {ds : List D} {q : List Nat}, p = p0 ++ q → ROs K H A o r p i k vs ds → ROs K H' A' o' r' (p0' ++ q) i k vs ds
  | _, _, _, _, _, q, _, .nil => .nil
  | _, i, _, _, _, q, e, .cons h hs => .cons (by
      have z := RO.tr T (q := q ++ [i]) (by rw [e, List.append_assoc]) h
      rw [← List.append_assoc] at z
      exact z) (ROs.tr T e hs)
end
theorem ROs.repF {o : Own} (h : Reps K H' (fs.map (·.2)) (gs.map (·.2))) (e : fs.map (·.1) = gs.map (·.1)) : RepF K H' fs gs := by
  induction fs generalizing gs with
  | nil =>
    cases gs with
    | nil => exact .nil
    | cons g gs => cases e
  | cons f fs ih =>
    cases gs with
    | nil => cases e
    | cons g gs =>
      obtain ⟨f1, f2⟩ := f
      obtain ⟨g1, g2⟩ := g
      cases h with
      | cons h hs =>
        simp only [List.map_cons, List.cons.injEq] at e
        obtain ⟨rfl, e⟩ := e
        exact .cons h (ih hs e)
theorem ROs.repK {o : Own} (h : Reps K H' (fs.map (·.2)) (gs.map (·.2))) (e : fs.map (·.1) = gs.map (·.1)) : RepK K H' fs gs := by
  induction fs generalizing gs with
  | nil =>
    cases gs with
    | nil => exact .nil
    | cons g gs => cases e
  | cons f fs ih =>
    cases gs with
    | nil => cases e
    | cons g gs =>
      obtain ⟨f1, f2⟩ := f
      obtain ⟨g1, g2⟩ := g
      cases h with
      | cons h hs =>
        simp only [List.map_cons, List.cons.injEq] at e
        obtain ⟨rfl, e⟩ := e
        exact .cons h (ih hs e)
structure Fz (K : PySem.W.Frag) (H H' : Hp) (A : Addr → Prop) (o : Own) (r : Root) (p : List Nat) : Prop where
  st : Same (del H A) H'
  ki : KeepI H H'
  nd : ∀ a q u, o a = some (r, p ++ q) → H a = some u → H' a = some u
mutual
theorem RO.rep {r : Root} {p0 : List Nat} (T : Fz K H H' A o r p0) : ∀ {p : List Nat} {k : Nat} {v : V} {d : D} {q : List Nat}, p = p0 ++ q → RO K H A o r p k v d → Rep K H' v d
  | _, _, _, _, q, _, .st h => h.mono T.st
  | _, _, _, _, q, _, .flat f h => h.flat T.ki f
  | _, _, _, _, q, e, .lst ha hh hs => .lst (T.nd _ q _ (e ▸ ha) hh) (ROs.rep T e hs)
  | _, _, _, _, q, e, .tup hh hs => .tup (T.ki _ _ hh rfl) (ROs.rep T e hs)
  | _, _, _, _, q, e, .ins ha hn hh hs hk => .ins hn (T.nd _ q _ (e ▸ ha) hh) (ROs.repF (o := o) (ROs.rep T e hs) hk)
  | _, _, _, _, q, e, .dic ha hh hs hk => .dic (T.nd _ q _ (e ▸ ha) hh) (ROs.repK (o := o) (ROs.rep T e hs) hk)
theorem ROs.rep {r : Root} {p0 : List Nat} (T : Fz K H H' A o r p0) : ∀ {p : List Nat} {i k : Nat} {vs : List V} {ds : List D} {q : List Nat}, p = p0 ++ q → ROs K H A o r p i k vs ds → Reps K H' vs ds
  | _, _, _, _, _, q, _, .nil => .nil
  | _, i, _, _, _, q, e, .cons h hs => .cons (RO.rep T (q := q ++ [i]) (by rw [e, List.append_assoc]) h) (ROs.rep T e hs)
end
theorem RO.repH {r : Root} {p : List Nat} {k : Nat} {v : V} {d : D} (h : RO K H A o r p k v d) : Rep K H v d :=
  RO.rep (p0 := p) (q := []) ⟨del_same _ _, fun _ _ q _ => q, fun _ _ _ _ q => q⟩ (by simp) h
theorem ROs.get {r : Root} : ∀ {p : List Nat} {i k : Nat} {vs : List V} {ds : List D} {j : Nat} {d : D}, ROs K H A o r p i k vs ds → ds[j]? = some d → ∃ v, vs[j]? = some v ∧ RO K H A o r (p ++ [i + j]) k v d
  | _, _, _, _, _, _, _, .nil, h => by cases h
  | _, _, _, _, _, 0, _, .cons a b, h => by cases h; exact ⟨_, rfl, a⟩
  | _, _, _, _, _, j + 1, _, .cons a b, h => by
    obtain ⟨v, e, r⟩ := ROs.get (j := j) b h
    exact ⟨v, e, by rw [show ∀ i j : Nat, i + (j + 1) = i + 1 + j from fun i j => by omega]; exact r⟩
theorem ROs.length {r : Root} : ∀ {p : List Nat} {i k : Nat} {vs : List V} {ds : List D}, ROs K H A o r p i k vs ds → vs.length = ds.length
  | _, _, _, _, _, .nil => rfl
  | _, _, _, _, _, .cons _ b => congrArg (· + 1) b.length
theorem ROs.append {r : Root} : ∀ {p : List Nat} {i k : Nat} {vs ws : List V} {ds es : List D}, ROs K H A o r p i k vs ds → ROs K H A o r p (i + ds.length) k ws es → ROs K H A o r p i k (vs ++ ws) (ds ++ es)
  | _, _, _, _, _, _, _, .nil, h => h
  | _, i, _, _, _, _, _, .cons a b, h => .cons a (b.append (by
    rw [List.length_cons, show ∀ n : Nat, i + (n + 1) = i + 1 + n from fun n => by omega] at h
    exact h))
end
end P
namespace P
open PySem L2
theorem del_upd {H : Hp} {O : Addr → Prop} {a : Addr} {o : HO} (h : O a) : del (upd H a o) O = del H O := by
  funext b
  unfold del
  by_cases hb : b = a
  · subst hb
    rw [if_pos h, if_pos h]
  · rw [upd_ne hb]
inductive Sl where
  | no | ow (k : Nat) (d : D) | me (k : Nat) (d : D) | fx
def Sl.fixed : Sl → Bool
  | .me _ _ => true | .fx => true | _ => false
abbrev Env := List Sl
def look (ρ : Env) (i : Nat) : Option (Nat × D) := match ρ[i]? with
  | some (.ow k d) => some (k, d)
  | some (.me k d) => some (k, d)
  | _ => none
def setK (ρ : Env) (i k : Nat) (d : D) : Env := match ρ[i]? with
  | some (.me _ _) => ρ.set i (.me k d)
  | _ => ρ.set i (.ow k d)
inductive Kd where
  | ow (k : Nat) | bw | pl (w : V) (q : List Nat)
structure T where
  v : V
  k : Kd
  d : D
def child (H : Hp) (a : Addr) (j : Nat) : Option V := match H a with
  | some (.lst vs) => vs[j]?
  | some (.tup vs) => vs[j]?
  | some (.ins _ _ fs) => (fs.map (·.2))[j]?
  | some (.dK kvs) => (kvs.map (·.2))[j]?
  | _ => none
def PathTo (H : Hp) : V → List Nat → V → Prop
  | w, [], v => v = w
  | w, j :: q, v => ∃ a u, w = .ref a ∧ child H a j = some u ∧ PathTo H u q v
theorem child_mono {H H' : Hp} (e : Same H H') {a : Addr} {j : Nat} {u : V} (h : child H a j = some u) : child H' a j = some u := by
  unfold child at h ⊢
  cases q : H a with
  | none => rw [q] at h; cases h
  | some o =>
    rw [e _ _ q]
    rw [q] at h
    exact h
theorem PathTo.mono {H H' : Hp} (e : Same H H') : ∀ {q : List Nat} {w v : V}, PathTo H w q v → PathTo H' w q v
  | [], _, _, h => h
  | j :: q, w, v, h => by
    obtain ⟨a, u, h1, h2, h3⟩ := h
    exact ⟨a, u, h1, child_mono e h2, PathTo.mono e h3⟩
theorem PathTo.snoc {H : Hp} {j : Nat} {u : V} {a : Addr} : ∀ {q : List Nat} {w : V}, PathTo H w q (.ref a) → child H a j = some u → PathTo H w (q ++ [j]) u
  | [], w, h, h2 => ⟨a, u, h.symm, h2, rfl⟩
  | i :: q, w, h, h2 => by
    obtain ⟨a', u', e1, e2, e3⟩ := h
    exact ⟨a', u', e1, e2, PathTo.snoc e3 h2⟩
section
variable (K : PySem.W.Frag) (H : Hp) (B : Addr → Prop) (o : Own)
def TmOk (j : Nat) (t : T) : Prop := match t.k with
  | .ow k => RO K H (Av B o) o (.tm j) [] k t.v t.d
  | .bw => Rep K H t.v t.d
  | .pl w q => PathTo H w q t.v
def TOk : List T → Prop
  | [] => True
  | t :: τ => TmOk K H B o τ.length t ∧ TOk τ
end
structure Px where
  a : Addr
  f : Str
  v : V
  d : D
structure Bg where
  hp : Hp
  pn : List Px
  me : Nat → V
def Bk (K : PySem.W.Frag) (B : Addr → Prop) (G : Bg) (H : Hp) (o : Own) : Prop := Same G.hp H ∧ ∀ p, p ∈ G.pn → H p.a = some (.xd [(p.f, p.v)]) ∧ Rep K (del H (Av B o)) p.v p.d
theorem Bk.tr {K : PySem.W.Frag} {B : Addr → Prop} {G : Bg} {H H' : Hp} {o o' : Own} (h : Bk K B G H o) (hs : Same G.hp H') (hk : KeepI H H') (hd : Same (del H (Av B o)) (del H' (Av B o'))) : Bk K B G H' o' :=
  ⟨hs, fun p hp => ⟨hk _ _ (h.2 p hp).1 rfl, (h.2 p hp).2.mono hd⟩⟩
structure Ok (K : PySem.W.Frag) (B : Addr → Prop) (H0 : Hp) (Hf : Bg) (σ : St) (ρ : Env) (τ : List T) (H : Hp) (o : Own) : Prop where
  len : σ.length = ρ.length
  bs : ∀ a, B a → Mu H0 a
  sm : Same H0 H
  fl : Bk K B Hf H o
  ow : ∀ a p, o a = some p → H0 a = none ∧ Mu H a
  sl : ∀ i k d, look ρ i = some (k, d) → ∃ v, σ[i]? = some (some v) ∧ RO K H (Av B o) o (.sl i) [] k v d
  ms : ∀ (i : Nat) (x : Sl), ρ[i]? = some x → x.fixed = true → σ[i]? = some (some (Hf.me i))
  tp : TOk K H B o τ
section
variable {K : PySem.W.Frag} {B : Addr → Prop} {H0 H H' : Hp} {Hf : Bg} {σ σ' : St} {ρ ρ' : Env} {τ τ' : List T} {o o' : Own} {v : V} {d : D} {t : T} {k : Nat} {r r' : Root} {p p' : List Nat}
theorem Ok.mu (I : Ok K B H0 Hf σ ρ τ H o) {a : Addr} (h : Av B o a) : Mu H a := by
  rcases h with h | ⟨p, h⟩
  · exact (I.bs a h).mono I.sm
  · exact (I.ow a p h).2
theorem Ok.nb (I : Ok K B H0 Hf σ ρ τ H o) {a : Addr} {p : Root × List Nat} (h : o a = some p) : ¬ B a := fun hb => by
  obtain ⟨u, e, _⟩ := I.bs a hb
  rw [(I.ow a p h).1] at e
  cases e
theorem RO.grow (e : Same H H') (h : RO K H (Av B o) o r p k v d) : RO K H' (Av B o) o r p k v d := by
  have z := RO.tr (p0 := p) (p0' := p) (r' := r) (q := []) ⟨del_mono e, fun a u h _ => e a u h, fun a q h => ⟨h, e a⟩⟩ (by simp) h
  simpa using z
theorem TmOk.grow (e : Same H H') {j : Nat} (h : TmOk K H B o j t) : TmOk K H' B o j t := by
  obtain ⟨v, k, d⟩ := t
  cases k with
  | ow k => exact RO.grow e h
  | bw => exact Rep.mono e h
  | pl w q => exact PathTo.mono e h
theorem TOk.grow (e : Same H H') : ∀ {τ : List T}, TOk K H B o τ → TOk K H' B o τ
  | [], _ => trivial
  | _ :: _, h => ⟨h.1.grow e, TOk.grow e h.2⟩
theorem Ok.grow (I : Ok K B H0 Hf σ ρ τ H o) (e : Same H H') : Ok K B H0 Hf σ ρ τ H' o :=
  ⟨I.len, I.bs, I.sm.trans e, I.fl.tr (I.fl.1.trans e) (fun a u h _ => e a u h) (del_mono e), fun a p h => ⟨(I.ow a p h).1, (I.ow a p h).2.mono e⟩, fun i k d h => by
    obtain ⟨v, e1, e2⟩ := I.sl i k d h
    exact ⟨v, e1, e2.grow e⟩, I.ms, I.tp.grow e⟩
theorem Ok.push (I : Ok K B H0 Hf σ ρ τ H o) (h : TmOk K H B o τ.length t) : Ok K B H0 Hf σ ρ (t :: τ) H o := ⟨I.len, I.bs, I.sm, I.fl, I.ow, I.sl, I.ms, h, I.tp⟩
theorem Ok.pop (I : Ok K B H0 Hf σ ρ (t :: τ) H o) : Ok K B H0 Hf σ ρ τ H o := ⟨I.len, I.bs, I.sm, I.fl, I.ow, I.sl, I.ms, I.tp.2⟩
theorem TOk.drop : ∀ {τ' τ : List T}, TOk K H B o (τ' ++ τ) → TOk K H B o τ
  | [], _, h => h
  | _ :: τ', _, h => TOk.drop (τ' := τ') h.2
theorem Ok.pops (I : Ok K B H0 Hf σ ρ (τ' ++ τ) H o) : Ok K B H0 Hf σ ρ τ H o := ⟨I.len, I.bs, I.sm, I.fl, I.ow, I.sl, I.ms, I.tp.drop⟩
theorem Ok.top (I : Ok K B H0 Hf σ ρ (t :: τ) H o) : TmOk K H B o τ.length t := I.tp.1
theorem Ok.stab (I : Ok K B H0 Hf σ ρ τ H o) (h : Rep K (del H (Av B o)) v d) : Ok K B H0 Hf σ ρ (⟨v, .ow 0, d⟩ :: τ) H o := I.push (.st h)
theorem keep_av (I : Ok K B H0 Hf σ ρ τ H o) : KeepI H (del H (Av B o)) := fun a u h hu => by
  refine del_some.mpr ⟨fun z => ?_, h⟩
  obtain ⟨u', e, m⟩ := I.mu z
  rw [h] at e
  cases e
  rw [hu] at m
  cases m
theorem Ok.flatP (I : Ok K B H0 Hf σ ρ τ H o) (r : Rep K H v d) (h : flat d = true) : Ok K B H0 Hf σ ρ (⟨v, .ow 0, d⟩ :: τ) H o := I.stab (r.flat (keep_av I) h)
def isS : D → Bool
  | .non => true | .bl _ => true | .int _ => true | .str _ => true | .ty _ => true | _ => false
def toV : D → V
  | .non => .non | .bl b => .bl b | .int i => .int i | .str s => .str s | .ty n => .ty n
  | _ => .non
theorem Rep.sc {K : PySem.W.Frag} {H : Hp} {v : V} {d : D} (r : Rep K H v d) (h : isS d = true) : v = toV d := by
  cases r <;> first | rfl | cases h
theorem Rep.of_sc {K : PySem.W.Frag} {H : Hp} {d : D} (h : isS d = true) : Rep K H (toV d) d := by
  cases d <;> first | constructor | cases h
theorem Ok.scal (I : Ok K B H0 Hf σ ρ τ H o) (h : isS d = true) : Ok K B H0 Hf σ ρ (⟨toV d, .ow 0, d⟩ :: τ) H o := I.stab (.of_sc h)
theorem TmOk.rep {j : Nat} (h : TmOk K H B o j t) (hk : ∀ w q, t.k ≠ .pl w q) : Rep K H t.v t.d := by
  obtain ⟨v, k, d⟩ := t
  cases k with
  | ow k => exact RO.repH h
  | bw => exact h
  | pl w q => exact absurd rfl (hk w q)

def ob (o : Own) (g : Root × List Nat → Option (Root × List Nat)) : Own := fun a => (o a).bind g
theorem ob_some {g : Root × List Nat → Option (Root × List Nat)} {a : Addr} {z : Root × List Nat} (h : ob o g a = some z) : ∃ y, o a = some y ∧ g y = some z := by
  unfold ob at h
  cases e : o a with
  | none => rw [e] at h; cases h
  | some y => rw [e] at h; exact ⟨y, rfl, h⟩
theorem av_ob {g : Root × List Nat → Option (Root × List Nat)} {a : Addr} (h : Av B (ob o g) a) : Av B o a := by
  rcases h with h | ⟨z, h⟩
  · exact .inl h
  · obtain ⟨y, e, _⟩ := ob_some h
    exact .inr ⟨y, e⟩
theorem RO.re {g : Root × List Nat → Option (Root × List Nat)} (hg : ∀ q, g (r, p ++ q) = some (r', p' ++ q)) (h : RO K H (Av B o) o r p k v d) : RO K H (Av B (ob o g)) (ob o g) r' p' k v d := by
  have z := RO.tr (p0 := p) (p0' := p') (r' := r') (q := []) (o' := ob o g) (A' := Av B (ob o g)) (H' := H) ⟨del_sub fun a => av_ob, fun a u h _ => h, fun a q h => ⟨by unfold ob; rw [h]; exact hg q, fun u e => e⟩⟩ (by simp) h
  simpa using z
theorem RO.fz {g : Root × List Nat → Option (Root × List Nat)} (I : Ok K B H0 Hf σ ρ τ H o) (hg : ∀ q, g (r, p ++ q) = none) (h : RO K H (Av B o) o r p k v d) : Rep K (del H (Av B (ob o g))) v d :=
  RO.rep (p0 := p) (q := []) ⟨del_sub fun a => av_ob, fun a u h hu => del_sub (fun a => av_ob) a u (keep_av I a u h hu), fun a q u h e => by
    refine del_some.mpr ⟨fun z => ?_, e⟩
    rcases z with z | ⟨y, z⟩
    · exact I.nb h z
    · unfold ob at z
      rw [h] at z
      have z : g (r, p ++ q) = some y := z
      rw [hg] at z
      cases z⟩ (by simp) h
theorem Ok.remap (I : Ok K B H0 Hf σ ρ τ H o) (g : Root × List Nat → Option (Root × List Nat)) (hl : σ'.length = ρ'.length)
    (hs : ∀ i k d, look ρ' i = some (k, d) → ∃ v, σ'[i]? = some (some v) ∧ RO K H (Av B (ob o g)) (ob o g) (.sl i) [] k v d) (hm : ∀ (i : Nat) (x : Sl), ρ'[i]? = some x → x.fixed = true → σ'[i]? = some (some (Hf.me i))) (ht : TOk K H B (ob o g) τ') : Ok K B H0 Hf σ' ρ' τ' H (ob o g) :=
  ⟨hl, I.bs, I.sm, I.fl.tr I.fl.1 (fun a u h _ => h) (del_sub fun a => av_ob), fun a p h => by
    obtain ⟨y, e, _⟩ := ob_some h
    exact I.ow a y e, hs, hm, ht⟩
theorem TOk.re {g : Root × List Nat → Option (Root × List Nat)} : ∀ {τ : List T}, (∀ j q, j < τ.length → g (.tm j, q) = some (.tm j, q)) → TOk K H B o τ → TOk K H B (ob o g) τ
  | [], _, _ => trivial
  | t :: τ, hg, h => ⟨by
      obtain ⟨v, k, d⟩ := t
      obtain ⟨h, _⟩ := h
      cases k with
      | ow k => exact RO.re (fun q => hg _ _ (Nat.lt_succ_self _)) h
      | bw => exact h
      | pl w q => exact h, TOk.re (fun j q hj => hg j q (Nat.lt_succ_of_lt hj)) h.2⟩
theorem set_get {α : Type} {ρ : List α} {i j : Nat} {x y : α} (h : (ρ.set i x)[j]? = some y) : (i = j ∧ x = y ∧ i < ρ.length) ∨ (i ≠ j ∧ ρ[j]? = some y) := by
  by_cases hj : i = j
  · subst hj
    by_cases hi : i < ρ.length
    · rw [List.getElem?_set_self hi] at h
      cases h
      exact .inl ⟨rfl, rfl, hi⟩
    · rw [List.getElem?_eq_none (by rw [List.length_set]; omega)] at h
      cases h
  · rw [List.getElem?_set_ne hj] at h
    exact .inr ⟨hj, h⟩
theorem look_set {ρ : Env} {i j k : Nat} {d : D} {x : Sl} (h : look (ρ.set i x) j = some (k, d)) : (i = j ∧ (x = .ow k d ∨ x = .me k d) ∧ i < ρ.length) ∨ (i ≠ j ∧ look ρ j = some (k, d)) := by
  unfold look at h ⊢
  cases e : (ρ.set i x)[j]? with
  | none => rw [e] at h; cases h
  | some y =>
    rw [e] at h
    rcases set_get e with ⟨rfl, rfl, hl⟩ | ⟨n, e⟩
    · refine .inl ⟨rfl, ?_, hl⟩
      cases x with
      | no => cases h
      | ow k' d' => cases h; exact .inl rfl
      | me k' d' => cases h; exact .inr rfl
      | fx => cases h
    · rw [e]
      exact .inr ⟨n, h⟩
theorem look_ow {ρ : Env} {i j k k0 : Nat} {d d0 : D} (h : look (ρ.set i (.ow k0 d0)) j = some (k, d)) : (i = j ∧ (k0 = k ∧ d0 = d) ∧ i < ρ.length) ∨ (i ≠ j ∧ look ρ j = some (k, d)) := by
  rcases look_set h with ⟨a, b, c⟩ | h
  · refine .inl ⟨a, ?_, c⟩
    rcases b with b | b <;> cases b
    exact ⟨rfl, rfl⟩
  · exact .inr h
theorem look_no {ρ : Env} {i j k : Nat} {d : D} (h : look (ρ.set i .no) j = some (k, d)) : i ≠ j ∧ look ρ j = some (k, d) := by
  rcases look_set h with ⟨a, b, c⟩ | h
  · rcases b with b | b <;> cases b
  · exact h
theorem ms_set {σ : St} {ρ : Env} {M : Nat → V} (ms : ∀ (i : Nat) (x : Sl), ρ[i]? = some x → x.fixed = true → σ[i]? = some (some (M i))) {i : Nat} {x : Sl} (hx : x.fixed = false) (y : Option V) : ∀ (j : Nat) (z : Sl), (ρ.set i x)[j]? = some z → z.fixed = true → (σ.set i y)[j]? = some (some (M j)) := fun j z h hf => by
  rcases set_get h with ⟨_, e, _⟩ | ⟨n, h⟩
  · rw [← e, hx] at hf
    cases hf
  · rw [List.getElem?_set_ne n]
    exact ms j z h hf
theorem ms_set' {σ : St} {ρ : Env} {M : Nat → V} (ms : ∀ (i : Nat) (x : Sl), ρ[i]? = some x → x.fixed = true → σ[i]? = some (some (M i))) {i : Nat} {x : Sl} (hx : x.fixed = false) : ∀ (j : Nat) (z : Sl), (ρ.set i x)[j]? = some z → z.fixed = true → σ[j]? = some (some (M j)) := fun j z h hf => by
  rcases set_get h with ⟨_, e, _⟩ | ⟨n, h⟩
  · rw [← e, hx] at hf
    cases hf
  · exact ms j z h hf
theorem setK_len {ρ : Env} {i k : Nat} {d : D} : (setK ρ i k d).length = ρ.length := by
  unfold setK
  split <;> rw [List.length_set]
theorem look_setK {ρ : Env} {i j k k0 : Nat} {d d0 : D} (h : look (setK ρ i k0 d0) j = some (k, d)) : (i = j ∧ (k0 = k ∧ d0 = d) ∧ i < ρ.length) ∨ (i ≠ j ∧ look ρ j = some (k, d)) := by
  unfold setK at h
  split at h
  · rcases look_set h with ⟨a, b, c⟩ | h
    · refine .inl ⟨a, ?_, c⟩
      rcases b with b | b <;> cases b
      exact ⟨rfl, rfl⟩
    · exact .inr h
  · exact look_ow h
theorem ms_setK {σ : St} {ρ : Env} {M : Nat → V} (ms : ∀ (i : Nat) (x : Sl), ρ[i]? = some x → x.fixed = true → σ[i]? = some (some (M i))) {i k0 : Nat} {d0 : D} : ∀ (j : Nat) (z : Sl), (setK ρ i k0 d0)[j]? = some z → z.fixed = true → σ[j]? = some (some (M j)) := fun j z h hf => by
  unfold setK at h
  split at h
  · rename_i e
    rcases set_get h with ⟨rfl, z, _⟩ | ⟨n, h⟩
    · exact ms _ _ e rfl
    · exact ms j z h hf
  · exact ms_set' ms (x := .ow k0 d0) rfl j z h hf
def gSet (n i : Nat) : Root × List Nat → Option (Root × List Nat) := fun z => if z.1 = .tm n then some (.sl i, z.2) else some z
theorem Ok.set (I : Ok K B H0 Hf σ ρ (⟨v, .ow k, d⟩ :: τ) H o) (i : Nat) : Ok K B H0 Hf (σ.set i (some v)) (ρ.set i (.ow k d)) τ H (ob o (gSet τ.length i)) := by
  refine I.remap _ (by rw [List.length_set, List.length_set, I.len]) (fun j k' d' h => ?_) (ms_set I.ms (x := .ow k d) rfl _) (TOk.re (fun j q hj => ?_) I.pop.tp)
  · rcases look_ow h with ⟨rfl, ⟨rfl, rfl⟩, hi⟩ | ⟨n, h⟩
    · exact ⟨v, by rw [List.getElem?_set_self (by rw [I.len]; exact hi)], RO.re (fun q => if_pos rfl) I.top⟩
    · obtain ⟨v', e1, e2⟩ := I.sl j k' d' h
      exact ⟨v', by rw [List.getElem?_set_ne n]; exact e1, RO.re (fun q => if_neg (by intro z; cases z)) e2⟩
  · exact if_neg (by intro z; cases z; omega)
def gOut (i n : Nat) : Root × List Nat → Option (Root × List Nat) := fun z => if z.1 = .sl i then some (.tm n, z.2) else some z
theorem Ok.out (I : Ok K B H0 Hf σ ρ τ H o) {i : Nat} (h : look ρ i = some (k, d)) : ∃ v, σ[i]? = some (some v) ∧ Ok K B H0 Hf σ (ρ.set i .no) (⟨v, .ow k, d⟩ :: τ) H (ob o (gOut i τ.length)) := by
  obtain ⟨v, e1, e2⟩ := I.sl i k d h
  refine ⟨v, e1, I.remap _ (by rw [List.length_set, I.len]) (fun j k' d' h' => ?_) (ms_set' I.ms (x := .no) rfl) ⟨RO.re (fun q => if_pos rfl) e2, TOk.re (fun j q hj => if_neg (by intro z; cases z)) I.tp⟩⟩
  obtain ⟨n, h'⟩ := look_no h'
  obtain ⟨v', e1, e2⟩ := I.sl j k' d' h'
  exact ⟨v', e1, RO.re (fun q => if_neg (by intro z; cases z; exact n rfl)) e2⟩
def gTop (n : Nat) : Root × List Nat → Option (Root × List Nat) := fun z => match z.1 with
  | .tm j => if n ≤ j then none else some z
  | _ => some z

def oNew (o : Own) (a : Addr) (z : Root × List Nat) : Own := fun b => if b = a then some z else o b
theorem av_new {a : Addr} {z : Root × List Nat} {b : Addr} (h : Av B (oNew o a z) b) : b = a ∨ Av B o b := by
  rcases h with h | ⟨y, h⟩
  · exact .inr (.inl h)
  · unfold oNew at h
    split at h
    · rename_i e; exact .inl e
    · exact .inr (.inr ⟨y, h⟩)
theorem del_new {a : Addr} {z : Root × List Nat} {u : HO} (hp : H a = none) : Same (del H (Av B o)) (del (upd H a u) (Av B (oNew o a z))) := fun b w h => by
  obtain ⟨n, e⟩ := del_some.mp h
  have hb : b ≠ a := ne_of_none e hp
  exact del_some.mpr ⟨fun q => (av_new q).elim hb n, by rw [upd_ne hb]; exact e⟩
theorem Ok.newNone (I : Ok K B H0 Hf σ ρ τ H o) {a : Addr} (hp : H a = none) : o a = none := by
  cases e : o a with
  | none => rfl
  | some z =>
    obtain ⟨u, q, _⟩ := (I.ow a z e).2
    rw [hp] at q
    cases q
theorem RO.new (I : Ok K B H0 Hf σ ρ τ H o) {a : Addr} {z : Root × List Nat} {u : HO} (hp : H a = none) (h : RO K H (Av B o) o r p k v d) : RO K (upd H a u) (Av B (oNew o a z)) (oNew o a z) r p k v d := by
  have q := RO.tr (p0 := p) (p0' := p) (r' := r) (q := []) (A' := Av B (oNew o a z)) (o' := oNew o a z) (H' := upd H a u) ⟨del_new hp, fun b w h _ => same_upd u hp b w h, fun b q h => by
    refine ⟨?_, fun w e => same_upd u hp b w e⟩
    unfold oNew
    rw [if_neg]
    · exact h
    · rintro rfl
      rw [I.newNone hp] at h
      cases h⟩ (by simp) h
  simpa using q
theorem TOk.new (I : Ok K B H0 Hf σ ρ τ H o) {a : Addr} {z : Root × List Nat} {u : HO} (hp : H a = none) : ∀ {τ' : List T}, TOk K H B o τ' → TOk K (upd H a u) B (oNew o a z) τ'
  | [], _ => trivial
  | t :: τ', h => ⟨by
      obtain ⟨v, k, d⟩ := t
      obtain ⟨h, _⟩ := h
      cases k with
      | ow k => exact RO.new I hp h
      | bw => exact Rep.mono (same_upd u hp) h
      | pl w q => exact PathTo.mono (same_upd u hp) h, TOk.new I hp h.2⟩
theorem Ok.new (I : Ok K B H0 Hf σ ρ τ H o) {a : Addr} (z : Root × List Nat) {u : HO} (hp : H a = none) (hu : isMut u = true) : Ok K B H0 Hf σ ρ τ (upd H a u) (oNew o a z) :=
  ⟨I.len, I.bs, I.sm.trans (same_upd u hp), I.fl.tr (I.fl.1.trans (same_upd u hp)) (fun b w h _ => same_upd u hp b w h) (del_new hp), fun b y h => by
    unfold oNew at h
    split at h
    · rename_i e
      subst e
      refine ⟨?_, u, upd_same, hu⟩
      cases e : H0 b with
      | none => rfl
      | some w => rw [I.sm _ _ e] at hp; cases hp
    · exact ⟨(I.ow b y h).1, (I.ow b y h).2.mono (same_upd u hp)⟩, fun i k d h => by
    obtain ⟨v, e1, e2⟩ := I.sl i k d h
    exact ⟨v, e1, RO.new I hp e2⟩, I.ms, TOk.new I hp I.tp⟩
end
end P
namespace P
open PySem L2

inductive Rs (α : Type) where
  | val (a : α) (ρ : Env) | exc (x : Str) (w : Option (Str × D))
abbrev R (α : Type) := Option (Rs α)
def R.bind {α β : Type} (r : R α) (f : α → Env → R β) : R β := match r with
  | none => none
  | some (.exc x w) => some (.exc x w)
  | some (.val a ρ) => f a ρ
theorem R.bind_some {α β : Type} {r : R α} {f : α → Env → R β} {z : Rs β} (h : r.bind f = some z) : (∃ x w, r = some (.exc x w) ∧ z = .exc x w) ∨ ∃ a ρ, r = some (.val a ρ) ∧ f a ρ = some z := by
  match r, h with
  | none, h => cases h
  | some (.exc x w), h => cases h; exact .inl ⟨x, w, rfl, rfl⟩
  | some (.val a ρ), h => exact .inr ⟨a, ρ, rfl, h⟩
open Classical in
noncomputable def chk {α : Type} (p : Prop) (x : Option α) : Option α := if p then x else none
theorem chk_some {α : Type} {p : Prop} {x : Option α} {y : α} (h : chk p x = some y) : p ∧ x = some y := by
  unfold chk at h
  split at h
  · rename_i q; exact ⟨q, h⟩
  · cases h
theorem chk_pos {α : Type} {p : Prop} {x : Option α} (h : p) : chk p x = x := if_pos h
inductive Kv where
  | ow (k : Nat) | bw
def Kv.kd : Kv → Kd
  | .ow k => .ow k | .bw => .bw
abbrev Kx := Kv × D
abbrev FE := Env → R Kx
abbrev FT := Env → R Bool
abbrev FA := Env → R (List Kx)
abbrev FO := Env → R (Option Int)
structure Fx where
  K : PySem.W.Frag
  B : Addr → Prop
  H0 : Hp
  Hf : Bg
  E : XK
def XW (X : Fx) (x : Str) : Option (Str × D) → Prop
  | none => ∀ C H', PySem.W.nsIn X.K mainGlobals x = some (some (.ref C)) → Same X.H0 H' → X.E (.ref C) none H'
  | some (f, d) => ∀ C dx v H', PySem.W.nsIn X.K mainGlobals x = some (some (.ref C)) → Same X.H0 H' → H' dx = some (.xd [(f, v)]) → Rep X.K (del H' X.B) v d → X.E (.ref C) (some dx) H'
abbrev OkX (X : Fx) := Ok X.K X.B X.H0 X.Hf
def tmp (v : V) (a : Kx) : T := ⟨v, a.1.kd, a.2⟩
def SE (X : Fx) (te : TE) (f : FE) : Prop := ∀ ρ r, f ρ = some r → ∀ σ τ H o, OkX X σ ρ τ H o → ∀ Q : VK,
  (match r with
  | .val a ρ' => ∀ v H' o', OkX X σ ρ' (tmp v a :: τ) H' o' → Q v H'
  | .exc x w => XW X x w) → te σ H Q
def ST (X : Fx) (tt : TT) (f : FT) : Prop := ∀ ρ r, f ρ = some r → ∀ σ τ H o, OkX X σ ρ τ H o → ∀ Q : Bool → Hp → Prop,
  (match r with
  | .val a ρ' => ∀ H' o', OkX X σ ρ' τ H' o' → Q a H'
  | .exc x w => XW X x w) → tt σ H Q
def SA (X : Fx) (ta : TA) (f : FA) : Prop := ∀ ρ r, f ρ = some r → ∀ σ τ H o, OkX X σ ρ τ H o → ∀ Q : List V → Hp → Prop,
  (match r with
  | .val as ρ' => ∀ vs H' o', vs.length = as.length → OkX X σ ρ' ((vs.zipWith tmp as).reverse ++ τ) H' o' → Q vs H'
  | .exc x w => XW X x w) → ta σ H Q
def SO (X : Fx) (to : TO) (f : FO) : Prop := ∀ ρ r, f ρ = some r → ∀ σ τ H o, OkX X σ ρ τ H o → ∀ Q : Option Int → Hp → Prop,
  (match r with
  | .val a ρ' => ∀ H' o', OkX X σ ρ' τ H' o' → Q a H'
  | .exc x w => XW X x w) → to σ H Q
section
variable {X : Fx} {K : PySem.W.Frag} {B : Addr → Prop} {H0 H H' : Hp} {Hf : Bg} {σ σ' : St} {ρ ρ' : Env} {τ τ' : List T} {o o' : Own} {v : V} {d : D} {ta tb tc te : TE} {fa fb fc fe : FE} {tt tu : TT} {ft fu : FT} {ts : TA} {fs : FA}

theorem look_some {i k : Nat} (h : look ρ i = some (k, d)) : look ρ i = some (k, d) := h
def eVar (i : Nat) : FE := fun ρ => match look ρ i with
  | some (0, d) => some (.val (.ow 0, d) ρ)
  | some (_ + 1, d) => some (.val (.bw, d) ρ)
  | none => none
def eFz (i : Nat) : FE := fun ρ => match look ρ i with
  | some (_, d) => some (.val (.ow 0, d) (ρ.set i (.ow 0 d)))
  | none => none
def eMv (i : Nat) : FE := fun ρ => match look ρ i with
  | some (k, d) => some (.val (.ow k, d) (ρ.set i .no))
  | none => none
theorem se_var {i : Nat} : SE X (tVar i) (eVar i) := fun ρ r h σ τ H o I Q q => by
  unfold eVar at h
  split at h
  · rename_i d e
    cases h
    obtain ⟨v, e1, e2⟩ := I.sl i 0 d (look_some e)
    cases e2 with
    | st e2 => exact ⟨v, e1, q v H o (I.stab e2)⟩
  · rename_i k d e
    cases h
    obtain ⟨v, e1, e2⟩ := I.sl i (k + 1) d (look_some e)
    exact ⟨v, e1, q v H o (I.push e2.repH)⟩
  · cases h
theorem se_mv {i : Nat} : SE X (tVar i) (eMv i) := fun ρ r h σ τ H o I Q q => by
  unfold eMv at h
  split at h
  · rename_i k d e
    cases h
    obtain ⟨v, e1, J⟩ := I.out (look_some e)
    exact ⟨v, e1, q v H _ J⟩
  · cases h

def eC (d : D) : FE := fun ρ => some (.val (.ow 0, d) ρ)
theorem se_c {d : D} (h : isS d = true) : SE X (tC (toV d)) (eC d) := fun ρ r e σ τ H o I Q q => by
  cases e
  exact q _ H o (I.scal h)
theorem se_int {i : Int} : SE X (tC (.int i)) (eC (.int i)) := se_c (d := .int i) rfl
theorem se_bl {i : Bool} : SE X (tC (.bl i)) (eC (.bl i)) := se_c (d := .bl i) rfl
theorem se_str {x : Str} : SE X (tC (.str x)) (eC (.str x)) := se_c (d := .str x) rfl
theorem se_ty {x : String} : SE X (tC (.ty x)) (eC (.ty x)) := se_c (d := .ty x) rfl

theorem SE.bind (h : SE X te fe) {g : Kx → Env → R Kx} {z : Rs Kx} (e : (fe ρ).bind g = some z) (I : OkX X σ ρ τ H o) {Q : VK} {P : VK} (hx : ∀ x w, z = .exc x w → XW X x w)
    (q : ∀ a ρ' v H' o', g a ρ' = some z → OkX X σ ρ' (tmp v a :: τ) H' o' → P v H') : te σ H P := by
  rcases R.bind_some e with ⟨x, w, e1, rfl⟩ | ⟨a, ρ', e1, e2⟩
  · exact h ρ _ e1 σ τ H o I P (hx x w rfl)
  · exact h ρ _ e1 σ τ H o I P fun v H' o' J => q a ρ' v H' o' e2 J
def Wt (X : Fx) (σ : St) (τ : List T) (Q : VK) : Rs Kx → Prop
  | .val a ρ' => ∀ v H' o', OkX X σ ρ' (tmp v a :: τ) H' o' → Q v H'
  | .exc x w => XW X x w
theorem SE.run (h : SE X te fe) {r : Rs Kx} (e : fe ρ = some r) (I : OkX X σ ρ τ H o) {Q : VK} (q : Wt X σ τ Q r) : te σ H Q := h ρ r e σ τ H o I Q (by cases r <;> exact q)
theorem SE.bindG {β : Type} (h : SE X te fe) {g : Kx → Env → R β} {z : Rs β} (e : (fe ρ).bind g = some z) (I : OkX X σ ρ τ H o) {P : VK} (hx : ∀ x w, z = .exc x w → XW X x w)
    (q : ∀ a ρ' v H' o', g a ρ' = some z → OkX X σ ρ' (tmp v a :: τ) H' o' → P v H') : te σ H P := by
  rcases R.bind_some e with ⟨x, w, e1, rfl⟩ | ⟨a, ρ', e1, e2⟩
  · exact h ρ _ e1 σ τ H o I P (hx x w rfl)
  · exact h ρ _ e1 σ τ H o I P fun v H' o' J => q a ρ' v H' o' e2 J

def eOp (g : Kx → Kx → Option Kx) (fa fb : FE) : FE := fun ρ => (fa ρ).bind fun a ρ1 => (fb ρ1).bind fun b ρ2 => (g a b).map fun c => .val c ρ2
def Op2 (X : Fx) (r : R2) (g : Kx → Kx → Option Kx) : Prop := ∀ a b c, g a b = some c → ∀ σ ρ τ H o x y, OkX X σ ρ (tmp y b :: tmp x a :: τ) H o → ∀ Q : VK, (∀ v H' o', OkX X σ ρ (tmp v c :: τ) H' o' → Q v H') → r x y H Q
theorem se_op {r : R2} {g : Kx → Kx → Option Kx} (hr : Op2 X r g) (ha : SE X ta fa) (hb : SE X tb fb) : SE X (tOp r ta tb) (eOp g fa fb) := fun ρ z h σ τ H o I Q q => by
  have hx : ∀ x w, z = .exc x w → XW X x w := fun x w e => by subst e; exact q
  refine ha.bindG h I hx fun a ρ1 x H1 o1 h1 I1 => hb.bindG h1 I1 hx fun b ρ2 y H2 o2 h2 I2 => ?_
  cases e : g a b with
  | none => rw [e] at h2; cases h2
  | some c =>
    rw [e] at h2
    cases h2
    exact hr a b c e σ ρ2 τ H2 o2 x y I2 Q q
theorem kd_npl {a : Kv} : ∀ w q, a.kd ≠ .pl w q := fun w q => by cases a <;> intro z <;> cases z
theorem tmp_rep {j : Nat} {a : Kx} (h : TmOk K H B o j (tmp v a)) : Rep K H v a.2 := h.rep (t := tmp v a) kd_npl
def g2 (g : D → D → Option D) : Kx → Kx → Option Kx := fun a b => (g a.2 b.2).map fun c => (.ow 0, c)
def Op2S (r : R2) (g : D → D → Option D) : Prop := ∀ d e f, g d e = some f → isS d = true ∧ isS e = true ∧ isS f = true ∧ ∀ (H : Hp) (Q : VK), Q (toV f) H → r (toV d) (toV e) H Q
theorem Op2S.op {r : R2} {g : D → D → Option D} (h : Op2S r g) : Op2 X r (g2 g) := fun a b c e σ ρ τ H o x y I Q q => by
  unfold g2 at e
  cases e1 : g a.2 b.2 with
  | none => rw [e1] at e; cases e
  | some f =>
    rw [e1] at e
    cases e
    obtain ⟨h1, h2, h3, h4⟩ := h _ _ _ e1
    rw [(tmp_rep I.pop.top).sc h1, (tmp_rep I.top).sc h2]
    exact h4 H Q (q _ H o (I.pop.pop.scal h3))
theorem Op2.or_inl {r r' : R2} {g : Kx → Kx → Option Kx} (h : Op2 X r g) : Op2 X (fun x y H Q => r x y H Q ∨ r' x y H Q) g := fun a b c e σ ρ τ H o x y I Q q => .inl (h a b c e σ ρ τ H o x y I Q q)
theorem Op2.or_inr {r r' : R2} {g : Kx → Kx → Option Kx} (h : Op2 X r' g) : Op2 X (fun x y H Q => r x y H Q ∨ r' x y H Q) g := fun a b c e σ ρ τ H o x y I Q q => .inr (h a b c e σ ρ τ H o x y I Q q)
def gOr (g g' : Kx → Kx → Option Kx) : Kx → Kx → Option Kx := fun a b => match g a b with
  | some c => some c | none => g' a b
theorem Op2.gor {r : R2} {g g' : Kx → Kx → Option Kx} (h : Op2 X r g) (h' : Op2 X r g') : Op2 X r (gOr g g') := fun a b c e => by
  unfold gOr at e
  split at e
  · rename_i q; cases e; exact h a b c q
  · exact h' a b c e

def eAnd (fa fb : FE) : FE := fun ρ => (fa ρ).bind fun a ρ1 => match a.2 with
  | .bl true => fb ρ1 | .bl false => some (.val (.ow 0, .bl false) ρ1) | _ => none
def eOr (fa fb : FE) : FE := fun ρ => (fa ρ).bind fun a ρ1 => match a.2 with
  | .bl true => some (.val (.ow 0, .bl true) ρ1) | .bl false => fb ρ1 | _ => none
def eNot (fa : FE) : FE := fun ρ => (fa ρ).bind fun a ρ1 => match a.2 with
  | .bl b => some (.val (.ow 0, .bl (!b)) ρ1) | _ => none
theorem se_and (ha : SE X ta fa) (hb : SE X tb fb) : SE X (tAndV ta tb) (eAnd fa fb) := fun ρ z h σ τ H o I Q q => by
  have hx : ∀ x w, z = .exc x w → XW X x w := fun x w e => by subst e; exact q
  refine ha.bindG h I hx fun a ρ1 x H1 o1 h1 I1 => ?_
  have rr := tmp_rep I1.top
  split at h1
  · rename_i e; rw [e] at rr; cases rr
    exact ⟨true, rfl, by rw [if_pos rfl]; exact hb ρ1 z h1 σ τ H1 o1 I1.pop Q q⟩
  · rename_i e; rw [e] at rr; cases rr
    cases h1
    exact ⟨false, rfl, by rw [if_neg Bool.false_ne_true]; exact q _ H1 o1 (I1.pop.scal (d := .bl false) rfl)⟩
  · cases h1
theorem se_not (ha : SE X ta fa) : SE X (tNotV ta) (eNot fa) := fun ρ z h σ τ H o I Q q => by
  have hx : ∀ x w, z = .exc x w → XW X x w := fun x w e => by subst e; exact q
  refine ha.bindG h I hx fun a ρ1 x H1 o1 h1 I1 => ?_
  have rr := tmp_rep I1.top
  split at h1
  · rename_i b e; rw [e] at rr; cases rr
    cases h1
    exact ⟨b, rfl, q _ H1 o1 (I1.pop.scal (d := .bl (!b)) rfl)⟩
  · cases h1

def bOf (fa : FE) : FT := fun ρ => (fa ρ).bind fun a ρ1 => match a.2 with
  | .bl b => some (.val b ρ1) | _ => none
def bAnd (ft fu : FT) : FT := fun ρ => (ft ρ).bind fun a ρ1 => if a = true then fu ρ1 else some (.val false ρ1)
def bOr (ft fu : FT) : FT := fun ρ => (ft ρ).bind fun a ρ1 => if a = true then some (.val true ρ1) else fu ρ1
def bNot (ft : FT) : FT := fun ρ => (ft ρ).bind fun a ρ1 => some (.val (!a) ρ1)
theorem ST.bindG {β : Type} (h : ST X tt ft) {g : Bool → Env → R β} {z : Rs β} (e : (ft ρ).bind g = some z) (I : OkX X σ ρ τ H o) {P : Bool → Hp → Prop} (hx : ∀ x w, z = .exc x w → XW X x w)
    (q : ∀ a ρ' H' o', g a ρ' = some z → OkX X σ ρ' τ H' o' → P a H') : tt σ H P := by
  rcases R.bind_some e with ⟨x, w, e1, rfl⟩ | ⟨a, ρ', e1, e2⟩
  · exact h ρ _ e1 σ τ H o I P (hx x w rfl)
  · exact h ρ _ e1 σ τ H o I P fun H' o' J => q a ρ' H' o' e2 J
theorem st_of (ha : SE X ta fa) : ST X (tB ta) (bOf fa) := fun ρ z h σ τ H o I Q q => by
  have hx : ∀ x w, z = .exc x w → XW X x w := fun x w e => by subst e; exact q
  refine ha.bindG h I hx fun a ρ1 x H1 o1 h1 I1 => ?_
  have rr := tmp_rep I1.top
  split at h1
  · rename_i b e; rw [e] at rr; cases rr
    cases h1
    exact ⟨b, rfl, q H1 o1 I1.pop⟩
  · cases h1
theorem st_test (ha : SE X ta fa) : ST X (tTest ta) (bOf fa) := st_of ha
theorem st_and (ha : ST X tt ft) (hb : ST X tu fu) : ST X (tAnd tt tu) (bAnd ft fu) := fun ρ z h σ τ H o I Q q => by
  have hx : ∀ x w, z = .exc x w → XW X x w := fun x w e => by subst e; exact q
  refine ha.bindG h I hx fun a ρ1 H1 o1 h1 I1 => ?_
  cases a with
  | true => rw [if_pos rfl]; rw [if_pos rfl] at h1; exact hb ρ1 z h1 σ τ H1 o1 I1 Q q
  | false => rw [if_neg Bool.false_ne_true]; rw [if_neg Bool.false_ne_true] at h1; cases h1; exact q H1 o1 I1
theorem st_or (ha : ST X tt ft) (hb : ST X tu fu) : ST X (tOr tt tu) (bOr ft fu) := fun ρ z h σ τ H o I Q q => by
  have hx : ∀ x w, z = .exc x w → XW X x w := fun x w e => by subst e; exact q
  refine ha.bindG h I hx fun a ρ1 H1 o1 h1 I1 => ?_
  cases a with
  | true => rw [if_pos rfl]; rw [if_pos rfl] at h1; cases h1; exact q H1 o1 I1
  | false => rw [if_neg Bool.false_ne_true]; rw [if_neg Bool.false_ne_true] at h1; exact hb ρ1 z h1 σ τ H1 o1 I1 Q q
theorem st_not (ha : ST X tt ft) : ST X (tNot tt) (bNot ft) := fun ρ z h σ τ H o I Q q => by
  have hx : ∀ x w, z = .exc x w → XW X x w := fun x w e => by subst e; exact q
  refine ha.bindG h I hx fun a ρ1 H1 o1 h1 I1 => ?_
  cases h1
  exact q H1 o1 I1
def eIf (ft : FT) (fa fb : FE) : FE := fun ρ => (ft ρ).bind fun b ρ1 => if b = true then fa ρ1 else fb ρ1

def aNil : FA := fun ρ => some (.val [] ρ)
def aCons (fa : FE) (fs : FA) : FA := fun ρ => (fa ρ).bind fun a ρ1 => (fs ρ1).bind fun as ρ2 => some (.val (a :: as) ρ2)
theorem sa_nil : SA X tNil aNil := fun ρ z h σ τ H o I Q q => by
  cases h
  exact q [] H o rfl I
theorem SA.bindG {β : Type} (h : SA X ts fs) {g : List Kx → Env → R β} {z : Rs β} (e : (fs ρ).bind g = some z) (I : OkX X σ ρ τ H o) {P : List V → Hp → Prop} (hx : ∀ x w, z = .exc x w → XW X x w)
    (q : ∀ as ρ' vs H' o', g as ρ' = some z → vs.length = as.length → OkX X σ ρ' ((vs.zipWith tmp as).reverse ++ τ) H' o' → P vs H') : ts σ H P := by
  rcases R.bind_some e with ⟨x, w, e1, rfl⟩ | ⟨a, ρ', e1, e2⟩
  · exact h ρ _ e1 σ τ H o I P (hx x w rfl)
  · exact h ρ _ e1 σ τ H o I P fun v H' o' l J => q a ρ' v H' o' e2 l J
theorem sa_cons (ha : SE X ta fa) (hs : SA X ts fs) : SA X (tCons ta ts) (aCons fa fs) := fun ρ z h σ τ H o I Q q => by
  have hx : ∀ x w, z = .exc x w → XW X x w := fun x w e => by subst e; exact q
  refine ha.bindG h I hx fun a ρ1 x H1 o1 h1 I1 => hs.bindG h1 I1 hx fun as ρ2 vs H2 o2 h2 l I2 => ?_
  cases h2
  refine q (x :: vs) H2 o2 (congrArg (· + 1) l) ?_
  rw [List.zipWith_cons_cons, List.reverse_cons, List.append_assoc]
  exact I2

theorem TmOk.settle (I : Ok K B H0 Hf σ ρ τ' H o) {n j : Nat} {t : T} (hj : n ≤ j) (h : TmOk K H B o j t) : match t.k with
    | .ow _ => Rep K (del H (Av B (ob o (gTop n)))) t.v t.d | .bw => Rep K H t.v t.d | .pl _ _ => True := by
  obtain ⟨v, k, d⟩ := t
  cases k with
  | ow k =>
    have e : ∀ q, gTop n (Root.tm j, [] ++ q) = none := fun q => if_pos hj
    exact RO.fz I e h
  | bw => exact h
  | pl w q => trivial
def Known (K : PySem.W.Frag) (H : Hp) (A : Addr → Prop) (v : V) (a : Kx) : Prop := match a.1 with
  | .ow _ => Rep K (del H A) v a.2 | .bw => Rep K H v a.2
theorem Known.rep {A : Addr → Prop} {a : Kx} (h : Known K H A v a) : Rep K H v a.2 := by
  obtain ⟨k, d⟩ := a
  cases k with
  | ow k => exact Rep.mono (del_same _ _) h
  | bw => exact h
theorem TmOk.known (I : Ok K B H0 Hf σ ρ τ' H o) {n j : Nat} {a : Kx} (hj : n ≤ j) (h : TmOk K H B o j (tmp v a)) : Known K H (Av B (ob o (gTop n))) v a := by
  have z := h.settle I hj
  obtain ⟨k, d⟩ := a
  cases k with
  | ow k => exact z
  | bw => exact z
theorem Ok.cut (I : Ok K B H0 Hf σ ρ (τ' ++ τ) H o) : Ok K B H0 Hf σ ρ τ H (ob o (gTop τ.length)) :=
  I.remap _ I.len (fun j k' d' h' => by
    obtain ⟨v', e1, e2⟩ := I.sl j k' d' h'
    exact ⟨v', e1, RO.re (fun q => rfl) e2⟩) I.ms (TOk.re (fun j q hj => if_neg (by omega)) I.pops.tp)
theorem Ok.settle1 {a : Kx} (I : Ok K B H0 Hf σ ρ (tmp v a :: τ) H o) : ∃ o', Ok K B H0 Hf σ ρ τ H o' ∧ Known K H (Av B o') v a :=
  ⟨_, Ok.cut (τ' := [tmp v a]) I, I.top.known I (Nat.le_refl _)⟩
theorem Ok.settle2 {a b : Kx} {w : V} (I : Ok K B H0 Hf σ ρ (tmp w b :: tmp v a :: τ) H o) : ∃ o', Ok K B H0 Hf σ ρ τ H o' ∧ Known K H (Av B o') v a ∧ Known K H (Av B o') w b :=
  ⟨_, Ok.cut (τ' := [tmp w b, tmp v a]) I, I.pop.top.known I (Nat.le_refl _), I.top.known I (Nat.le_succ _)⟩
inductive Knowns (K : PySem.W.Frag) (H : Hp) (A : Addr → Prop) : List V → List Kx → Prop
  | nil : Knowns K H A [] []
  | cons {v : V} {a : Kx} {vs : List V} {as : List Kx} : Known K H A v a → Knowns K H A vs as → Knowns K H A (v :: vs) (a :: as)
theorem Ok.settles : ∀ {as : List Kx} {vs : List V}, vs.length = as.length → Ok K B H0 Hf σ ρ ((vs.zipWith tmp as).reverse ++ τ) H o → ∃ o', Ok K B H0 Hf σ ρ τ H o' ∧ Knowns K H (Av B o') vs as := fun {as vs} l I => by
  refine ⟨_, Ok.cut I, ?_⟩
  have key : ∀ (us : List T) (I : TOk K H B o (us ++ τ)) (t : T), t ∈ us → ∃ j, τ.length ≤ j ∧ TmOk K H B o j t := fun us => by
    induction us with
    | nil => intro _ t h; cases h
    | cons u us ih =>
      intro I t h
      rcases List.mem_cons.mp h with rfl | h
      · exact ⟨(us ++ τ).length, by rw [List.length_append]; omega, I.1⟩
      · exact ih I.2 t h
  have key2 : ∀ t, t ∈ vs.zipWith tmp as → ∃ j, τ.length ≤ j ∧ TmOk K H B o j t := fun t h => key _ I.tp t (List.mem_reverse.mpr h)
  clear key
  generalize hz : (vs.zipWith tmp as).reverse = us at I
  clear hz
  induction vs generalizing as with
  | nil =>
    cases as with
    | nil => exact .nil
    | cons a as => cases l
  | cons v vs ih =>
    cases as with
    | nil => cases l
    | cons a as =>
      obtain ⟨j, hj, h⟩ := key2 (tmp v a) (List.mem_cons_self ..)
      exact .cons (h.known I hj) (ih (Nat.succ.inj l) fun t ht => key2 t (List.mem_cons_of_mem _ ht))
theorem Known.grow {a : Kx} (e : Same H H') (h : Known K H (Av B o) v a) : Known K H' (Av B o) v a := by
  obtain ⟨k, d⟩ := a
  cases k with
  | ow k => exact Rep.mono (del_mono e) h
  | bw => exact Rep.mono e h
def stb' (a : Kx) : Bool := match a.1 with
  | .ow _ => true | .bw => flat a.2
theorem Known.st {a : Kx} (I : Ok K B H0 Hf σ ρ τ H o) (h : Known K H (Av B o) v a) (hs : stb' a = true) : Rep K (del H (Av B o)) v a.2 := by
  obtain ⟨k, d⟩ := a
  cases k with
  | ow k => exact h
  | bw => exact Rep.flat (keep_av I) h hs
theorem Knowns.st (I : Ok K B H0 Hf σ ρ τ H o) : ∀ {vs : List V} {as : List Kx}, Knowns K H (Av B o) vs as → as.all stb' = true → Reps K (del H (Av B o)) vs (as.map (·.2))
  | _, _, .nil, _ => .nil
  | _, _, .cons a b, h => by
    rw [List.all_cons, Bool.and_eq_true] at h
    exact .cons (a.st I h.1) (b.st I h.2)
theorem Knowns.rep {A : Addr → Prop} : ∀ {vs : List V} {as : List Kx}, Knowns K H A vs as → Reps K H vs (as.map (·.2))
  | _, _, .nil => .nil
  | _, _, .cons a b => .cons a.rep b.rep
end
end P
namespace P
open PySem L2
section
variable {X : Fx} {K : PySem.W.Frag} {B : Addr → Prop} {H0 H H' : Hp} {Hf : Bg} {σ σ' : St} {ρ ρ' : Env} {τ τ' : List T} {o o' : Own} {v : V} {d : D} {ta tb tc te : TE} {fa fb fc fe : FE} {tt tu : TT} {ft fu : FT} {ts : TA} {fs : FA} {a b : Kx} {k : Nat}

theorem Ok.muNo (I : Ok K B H0 Hf σ ρ τ H o) {p : Addr} (hp : H p = none) (z : Av B o p) : False := by
  obtain ⟨w, e, _⟩ := I.mu z
  rw [hp] at e
  cases e
theorem Ok.stNew (I : Ok K B H0 Hf σ ρ τ H o) {p : Addr} {u : HO} (hp : H p = none) (hu : isMut u = false) (h : ∀ H', Same (del H (Av B o)) H' → H' p = some u → Rep K H' (.ref p) d) : Ok K B H0 Hf σ ρ (⟨.ref p, .ow 0, d⟩ :: τ) (upd H p u) o :=
  (I.grow (same_upd u hp)).stab (h _ (del_mono (same_upd u hp)) (del_some.mpr ⟨fun z => I.muNo hp z, upd_same⟩))
theorem Ok.lsNew (I : Ok K B H0 Hf σ ρ τ H o) {p : Addr} {vs : List V} {ds : List D} (hp : H p = none) (h : Reps K (del H (Av B o)) vs ds) : Ok K B H0 Hf σ ρ (⟨.ref p, .ow 1, .lst ds⟩ :: τ) (upd H p (.lst vs)) (oNew o p (.tm τ.length, [])) := by
  refine (I.new (.tm τ.length, []) hp rfl).push (RO.lst (if_pos rfl) upd_same ?_)
  have z := h.mono (del_new (u := .lst vs) (z := (.tm τ.length, [])) hp)
  clear h
  have key : ∀ (vs' : List V) (ds : List D) (i : Nat), Reps K (del (upd H p (.lst vs)) (Av B (oNew o p (.tm τ.length, [])))) vs' ds → ROs K (upd H p (.lst vs)) (Av B (oNew o p (.tm τ.length, []))) (oNew o p (.tm τ.length, [])) (.tm τ.length) [] i 0 vs' ds := fun vs' => by
    induction vs' with
    | nil => intro ds i h; cases h; exact .nil
    | cons v vs ih => intro ds i h; cases h with | cons a b => exact .cons (.st a) (ih _ _ b)
  exact key _ _ _ z
def gGath (n : Nat) : Root × List Nat → Option (Root × List Nat) := fun z => match z.1 with
  | .tm j => if n ≤ j then some (.tm n, (j - n) :: z.2) else some z
  | _ => some z
def hasK (k : Nat) (a : Kx) : Bool := flat a.2 || (match a.1 with | .ow j => j == k + 1 | .bw => false)
theorem Ok.gath {as : List Kx} {vs : List V} (l : vs.length = as.length) (h : as.all (hasK k) = true) (I : Ok K B H0 Hf σ ρ ((vs.zipWith tmp as).reverse ++ τ) H o) :
    Ok K B H0 Hf σ ρ τ H (ob o (gGath τ.length)) ∧ ROs K H (Av B (ob o (gGath τ.length))) (ob o (gGath τ.length)) (.tm τ.length) [] 0 (k + 1) vs (as.map (·.2)) := by
  refine ⟨I.remap _ I.len (fun j k' d' h' => by
    obtain ⟨v', e1, e2⟩ := I.sl j k' d' h'
    exact ⟨v', e1, RO.re (fun q => rfl) e2⟩) I.ms (TOk.re (fun j q hj => if_neg (by omega)) I.pops.tp), ?_⟩
  have key : ∀ (as : List Kx) (vs : List V) (τ1 : List T) (i : Nat), vs.length = as.length → as.all (hasK k) = true → τ1.length = τ.length + i → TOk K H B o ((vs.zipWith tmp as).reverse ++ τ1) →
      ROs K H (Av B (ob o (gGath τ.length))) (ob o (gGath τ.length)) (.tm τ.length) [] i (k + 1) vs (as.map (·.2)) := fun as => by
    induction as with
    | nil => intro vs τ1 i l _ _ _; cases vs with | nil => exact .nil | cons => cases l
    | cons a as ih =>
      intro vs τ1 i l h hl I
      cases vs with
      | nil => cases l
      | cons v vs =>
        rw [List.all_cons, Bool.and_eq_true] at h
        rw [List.zipWith_cons_cons, List.reverse_cons, List.append_assoc] at I
        refine .cons ?_ (ih vs (tmp v a :: τ1) (i + 1) (Nat.succ.inj l) h.2 (by rw [List.length_cons, hl]; omega) I)
        have t := I.drop.1
        obtain ⟨ka, da⟩ := a
        have h1 := h.1
        unfold hasK at h1
        rw [Bool.or_eq_true] at h1
        rcases h1 with h1 | h1
        · exact .flat h1 (tmp_rep t)
        · cases ka with
          | bw => cases h1
          | ow j =>
            have e : j = k + 1 := eq_of_beq h1
            subst e
            have t' : RO K H (Av B o) o (.tm τ1.length) [] (k + 1) v da := t
            rw [hl] at t'
            have hg : ∀ q : List Nat, gGath τ.length (Root.tm (τ.length + i), [] ++ q) = some (.tm τ.length, [i] ++ q) := fun q => by
              show (if τ.length ≤ τ.length + i then _ else _) = _
              rw [if_pos (Nat.le_add_right ..), Nat.add_sub_cancel_left]
              rfl
            exact RO.re hg t'
  exact key as vs τ 0 l h rfl I.tp
theorem Ok.lsNewK (I : Ok K B H0 Hf σ ρ τ H o) {p : Addr} {vs : List V} {ds : List D} (hp : H p = none) (h : ROs K H (Av B o) o (.tm τ.length) [] 0 k vs ds) : Ok K B H0 Hf σ ρ (⟨.ref p, .ow (k + 1), .lst ds⟩ :: τ) (upd H p (.lst vs)) (oNew o p (.tm τ.length, [])) := by
  refine (I.new (.tm τ.length, []) hp rfl).push (RO.lst (if_pos rfl) upd_same ?_)
  have key : ∀ (vs' : List V) (ds : List D) (i : Nat), ROs K H (Av B o) o (.tm τ.length) [] i k vs' ds → ROs K (upd H p (.lst vs)) (Av B (oNew o p (.tm τ.length, []))) (oNew o p (.tm τ.length, [])) (.tm τ.length) [] i k vs' ds := fun vs' => by
    induction vs' with
    | nil => intro ds i h; cases h; exact .nil
    | cons v vs ih => intro ds i h; cases h with | cons a b => exact .cons (RO.new I hp a) (ih _ _ b)
  exact key _ _ _ h
theorem ROs.new (I : Ok K B H0 Hf σ ρ τ H o) {p : Addr} {z : Root × List Nat} {u : HO} (hp : H p = none) {r : Root} {q : List Nat} : ∀ {i : Nat} {vs : List V} {ds : List D}, ROs K H (Av B o) o r q i k vs ds → ROs K (upd H p u) (Av B (oNew o p z)) (oNew o p z) r q i k vs ds
  | _, _, _, .nil => .nil
  | _, _, _, .cons a b => .cons (RO.new I hp a) (ROs.new I hp b)
theorem ROs.grow (e : Same H H') {r : Root} {q : List Nat} : ∀ {i : Nat} {vs : List V} {ds : List D}, ROs K H (Av B o) o r q i k vs ds → ROs K H' (Av B o) o r q i k vs ds
  | _, _, _, .nil => .nil
  | _, _, _, .cons a b => .cons (RO.grow e a) (ROs.grow e b)
def eTup (k : Nat) (fs : FA) : FE := fun ρ => (fs ρ).bind fun as ρ1 => if as.length ≤ 1000 then (match k with
  | 0 => if as.all stb' = true then some (.val (.ow 0, .tup (as.map (·.2))) ρ1) else some (.val (.bw, .tup (as.map (·.2))) ρ1)
  | k + 1 => if as.all (hasK k) = true then some (.val (.ow (k + 1), .tup (as.map (·.2))) ρ1) else none) else none
def eLst (k : Nat) (fs : FA) : FE := fun ρ => (fs ρ).bind fun as ρ1 => if as.length ≤ 1000 then (match k with
  | 0 => if as.all stb' = true then some (.val (.ow 1, .lst (as.map (·.2))) ρ1) else some (.val (.bw, .lst (as.map (·.2))) ρ1)
  | k + 1 => if as.all (hasK k) = true then some (.val (.ow (k + 2), .lst (as.map (·.2))) ρ1) else none) else none
theorem se_tup {k : Nat} (hs : SA X ts fs) : SE X (tTup ts) (eTup k fs) := fun ρ z h σ τ H o I Q q => by
  have hx : ∀ x w, z = .exc x w → XW X x w := fun x w e => by subst e; exact q
  refine hs.bindG h I hx fun as ρ1 vs H1 o1 h1 l I1 => ?_
  split at h1
  · rename_i hl
    refine ⟨by rw [l]; exact Nat.le_trans hl (by decide), fun p hp => ?_⟩
    split at h1
    · obtain ⟨o2, I2, ks⟩ := Ok.settles l I1
      split at h1
      · rename_i hs
        cases h1
        exact q _ _ o2 (I2.stNew hp rfl fun H' e e2 => .tup e2 ((Knowns.st I2 ks hs).mono e))
      · cases h1
        exact q _ _ o2 ((I2.grow (same_upd _ hp)).push (t := tmp (.ref p) (.bw, .tup (as.map (·.2)))) (.tup upd_same (ks.rep.mono (same_upd _ hp))))
    · split at h1
      · rename_i hs
        cases h1
        obtain ⟨I2, ks⟩ := Ok.gath l hs I1
        exact q _ _ _ ((I2.grow (same_upd _ hp)).push (t := tmp (.ref p) (.ow _, .tup (as.map (·.2)))) (.tup upd_same (ks.grow (same_upd _ hp))))
      · cases h1
  · cases h1
theorem se_lst {k : Nat} (hs : SA X ts fs) : SE X (tLst ts) (eLst k fs) := fun ρ z h σ τ H o I Q q => by
  have hx : ∀ x w, z = .exc x w → XW X x w := fun x w e => by subst e; exact q
  refine hs.bindG h I hx fun as ρ1 vs H1 o1 h1 l I1 => ?_
  split at h1
  · rename_i hl
    refine ⟨by rw [l]; exact Nat.le_trans hl (by decide), fun p hp => ?_⟩
    split at h1
    · obtain ⟨o2, I2, ks⟩ := Ok.settles l I1
      split at h1
      · rename_i hs
        cases h1
        exact q _ _ _ (I2.lsNew hp (Knowns.st I2 ks hs))
      · cases h1
        exact q _ _ o2 ((I2.grow (same_upd _ hp)).push (t := tmp (.ref p) (.bw, .lst (as.map (·.2)))) (.lst upd_same (ks.rep.mono (same_upd _ hp))))
    · split at h1
      · rename_i hs
        cases h1
        obtain ⟨I2, ks⟩ := Ok.gath l hs I1
        exact q _ _ _ (I2.lsNewK hp ks)
      · cases h1
  · cases h1

def ixD : D → Int → Option D
  | .lst ds, i => atI ds i
  | .tup ds, i => atI ds i
  | .rd ns, i => (atI ns i).map D.int
  | .str s, i => if s.length ≤ sizeLine then (atI s.cps.toList i).map fun c => .str ⟨#[c]⟩ else none
  | _, _ => none
theorem atI_map {α β : Type} (f : α → β) (xs : List α) (i : Int) : atI (xs.map f) i = (atI xs i).map f := by
  unfold atI
  rw [List.length_map]
  cases ixN xs.length i with
  | none => rfl
  | some j =>
    show (xs.map f)[j]? = (xs[j]?).map f
    rw [List.getElem?_map]
theorem Reps.at {vs : List V} {ds : List D} {i : Int} (r : Reps K H vs ds) (h : atI ds i = some d) : ∃ v, atI vs i = some v ∧ Rep K H v d := by
  unfold atI at h ⊢
  rw [r.length]
  cases e : ixN ds.length i with
  | none => rw [e] at h; cases h
  | some j =>
    rw [e] at h
    exact r.get' h
def kPart (a : Kv) (f : D) : Kv := match a with
  | .ow _ => .ow 0 | .bw => if flat f = true then .ow 0 else .bw
theorem Ok.part {f : D} {w : V} (I : Ok K B H0 Hf σ ρ τ H o) (h : Known K H (Av B o) v a) (hr : ∀ H', Rep K H' v a.2 → (∀ p u, H' p = some u → H p = some u) → Rep K H' w f) : Ok K B H0 Hf σ ρ (tmp w (kPart a.1 f, f) :: τ) H o := by
  obtain ⟨k, d⟩ := a
  cases k with
  | ow k => exact I.stab (hr _ h fun p u e => del_same _ _ p u e)
  | bw =>
    have r := hr H h fun p u e => e
    unfold kPart
    dsimp only
    split
    · rename_i hf
      exact I.flatP r hf
    · exact I.push (t := tmp w (.bw, f)) r
def gIx : Kx → Kx → Option Kx := fun a b => match b.2 with
  | .int i => (ixD a.2 i).map fun f => (kPart a.1 f, f)
  | _ => none
theorem op_ix : Op2 X (rIx X.K) gIx := fun a b c e σ ρ τ H o x y I Q q => by
  obtain ⟨o', I', ka, kb⟩ := I.settle2
  obtain ⟨k1, d⟩ := a
  obtain ⟨k2, e2⟩ := b
  have rb := kb.rep
  unfold gIx at e
  dsimp only at e rb
  cases e2 <;> first | cases e; done | skip
  rename_i i
  replace e : (ixD d i).map (fun f => (kPart k1 f, f)) = some c := e
  cases rb
  cases hf : ixD d i with
  | none => rw [hf] at e; cases e
  | some f =>
    rw [hf] at e
    cases e
    have ra := ka.rep
    cases d with
    | lst ds =>
      cases ra with
      | lst hh rr =>
        obtain ⟨w, e1, _⟩ := rr.at hf
        refine .inl ⟨_, _, i, w, rfl, rfl, SqL.of hh, e1, q w H o' (I'.part ka fun H' r sub => ?_)⟩
        cases r with
        | lst h2 r2 =>
          have e3 := sub _ _ h2
          rw [hh] at e3
          cases e3
          obtain ⟨w', e4, e5⟩ := r2.at hf
          rw [e1] at e4
          cases e4
          exact e5
    | tup ds =>
      cases ra with
      | tup hh rr =>
        obtain ⟨w, e1, _⟩ := rr.at hf
        refine .inr (.inl ⟨_, _, i, w, rfl, rfl, SqT.of hh, e1, q w H o' (I'.part ka fun H' r sub => ?_)⟩)
        cases r with
        | tup h2 r2 =>
          have e3 := sub _ _ h2
          rw [hh] at e3
          cases e3
          obtain ⟨w', e4, e5⟩ := r2.at hf
          rw [e1] at e4
          cases e4
          exact e5
    | str s =>
      cases ra
      simp only [ixD] at hf
      split at hf
      · rename_i hs
        cases ec : atI s.cps.toList i with
        | none => rw [ec] at hf; cases hf
        | some c =>
          rw [ec] at hf
          cases hf
          exact .inr (.inr ⟨s, i, c, rfl, rfl, hs, ec, q _ H o' (I'.part ka fun H' _ _ => .str _)⟩)
      · cases hf
    | rd ns =>
      cases ra with
      | rd hh =>
        replace hf : (atI ns i).map D.int = some f := hf
        cases ec : atI ns i with
        | none => rw [ec] at hf; cases hf
        | some c =>
          rw [ec] at hf
          cases hf
          exact .inl ⟨_, _, i, .int c, rfl, rfl, hh, by rw [atI_map, ec]; rfl, q _ H o' (I'.part ka fun H' _ _ => .int _)⟩
    | _ => cases hf
end
end P
namespace P
open PySem L2
def cov : Nat → D → Bool
  | 0, d => flat d
  | k + 1, .lst ds => covs k ds
  | k + 1, .tup ds => covs (k + 1) ds
  | k + 1, .ins _ fs => covF k fs
  | k + 1, .dic kvs => covK k kvs
  | _ + 1, d => flat d
where
  covs : Nat → List D → Bool
  | _, [] => true
  | k, d :: ds => cov k d && covs k ds
  covF : Nat → List (Str × D) → Bool
  | _, [] => true
  | k, (_, d) :: ds => cov k d && covF k ds
  covK : Nat → List (Key × D) → Bool
  | _, [] => true
  | k, (_, d) :: ds => cov k d && covK k ds
abbrev covs := cov.covs
theorem cov_zero (d : D) : cov 0 d = flat d := by cases d <;> rfl
theorem covF_eq (k : Nat) : ∀ fs : List (Str × D), cov.covF k fs = covs k (fs.map (·.2))
  | [] => rfl
  | (_, d) :: fs => congrArg (cov k d && ·) (covF_eq k fs)
theorem covK_eq (k : Nat) : ∀ fs : List (Key × D), cov.covK k fs = covs k (fs.map (·.2))
  | [] => rfl
  | (_, d) :: fs => congrArg (cov k d && ·) (covK_eq k fs)
inductive Out where
  | ret (k : Nat) (d : D) | exc (x : Str) (w : Option (Str × D))
abbrev Run := List D → Option Out
section
variable {X : Fx} {K : PySem.W.Frag} {B B' : Addr → Prop} {H0 H H' : Hp} {Hf : Bg} {σ σ' : St} {ρ ρ' : Env} {τ τ' : List T} {o o' : Own} {v : V} {d : D} {ta tb tc te : TE} {fa fb fc fe : FE} {tt tu : TT} {ft fu : FT} {ts : TA} {fs : FA} {a b : Kx} {k : Nat}
mutual
theorem RO.cov {A A' : Addr → Prop} (e : KeepI H (del H A')) {r : Root} : ∀ {p : List Nat} {k : Nat} {v : V} {d : D}, RO K H A o r p k v d → P.cov k d = true → RO K H A' o r p k v d
  | _, _, _, _, .st h, c => .st (Rep.flat e (h.mono (del_same _ _)) (by rw [← cov_zero]; exact c))
  | _, _, _, _, .flat f h, _ => .flat f h
  | _, _, _, _, .lst ha hh hs, c => .lst ha hh (ROs.cov e hs c)
  | _, _, _, _, .tup hh hs, c => .tup hh (ROs.cov e hs c)
  | _, _, _, _, .ins ha hn hh hs hk, c => .ins ha hn hh (ROs.cov e hs (by rw [← covF_eq]; exact c)) hk
  | _, _, _, _, .dic ha hh hs hk, c => .dic ha hh (ROs.cov e hs (by rw [← covK_eq]; exact c)) hk
theorem ROs.cov {A A' : Addr → Prop} (e : KeepI H (del H A')) {r : Root} : ∀ {p : List Nat} {i k : Nat} {vs : List V} {ds : List D}, ROs K H A o r p i k vs ds → covs k ds = true → ROs K H A' o r p i k vs ds
  | _, _, _, _, _, .nil, _ => .nil
  | _, _, _, _, _, .cons h hs, c => by
    have c' : (P.cov _ _ && covs _ _) = true := c
    rw [Bool.and_eq_true] at c'
    exact .cons (RO.cov e h c'.1) (ROs.cov e hs c'.2)
end

def WtO (K : PySem.W.Frag) (B : Addr → Prop) (H : Hp) (Q : VK) (E : XK) : Out → Prop
  | .ret k d => ∀ v H' o, Ok K B H ⟨H, [], fun _ => .non⟩ [] [] [⟨v, .ow k, d⟩] H' o → Q v H'
  | .exc x w => XW ⟨K, B, H, ⟨H, [], fun _ => .non⟩, E⟩ x w
def spR (K : PySem.W.Frag) (run : Run) : Sp := fun vs H Q E => ∃ (B : Addr → Prop) (ds : List D) (r : Out), (∀ a, B a → Mu H a) ∧ Reps K (del H B) vs ds ∧ run ds = some r ∧ WtO K B H Q E r
theorem Ok.join (I : Ok K B H0 Hf σ ρ τ H o) {k : Nat} {o3 : Own} (J : Ok K (Av B o) H ⟨H, [], fun _ => .non⟩ [] [] [⟨v, .ow k, d⟩] H' o3) : ∃ o4, Ok K B H0 Hf σ ρ (⟨v, .ow k, d⟩ :: τ) H' o4 := by
  have hno : ∀ a z, o3 a = some z → o a = none := fun a z h => I.newNone (J.ow a z h).1
  let o4 : Own := fun a => match o3 a with
    | some (.tm 0, q) => some (.tm τ.length, q)
    | some _ => none
    | none => o a
  have h3 : ∀ a z, o a = some z → o4 a = some z := fun a z h => by
    show (match o3 a with
      | some (.tm 0, q) => some (Root.tm τ.length, q)
      | some _ => none
      | none => o a) = some z
    cases e : o3 a with
    | none => exact h
    | some y => rw [hno a y e] at h; cases h
  have h4 : ∀ a z, o4 a = some z → (∃ y, o3 a = some y) ∨ o a = some z := fun a z h => by
    have h : (match o3 a with
      | some (.tm 0, q) => some (Root.tm τ.length, q)
      | some _ => none
      | none => o a) = some z := h
    cases e : o3 a with
    | none => rw [e] at h; exact .inr h
    | some y => exact .inl ⟨y, rfl⟩
  have st : Same (del H (Av B o)) (del H' (Av B o4)) := fun b u hb => by
    obtain ⟨n, e⟩ := del_some.mp hb
    refine del_some.mpr ⟨fun z => ?_, J.sm b u e⟩
    rcases z with z | ⟨y, z⟩
    · exact n (.inl z)
    · rcases h4 b y z with ⟨w, e3⟩ | e3
      · rw [(J.ow b w e3).1] at e; cases e
      · exact n (.inr ⟨y, e3⟩)
  have tr : ∀ r p, Tr K H H' (Av B o) (Av B o4) o o4 r p r p := fun r p => ⟨st, fun a u h _ => J.sm a u h, fun a q h => ⟨h3 a _ h, fun u e => J.sm a u e⟩⟩
  refine ⟨o4, I.len, I.bs, I.sm.trans J.sm, I.fl.tr (I.fl.1.trans J.sm) (fun a u h _ => J.sm a u h) st, fun a p h => ?_, fun i k d h => ?_, ?_, ?_, ?_⟩
  · rcases h4 a p h with ⟨y, e⟩ | e
    · refine ⟨?_, (J.ow a y e).2⟩
      cases e0 : H0 a with
      | none => rfl
      | some u =>
        have := (J.ow a y e).1
        rw [I.sm _ _ e0] at this
        cases this
    · exact ⟨(I.ow a p e).1, (I.ow a p e).2.mono J.sm⟩
  · obtain ⟨v, e1, e2⟩ := I.sl i k d h
    refine ⟨v, e1, ?_⟩
    have z := RO.tr (q := []) (tr (.sl i) []) (by simp) e2
    simpa using z
  · exact I.ms
  · have T : Tr K H' H' (Av (Av B o) o3) (Av B o4) o3 o4 (.tm 0) [] (.tm τ.length) [] := ⟨del_sub fun a h => by
      rcases h with h | ⟨y, h⟩
      · exact .inl (.inl h)
      · rcases h4 a y h with ⟨w, e⟩ | e
        · exact .inr ⟨w, e⟩
        · exact .inl (.inr ⟨y, e⟩), fun a u h _ => h, fun a q h => ⟨by
      show (match o3 a with
        | some (.tm 0, q) => some (Root.tm τ.length, q)
        | some _ => none
        | none => o a) = _
      rw [h]
      rfl, fun u e => e⟩⟩
    have z : RO K H' (Av B o4) o4 (.tm τ.length) [] k v d := by
      have z := RO.tr (q := []) T (by simp) (show RO K H' (Av (Av B o) o3) o3 (.tm 0) [] k v d from J.tp.1)
      simpa using z
    exact z
  · have key : ∀ {τ : List T}, TOk K H B o τ → TOk K H' B o4 τ := fun {τ} => by
      induction τ with
      | nil => intro _; trivial
      | cons t τ ih =>
        intro h
        refine ⟨?_, ih h.2⟩
        obtain ⟨v, k, d⟩ := t
        have h := h.1
        cases k with
        | ow k =>
          have z : RO K H' (Av B o4) o4 (.tm τ.length) [] k v d := by
            have z := RO.tr (q := []) (tr (.tm τ.length) []) (by simp) (show RO K H (Av B o) o (.tm τ.length) [] k v d from h)
            simpa using z
          exact z
        | bw => exact Rep.mono J.sm h
        | pl w q => exact PathTo.mono J.sm h
    exact key I.tp
theorem XW.imp {E : XK} {x : Str} {w : Option (Str × D)} (h : XW ⟨K, B, H0, Hf, E⟩ x w) (e : Same H0 H) (hb : ∀ a, B a → B' a) : XW ⟨K, B', H, ⟨H, [], fun _ => .non⟩, E⟩ x w := by
  cases w with
  | none => exact fun C H' n s => h C H' n (e.trans s)
  | some p => exact fun C dx v H' n s q r => h C dx v H' n (e.trans s) q (r.mono (del_sub hb))
theorem keep_mu {A : Addr → Prop} (h : ∀ a, A a → Mu H a) : KeepI H (del H A) := fun a u e hu => by
  refine del_some.mpr ⟨fun z => ?_, e⟩
  obtain ⟨u', e2, m⟩ := h a z
  rw [e] at e2
  cases e2
  rw [hu] at m
  cases m
theorem XW.flat {E : XK} {x : Str} {w : Option (Str × D)} (h : XW ⟨K, B, H0, Hf, E⟩ x w) (e : Same H0 H) (hB : ∀ a, B a → Mu H0 a) (hf : ∀ f d, w = some (f, d) → flat d = true) : XW ⟨K, fun _ => False, H, ⟨H, [], fun _ => .non⟩, E⟩ x w := by
  cases w with
  | none => exact fun C H' n s => h C H' n (e.trans s)
  | some p => exact fun C dx v H' n s q r => h C dx v H' n (e.trans s) q (Rep.flat (keep_mu fun a ha => (hB a ha).mono (e.trans s)) (r.mono (del_same _ _)) (hf _ _ rfl))
def flatX : Option (Str × D) → Bool
  | none => true | some (_, d) => flat d
def eCall (run : Run) (fs : FA) : FE := fun ρ => (fs ρ).bind fun as ρ1 => match run (as.map (·.2)) with
  | none => none
  | some (.ret k d) => if as.all stb' = true then some (.val (.ow k, d) ρ1) else if cov k d = true then some (.val (.ow k, d) ρ1) else none
  | some (.exc x w) => if as.all stb' = true then some (.exc x w) else if flatX w = true then some (.exc x w) else none
theorem se_call {run : Run} (hs : SA X ts fs) : SE X (tCall (spR X.K run) [] X.E ts) (eCall run fs) := fun ρ z h σ τ H o I Q q => by
  have hx : ∀ x w, z = .exc x w → XW X x w := fun x w e => by subst e; exact q
  refine hs.bindG h I hx fun as ρ1 vs H1 o1 h1 l I1 => ?_
  obtain ⟨o2, I2, ks⟩ := Ok.settles l I1
  cases er : run (as.map (·.2)) with
  | none => rw [er] at h1; cases h1
  | some out =>
    rw [er] at h1
    cases out with
    | ret k d =>
      dsimp only at h1
      split at h1
      · rename_i hst
        cases h1
        refine ⟨Av X.B o2, as.map (·.2), .ret k d, fun a ha => I2.mu ha, by rw [List.append_nil]; exact Knowns.st I2 ks hst, er, fun v H' o3 J => ?_⟩
        obtain ⟨o4, I4⟩ := I2.join J
        exact q v H' o4 I4
      · split at h1
        · rename_i hc
          cases h1
          refine ⟨fun _ => False, as.map (·.2), .ret k d, fun a ha => ha.elim, by rw [List.append_nil, del_nil]; exact ks.rep, er, fun v H' o3 J => ?_⟩
          have hmu : ∀ a, Av (Av X.B o2) o3 a → Mu H' a := fun a ha => by
            rcases ha with ha | ⟨y, ha⟩
            · exact (I2.mu ha).mono J.sm
            · exact (J.ow a y ha).2
          obtain ⟨o4, I4⟩ := I2.join (v := v) (d := d) (k := k) (o3 := o3) (H' := H') ⟨rfl, fun a ha => I2.mu ha, J.sm, ⟨J.sm, fun p hp => nomatch hp⟩, J.ow, (fun i k d h => nomatch h), (fun _ _ h _ => by cases h), RO.cov (keep_mu hmu) J.tp.1 hc, trivial⟩
          exact q v H' o4 I4
        · cases h1
    | exc x w =>
      dsimp only at h1
      split at h1
      · rename_i hst
        cases h1
        exact ⟨Av X.B o2, as.map (·.2), .exc x w, fun a ha => I2.mu ha, by rw [List.append_nil]; exact Knowns.st I2 ks hst, er, XW.imp (q : XW ⟨X.K, X.B, X.H0, X.Hf, X.E⟩ x w) I2.sm fun a ha => .inl ha⟩
      · split at h1
        · rename_i hc
          cases h1
          refine ⟨fun _ => False, as.map (·.2), .exc x w, fun a ha => ha.elim, by rw [List.append_nil, del_nil]; exact ks.rep, er, XW.flat (q : XW ⟨X.K, X.B, X.H0, X.Hf, X.E⟩ x w) I2.sm I2.bs fun f d e => ?_⟩
          subst e
          exact hc
        · cases h1

inductive Fl where
  | nxt (ρ : Env) | ret (k : Nat) (d : D) | exc (x : Str) (w : Option (Str × D)) | brk (ρ : Env) | cnt (ρ : Env)
abbrev FS := Env → Option Fl
def noBw (τ : List T) : Prop := ∀ t, t ∈ τ → ∃ k, t.k = .ow k
def En (X : Fx) (τ : List T) (D : Ends) : Fl → Prop
  | .nxt ρ => ∀ σ H o, OkX X σ ρ τ H o → D.nx σ H
  | .brk ρ => ∀ σ H o, OkX X σ ρ τ H o → D.bk σ H
  | .cnt ρ => ∀ σ H o, OkX X σ ρ τ H o → D.ct σ H
  | .ret k d => ∀ v H o, OkX X [] [] [⟨v, .ow k, d⟩] H o → D.rt v H
  | .exc x w => XW X x w
def SS (X : Fx) (t : TS) (f : FS) : Prop := ∀ ρ fl, f ρ = some fl → ∀ σ τ H o, X.Hf.hp = X.H0 → noBw τ → OkX X σ ρ τ H o → ∀ D : Ends, En X τ D fl → t D σ H
def R.toF {α : Type} (r : R α) (f : α → Env → Option Fl) : Option Fl := match r with
  | none => none
  | some (.exc x w) => some (.exc x w)
  | some (.val a ρ) => f a ρ
theorem R.toF_some {α : Type} {r : R α} {f : α → Env → Option Fl} {z : Fl} (h : r.toF f = some z) : (∃ x w, r = some (.exc x w) ∧ z = .exc x w) ∨ ∃ a ρ, r = some (.val a ρ) ∧ f a ρ = some z := by
  match r, h with
  | none, h => cases h
  | some (.exc x w), h => cases h; exact .inl ⟨x, w, rfl, rfl⟩
  | some (.val a ρ), h => exact .inr ⟨a, ρ, rfl, h⟩
theorem SE.toF (h : SE X te fe) {g : Kx → Env → Option Fl} {z : Fl} (e : (fe ρ).toF g = some z) (I : OkX X σ ρ τ H o) {D : Ends} (hz : En X τ' D z) {P : VK}
    (q : ∀ a ρ' v H' o', g a ρ' = some z → OkX X σ ρ' (tmp v a :: τ) H' o' → P v H') : te σ H P := by
  rcases R.toF_some e with ⟨x, w, e1, rfl⟩ | ⟨a, ρ', e1, e2⟩
  · exact h ρ _ e1 σ τ H o I P hz
  · exact h ρ _ e1 σ τ H o I P fun v H' o' J => q a ρ' v H' o' e2 J
theorem ST.toF (h : ST X tt ft) {g : Bool → Env → Option Fl} {z : Fl} (e : (ft ρ).toF g = some z) (I : OkX X σ ρ τ H o) {D : Ends} (hz : En X τ' D z) {P : Bool → Hp → Prop}
    (q : ∀ a ρ' H' o', g a ρ' = some z → OkX X σ ρ' τ H' o' → P a H') : tt σ H P := by
  rcases R.toF_some e with ⟨x, w, e1, rfl⟩ | ⟨a, ρ', e1, e2⟩
  · exact h ρ _ e1 σ τ H o I P hz
  · exact h ρ _ e1 σ τ H o I P fun H' o' J => q a ρ' H' o' e2 J
def sNext : FS := fun ρ => some (.nxt ρ)
def sBrk : FS := fun ρ => some (.brk ρ)
def sCnt : FS := fun ρ => some (.cnt ρ)
def sNever : FS := fun _ => none
def sSeq (f g : FS) : FS := fun ρ => match f ρ with
  | some (.nxt ρ1) => g ρ1
  | r => r
def sRet (fe : FE) : FS := fun ρ => (fe ρ).toF fun a ρ1 => match a.1 with
  | .ow k => some (.ret k a.2) | .bw => if flat a.2 = true then some (.ret 0 a.2) else none
def sDrop (fe : FE) : FS := fun ρ => (fe ρ).toF fun _ ρ1 => some (.nxt ρ1)
def sIf (ft : FT) (f g : FS) : FS := fun ρ => (ft ρ).toF fun b ρ1 => if b = true then f ρ1 else g ρ1
variable {t u : TS} {f g : FS}
theorem ss_next : SS X tNext sNext := fun ρ fl h σ τ H o h0f nb I D q => by cases h; exact q σ H o I
theorem ss_seq (hf : SS X t f) (hg : SS X u g) : SS X (tSeq t u) (sSeq f g) := fun ρ fl h σ τ H o h0f nb I D q => by
  unfold sSeq at h
  split at h
  · rename_i ρ1 e
    exact hf ρ _ e σ τ H o h0f nb I _ fun σ1 H1 o1 I1 => hg ρ1 fl h σ1 τ H1 o1 h0f nb I1 D q
  · rename_i r hr
    refine hf ρ fl h σ τ H o h0f nb I _ ?_
    cases fl with
    | nxt ρ1 => exact absurd h (hr ρ1)
    | ret k d => exact q
    | exc x w => exact q
    | brk ρ1 => exact q
    | cnt ρ1 => exact q
theorem TmOk.res {j k : Nat} (I : OkX X σ ρ τ H o) (h : TmOk X.K H X.B o j ⟨v, .ow k, d⟩) : ∃ o', OkX X [] [] [⟨v, .ow k, d⟩] H o' :=
  ⟨ob o fun z => if z.1 = .tm j then some (.tm 0, z.2) else none, I.remap _ rfl (fun i k d h => nomatch h) (fun _ _ h _ => by cases h) ⟨RO.re (fun q => if_pos rfl) h, trivial⟩⟩
theorem ss_ret (he : SE X te fe) : SS X (tRet te) (sRet fe) := fun ρ fl h σ τ H o h0f nb I D q => by
  refine he.toF h I q fun a ρ1 v H1 o1 h1 I1 => ?_
  obtain ⟨k, d⟩ := a
  cases k with
  | ow k =>
    cases h1
    obtain ⟨o2, I2⟩ := I1.top.res I1.pop
    exact q v H1 o2 I2
  | bw =>
    dsimp only at h1
    split at h1
    · rename_i hf
      cases h1
      have I3 := I1.pop.flatP (tmp_rep I1.top) hf
      obtain ⟨o2, I2⟩ := I3.top.res I3.pop
      exact q v H1 o2 I2
    · cases h1
def sRetN : FS := fun _ => some (.ret 0 .non)
theorem ss_if (ht : ST X tt ft) (hf : SS X t f) (hg : SS X u g) : SS X (tIfS tt t u) (sIf ft f g) := fun ρ fl h σ τ H o h0f nb I D q => by
  refine ht.toF h I q fun b ρ1 H1 o1 h1 I1 => ?_
  cases b with
  | true => rw [if_pos rfl]; rw [if_pos rfl] at h1; exact hf ρ1 fl h1 σ τ H1 o1 h0f nb I1 D q
  | false => rw [if_neg Bool.false_ne_true]; rw [if_neg Bool.false_ne_true] at h1; exact hg ρ1 fl h1 σ τ H1 o1 h0f nb I1 D q

abbrev FG := Kx → Env → Option Env
abbrev FGs := List Kx → Env → Option Env
def Agree {α : Type} (ρ ρ' : List α) (js : List Nat) : Prop := ρ'.length = ρ.length ∧ ∀ j, j ∉ js → ρ'[j]? = ρ[j]?
theorem Agree.refl {α : Type} (ρ : List α) (js : List Nat) : Agree ρ ρ js := ⟨rfl, fun _ _ => rfl⟩
theorem Agree.trans {α : Type} {ρ ρ' ρ'' : List α} {js : List Nat} (h : Agree ρ ρ' js) (h' : Agree ρ' ρ'' js) : Agree ρ ρ'' js := ⟨h'.1.trans h.1, fun j hj => by rw [h'.2 j hj, h.2 j hj]⟩
theorem Agree.of_set {α : Type} (ρ : List α) (i : Nat) (x : α) {js : List Nat} (hi : i ∈ js) : Agree ρ (ρ.set i x) js := ⟨List.length_set .., fun j hj => by
  rw [List.getElem?_set_ne]
  rintro rfl
  exact hj hi⟩
def SG (X : Fx) (js : List Nat) (g : TG) (fg : FG) : Prop := ∀ a ρ ρ', fg a ρ = some ρ' → ∀ σ τ H o v, OkX X σ ρ (tmp v a :: τ) H o → ∀ Q : St → Hp → Prop, (∀ σ' H' o', OkX X σ' ρ' τ H' o' → Agree σ σ' js → Q σ' H') → g v σ H Q
def ows (as : List Kx) : Prop := ∀ a, a ∈ as → ∃ k, a.1 = .ow k
def SGs (X : Fx) (js : List Nat) (g : TGs) (fg : FGs) : Prop := ∀ as ρ ρ', fg as ρ = some ρ' → ows as → ∀ σ τ H o vs, vs.length = as.length → OkX X σ ρ (vs.zipWith tmp as ++ τ) H o → ∀ Q : St → Hp → Prop, (∀ σ' H' o', OkX X σ' ρ' τ H' o' → Agree σ σ' js → Q σ' H') → g vs σ H Q
def gN (i : Nat) : FG := fun a ρ => match a.1 with
  | .ow k => some (ρ.set i (.ow k a.2)) | .bw => if flat a.2 = true then some (ρ.set i (.ow 0 a.2)) else none
theorem sg_name {i : Nat} {js : List Nat} (hi : i ∈ js) : SG X js (gName i) (gN i) := fun a ρ ρ' h σ τ H o v I Q q => by
  obtain ⟨k, d⟩ := a
  cases k with
  | ow k => cases h; exact q _ H _ (Ok.set I i) (.of_set _ _ _ hi)
  | bw =>
    unfold gN at h
    dsimp only at h
    split at h
    · rename_i hf
      cases h
      exact q _ H _ (Ok.set (I.pop.flatP (tmp_rep I.top) hf) i) (.of_set _ _ _ hi)
    · cases h
def gsNil : FGs := fun as ρ => match as with
  | [] => some ρ | _ => none
def gsCons (fg : FG) (fgs : FGs) : FGs := fun as ρ => match as with
  | [] => none
  | a :: as => match fg a ρ with
    | some ρ1 => fgs as ρ1 | none => none
theorem sgs_nil {js : List Nat} : SGs X js gNil gsNil := fun as ρ ρ' h ha σ τ H o vs l I Q q => by
  cases as with
  | nil => cases vs with
    | nil => cases h; exact ⟨rfl, q σ H o I (.refl _ _)⟩
    | cons => cases l
  | cons => cases h
theorem noBw_app {τ1 τ2 : List T} (h1 : noBw τ1) (h2 : noBw τ2) : noBw (τ1 ++ τ2) := fun t ht => (List.mem_append.mp ht).elim (h1 t) (h2 t)
theorem sgs_cons {js : List Nat} {g : TG} {gs : TGs} {fg : FG} {fgs : FGs} (h1 : SG X js g fg) (h2 : SGs X js gs fgs) : SGs X js (gCons g gs) (gsCons fg fgs) := fun as ρ ρ' h ha σ τ H o vs l I Q q => by
  cases as with
  | nil => cases h
  | cons a as => cases vs with
    | nil => cases l
    | cons v vs =>
      replace h : (match fg a ρ with | some ρ1 => fgs as ρ1 | none => none) = some ρ' := h
      cases e : fg a ρ with
      | none => rw [e] at h; cases h
      | some ρ1 =>
        rw [e] at h
        have ha' : ows as := fun b hb => ha b (List.mem_cons_of_mem _ hb)
        refine ⟨v, vs, rfl, h1 a ρ ρ1 e σ (vs.zipWith tmp as ++ τ) H o v I _ fun σ1 H1 o1 I1 g1 => ?_⟩
        exact h2 as ρ1 ρ' h ha' σ1 τ H1 o1 vs (Nat.succ.inj l) I1 Q fun σ2 H2 o2 I2 g2 => q σ2 H2 o2 I2 (g1.trans g2)
end
end P
namespace P
open PySem L2
section
variable {X : Fx} {K : PySem.W.Frag} {B B' : Addr → Prop} {H0 H H' : Hp} {Hf : Bg} {σ σ' : St} {ρ ρ' : Env} {τ τ' : List T} {o o' : Own} {v : V} {d : D} {ta tb tc te : TE} {fa fb fc fe : FE} {tt tu : TT} {ft fu : FT} {ts : TA} {fs : FA} {a b : Kx} {k : Nat} {t u : TS} {f g : FS}

def gSeq (K : PySem.W.Frag) (n : Nat) (t : TGs) : TG := fun v σ H Q => gTup K n t v σ H Q ∨ gLst K n t v σ H Q
theorem pg_seq {X : Cx} {es : List Expr} {k : Nat} {t : TGs} {n : Nat} {pos : Pos} (hc : X.calm = true) (h : PGs X es t)
    (hn : (assignEach es X.env).length = n := by rfl) (hst : (assignEach es X.env).findIdx? (·.1) = none := by rfl) : PG X (.Tuple es k pos) (gSeq X.K n t) :=
  ⟨fun pins s σ H v u Q I r q => q.elim (fun q => (pg_tup (k := k) (pos := pos) hc h hn hst).run pins s σ H v u Q I r q) fun q => (pg_lst (k := k) (pos := pos) hc h hn hst).run pins s σ H v u Q I r q⟩
def withK (k : Kv) (ds : List D) : List Kx := ds.map fun d => (k, d)
def gT (n : Nat) (fgs : FGs) : FG := fun a ρ => match a with
  | (.ow 0, .tup ds) => if ds.length = n then fgs (withK (.ow 0) ds) ρ else none
  | (.ow (k + 1), .tup ds) => if ds.length = n then fgs (withK (.ow (k + 1)) ds) ρ else none
  | (.ow _, .lst ds) => if ds.length = n then fgs (withK (.ow 0) ds) ρ else none
  | (.bw, .tup ds) => if ds.length = n then (if flats ds = true then fgs (withK (.ow 0) ds) ρ else none) else none
  | (.bw, .lst ds) => if ds.length = n then (if flats ds = true then fgs (withK (.ow 0) ds) ρ else none) else none
  | _ => none
theorem ows_with (k : Nat) (ds : List D) : ows (withK (.ow k) ds) := fun a h => by
  obtain ⟨d, _, rfl⟩ := List.mem_map.mp h
  exact ⟨k, rfl⟩
theorem Ok.stabs : ∀ {vs : List V} {ds : List D}, Ok K B H0 Hf σ ρ τ H o → Reps K (del H (Av B o)) vs ds → Ok K B H0 Hf σ ρ (vs.zipWith tmp (withK (.ow 0) ds) ++ τ) H o
  | _, _, I, .nil => I
  | _, _, I, .cons a b => (Ok.stabs I b).push (.st a)
def gSplit (n m : Nat) : Root × List Nat → Option (Root × List Nat) := fun z => if z.1 = .tm n then (match z.2 with
  | j :: q => some (.tm (n + (m - 1 - j)), q) | [] => none) else some z
theorem Ok.split {vs : List V} {ds : List D} (I : Ok K B H0 Hf σ ρ τ H o) (h : ROs K H (Av B o) o (.tm τ.length) [] 0 (k + 1) vs ds) : Ok K B H0 Hf σ ρ (vs.zipWith tmp (withK (.ow (k + 1)) ds) ++ τ) H (ob o (gSplit τ.length ds.length)) := by
  have tk : TOk K H B (ob o (gSplit τ.length ds.length)) τ := TOk.re (fun j q hj => if_neg (by intro z; cases z; omega)) I.tp
  refine I.remap _ I.len (fun j k' d' h' => by
    obtain ⟨v', e1, e2⟩ := I.sl j k' d' h'
    exact ⟨v', e1, RO.re (fun q => if_neg (by intro z; cases z)) e2⟩) I.ms ?_
  have key : ∀ (vs : List V) (es : List D) (i : Nat), i + es.length = ds.length → ROs K H (Av B o) o (.tm τ.length) [] i (k + 1) vs es → TOk K H B (ob o (gSplit τ.length ds.length)) (vs.zipWith tmp (withK (.ow (k + 1)) es) ++ τ) := fun vs => by
    induction vs with
    | nil => intro es i _ h; cases h; exact tk
    | cons v vs ih =>
      intro es i hi h
      cases h with
      | cons a b =>
        rename_i e es
        have hl := b.length
        refine ⟨?_, ih es (i + 1) (by rw [List.length_cons] at hi; omega) b⟩
        have e : (vs.zipWith tmp (withK (.ow (k + 1)) es) ++ τ).length = τ.length + (ds.length - 1 - i) := by
          unfold withK
          rw [List.length_append, List.length_zipWith, List.length_map, hl, Nat.min_self]
          rw [List.length_cons] at hi
          omega
        show TmOk K H B _ (vs.zipWith tmp (withK (.ow (k + 1)) es) ++ τ).length _
        rw [e]
        have hg : ∀ q : List Nat, gSplit τ.length ds.length (Root.tm τ.length, ([] ++ [i]) ++ q) = some (.tm (τ.length + (ds.length - 1 - i)), [] ++ q) := fun q => if_pos rfl
        exact RO.re hg a
  exact key vs ds 0 (by omega) h
theorem sg_seq {js : List Nat} {n : Nat} {gs : TGs} {fgs : FGs} (h : SGs X js gs fgs) : SG X js (gSeq X.K n gs) (gT n fgs) := fun a ρ ρ' e σ τ H o v I Q q => by
  have fin : ∀ (vs : List V) (ds : List D) (o : Own), fgs (withK (.ow 0) ds) ρ = some ρ' → OkX X σ ρ τ H o → Reps X.K (del H (Av X.B o)) vs ds → gs vs σ H Q := fun vs ds o e I r =>
    h _ _ _ e (ows_with _ _) σ τ H o vs (by unfold withK; rw [List.length_map, r.length]) (I.stabs r) Q q
  unfold gT at e
  split at e
  · rename_i ds
    split at e
    · rename_i hl
      have r : RO X.K H (Av X.B o) o (.tm τ.length) [] 0 v (.tup ds) := I.top
      cases r with
      | st r => cases r with
        | tup hh rr => exact .inl ⟨_, _, rfl, SqT.of (del_some.mp hh).2, by rw [rr.length, hl], fin _ _ o e I.pop rr⟩
    · cases e
  · rename_i k ds
    split at e
    · rename_i hl
      have r : RO X.K H (Av X.B o) o (.tm τ.length) [] (k + 1) v (.tup ds) := I.top
      cases r with
      | flat hf r => cases r with
        | tup hh rr =>
          refine .inl ⟨_, _, rfl, SqT.of hh, by rw [rr.length, hl], h _ _ _ e (ows_with _ _) σ τ H o _ (by unfold withK; rw [List.length_map, rr.length]) ?_ Q q⟩
          have key : ∀ {vs : List V} {ds : List D}, Reps X.K H vs ds → flats ds = true → OkX X σ ρ (vs.zipWith tmp (withK (.ow (k + 1)) ds) ++ τ) H o := fun {vs} => by
            induction vs with
            | nil => intro ds r _; cases r; exact I.pop
            | cons v vs ih =>
              intro ds r hf
              cases r with
              | cons a b =>
                have hf' : (flat _ && flats _) = true := hf
                rw [Bool.and_eq_true] at hf'
                exact (ih b hf'.2).push (.flat hf'.1 a)
          exact key rr hf
      | tup hh rr =>
        exact .inl ⟨_, _, rfl, SqT.of hh, by rw [rr.length, hl], h _ _ _ e (ows_with _ _) σ τ H _ _ (by unfold withK; rw [List.length_map, rr.length]) (I.pop.split rr) Q q⟩
    · cases e
  · rename_i k ds
    split at e
    · rename_i hl
      obtain ⟨o', I', ka⟩ := I.settle1
      have r : Rep X.K (del H (Av X.B o')) v (.lst ds) := ka
      cases r with
      | lst hh rr => exact .inr ⟨_, _, rfl, SqL.of (del_some.mp hh).2, by rw [rr.length, hl], fin _ _ o' e I' rr⟩
    · cases e
  · rename_i ds
    split at e
    · rename_i hl
      split at e
      · rename_i hf
        have r : Rep X.K H v (.tup ds) := I.top
        cases r with
        | tup hh rr => exact .inl ⟨_, _, rfl, SqT.of hh, by rw [rr.length, hl], fin _ _ o e I.pop (Reps.flat (keep_av I.pop) rr hf)⟩
      · cases e
    · cases e
  · rename_i ds
    split at e
    · rename_i hl
      split at e
      · rename_i hf
        have r : Rep X.K H v (.lst ds) := I.top
        cases r with
        | lst hh rr => exact .inr ⟨_, _, rfl, SqL.of hh, by rw [rr.length, hl], fin _ _ o e I.pop (Reps.flat (keep_av I.pop) rr hf)⟩
      · cases e
    · cases e
  · cases e

def sAsg (fe : FE) (fg : FG) : FS := fun ρ => (fe ρ).toF fun a ρ1 => match fg a ρ1 with
  | some ρ2 => some (.nxt ρ2) | none => none
theorem ss_asg {js : List Nat} {g : TG} {fg : FG} (he : SE X te fe) (hg : SG X js g fg) : SS X (tAsg te g) (sAsg fe fg) := fun ρ fl h σ τ H o h0f nb I D q => by
  refine he.toF h I q fun a ρ1 v H1 o1 h1 I1 => ?_
  cases e : fg a ρ1 with
  | none => rw [e] at h1; cases h1
  | some ρ2 =>
    rw [e] at h1
    cases h1
    exact hg a ρ1 ρ2 e σ τ H1 o1 v I1 _ fun σ' H' o' I' _ => q σ' H' o' I'
def sPar (i j : Nat) (fs : FA) : FS := fun ρ => match fs ρ with
  | none => none
  | some (.exc x w) => some (.exc x w)
  | some (.val as ρ1) => match as with
    | [a, b] => if as.all stb' = true then some (.nxt ((ρ1.set i (.ow 0 a.2)).set j (.ow 0 b.2))) else none
    | _ => none
theorem ss_par {i j : Nat} (hs : SA X ts fs) : SS X (tPar i j ts) (sPar i j fs) := fun ρ fl h σ τ H o h0f nb I D q => by
  unfold sPar at h
  split at h
  · cases h
  · rename_i x w e
    cases h
    exact hs ρ _ e σ τ H o I _ q
  · rename_i as ρ1 e
    split at h
    · rename_i a b
      split at h
      · rename_i hst
        cases h
        refine hs ρ _ e σ τ H o I _ fun vs H1 o1 l I1 => ?_
        obtain ⟨o2, I2, ks⟩ := Ok.settles l I1
        have r := Knowns.st I2 ks hst
        match vs, l, r with
        | [v, w], _, .cons ra (.cons rb .nil) =>
          refine ⟨v, w, rfl, ?_⟩
          have J := ((I2.stab rb).stab (show Rep X.K (del H1 (Av X.B o2)) v a.2 from ra)).set i
          exact q _ H1 _ (Ok.set J j)
      · cases h
    · cases h
def sAug (i : Nat) (fe : FE) (op : Int → Int → Int) : FS := fun ρ => match look ρ i with
  | some (_, .int m) => (fe ρ).toF fun a ρ1 => match a.2 with
    | .int n => some (.nxt (ρ1.set i (.ow 0 (.int (op m n))))) | _ => none
  | _ => none

def whileF (ft : FT) (fb : FS) : Nat → Env → Option Fl
  | 0, _ => none
  | n + 1, ρ => (ft ρ).toF fun b ρ1 => if b = true then (match fb ρ1 with
    | none => none
    | some (.nxt ρ2) => whileF ft fb n ρ2
    | some (.cnt ρ2) => whileF ft fb n ρ2
    | some (.brk ρ2) => some (.nxt ρ2)
    | some r => some r) else some (.nxt ρ1)
theorem whileF_more {ft : FT} {fb : FS} : ∀ {n : Nat} {ρ : Env} {r : Fl}, whileF ft fb n ρ = some r → ∀ m, n ≤ m → whileF ft fb m ρ = some r
  | 0, _, _, h, _, _ => nomatch h
  | n + 1, ρ, r, h, m, hm => by
    cases m with
    | zero => omega
    | succ m =>
      unfold whileF at h ⊢
      cases e : ft ρ with
      | none => rw [e] at h; cases h
      | some z =>
        rw [e] at h
        cases z with
        | exc x w => exact h
        | val b ρ1 =>
          cases b with
          | false => exact h
          | true =>
            replace h : (match fb ρ1 with
              | none => none
              | some (.nxt ρ2) => whileF ft fb n ρ2
              | some (.cnt ρ2) => whileF ft fb n ρ2
              | some (.brk ρ2) => some (.nxt ρ2)
              | some r => some r) = some r := h
            show (match fb ρ1 with
              | none => none
              | some (.nxt ρ2) => whileF ft fb m ρ2
              | some (.cnt ρ2) => whileF ft fb m ρ2
              | some (.brk ρ2) => some (.nxt ρ2)
              | some r => some r) = some r
            cases e2 : fb ρ1 with
            | none => rw [e2] at h; cases h
            | some y =>
              rw [e2] at h
              cases y with
              | nxt ρ2 => exact whileF_more (n := n) h m (by omega)
              | cnt ρ2 => exact whileF_more (n := n) h m (by omega)
              | brk ρ2 => exact h
              | ret k d => exact h
              | exc x w => exact h
open Classical in
noncomputable def sWhile (ft : FT) (fb : FS) : FS := fun ρ => if h : ∃ (r : Fl) (n : Nat), whileF ft fb n ρ = some r then some h.choose else none
theorem sWhile_of {ft : FT} {fb : FS} {n : Nat} {r : Fl} (h : whileF ft fb n ρ = some r) : sWhile ft fb ρ = some r := by
  have ex : ∃ (r : Fl) (n : Nat), whileF ft fb n ρ = some r := ⟨r, n, h⟩
  unfold sWhile
  rw [dif_pos ex]
  obtain ⟨m, hm⟩ := ex.choose_spec
  have h1 := whileF_more h (max n m) (by omega)
  have h2 := whileF_more hm (max n m) (by omega)
  rw [h1] at h2
  exact h2.symm
theorem sWhile_some {ft : FT} {fb : FS} {r : Fl} (h : sWhile ft fb ρ = some r) : ∃ n, whileF ft fb n ρ = some r := by
  unfold sWhile at h
  split at h
  · rename_i ex
    cases h
    exact ex.choose_spec
  · cases h
theorem ss_while (ht : ST X tt ft) (hb : SS X t f) : SS X (tWhile tt t) (sWhile ft f) := fun ρ fl h σ τ H o h0f nb I D q => by
  obtain ⟨n, hn⟩ := sWhile_some h
  refine ⟨fun m σ H => ∃ ρ o, whileF ft f m ρ = some fl ∧ OkX X σ ρ τ H o, ⟨n, ρ, o, hn, I⟩, ?_⟩
  rintro m σ H ⟨ρ, o, hm, I⟩
  cases m with
  | zero => cases hm
  | succ m =>
    unfold whileF at hm
    refine ht.toF hm I q fun b ρ1 H1 o1 h1 I1 => ?_
    cases b with
    | false =>
      rw [if_neg Bool.false_ne_true]
      rw [if_neg Bool.false_ne_true] at h1
      cases h1
      exact q σ H1 o1 I1
    | true =>
      rw [if_pos rfl]
      rw [if_pos rfl] at h1
      refine ⟨fun σ' H' => ∃ ρ o, whileF ft f m ρ = some fl ∧ OkX X σ' ρ τ H' o, fun σ' H' ⟨ρ, o, e, I⟩ => ⟨m, Nat.lt_succ_self m, ρ, o, e, I⟩, ?_⟩
      cases e2 : f ρ1 with
      | none => rw [e2] at h1; cases h1
      | some y =>
        rw [e2] at h1
        refine hb ρ1 y e2 σ τ H1 o1 h0f nb I1 _ ?_
        cases y with
        | nxt ρ2 => exact fun σ' H' o' I' => ⟨ρ2, o', h1, I'⟩
        | cnt ρ2 => exact fun σ' H' o' I' => ⟨ρ2, o', h1, I'⟩
        | brk ρ2 => cases h1; exact fun σ' H' o' I' => q σ' H' o' I'
        | ret k d => cases h1; exact q
        | exc x w => cases h1; exact q

def Walks (X : Fx) (J : It) (ds : List D) (W : List (V × D)) : Prop := ∀ σ ρ τ H o i, OkX X σ ρ τ H o → (∀ p, p ∈ W → Rep X.K (del H (Av X.B o)) p.1 p.2) →
  (ds.length ≤ i → J.stop i H) ∧ ∀ d, ds[i]? = some d → J.go i H ∧ ∀ x H', J.yld i H x H' → Same H H' ∧ OkX X σ ρ (⟨x, .ow 0, d⟩ :: τ) H' o
abbrev FI := Env → R (List D)
def SI (X : Fx) (wi : TI) (fi : FI) : Prop := ∀ ρ r, fi ρ = some r → ∀ σ τ H o, OkX X σ ρ τ H o → ∀ Q : It → Hp → Prop,
  (match r with
  | .val ds ρ' => ∀ J W H' o', Walks X J ds W → OkX X σ ρ' τ H' o' → (∀ p, p ∈ W → Rep X.K (del H' (Av X.B o')) p.1 p.2) → Q J H'
  | .exc x w => XW X x w) → wi σ H Q
def lstD (a : Kx) : Option (List D) := match a with
  | (.ow _, .lst ds) => some ds
  | (.ow _, .rd ns) => some (ns.map .int)
  | _ => none
theorem walks_l {p : Addr} {ds : List D} : Walks X (Itl X.K p) ds [(.ref p, .lst ds)] := fun σ ρ τ H o i I hW => by
  have r := hW _ (List.mem_cons_self ..)
  cases r with
  | lst hh rr =>
    have hq : SqL X.K H p _ := SqL.of (del_some.mp hh).2
    refine ⟨fun hi => ⟨_, hq, by rw [rr.length]; exact hi⟩, fun d hd => ?_⟩
    obtain ⟨x, e1, e2⟩ := rr.get' hd
    refine ⟨⟨_, x, hq, e1⟩, fun x' H' y => ?_⟩
    obtain ⟨rfl, y⟩ := y
    have e := y _ hq
    rw [e1] at e
    cases e
    exact ⟨Same.refl _, I.stab e2⟩
theorem walks_rd {p : Addr} {ns : List Int} : Walks X (Itl X.K p) (ns.map .int) [(.ref p, .rd ns)] := fun σ ρ τ H o i I hW => by
  have r := hW _ (List.mem_cons_self ..)
  cases r with
  | rd hh =>
    have hq := (del_same H (Av X.B o)).seq hh
    refine ⟨fun hi => ⟨_, hq, by rw [List.length_map] at hi ⊢; exact hi⟩, fun d hd => ?_⟩
    rw [List.getElem?_map] at hd
    cases e : ns[i]? with
    | none => rw [e] at hd; cases hd
    | some n =>
      rw [e] at hd
      cases hd
      have e1 : (ns.map V.int)[i]? = some (V.int n) := by rw [List.getElem?_map, e]; rfl
      refine ⟨⟨_, _, hq, e1⟩, fun x' H' y => ?_⟩
      obtain ⟨rfl, y⟩ := y
      have e := y _ hq
      rw [e1] at e
      cases e
      exact ⟨Same.refl _, I.stab (.int n)⟩
def iLst (fe : FE) : FI := fun ρ => (fe ρ).bind fun a ρ1 => (lstD a).map fun ds => .val ds ρ1
theorem SE.bindI (h : SE X te fe) {g : Kx → Env → R (List D)} {z : Rs (List D)} (e : (fe ρ).bind g = some z) (I : OkX X σ ρ τ H o) {P : VK} (hx : ∀ x w, z = .exc x w → XW X x w)
    (q : ∀ a ρ' v H' o', g a ρ' = some z → OkX X σ ρ' (tmp v a :: τ) H' o' → P v H') : te σ H P := h.bindG e I hx q
def rangeD (lo : Int) (n : Nat) : List D := (List.range n).map fun i => .int (lo + (i : Nat))
theorem rangeD_length (lo : Int) (n : Nat) : (rangeD lo n).length = n := by unfold rangeD; rw [List.length_map, List.length_range]
theorem rangeD_get {lo : Int} {n i : Nat} {d : D} (h : (rangeD lo n)[i]? = some d) : i < n ∧ d = .int (lo + (i : Nat)) := by
  unfold rangeD at h
  rw [List.getElem?_map] at h
  cases e : (List.range n)[i]? with
  | none => rw [e] at h; cases h
  | some j =>
    rw [e] at h
    cases h
    have hi := (List.getElem?_eq_some_iff.mp e)
    obtain ⟨h1, h2⟩ := hi
    rw [List.getElem_range] at h2
    subst h2
    rw [List.length_range] at h1
    exact ⟨h1, rfl⟩
theorem walks_range {lo : Int} {n : Nat} : Walks X (Itr lo n) (rangeD lo n) [] := fun σ ρ τ H o i I hW => by
  refine ⟨fun hi => by rw [rangeD_length] at hi; exact hi, fun d hd => ?_⟩
  obtain ⟨h1, rfl⟩ := rangeD_get hd
  exact ⟨h1, fun x H' y => by
    obtain ⟨rfl, rfl⟩ := y
    exact ⟨Same.refl _, I.stab (.int _)⟩⟩
noncomputable def iR1 (fe : FE) : FI := fun ρ => (fe ρ).bind fun a ρ1 => match a.2 with
  | .int n => chk (-(2 ^ 62) ≤ n ∧ n < 2 ^ 62) (some (.val (rangeD 0 n.toNat) ρ1)) | _ => none
noncomputable def iR2 (fa fb : FE) : FI := fun ρ => (fa ρ).bind fun a ρ1 => (fb ρ1).bind fun b ρ2 => match a.2, b.2 with
  | .int m, .int n => chk (-(2 ^ 62) ≤ m ∧ m < 2 ^ 62 ∧ -(2 ^ 62) ≤ n ∧ n < 2 ^ 62) (some (.val (rangeD m (n - m).toNat) ρ2)) | _, _ => none
theorem si_r1 (he : SE X te fe) : SI X (iRng1 (tCons te tNil)) (iR1 fe) := fun ρ z h σ τ H o I Q q => by
  have hx : ∀ x w, z = .exc x w → XW X x w := fun x w e => by subst e; exact q
  refine he.bindI h I hx fun a ρ1 v H1 o1 h1 I1 => ?_
  have ra := tmp_rep I1.top
  split at h1
  · rename_i n en
    rw [en] at ra
    cases ra
    obtain ⟨hc, h1⟩ := chk_some h1
    cases h1
    exact ⟨n, rfl, hc.1, hc.2, q _ [] H1 o1 walks_range I1.pop fun p hp => nomatch hp⟩
  · cases h1

def loop (fg : FG) (fb : FS) : List D → Env → Option Fl
  | [], ρ => some (.nxt ρ)
  | d :: ds, ρ => match fg (.ow 0, d) ρ with
    | none => none
    | some ρ1 => match fb ρ1 with
      | none => none
      | some (.nxt ρ2) => loop fg fb ds ρ2
      | some (.cnt ρ2) => loop fg fb ds ρ2
      | some (.brk ρ2) => some (.nxt ρ2)
      | some r => some r
def sFor (fi : FI) (fg : FG) (fb : FS) : FS := fun ρ => match fi ρ with
  | none => none
  | some (.exc x w) => some (.exc x w)
  | some (.val ds ρ1) => loop fg fb ds ρ1
def aside (W : List (V × D)) : List T := W.map fun p => ⟨p.1, .ow 0, p.2⟩
theorem aside_get : ∀ {W : List (V × D)}, TOk K H B o (aside W ++ τ) → ∀ p, p ∈ W → Rep K (del H (Av B o)) p.1 p.2
  | [], _, p, hp => nomatch hp
  | w :: W, h, p, hp => by
    rcases List.mem_cons.mp hp with rfl | hp
    · have z : RO K H (Av B o) o _ [] 0 p.1 p.2 := h.1
      cases z with
      | st z => exact z
    · exact aside_get (W := W) h.2 p hp
theorem Ok.aside : ∀ {W : List (V × D)}, Ok K B H0 Hf σ ρ τ H o → (∀ p, p ∈ W → Rep K (del H (Av B o)) p.1 p.2) → Ok K B H0 Hf σ ρ (P.aside W ++ τ) H o
  | [], I, _ => I
  | w :: W, I, h => (Ok.aside (W := W) I fun p hp => h p (List.mem_cons_of_mem _ hp)).push (.st (h w (List.mem_cons_self ..)))
theorem noBw_aside (W : List (V × D)) : noBw (aside W) := fun t ht => by
  obtain ⟨p, _, rfl⟩ := List.mem_map.mp ht
  exact ⟨0, rfl⟩
theorem ss_for {js : List Nat} {wi : TI} {fi : FI} {g : TG} {fg : FG} (hi : SI X wi fi) (hg : SG X js g fg) (hb : SS X t f) : SS X (tFor wi g t) (sFor fi fg f) := fun ρ fl h σ τ H o h0f nb I D q => by
  unfold sFor at h
  split at h
  · cases h
  · rename_i x w e
    cases h
    exact hi ρ _ e σ τ H o I _ q
  · rename_i ds ρ1 e
    refine hi ρ _ e σ τ H o I _ fun J W H1 o1 hW I1 hF => ?_
    refine ⟨fun i m σ H => m = ds.length - i ∧ i ≤ ds.length ∧ ∃ ρ o, loop fg f (ds.drop i) ρ = some fl ∧ OkX X σ ρ (aside W ++ τ) H o, ⟨_, rfl, Nat.zero_le _, ρ1, o1, h, I1.aside hF⟩, ?_⟩
    rintro i m σ H ⟨rfl, hi, ρ, o, hl, I⟩
    obtain ⟨w1, w2⟩ := hW σ ρ _ H o i I (aside_get I.tp)
    by_cases hlt : i < ds.length
    · obtain ⟨go, y⟩ := w2 ds[i] (List.getElem?_eq_getElem hlt)
      rw [List.drop_eq_getElem_cons hlt] at hl
      unfold loop at hl
      refine .inr ⟨go, fun σ' H' => ∃ ρ o, loop fg f (ds.drop (i + 1)) ρ = some fl ∧ OkX X σ' ρ (aside W ++ τ) H' o, fun σ' H' ⟨ρ, o, e, I⟩ => ⟨_, by omega, rfl, hlt, ρ, o, e, I⟩, fun x H' hy => ?_⟩
      obtain ⟨_, I2⟩ := y x H' hy
      cases eg : fg (.ow 0, ds[i]) ρ with
      | none => rw [eg] at hl; cases hl
      | some ρ2 =>
        rw [eg] at hl
        dsimp only at hl
        refine hg (.ow 0, ds[i]) ρ ρ2 eg σ _ H' o x I2 _ fun σ3 H3 o3 I3 _ => ?_
        cases eb : f ρ2 with
        | none => rw [eb] at hl; cases hl
        | some r =>
          rw [eb] at hl
          refine hb ρ2 r eb σ3 _ H3 o3 h0f (noBw_app (noBw_aside W) nb) I3 _ ?_
          cases r with
          | nxt ρ4 => exact fun σ' H' o' I' => ⟨ρ4, o', hl, I'⟩
          | cnt ρ4 => exact fun σ' H' o' I' => ⟨ρ4, o', hl, I'⟩
          | brk ρ4 => cases hl; exact fun σ' H' o' I' => q σ' H' o' I'.pops
          | ret k d => cases hl; exact q
          | exc x w => cases hl; exact q
    · have e : i = ds.length := by omega
      subst e
      rw [List.drop_length] at hl
      cases hl
      exact .inl ⟨w1 (Nat.le_refl _), q σ H o I.pops⟩
end
end P
namespace P
open PySem L2

def getK : Nat → D → List Nat → Option (Nat × D)
  | k, d, [] => some (k, d)
  | k + 1, .lst ds, j :: q => match ds[j]? with
    | some e => getK k e q | none => none
  | k + 1, .tup ds, j :: q => match ds[j]? with
    | some e => getK (k + 1) e q | none => none
  | k + 1, .ins _ fs, j :: q => match (fs.map (·.2))[j]? with
    | some e => getK k e q | none => none
  | k + 1, .dic fs, j :: q => match (fs.map (·.2))[j]? with
    | some e => getK k e q | none => none
  | _, _, _ :: _ => none
def setV {α : Type} (fs : List (α × D)) (j : Nat) (d : D) : List (α × D) := match fs, j with
  | [], _ => []
  | (x, _) :: fs, 0 => (x, d) :: fs
  | f :: fs, j + 1 => f :: setV fs j d
def putK : D → List Nat → D → D
  | _, [], n => n
  | .lst ds, j :: q, n => match ds[j]? with
    | some e => .lst (ds.set j (putK e q n)) | none => .lst ds
  | .tup ds, j :: q, n => match ds[j]? with
    | some e => .tup (ds.set j (putK e q n)) | none => .tup ds
  | .ins C fs, j :: q, n => match (fs.map (·.2))[j]? with
    | some e => .ins C (setV fs j (putK e q n)) | none => .ins C fs
  | .dic fs, j :: q, n => match (fs.map (·.2))[j]? with
    | some e => .dic (setV fs j (putK e q n)) | none => .dic fs
  | d, _ :: _, _ => d
theorem setV_snd {α : Type} : ∀ (fs : List (α × D)) (j : Nat) (d : D), (setV fs j d).map (·.2) = (fs.map (·.2)).set j d
  | [], _, _ => rfl
  | (_, _) :: _, 0, _ => rfl
  | f :: fs, j + 1, d => congrArg (f.2 :: ·) (setV_snd fs j d)
theorem setV_fst {α : Type} : ∀ (fs : List (α × D)) (j : Nat) (d : D), (setV fs j d).map (·.1) = fs.map (·.1)
  | [], _, _ => rfl
  | (_, _) :: _, 0, _ => rfl
  | f :: fs, j + 1, d => congrArg (f.1 :: ·) (setV_fst fs j d)
section
variable {X : Fx} {K : PySem.W.Frag} {A A' B B' : Addr → Prop} {H0 H H' : Hp} {Hf : Bg} {σ σ' : St} {ρ ρ' : Env} {τ τ' : List T} {o o' : Own} {v w : V} {d e : D} {ta tb tc te : TE} {fa fb fc fe : FE} {tt tu : TT} {ft fu : FT} {ts : TA} {fs : FA} {a b : Kx} {k : Nat} {t u : TS} {f g : FS} {r r' : Root} {p p' q : List Nat}
theorem PathTo.det : ∀ {q : List Nat} {w v v' : V}, PathTo H w q v → PathTo H w q v' → v = v'
  | [], _, _, _, h, h' => h.trans h'.symm
  | j :: q, w, v, v', h, h' => by
    obtain ⟨a, u, rfl, h2, h3⟩ := h
    obtain ⟨a', u', e, h2', h3'⟩ := h'
    cases e
    rw [h2] at h2'
    cases h2'
    exact PathTo.det h3 h3'
theorem child_lst {a : Addr} {j : Nat} {vs : List V} (h : H a = some (.lst vs)) : child H a j = vs[j]? := by unfold child; rw [h]
theorem child_tup {a : Addr} {j : Nat} {vs : List V} (h : H a = some (.tup vs)) : child H a j = vs[j]? := by unfold child; rw [h]
theorem child_ins {a C dx : Addr} {j : Nat} {fs : List (Str × V)} (h : H a = some (.ins C dx fs)) : child H a j = (fs.map (·.2))[j]? := by unfold child; rw [h]
theorem child_dic {a : Addr} {j : Nat} {fs : List (Key × V)} (h : H a = some (.dK fs)) : child H a j = (fs.map (·.2))[j]? := by unfold child; rw [h]
theorem RO.get : ∀ {q : List Nat} {p : List Nat} {k k' : Nat} {w : V} {d e : D}, RO K H A o r p k w d → getK k d q = some (k', e) → ∃ v, RO K H A o r (p ++ q) k' v e ∧ PathTo H w q v
  | [], p, k, k', w, d, e, h, g => by
    have g : some (k, d) = some (k', e) := by cases k <;> exact g
    cases g
    exact ⟨w, by rw [List.append_nil]; exact h, rfl⟩
  | j :: q, p, k, k', w, d, e, h, g => by
    cases h with
    | st h => cases d <;> cases g
    | flat hf h =>
      cases d with
      | tup ds =>
        cases h with
        | tup hh rr =>
          replace g : (match ds[j]? with | some e => getK (_ + 1) e q | none => none) = some (k', e) := g
          cases ej : ds[j]? with
          | none => rw [ej] at g; cases g
          | some f =>
            rw [ej] at g
            obtain ⟨v, e1, e2⟩ := rr.get' ej
            obtain ⟨v', h1, h2⟩ := RO.get (p := p ++ [j]) (.flat (flats_mem hf (List.mem_of_getElem? ej)) e2) g
            exact ⟨v', by rw [List.append_cons]; exact h1, _, v, rfl, by rw [child_tup hh]; exact e1, h2⟩
      | lst => cases hf
      | ins => cases hf
      | dic => cases hf
      | _ => cases g
    | lst ha hh hs =>
      rename_i ds
      replace g : (match ds[j]? with | some e => getK _ e q | none => none) = some (k', e) := g
      cases ej : ds[j]? with
      | none => rw [ej] at g; cases g
      | some f =>
        rw [ej] at g
        obtain ⟨v, e1, e2⟩ := hs.get ej
        rw [Nat.zero_add] at e2
        obtain ⟨v', h1, h2⟩ := RO.get e2 g
        exact ⟨v', by rw [List.append_cons]; exact h1, _, v, rfl, by rw [child_lst hh]; exact e1, h2⟩
    | tup hh hs =>
      rename_i ds
      replace g : (match ds[j]? with | some e => getK (_ + 1) e q | none => none) = some (k', e) := g
      cases ej : ds[j]? with
      | none => rw [ej] at g; cases g
      | some f =>
        rw [ej] at g
        obtain ⟨v, e1, e2⟩ := hs.get ej
        rw [Nat.zero_add] at e2
        obtain ⟨v', h1, h2⟩ := RO.get e2 g
        exact ⟨v', by rw [List.append_cons]; exact h1, _, v, rfl, by rw [child_tup hh]; exact e1, h2⟩
    | ins ha hn hh hs hk =>
      rename_i fs gs
      replace g : (match (gs.map (·.2))[j]? with | some e => getK _ e q | none => none) = some (k', e) := g
      cases ej : (gs.map (·.2))[j]? with
      | none => rw [ej] at g; cases g
      | some f =>
        rw [ej] at g
        obtain ⟨v, e1, e2⟩ := hs.get ej
        rw [Nat.zero_add] at e2
        obtain ⟨v', h1, h2⟩ := RO.get e2 g
        exact ⟨v', by rw [List.append_cons]; exact h1, _, v, rfl, by rw [child_ins hh]; exact e1, h2⟩
    | dic ha hh hs hk =>
      rename_i fs gs
      replace g : (match (gs.map (·.2))[j]? with | some e => getK _ e q | none => none) = some (k', e) := g
      cases ej : (gs.map (·.2))[j]? with
      | none => rw [ej] at g; cases g
      | some f =>
        rw [ej] at g
        obtain ⟨v, e1, e2⟩ := hs.get ej
        rw [Nat.zero_add] at e2
        obtain ⟨v', h1, h2⟩ := RO.get e2 g
        exact ⟨v', by rw [List.append_cons]; exact h1, _, v, rfl, by rw [child_dic hh]; exact e1, h2⟩
structure Wr (K : PySem.W.Frag) (H H' : Hp) (A A' : Addr → Prop) (o o' : Own) (r : Root) (z : List Nat) : Prop where
  tr : ∀ p : List Nat, (∀ s, p ++ s ≠ z) → Tr K H H' A A' o o' r p r p
  nd : ∀ a s, o a = some (r, s) → s ≠ z → o' a = some (r, s) ∧ ∀ u, H a = some u → H' a = some u
  ki : KeepI H H'
theorem Wr.ro (W : Wr K H H' A A' o o' r q) (hp : ∀ s, p ++ s ≠ q) (h : RO K H A o r p k w d) : RO K H' A' o' r p k w d := by
  have z := RO.tr (q := []) (W.tr p hp) (by simp) h
  simpa using z
theorem ROs.of : ∀ {vs : List V} {ds : List D} {i : Nat}, vs.length = ds.length → (∀ j v d, vs[j]? = some v → ds[j]? = some d → RO K H A o r (p ++ [i + j]) k v d) → ROs K H A o r p i k vs ds
  | [], [], _, _, _ => .nil
  | v :: vs, d :: ds, i, l, h => .cons (h 0 v d rfl rfl) (ROs.of (Nat.succ.inj l) fun j w e h1 h2 => by
    have z := h (j + 1) w e h1 h2
    rw [show i + (j + 1) = i + 1 + j from by omega] at z
    exact z)
theorem ROs.gets {vs : List V} {ds : List D} (h : ROs K H A o r p 0 k vs ds) {j : Nat} (h1 : vs[j]? = some v) (h2 : ds[j]? = some d) : RO K H A o r (p ++ [j]) k v d := by
  obtain ⟨w, e1, e2⟩ := h.get h2
  rw [h1] at e1
  cases e1
  rw [Nat.zero_add] at e2
  exact e2
theorem ROs.put {j : Nat} {n : D} {vs : List V} {ds : List D} (W : Wr K H H' A A' o o' r (p ++ [j] ++ q)) (h : ROs K H A o r p 0 k vs ds) (hv : vs[j]? = some v) (hn : RO K H' A' o' r (p ++ [j]) k v n) : ROs K H' A' o' r p 0 k vs (ds.set j n) := by
  refine .of (by rw [List.length_set]; exact h.length) fun i w e h1 h2 => ?_
  rw [Nat.zero_add]
  rcases set_get h2 with ⟨rfl, rfl, _⟩ | ⟨ne, h2⟩
  · rw [hv] at h1
    cases h1
    exact hn
  · refine W.ro (fun s e' => ?_) (h.gets h1 h2)
    rw [List.append_assoc, List.append_assoc] at e'
    have e' := List.append_cancel_left e'
    injection e' with e' _
    exact ne e'.symm
theorem RO.tupS {ds : List D} (h : RO K H A o r p (k + 1) w (.tup ds)) : ∃ a vs, w = .ref a ∧ H a = some (.tup vs) ∧ ROs K H A o r p 0 (k + 1) vs ds := by
  cases h with
  | tup hh hs => exact ⟨_, _, rfl, hh, hs⟩
  | flat hf h =>
    cases h with
    | tup hh rr =>
      refine ⟨_, _, rfl, hh, .of rr.length fun j v d h1 h2 => ?_⟩
      obtain ⟨v', e1, e2⟩ := rr.get' h2
      rw [h1] at e1
      cases e1
      exact .flat (flats_mem hf (List.mem_of_getElem? h2)) e2
theorem RO.put : ∀ {q : List Nat} {p : List Nat} {k k' : Nat} {w v : V} {d e n : D}, RO K H A o r p k w d → getK k d q = some (k', e) → Wr K H H' A A' o o' r (p ++ q) → PathTo H w q v → RO K H' A' o' r (p ++ q) k' v n → RO K H' A' o' r p k w (putK d q n)
  | [], p, k, k', w, v, d, e, n, h, g, W, hv, hn => by
    have g : some (k, d) = some (k', e) := by cases k <;> exact g
    cases g
    cases hv
    rw [List.append_nil] at hn
    have e : putK d [] n = n := by cases d <;> rfl
    rw [e]
    exact hn
  | j :: q, p, k, k', w, v, d, e, n, h, g, W, hv, hn => by
    have ne : p ≠ p ++ j :: q := fun z => by
      have z' : p ++ [] = p ++ j :: q := by rw [List.append_nil]; exact z
      cases List.append_cancel_left z'
    obtain ⟨a0, u0, e0, c0, h0⟩ := hv
    have apc : p ++ j :: q = p ++ [j] ++ q := List.append_cons ..
    cases k with
    | zero => cases d <;> cases g
    | succ k =>
      cases d with
      | tup ds =>
        obtain ⟨ad, vs, rfl, hh, hs⟩ := h.tupS
        cases e0
        rw [child_tup hh] at c0
        replace g : (match ds[j]? with | some e => getK (k + 1) e q | none => none) = some (k', e) := g
        cases ej : ds[j]? with
        | none => rw [ej] at g; cases g
        | some f =>
          rw [ej] at g
          have sub := RO.put (p := p ++ [j]) (hs.gets c0 ej) g (by rw [← apc]; exact W) h0 (by rw [← apc]; exact hn)
          show RO K H' A' o' r p _ _ (match ds[j]? with | some e => .tup (ds.set j (putK e q n)) | none => .tup ds)
          rw [ej]
          exact .tup (W.ki _ _ hh rfl) (ROs.put (by rw [← apc]; exact W) hs c0 sub)
      | lst ds =>
        cases h with
        | flat hf h => cases hf
        | lst ha hh hs =>
          cases e0
          rw [child_lst hh] at c0
          replace g : (match ds[j]? with | some e => getK k e q | none => none) = some (k', e) := g
          cases ej : ds[j]? with
          | none => rw [ej] at g; cases g
          | some f =>
            rw [ej] at g
            have sub := RO.put (p := p ++ [j]) (hs.gets c0 ej) g (by rw [← apc]; exact W) h0 (by rw [← apc]; exact hn)
            show RO K H' A' o' r p _ _ (match ds[j]? with | some e => .lst (ds.set j (putK e q n)) | none => .lst ds)
            rw [ej]
            obtain ⟨n1, n2⟩ := W.nd _ _ ha ne
            exact .lst n1 (n2 _ hh) (ROs.put (by rw [← apc]; exact W) hs c0 sub)
      | ins C fs =>
        cases h with
        | flat hf h => cases hf
        | ins ha hn' hh hs hk =>
          cases e0
          rw [child_ins hh] at c0
          replace g : (match (fs.map (·.2))[j]? with | some e => getK k e q | none => none) = some (k', e) := g
          cases ej : (fs.map (·.2))[j]? with
          | none => rw [ej] at g; cases g
          | some f =>
            rw [ej] at g
            have sub := RO.put (p := p ++ [j]) (hs.gets c0 ej) g (by rw [← apc]; exact W) h0 (by rw [← apc]; exact hn)
            show RO K H' A' o' r p _ _ (match (fs.map (·.2))[j]? with | some e => .ins C (setV fs j (putK e q n)) | none => .ins C fs)
            rw [ej]
            obtain ⟨n1, n2⟩ := W.nd _ _ ha ne
            exact .ins n1 hn' (n2 _ hh) (by rw [setV_snd]; exact ROs.put (by rw [← apc]; exact W) hs c0 sub) (by rw [setV_fst]; exact hk)
      | dic fs =>
        cases h with
        | flat hf h => cases hf
        | dic ha hh hs hk =>
          cases e0
          rw [child_dic hh] at c0
          replace g : (match (fs.map (·.2))[j]? with | some e => getK k e q | none => none) = some (k', e) := g
          cases ej : (fs.map (·.2))[j]? with
          | none => rw [ej] at g; cases g
          | some f =>
            rw [ej] at g
            have sub := RO.put (p := p ++ [j]) (hs.gets c0 ej) g (by rw [← apc]; exact W) h0 (by rw [← apc]; exact hn)
            show RO K H' A' o' r p _ _ (match (fs.map (·.2))[j]? with | some e => .dic (setV fs j (putK e q n)) | none => .dic fs)
            rw [ej]
            obtain ⟨n1, n2⟩ := W.nd _ _ ha ne
            exact .dic n1 (n2 _ hh) (by rw [setV_snd]; exact ROs.put (by rw [← apc]; exact W) hs c0 sub) (by rw [setV_fst]; exact hk)
      | _ => cases g

theorem Ok.wrTr (I : Ok K B H0 Hf σ ρ τ H o) {ad : Addr} {r0 : Root} {z : List Nat} (ha : o ad = some (r0, z)) {u : HO} (hu : isMut u = true) {g : Root × List Nat → Option (Root × List Nat)} (hg : g (r0, z) = some (r0, z))
    (hp : ∀ s, (r, p ++ s) ≠ (r0, z)) (hr : ∀ s, g (r, p ++ s) = some (r', p' ++ s)) : Tr K H (upd H ad u) (Av B o) (Av B (ob o g)) o (ob o g) r p r' p' := by
  refine ⟨fun b w hb => ?_, fun b w hb hw => ?_, fun b s hb => ⟨by unfold ob; rw [hb]; exact hr s, fun w e => ?_⟩⟩
  · obtain ⟨n, e⟩ := del_some.mp hb
    have nb : b ≠ ad := by
      rintro rfl
      exact n (.inr ⟨_, ha⟩)
    exact del_some.mpr ⟨fun q => n (av_ob q), by rw [upd_ne nb]; exact e⟩
  · have nb : b ≠ ad := by
      rintro rfl
      obtain ⟨w', e, m⟩ := I.mu (.inr ⟨_, ha⟩)
      rw [hb] at e
      cases e
      rw [hw] at m
      cases m
    rw [upd_ne nb]
    exact hb
  · have nb : b ≠ ad := by
      rintro rfl
      rw [ha] at hb
      exact hp s (Option.some.inj hb).symm
    rw [upd_ne nb]
    exact e
theorem Ok.wrBase (I : Ok K B H0 Hf σ ρ τ H o) {ad : Addr} {y : Root × List Nat} (ha : o ad = some y) {u : HO} (hu : isMut u = true) : Same H0 (upd H ad u) ∧ ∀ g a p, ob o g a = some p → H0 a = none ∧ Mu (upd H ad u) a := by
  refine ⟨fun b w hb => ?_, fun g a p h => ?_⟩
  · rw [upd_ne (ne_of_none hb (I.ow ad y ha).1)]
    exact I.sm b w hb
  · obtain ⟨y', e, _⟩ := ob_some h
    obtain ⟨h1, w, h2, h3⟩ := I.ow a y' e
    refine ⟨h1, ?_⟩
    by_cases hb : a = ad
    · subst hb; exact ⟨u, upd_same, hu⟩
    · exact ⟨w, by rw [upd_ne hb]; exact h2, h3⟩
theorem TOk.wr (I : Ok K B H0 Hf σ ρ τ' H o) {ad : Addr} {r0 : Root} {z : List Nat} (ha : o ad = some (r0, z)) {u : HO} (hu : isMut u = true) {g : Root × List Nat → Option (Root × List Nat)} (hg : g (r0, z) = some (r0, z)) : ∀ {τ : List T}, noBw τ → (∀ j, j < τ.length → r0 ≠ .tm j ∧ ∀ s, g (.tm j, s) = some (.tm j, s)) → TOk K H B o τ → TOk K (upd H ad u) B (ob o g) τ
  | [], _, _, _ => trivial
  | t :: τ, nb, hr, h => by
    refine ⟨?_, TOk.wr I ha hu hg (fun t ht => nb t (List.mem_cons_of_mem _ ht)) (fun j hj => hr j (Nat.lt_succ_of_lt hj)) h.2⟩
    obtain ⟨k, ek⟩ := nb t (List.mem_cons_self ..)
    obtain ⟨v, kd, d⟩ := t
    cases ek
    have t := h.1
    have T := I.wrTr (r := .tm τ.length) (p := []) (r' := .tm τ.length) (p' := []) ha hu hg (fun s e => (hr τ.length (Nat.lt_succ_self _)).1 (by cases e; rfl)) (fun s => (hr τ.length (Nat.lt_succ_self _)).2 s)
    have z : RO K (upd H ad u) (Av B (ob o g)) (ob o g) (.tm τ.length) [] k v d := by
      have z := RO.tr (q := []) T (by simp) (show RO K H (Av B o) o (.tm τ.length) [] k v d from t)
      simpa using z
    exact z
theorem app_ne {r0 : Root} {q s : List Nat} {j : Nat} (e : ((r0, (q ++ [j]) ++ s) : Root × List Nat) = (r0, q)) : False := by
  injection e with _ e
  have e' : q ++ ([j] ++ s) = q ++ [] := by rw [List.append_nil, ← List.append_assoc]; exact e
  cases List.append_cancel_left e'
theorem Ok.wrSlot (I : Ok K B H0 Hf σ ρ τ H o) (hf : Hf.hp = H0) (nb : noBw τ) {i : Nat} {k k' : Nat} {d e : D} {q : List Nat} (hi : look ρ i = some (k, d)) (hk : getK k d q = some (k', e)) {w : V} (hw : σ[i]? = some (some w)) {ad : Addr} (hp : PathTo H w q (.ref ad)) (ha : o ad = some (.sl i, q))
    {u : HO} (hu : isMut u = true) {g : Root × List Nat → Option (Root × List Nat)} (hg : ∀ r s, (∀ n, τ.length ≤ n → r ≠ .tm n) → g (r, s) = some (r, s)) {n : D} (hn : RO K (upd H ad u) (Av B (ob o g)) (ob o g) (.sl i) q k' (.ref ad) n) :
    Ok K B H0 Hf σ (setK ρ i k (putK d q n)) τ (upd H ad u) (ob o g) := by
  have hg0 : g (.sl i, q) = some (.sl i, q) := hg _ _ fun n _ z => nomatch z
  obtain ⟨b1, b2⟩ := I.wrBase ha hu
  refine ⟨by rw [setK_len, I.len], I.bs, b1, I.fl.tr (hf ▸ b1) (I.wrTr (r := .sl i) (p := q ++ [0]) (r' := .sl i) (p' := q ++ [0]) ha hu hg0 (fun s e => app_ne e) (fun s => hg _ _ fun n _ z => nomatch z)).ki (I.wrTr (r := .sl i) (p := q ++ [0]) (r' := .sl i) (p' := q ++ [0]) ha hu hg0 (fun s e => app_ne e) (fun s => hg _ _ fun n _ z => nomatch z)).st, b2 g, fun j kj dj h => ?_, ms_setK I.ms, ?_⟩
  case refine_2 => exact TOk.wr I ha hu hg0 nb (fun j hj => ⟨(fun z => nomatch z), fun s => hg (.tm j) s fun n hn z => by injection z with z; omega⟩) I.tp
  rcases look_setK h with ⟨rfl, ⟨rfl, rfl⟩, hlt⟩ | ⟨ne, h⟩
  · obtain ⟨w', e1, e2⟩ := I.sl i k d hi
    rw [hw] at e1
    cases e1
    have ki : KeepI H (upd H ad u) := fun b v hb hv => by
      rw [upd_ne]
      · exact hb
      · rintro rfl
        obtain ⟨w', e, m⟩ := I.mu (.inr ⟨_, ha⟩)
        rw [hb] at e
        cases e
        rw [hv] at m
        cases m
    have nd : ∀ a s, o a = some (.sl i, s) → s ≠ q → ob o g a = some (.sl i, s) ∧ ∀ v, H a = some v → upd H ad u a = some v := fun a s h hs => by
      refine ⟨?_, fun v e => ?_⟩
      · unfold ob
        rw [h]
        exact hg _ _ fun n _ z => nomatch z
      · rw [upd_ne]
        · exact e
        · rintro rfl
          rw [ha] at h
          cases h
          exact hs rfl
    have W : Wr K H (upd H ad u) (Av B o) (Av B (ob o g)) o (ob o g) (.sl i) q := ⟨fun p hp => I.wrTr ha hu hg0 (fun s e => hp s (by injection e)) (fun s => hg _ _ fun n _ z => nomatch z), nd, ki⟩
    exact ⟨w, hw, RO.put (p := []) e2 hk (by rw [List.nil_append]; exact W) hp (by rw [List.nil_append]; exact hn)⟩
  · obtain ⟨w', e1, e2⟩ := I.sl j kj dj h
    refine ⟨w', e1, ?_⟩
    have T := I.wrTr (r := .sl j) (p := []) (r' := .sl j) (p' := []) ha hu hg0 (fun s e => by cases e; exact ne rfl) (fun s => hg _ _ fun n _ z => nomatch z)
    have z := RO.tr (q := []) T (by simp) e2
    simpa using z
end
end P
namespace P
open PySem L2
def okItem : Nat → Kx → Bool
  | 0, a => stb' a
  | k + 1, a => hasK k a
abbrev FP := Env → R (Nat × List Nat)
section
variable {X : Fx} {K : PySem.W.Frag} {A A' B B' : Addr → Prop} {H0 H H' : Hp} {Hf : Bg} {σ σ' : St} {ρ ρ' : Env} {τ τ' : List T} {o o' : Own} {v w : V} {d e : D} {ta tb tc te to : TE} {fa fb fc fe : FE} {tt tu : TT} {ft fu : FT} {ts : TA} {fs : FA} {a b : Kx} {k : Nat} {t u : TS} {f g : FS} {r r' : Root} {p p' q : List Nat} {fp : FP}
def SP (X : Fx) (te : TE) (fp : FP) : Prop := ∀ ρ r, fp ρ = some r → ∀ σ τ H o, OkX X σ ρ τ H o → ∀ Q : VK,
  (match r with
  | .val z ρ' => ∀ v w H' o', OkX X σ ρ' τ H' o' → σ[z.1]? = some (some w) → PathTo H' w z.2 v → Q v H'
  | .exc x w => XW X x w) → te σ H Q
def pVar (i : Nat) : FP := fun ρ => match look ρ i with
  | some _ => some (.val (i, []) ρ) | none => none
def nodeL (ρ : Env) (i : Nat) (q : List Nat) : Option (Nat × D) := match look ρ i with
  | some (k, d) => getK k d q | none => none
def seqD : D → Option (List D)
  | .lst ds => some ds | .tup ds => some ds | _ => none
def pIx (fp : FP) (fe : FE) : FP := fun ρ => (fp ρ).bind fun z ρ1 => (fe ρ1).bind fun a ρ2 => match a.2, nodeL ρ2 z.1 z.2 with
  | .int n, some (_ + 1, e) => match seqD e with
    | some ds => (ixN ds.length n).map fun j => .val (z.1, z.2 ++ [j]) ρ2
    | none => none
  | _, _ => none
theorem sp_var {i : Nat} : SP X (tVar i) (pVar i) := fun ρ r h σ τ H o I Q q => by
  unfold pVar at h
  split at h
  · rename_i kd e
    cases h
    obtain ⟨k, d⟩ := kd
    obtain ⟨w, e1, e2⟩ := I.sl i k d (look_some e)
    exact ⟨w, e1, q w w H o I e1 rfl⟩
  · cases h
theorem SP.bindG {β : Type} (h : SP X te fp) {g : Nat × List Nat → Env → R β} {z : Rs β} (e : (fp ρ).bind g = some z) (I : OkX X σ ρ τ H o) {P : VK} (hx : ∀ x w, z = .exc x w → XW X x w)
    (q : ∀ a ρ' v w H' o', g a ρ' = some z → OkX X σ ρ' τ H' o' → σ[a.1]? = some (some w) → PathTo H' w a.2 v → P v H') : te σ H P := by
  rcases R.bind_some e with ⟨x, w, e1, rfl⟩ | ⟨a, ρ', e1, e2⟩
  · exact h ρ _ e1 σ τ H o I P (hx x w rfl)
  · exact h ρ _ e1 σ τ H o I P fun v w H' o' J h1 h2 => q a ρ' v w H' o' e2 J h1 h2
theorem nodeL_some {i : Nat} {q : List Nat} {k : Nat} {e : D} (h : nodeL ρ i q = some (k, e)) : ∃ k0 d0, look ρ i = some (k0, d0) ∧ getK k0 d0 q = some (k, e) := by
  unfold nodeL at h
  split at h
  · rename_i k0 d0 e; exact ⟨k0, d0, look_some e, h⟩
  · cases h
theorem Ok.node (I : Ok K B H0 Hf σ ρ τ H o) {i : Nat} {q : List Nat} {k : Nat} {e : D} (h : nodeL ρ i q = some (k, e)) (hw : σ[i]? = some (some w)) (hp : PathTo H w q v) : RO K H (Av B o) o (.sl i) q k v e := by
  obtain ⟨k0, d0, h1, h2⟩ := nodeL_some h
  obtain ⟨w', e1, e2⟩ := I.sl i k0 d0 h1
  rw [hw] at e1
  cases e1
  obtain ⟨v', r, p'⟩ := e2.get h2
  rw [hp.det p']
  exact r
theorem seq_get {r : Root} {q : List Nat} {ds : List D} (h : RO K H A o r q (k + 1) v e) (hs : seqD e = some ds) : ∃ a vs, v = .ref a ∧ (H a = some (.lst vs) ∨ H a = some (.tup vs)) ∧ vs.length = ds.length := by
  cases e with
  | lst es =>
    cases hs
    cases h with
    | flat hf _ => cases hf
    | lst ha hh hs => exact ⟨_, _, rfl, .inl hh, hs.length⟩
  | tup es =>
    cases hs
    obtain ⟨a, vs, rfl, hh, hs⟩ := h.tupS
    exact ⟨a, vs, rfl, .inr hh, hs.length⟩
  | _ => cases hs
theorem ixN_lt {n : Nat} {i : Int} {j : Nat} (h : ixN n i = some j) : j < n := by
  unfold ixN at h
  split at h
  · split at h
    · cases h; omega
    · cases h
  · split at h
    · cases h; omega
    · cases h
theorem sp_ix (hp : SP X to fp) (he : SE X te fe) : SP X (tOp (rIx X.K) to te) (pIx fp fe) := fun ρ z h σ τ H o I Q q => by
  have hx : ∀ x w, z = .exc x w → XW X x w := fun x w e => by subst e; exact q
  refine hp.bindG h I hx fun a ρ1 v w H1 o1 h1 I1 hw hpt => ?_
  refine he.bindG h1 (I1.push (t := ⟨v, .pl w a.2, .non⟩) hpt) hx fun b ρ2 y H2 o2 h2 I2 => ?_
  have hpt2 : PathTo H2 w a.2 v := I2.pop.top
  have ry := tmp_rep I2.top
  split at h2
  · rename_i n k e en hn
    rw [en] at ry
    cases ry
    have nd := I2.pop.pop.node hn hw hpt2
    cases hs : seqD e with
    | none => rw [hs] at h2; cases h2
    | some ds =>
      rw [hs] at h2
      obtain ⟨ad, vs, rfl, hh, hl⟩ := seq_get nd hs
      dsimp only at h2
      cases ej : ixN ds.length n with
      | none => rw [ej] at h2; cases h2
      | some j =>
        rw [ej] at h2
        cases h2
        have hj : j < vs.length := by rw [hl]; exact ixN_lt ej
        have ev : vs[j]? = some vs[j] := List.getElem?_eq_getElem hj
        have at1 : atI vs n = some vs[j] := by unfold atI; rw [hl, ej]; exact ev
        rcases hh with hh | hh
        · exact .inl ⟨ad, vs, n, _, rfl, rfl, SqL.of hh, at1, q _ w H2 o2 I2.pop.pop hw (hpt2.snoc (by rw [child_lst hh]; exact ev))⟩
        · exact .inr (.inl ⟨ad, vs, n, _, rfl, rfl, SqT.of hh, at1, q _ w H2 o2 I2.pop.pop hw (hpt2.snoc (by rw [child_tup hh]; exact ev))⟩)
  · cases h2

theorem ROs.wr (I : Ok K B H0 Hf σ ρ τ H o) {ad : Addr} {r0 : Root} {z : List Nat} (ha : o ad = some (r0, z)) {u : HO} (hu : isMut u = true) {g : Root × List Nat → Option (Root × List Nat)} (hg : ∀ s, g (r0, s) = some (r0, s)) {vs : List V} {ds : List D} {i : Nat} (h : ROs K H (Av B o) o r0 z i k vs ds) : ROs K (upd H ad u) (Av B (ob o g)) (ob o g) r0 z i k vs ds := by
  refine .of h.length fun j v d h1 h2 => ?_
  obtain ⟨w, e1, e2⟩ := h.get h2
  rw [h1] at e1
  cases e1
  have T := I.wrTr (r := r0) (p := z ++ [i + j]) (r' := r0) (p' := z ++ [i + j]) ha hu (hg z) (fun s e => by
    injection e with _ e
    have e' : z ++ ([i + j] ++ s) = z ++ [] := by rw [List.append_nil, ← List.append_assoc]; exact e
    cases List.append_cancel_left e') (fun s => hg _)
  have y := RO.tr (q := []) T (by simp) e2
  simpa using y
theorem item_wr (I : Ok K B H0 Hf σ ρ τ' H o) {ad : Addr} {r0 : Root} {z : List Nat} (ha : o ad = some (r0, z)) {u : HO} (hu : isMut u = true) {g : Root × List Nat → Option (Root × List Nat)} (hg : ∀ s, g (r0, s) = some (r0, s)) {n : Nat} {q' : List Nat} (hn : r0 ≠ .tm n)
    (h0 : k = 0 → ∀ s, g (.tm n, s) = none) (h1 : k ≠ 0 → ∀ s, g (.tm n, s) = some (r0, q' ++ s)) (h : TmOk K H B o n (tmp v a)) (ok : okItem k a = true) : RO K (upd H ad u) (Av B (ob o g)) (ob o g) r0 q' k v a.2 := by
  have hav : Av B (ob o g) ad := .inr ⟨(r0, z), by unfold ob; rw [ha]; exact hg z⟩
  have T0 := I.wrTr (r := r0) (p := z ++ [0]) (r' := r0) (p' := z ++ [0]) ha hu (hg z) (fun s e => by
    injection e with _ e
    have e' : z ++ ([0] ++ s) = z ++ [] := by rw [List.append_nil, ← List.append_assoc]; exact e
    cases List.append_cancel_left e') (fun s => hg _)
  obtain ⟨ka, da⟩ := a
  cases k with
  | zero =>
    refine .st ?_
    rw [del_upd hav]
    cases ka with
    | ow j => exact RO.fz (p := []) I (h0 rfl) h
    | bw => exact (Rep.flat (keep_av I) h ok).mono (del_sub fun a => av_ob)
  | succ k =>
    have ok : hasK k (ka, da) = true := ok
    unfold hasK at ok
    rw [Bool.or_eq_true] at ok
    rcases ok with ok | ok
    · exact .flat ok (Rep.flat T0.ki (tmp_rep h) ok)
    · cases ka with
      | bw => cases ok
      | ow j =>
        have e : j = k + 1 := eq_of_beq ok
        subst e
        have T := I.wrTr (r := .tm n) (p := []) (r' := r0) (p' := q') ha hu (hg z) (fun s e => by injection e with e _; exact hn e.symm) (fun s => h1 (Nat.succ_ne_zero k) _)
        have y := RO.tr (q := []) T (by simp) (show RO K H (Av B o) o (.tm n) [] (k + 1) v da from h)
        simpa using y
def isLst : Option (Nat × D) → Bool
  | some (_ + 1, .lst _) => true | _ => false
theorem isLst_some {z : Option (Nat × D)} (h : isLst z = true) : ∃ k ds, z = some (k + 1, .lst ds) := by
  unfold isLst at h
  split at h
  · exact ⟨_, _, rfl⟩
  · cases h
noncomputable def sApp (fp : FP) (fe : FE) : FS := fun ρ => match fp ρ with
  | none => none
  | some (.exc x w) => some (.exc x w)
  | some (.val z ρ1) => if isLst (nodeL ρ1 z.1 z.2) = true then (fe ρ1).toF fun a ρ2 => match look ρ2 z.1 with
    | none => none
    | some (k0, d0) => match getK k0 d0 z.2 with
      | some (k + 1, .lst ds) => if okItem k a = true then chk (ds.length < sizeLine) (some (.nxt (setK ρ2 z.1 k0 (putK d0 z.2 (.lst (ds ++ [a.2])))))) else none
      | _ => none else none
theorem own_lst {r : Root} {q : List Nat} {ds : List D} (h : RO K H A o r q (k + 1) v (.lst ds)) : ∃ a vs, v = .ref a ∧ o a = some (r, q) ∧ H a = some (.lst vs) ∧ ROs K H A o r q 0 k vs ds := by
  cases h with
  | flat hf _ => cases hf
  | lst ha hh hs => exact ⟨_, _, rfl, ha, hh, hs⟩
theorem Ok.app {ad : Addr} {k0 : Nat} {d0 : D} {z : Nat × List Nat} {ds : List D} {τ1 : List T} (I : Ok K B H0 Hf σ ρ (tmp w a :: τ1 ++ τ) H o) (hf : Hf.hp = H0) (nb : noBw τ) (hi : look ρ z.1 = some (k0, d0)) (hk : getK k0 d0 z.2 = some (k + 1, .lst ds)) {vs : List V} {x : V} (hw : σ[z.1]? = some (some x)) (hp : PathTo H x z.2 (.ref ad))
    (ha : o ad = some (.sl z.1, z.2)) (hh : H ad = some (.lst vs)) (hs : ROs K H (Av B o) o (.sl z.1) z.2 0 k vs ds) (ok : okItem k a = true) : ∃ o', Ok K B H0 Hf σ (setK ρ z.1 k0 (putK d0 z.2 (.lst (ds ++ [a.2])))) τ (upd H ad (.lst (vs ++ [w]))) o' := by
  obtain ⟨m, hm⟩ : ∃ m, m = (τ1 ++ τ).length := ⟨_, rfl⟩
  have hmt : τ.length ≤ m := by rw [hm, List.length_append]; omega
  have top : TmOk K H B o m (tmp w a) := by rw [hm]; exact I.tp.1
  have J : Ok K B H0 Hf σ ρ τ H o := Ok.pops (τ' := tmp w a :: τ1) I
  have fin : ∀ g : Root × List Nat → Option (Root × List Nat), (∀ r s, (∀ n, τ.length ≤ n → r ≠ .tm n) → g (r, s) = some (r, s)) → (k = 0 → ∀ s, g (.tm m, s) = none) → (k ≠ 0 → ∀ s, g (.tm m, s) = some (.sl z.1, (z.2 ++ [ds.length]) ++ s)) →
      Ok K B H0 Hf σ (setK ρ z.1 k0 (putK d0 z.2 (.lst (ds ++ [a.2])))) τ (upd H ad (.lst (vs ++ [w]))) (ob o g) := fun g hg h0 h1 => by
    have hgs : ∀ s, g (.sl z.1, s) = some (.sl z.1, s) := fun s => hg _ _ fun n _ y => nomatch y
    refine J.wrSlot hf nb hi hk hw hp ha rfl hg (.lst (by unfold ob; rw [ha]; exact hgs _) upd_same (ROs.append (ROs.wr J ha rfl hgs hs) (.cons ?_ .nil)))
    rw [Nat.zero_add]
    exact item_wr I ha rfl hgs (fun y => nomatch y) h0 h1 top ok
  cases k with
  | zero =>
    exact ⟨_, fin (gTop τ.length) (fun r s hr => by
      cases r with
      | sl i => rfl
      | tm n =>
        show (if τ.length ≤ n then none else some (Root.tm n, s)) = _
        rw [if_neg (fun z => hr n z rfl)]) (fun _ s => by
        show (if τ.length ≤ m then none else some (Root.tm m, s)) = _
        rw [if_pos hmt]) (fun h => absurd rfl h)⟩
  | succ k =>
    let g : Root × List Nat → Option (Root × List Nat) := fun y => match y.1 with
      | .tm j => if j = m then some (.sl z.1, (z.2 ++ [ds.length]) ++ y.2) else if τ.length ≤ j then none else some y
      | _ => some y
    exact ⟨_, fin g (fun r s hr => by
      cases r with
      | sl i => rfl
      | tm n =>
        show (if n = m then _ else if τ.length ≤ n then none else some (Root.tm n, s)) = _
        rw [if_neg (fun y => hr n (by omega) rfl), if_neg (fun z => hr n z rfl)]) (fun h => absurd h (Nat.succ_ne_zero k)) (fun _ s => if_pos rfl)⟩
theorem ss_app (hp : SP X to fp) (he : SE X te fe) : SS X (tDrop (tBM X.K "list" rAppend to (tCons te tNil))) (sApp fp fe) := fun ρ fl h σ τ H o h0f nb I D q => by
  unfold sApp at h
  split at h
  · cases h
  · rename_i x w e
    cases h
    exact hp ρ _ e σ τ H o I _ q
  · rename_i z ρ1 ez
    refine hp ρ _ ez σ τ H o I _ fun v w H1 o1 I1 hw hpt => ?_
    split at h
    · rename_i hl
      obtain ⟨k1, ds1, e1⟩ := isLst_some hl
      obtain ⟨ad1, vs1, rfl, _, hh1, _⟩ := own_lst (I1.node e1 hw hpt)
      refine ⟨.inl ⟨rfl, vs1, SqL.of hh1⟩, ?_⟩
      refine he.toF h (I1.push (t := ⟨.ref ad1, .pl w z.2, .non⟩) hpt) q fun a ρ2 y H2 o2 h2 I2 => ?_
      have hpt2 : PathTo H2 w z.2 (.ref ad1) := I2.pop.top
      cases e2 : look ρ2 z.1 with
      | none => rw [e2] at h2; cases h2
      | some kd =>
        obtain ⟨k0, d0⟩ := kd
        rw [e2] at h2
        dsimp only at h2
        split at h2
        · rename_i k ds e3
          split at h2
          · rename_i ok
            obtain ⟨hz, h2⟩ := chk_some h2
            cases h2
            have nd := I2.pop.pop.node (by unfold nodeL; rw [e2]; exact e3) hw hpt2
            obtain ⟨ad, vs, e4, ha, hh, hs⟩ := own_lst nd
            cases e4
            obtain ⟨o', J⟩ := Ok.app (τ1 := [⟨.ref ad1, .pl w z.2, .non⟩]) (τ := τ) I2 h0f nb (look_some e2) e3 hw hpt2 ha hh hs ok
            exact ⟨ad1, vs, y, rfl, rfl, hh, by rw [hs.length]; exact hz, q _ _ o' J⟩
          · cases h2
        · cases h2
    · cases h

noncomputable def sSet (fp : FP) (fi fe : FE) : FS := fun ρ => (fe ρ).toF fun a ρ1 => match fp ρ1 with
  | none => none
  | some (.exc x w) => some (.exc x w)
  | some (.val z ρ2) => (fi ρ2).toF fun b ρ3 => match b.2 with
    | .int n => match look ρ3 z.1 with
      | none => none
      | some (k0, d0) => match getK k0 d0 z.2 with
        | some (k + 1, .lst ds) => match ixN ds.length n with
          | some j => if okItem k a = true then some (.nxt (setK ρ3 z.1 k0 (putK d0 z.2 (.lst (ds.set j a.2))))) else none
          | none => none
        | _ => none
    | _ => none
theorem ROs.setAt {r : Root} {z : List Nat} {vs : List V} {ds : List D} {j : Nat} (h : ROs K H A o r z 0 k vs ds) (hn : RO K H A o r (z ++ [j]) k v d) : ROs K H A o r z 0 k (vs.set j v) (ds.set j d) := by
  refine .of (by rw [List.length_set, List.length_set]; exact h.length) fun i w e h1 h2 => ?_
  rw [Nat.zero_add]
  rcases set_get h1 with ⟨rfl, rfl, hl⟩ | ⟨ne, h1⟩
  · rcases set_get h2 with ⟨_, rfl, _⟩ | ⟨ne, _⟩
    · exact hn
    · exact absurd rfl ne
  · rcases set_get h2 with ⟨e, _, _⟩ | ⟨_, h2⟩
    · exact absurd e ne
    · exact h.gets h1 h2
theorem ss_set (hp : SP X to fp) (hi : SE X tb fb) (he : SE X te fe) : SS X (tAsg te (gSub to tb rSetL)) (sSet fp fb fe) := fun ρ fl h σ τ H o h0f nb I D q => by
  refine he.toF h I q fun a ρ1 y H1 o1 h1 I1 => ?_
  split at h1
  · cases h1
  · rename_i x w e
    cases h1
    exact hp ρ1 _ e σ _ H1 o1 I1 _ q
  · rename_i z ρ2 ez
    refine hp ρ1 _ ez σ _ H1 o1 I1 _ fun v w H2 o2 I2 hw hpt => ?_
    refine hi.toF h1 (I2.push (t := ⟨v, .pl w z.2, .non⟩) hpt) q fun b ρ3 yb H3 o3 h3 I3 => ?_
    have hpt3 : PathTo H3 w z.2 v := I3.pop.top
    have rb := tmp_rep I3.top
    split at h3
    · rename_i n en
      rw [en] at rb
      cases rb
      cases e2 : look ρ3 z.1 with
      | none => rw [e2] at h3; cases h3
      | some kd =>
        obtain ⟨k0, d0⟩ := kd
        rw [e2] at h3
        dsimp only at h3
        split at h3
        · rename_i k ds e3
          cases ej : ixN ds.length n with
          | none => rw [ej] at h3; cases h3
          | some j =>
            rw [ej] at h3
            dsimp only at h3
            split at h3
            · rename_i ok
              cases h3
              have J := I3.pop.pop
              have nd := J.node (by unfold nodeL; rw [e2]; exact e3) hw hpt3
              obtain ⟨ad, vs, rfl, ha, hh, hs⟩ := own_lst nd
              have fin : ∀ g : Root × List Nat → Option (Root × List Nat), (∀ r s, (∀ n, τ.length ≤ n → r ≠ .tm n) → g (r, s) = some (r, s)) → (k = 0 → ∀ s, g (.tm τ.length, s) = none) → (k ≠ 0 → ∀ s, g (.tm τ.length, s) = some (.sl z.1, (z.2 ++ [j]) ++ s)) →
                  OkX X σ (setK ρ3 z.1 k0 (putK d0 z.2 (.lst (ds.set j a.2)))) τ (upd H3 ad (.lst (vs.set j y))) (ob o3 g) := fun g hg h0 h1 => by
                have hgs : ∀ s, g (.sl z.1, s) = some (.sl z.1, s) := fun s => hg _ _ fun n _ y => nomatch y
                refine J.pop.wrSlot h0f nb (look_some e2) e3 hw hpt3 ha rfl hg (.lst (by unfold ob; rw [ha]; exact hgs _) upd_same (ROs.setAt (ROs.wr J ha rfl hgs hs) ?_))
                exact item_wr J ha rfl hgs (fun y => nomatch y) h0 h1 J.tp.1 ok
              have fin2 : ∃ o', OkX X σ (setK ρ3 z.1 k0 (putK d0 z.2 (.lst (ds.set j a.2)))) τ (upd H3 ad (.lst (vs.set j y))) o' := by
                cases k with
                | zero =>
                  exact ⟨_, fin (gTop τ.length) (fun r s hr => by
                    cases r with
                    | sl i => rfl
                    | tm n =>
                      show (if τ.length ≤ n then none else some (Root.tm n, s)) = _
                      rw [if_neg (fun z => hr n z rfl)]) (fun _ s => by
                      show (if τ.length ≤ τ.length then none else some (Root.tm τ.length, s)) = _
                      rw [if_pos (Nat.le_refl _)]) (fun h => absurd rfl h)⟩
                | succ k =>
                  let g : Root × List Nat → Option (Root × List Nat) := fun y => match y.1 with
                    | .tm i => if i = τ.length then some (.sl z.1, (z.2 ++ [j]) ++ y.2) else if τ.length ≤ i then none else some y
                    | _ => some y
                  exact ⟨_, fin g (fun r s hr => by
                    cases r with
                    | sl i => rfl
                    | tm n =>
                      show (if n = τ.length then _ else if τ.length ≤ n then none else some (Root.tm n, s)) = _
                      rw [if_neg (fun y => hr n (by omega) rfl), if_neg (fun z => hr n z rfl)]) (fun h => absurd h (Nat.succ_ne_zero k)) (fun _ s => if_pos rfl)⟩
              obtain ⟨o', J'⟩ := fin2
              exact ⟨ad, vs, n, j, rfl, rfl, hh, by rw [hs.length]; exact ej, q _ _ o' J'⟩
            · cases h3
        · cases h3
    · cases h3

def sClr (fp : FP) : FS := fun ρ => match fp ρ with
  | none => none
  | some (.exc x w) => some (.exc x w)
  | some (.val z ρ2) => match look ρ2 z.1 with
      | none => none
      | some (k0, d0) => match getK k0 d0 z.2 with
        | some (_ + 1, .lst _) => some (.nxt (setK ρ2 z.1 k0 (putK d0 z.2 (.lst []))))
        | _ => none
def sRev (fp : FP) : FS := fun ρ => match fp ρ with
  | none => none
  | some (.exc x w) => some (.exc x w)
  | some (.val z ρ2) => match look ρ2 z.1 with
      | none => none
      | some (k0, d0) => match getK k0 d0 z.2 with
        | some (1, .lst ds) => some (.nxt (setK ρ2 z.1 k0 (putK d0 z.2 (.lst ds.reverse))))
        | _ => none
theorem ob_id (o : Own) : ob o some = o := by
  funext a
  show (o a).bind some = o a
  cases o a <;> rfl
theorem Ok.wrSame (J : Ok K B H0 Hf σ ρ τ H o) (hf : Hf.hp = H0) (nb : noBw τ) {z : Nat × List Nat} {ad : Addr} {k0 : Nat} {d0 : D} {ds es : List D} (e2 : look ρ z.1 = some (k0, d0)) (e3 : getK k0 d0 z.2 = some (k + 1, .lst ds)) {vs ws : List V} {x : V} (hw : σ[z.1]? = some (some x)) (hp : PathTo H x z.2 (.ref ad))
    (ha : o ad = some (.sl z.1, z.2)) (hn : ROs K (upd H ad (.lst ws)) (Av B o) o (.sl z.1) z.2 0 k ws es) : Ok K B H0 Hf σ (setK ρ z.1 k0 (putK d0 z.2 (.lst es))) τ (upd H ad (.lst ws)) o := by
  have y := J.wrSlot (g := some) hf nb (look_some e2) e3 hw hp ha (u := .lst ws) rfl (fun r s _ => rfl) (n := .lst es) (by rw [ob_id]; exact .lst ha upd_same hn)
  rw [ob_id] at y
  exact y
theorem ss_clr (hp : SP X to fp) : SS X (tDrop (tBM0 X.K "list" rClear to)) (sClr fp) := fun ρ fl h σ τ H o h0f nb I D q => by
  unfold sClr at h
  split at h
  · cases h
  · rename_i x w e
    cases h
    exact hp ρ _ e σ _ H o I _ q
  · rename_i z ρ2 ez
    refine hp ρ _ ez σ _ H o I _ fun v w H2 o2 I2 hw hpt => ?_
    split at h
    · cases h
    · rename_i k0 d0 e2
      split at h
      · rename_i k ds e3
        cases h
        obtain ⟨ad, vs, rfl, ha, hh, hs⟩ := own_lst (I2.node (by unfold nodeL; rw [e2]; exact e3) hw hpt)
        exact ⟨.inl ⟨rfl, vs, SqL.of hh⟩, ad, vs, rfl, rfl, hh, q _ _ o2 (I2.wrSame h0f nb e2 e3 (vs := vs) hw hpt ha .nil)⟩
      · cases h
end
end P
namespace P
open PySem L2
def wipeE (ρ : Env) : List Nat → Env
  | [] => ρ
  | v :: vs => (wipeE ρ vs).set v .no
theorem wipeE_get (ρ : Env) : ∀ (vs : List Nat) (j : Nat), j ∉ vs → (wipeE ρ vs)[j]? = ρ[j]?
  | [], _, _ => rfl
  | v :: vs, j, h => by
    show ((wipeE ρ vs).set v .no)[j]? = _
    rw [List.getElem?_set_ne (fun e => h (by rw [e]; exact List.mem_cons_self ..)), wipeE_get ρ vs j fun z => h (List.mem_cons_of_mem _ z)]
theorem wipeE_no' (ρ : Env) : ∀ (vs : List Nat) (j : Nat), j ∈ vs → ∀ s, (wipeE ρ vs)[j]? = some s → s = .no
  | v :: vs, j, h, s, e => by
    have e : ((wipeE ρ vs).set v .no)[j]? = some s := e
    rcases set_get e with ⟨_, z, _⟩ | ⟨ne, e⟩
    · exact z.symm
    · rcases List.mem_cons.mp h with rfl | h
      · exact absurd rfl ne
      · exact wipeE_no' ρ vs j h s e
theorem wipeE_no (ρ : Env) (vs : List Nat) (j : Nat) (h : j ∈ vs) (k : Nat) (d : D) : look (wipeE ρ vs) j ≠ some (k, d) := fun e => by
  unfold look at e
  cases e2 : (wipeE ρ vs)[j]? with
  | none => rw [e2] at e; cases e
  | some s =>
    rw [e2, wipeE_no' ρ vs j h s e2] at e
    cases e
theorem look_wipe (ρ : Env) (vs : List Nat) (j : Nat) (h : j ∉ vs) : look (wipeE ρ vs) j = look ρ j := by
  unfold look
  rw [wipeE_get ρ vs j h]
theorem ms_wipe {σ : St} {ρ : Env} {M : Nat → V} {vs : List Nat} (ms : ∀ (i : Nat) (x : Sl), ρ[i]? = some x → x.fixed = true → σ[i]? = some (some (M i))) : ∀ (i : Nat) (x : Sl), (wipeE ρ vs)[i]? = some x → x.fixed = true → σ[i]? = some (some (M i)) := fun i x h hf => by
  by_cases hi : i ∈ vs
  · cases wipeE_no' ρ vs i hi _ h
    cases hf
  · rw [wipeE_get ρ vs i hi] at h
    exact ms i x h hf
theorem wipeE_len (ρ : Env) : ∀ vs : List Nat, (wipeE ρ vs).length = ρ.length
  | [] => rfl
  | v :: vs => by
    show ((wipeE ρ vs).set v .no).length = _
    rw [List.length_set, wipeE_len ρ vs]
theorem wipe_out (σ : St) : ∀ (vs : List Nat) (j : Nat), j ∉ vs → (L2.wipe σ vs)[j]? = σ[j]?
  | [], _, _ => rfl
  | v :: vs, j, h => by
    show ((L2.wipe σ vs).set v none)[j]? = _
    rw [List.getElem?_set_ne (fun e => h (by rw [e]; exact List.mem_cons_self ..)), wipe_out σ vs j fun z => h (List.mem_cons_of_mem _ z)]
theorem wipe_inn (σ : St) : ∀ (vs : List Nat) (j : Nat), j ∈ vs → j < σ.length → (L2.wipe σ vs)[j]? = some none
  | v :: vs, j, h, hl => by
    show ((L2.wipe σ vs).set v none)[j]? = _
    by_cases e : v = j
    · subst e
      rw [List.getElem?_set_self (by rw [wipe_length]; exact hl)]
    · rw [List.getElem?_set_ne e]
      rcases List.mem_cons.mp h with rfl | h
      · exact absurd rfl e
      · exact wipe_inn σ vs j h hl
theorem wipe_eq {σ σ2 : St} {vs : List Nat} (h : Agree (L2.wipe σ vs) σ2 vs) : L2.wipe σ2 vs = L2.wipe σ vs := by
  have hl : σ2.length = σ.length := by rw [h.1, wipe_length]
  apply List.ext_getElem?
  intro j
  by_cases hj : j ∈ vs
  · by_cases hlt : j < σ.length
    · rw [wipe_inn σ vs j hj hlt, wipe_inn σ2 vs j hj (by omega)]
    · rw [List.getElem?_eq_none (by rw [wipe_length]; omega), List.getElem?_eq_none (by rw [wipe_length]; omega)]
  · rw [wipe_out σ2 vs j hj, h.2 j hj]
noncomputable def lcOne (vs : List Nat) (fg : FG) (ft : FT) (fe : FE) (k : Nat) (ρ : Env) (d : D) : Option (Option D) := match fg (.ow 0, d) ρ with
  | none => none
  | some ρ2 => chk (wipeE ρ2 vs = ρ) (match ft ρ2 with
    | some (.val b ρ3) => chk (ρ3 = ρ2) (if b = true then (match fe ρ2 with
      | some (.val a ρ4) => chk (ρ4 = ρ2) (if okItem k a = true then some (some a.2) else none)
      | _ => none) else some none)
    | _ => none)
noncomputable def lcGo (vs : List Nat) (fg : FG) (ft : FT) (fe : FE) (k : Nat) (ρ : Env) : List D → Option (List D)
  | [] => some []
  | d :: ds => match lcOne vs fg ft fe k ρ d with
    | none => none
    | some none => lcGo vs fg ft fe k ρ ds
    | some (some a) => match lcGo vs fg ft fe k ρ ds with
      | none => none
      | some as => some (a :: as)
noncomputable def eLc (k : Nat) (vs : List Nat) (fi : FI) (fg : FG) (ft : FT) (fe : FE) : FE := fun ρ => match fi ρ with
  | none => none
  | some (.exc x w) => some (.exc x w)
  | some (.val ds ρ1) => chk (ds.length ≤ sizeLine) (match lcGo vs fg ft fe k (wipeE ρ1 vs) ds with
    | none => none
    | some es => some (.val (.ow (k + 1), .lst es) (wipeE ρ1 vs)))
def bYes : FT := fun ρ => some (.val true ρ)
section
variable {X : Fx} {K : PySem.W.Frag} {A A' B B' : Addr → Prop} {H0 H H' : Hp} {Hf : Bg} {σ σ' : St} {ρ ρ' : Env} {τ τ' : List T} {o o' : Own} {v w : V} {d e : D} {ta tb tc te to : TE} {fa fb fc fe : FE} {tt tu : TT} {ft fu : FT} {ts : TA} {fs : FA} {a b : Kx} {k : Nat} {t u : TS} {f : FS} {r r' : Root} {p p' q : List Nat}
theorem st_yes : ST X tYes bYes := fun ρ z h σ τ H o I Q q => by
  cases h
  exact q H o I
def dim (t : T) : T := match t.k with
  | .ow _ => t | _ => ⟨.non, .ow 0, .non⟩
theorem Ok.dim (I : Ok K B H0 Hf σ ρ τ H o) : Ok K B H0 Hf σ ρ (τ.map P.dim) H o := by
  refine ⟨I.len, I.bs, I.sm, I.fl, I.ow, I.sl, I.ms, ?_⟩
  have key : ∀ {τ : List T}, TOk K H B o τ → TOk K H B o (τ.map P.dim) := fun {τ} => by
    induction τ with
    | nil => intro _; trivial
    | cons t τ ih =>
      intro h
      refine ⟨?_, ih h.2⟩
      obtain ⟨v, k, d⟩ := t
      show TmOk K H B o (τ.map P.dim).length _
      rw [List.length_map]
      cases k with
      | ow k => exact h.1
      | bw => exact .st .non
      | pl w q => exact .st .non
  exact key I.tp
theorem Ok.undim (I0 : TOk K H B o τ) (e : Same H H') (J : Ok K B H0 Hf σ ρ (τ.map P.dim) H' o') : Ok K B H0 Hf σ ρ τ H' o' := by
  refine ⟨J.len, J.bs, J.sm, J.fl, J.ow, J.sl, J.ms, ?_⟩
  have key : ∀ {τ : List T}, TOk K H B o τ → TOk K H' B o' (τ.map P.dim) → TOk K H' B o' τ := fun {τ} => by
    induction τ with
    | nil => intro _ _; trivial
    | cons t τ ih =>
      intro h h'
      refine ⟨?_, ih h.2 h'.2⟩
      obtain ⟨v, k, d⟩ := t
      cases k with
      | ow k =>
        have z : TmOk K H' B o' (τ.map P.dim).length ⟨v, .ow k, d⟩ := h'.1
        rw [List.length_map] at z
        exact z
      | bw => exact Rep.mono e h.1
      | pl w q => exact PathTo.mono e h.1
  exact key I0 J.tp
theorem noBw_dim (τ : List T) : noBw (τ.map P.dim) := fun t ht => by
  obtain ⟨u, _, rfl⟩ := List.mem_map.mp ht
  obtain ⟨v, k, d⟩ := u
  cases k with
  | ow k => exact ⟨k, rfl⟩
  | bw => exact ⟨0, rfl⟩
  | pl w q => exact ⟨0, rfl⟩
theorem Ok.wipeE (I : Ok K B H0 Hf σ ρ τ H o) (vs : List Nat) : Ok K B H0 Hf σ (P.wipeE ρ vs) τ H o := by
  refine ⟨by rw [wipeE_len]; exact I.len, I.bs, I.sm, I.fl, I.ow, fun i k d h => ?_, ms_wipe I.ms, I.tp⟩
  by_cases hi : i ∈ vs
  · exact absurd h (wipeE_no ρ vs i hi k d)
  · rw [look_wipe ρ vs i hi] at h
    exact I.sl i k d h
theorem Ok.wipeS (I : Ok K B H0 Hf σ (P.wipeE ρ vs) τ H o) : Ok K B H0 Hf (L2.wipe σ vs) (P.wipeE ρ vs) τ H o := by
  refine ⟨by rw [wipe_length]; exact I.len, I.bs, I.sm, I.fl, I.ow, fun i k d h => ?_, fun i x h hf => ?_, I.tp⟩
  · by_cases hi : i ∈ vs
    · exact absurd h (wipeE_no ρ vs i hi k d)
    · rw [wipe_out σ vs i hi]
      exact I.sl i k d h
  · by_cases hi : i ∈ vs
    · cases wipeE_no' ρ vs i hi _ h
      cases hf
    · rw [wipe_out σ vs i hi]
      exact I.ms i x h hf
theorem Ok.back {σ2 : St} {ρ2 : Env} {vs : List Nat} (I : Ok K B H0 Hf σ2 ρ2 τ H o) (hl : σ.length = ρ.length) (hσ : Agree (L2.wipe σ vs) σ2 vs) (hρ : P.wipeE ρ2 vs = P.wipeE ρ vs) : Ok K B H0 Hf σ (P.wipeE ρ vs) τ H o := by
  refine ⟨by rw [wipeE_len]; exact hl, I.bs, I.sm, I.fl, I.ow, fun i k d h => ?_, fun i x h hf => ?_, I.tp⟩
  · by_cases hi : i ∈ vs
    · exact absurd h (wipeE_no ρ vs i hi k d)
    · rw [← hρ, look_wipe ρ2 vs i hi] at h
      obtain ⟨v, e1, e2⟩ := I.sl i k d h
      rw [hσ.2 i hi, wipe_out σ vs i hi] at e1
      exact ⟨v, e1, e2⟩
  · by_cases hi : i ∈ vs
    · cases wipeE_no' ρ vs i hi _ h
      cases hf
    · rw [← hρ, wipeE_get ρ2 vs i hi] at h
      have e := I.ms i x h hf
      rw [hσ.2 i hi, wipe_out σ vs i hi] at e
      exact e
theorem TOk.wr2 (I : Ok K B H0 Hf σ ρ τ' H o) {ad : Addr} {τ : List T} {L : T} (ha : o ad = some (.tm τ.length, [])) {u : HO} (hu : isMut u = true) {g : Root × List Nat → Option (Root × List Nat)} (hL : TmOk K (upd H ad u) B (ob o g) τ.length L) : ∀ {τa : List T} {L0 : T}, noBw τa → noBw τ → (∀ j, j < (τa ++ L0 :: τ).length → ∀ s, g (.tm j, s) = some (.tm j, s)) → TOk K H B o (τa ++ L0 :: τ) → TOk K (upd H ad u) B (ob o g) (τa ++ L :: τ)
  | [], L0, nba, nb, hr, h => ⟨hL, TOk.wr I ha hu (hr τ.length (Nat.lt_succ_self _) []) nb (fun j hj => ⟨(fun z => by injection z with z; omega), hr j (Nat.lt_succ_of_lt hj)⟩) h.2⟩
  | t :: τa, L0, nba, nb, hr, h => by
    have hlen : (τa ++ L0 :: τ).length = (τa ++ L :: τ).length := by simp
    refine ⟨?_, TOk.wr2 I ha hu hL (fun t ht => nba t (List.mem_cons_of_mem _ ht)) nb (fun j hj => hr j (Nat.lt_succ_of_lt hj)) h.2⟩
    obtain ⟨k, ek⟩ := nba t (List.mem_cons_self ..)
    obtain ⟨v, kd, d⟩ := t
    cases ek
    show TmOk K (upd H ad u) B (ob o g) (τa ++ L :: τ).length _
    rw [← hlen]
    have hr' := hr (τa ++ L0 :: τ).length (Nat.lt_succ_self _)
    have hlt : τ.length < (τa ++ L0 :: τ).length := by rw [List.length_append, List.length_cons]; omega
    have T := I.wrTr (r := .tm (τa ++ L0 :: τ).length) (p := []) (r' := .tm (τa ++ L0 :: τ).length) (p' := []) ha hu (hr τ.length (Nat.lt_succ_of_lt hlt) []) (fun s e => by injection e with e _; injection e with e; omega) (fun s => hr' s)
    have z : RO K (upd H ad u) (Av B (ob o g)) (ob o g) (.tm (τa ++ L0 :: τ).length) [] k v d := by
      have z := RO.tr (q := []) T (by simp) (show RO K H (Av B o) o (.tm (τa ++ L0 :: τ).length) [] k v d from h.1)
      simpa using z
    exact z
theorem Ok.appTm {ad : Addr} {ds : List D} {τa : List T} (I : Ok K B H0 Hf σ ρ (tmp w a :: (τa ++ ⟨.ref ad, .ow (k + 1), .lst ds⟩ :: τ)) H o) (hf : Hf.hp ad = none) (nba : noBw τa) (nb : noBw τ) (ok : okItem k a = true) :
    ∃ vs, H ad = some (.lst vs) ∧ vs.length = ds.length ∧ ∃ o', Ok K B H0 Hf σ ρ (τa ++ ⟨.ref ad, .ow (k + 1), .lst (ds ++ [a.2])⟩ :: τ) (upd H ad (.lst (vs ++ [w]))) o' := by
  have tL : RO K H (Av B o) o (.tm τ.length) [] (k + 1) (.ref ad) (.lst ds) := (I.tp.2.drop (τ' := τa)).1
  obtain ⟨ad', vs, e, ha, hh, hs⟩ := own_lst tL
  cases e
  refine ⟨vs, hh, hs.length, ?_⟩
  obtain ⟨m, hm⟩ : ∃ m, m = (τa ++ (⟨.ref ad, .ow (k + 1), .lst ds⟩ : T) :: τ).length := ⟨_, rfl⟩
  have hlt : τ.length < m := by rw [hm, List.length_append, List.length_cons]; omega
  have top : TmOk K H B o m (tmp w a) := by rw [hm]; exact I.tp.1
  obtain ⟨b1, b2⟩ := I.wrBase ha (u := .lst (vs ++ [w])) rfl
  have fin : ∀ g : Root × List Nat → Option (Root × List Nat), (∀ i s, g (.sl i, s) = some (.sl i, s)) → (∀ j, j < m → ∀ s, g (.tm j, s) = some (.tm j, s)) → (k = 0 → ∀ s, g (.tm m, s) = none) → (k ≠ 0 → ∀ s, g (.tm m, s) = some (.tm τ.length, [ds.length] ++ s)) →
      Ok K B H0 Hf σ ρ (τa ++ ⟨.ref ad, .ow (k + 1), .lst (ds ++ [a.2])⟩ :: τ) (upd H ad (.lst (vs ++ [w]))) (ob o g) := fun g hg hgt h0 h1 => by
    have TT := I.wrTr (r := .tm τ.length) (p := [] ++ [0]) (r' := .tm τ.length) (p' := [] ++ [0]) ha (u := .lst (vs ++ [w])) rfl (hgt τ.length hlt []) (fun s e => app_ne e) (fun s => hgt _ hlt _)
    refine ⟨I.len, I.bs, b1, I.fl.tr (fun b u hb => ?_) TT.ki TT.st, b2 g, fun j kj dj h => ?_, I.ms, TOk.wr2 I (τ := τ) (L := ⟨.ref ad, .ow (k + 1), .lst (ds ++ [a.2])⟩) ha rfl ?_ nba nb (by rw [← hm]; exact hgt) I.pop.tp⟩
    · rw [upd_ne (ne_of_none hb hf)]
      exact I.fl.1 b u hb
    · obtain ⟨w', e1, e2⟩ := I.sl j kj dj h
      refine ⟨w', e1, ?_⟩
      have T := I.wrTr (r := .sl j) (p := []) (r' := .sl j) (p' := []) ha (u := .lst (vs ++ [w])) rfl (hgt τ.length hlt []) (fun s e => by injection e with e _; cases e) (fun s => hg _ _)
      have z := RO.tr (q := []) T (by simp) e2
      simpa using z
    · refine RO.lst (by unfold ob; rw [ha]; exact hgt _ hlt _) upd_same (ROs.append (ROs.wr I ha rfl (hgt _ hlt) hs) (.cons ?_ .nil))
      rw [Nat.zero_add, List.nil_append]
      exact item_wr (q' := [ds.length]) I ha rfl (hgt _ hlt) (fun y => by injection y with y; omega) h0 h1 top ok
  cases k with
  | zero =>
    exact ⟨_, fin (gTop m) (fun i s => rfl) (fun j hj s => by
        show (if m ≤ j then none else some (Root.tm j, s)) = _
        rw [if_neg (by omega)]) (fun _ s => by
        show (if m ≤ m then none else some (Root.tm m, s)) = _
        rw [if_pos (Nat.le_refl _)]) (fun h => absurd rfl h)⟩
  | succ k =>
    let g : Root × List Nat → Option (Root × List Nat) := fun y => match y.1 with
      | .tm j => if j = m then some (.tm τ.length, [ds.length] ++ y.2) else some y
      | _ => some y
    exact ⟨_, fin g (fun i s => rfl) (fun j hj s => by
        show (if j = m then _ else some (Root.tm j, s)) = _
        rw [if_neg (by omega)]) (fun h => absurd h (Nat.succ_ne_zero k)) (fun _ s => if_pos rfl)⟩
def inner (X : Fx) (Hf : Bg) : Fx := { X with Hf := Hf, E := fun _ _ _ => False }
theorem lcCore {g : TG} {fg : FG} {vs : List Nat} {J : It} {W : List (V × D)} {H1 : Hp} {o1 : Own} {ρ1 : Env} {ds es : List D} {Q : VK} (hg : ∀ Hf, SG (inner X Hf) vs g fg) (ht : ∀ Hf, ST (inner X Hf) tt ft) (he : ∀ Hf, SE (inner X Hf) te fe)
    (hz : ds.length ≤ sizeLine) (ego : lcGo vs fg ft fe k (wipeE ρ1 vs) ds = some es) (hW : Walks X J ds W) (I1 : OkX X σ ρ1 τ H1 o1) (hF : ∀ p, p ∈ W → Rep X.K (del H1 (Av X.B o1)) p.1 p.2) (q : ∀ v H' o', OkX X σ (wipeE ρ1 vs) (tmp v (.ow (k + 1), .lst es) :: τ) H' o' → Q v H') :
    ∀ D, H1 D = none → ∃ W : Nat → Nat → Hp → Prop, (∃ m, W 0 m (upd H1 D (.lst []))) ∧ ∀ i m H, W i m H →
    (J.stop i H ∧ Q (.ref D) H) ∨ (J.go i H ∧ ∃ Nx : Hp → Prop, (∀ H', Nx H' → ∃ m', m' < m ∧ W (i + 1) m' H') ∧ ∀ x H', J.yld i H x H' → g x (L2.wipe σ vs) H' fun σ2 H2 => L2.wipe σ2 vs = L2.wipe σ vs ∧ tt σ2 H2 fun b H3 =>
      if b = true then te σ2 H3 fun y H4 => ∃ acc, H4 D = some (.lst acc) ∧ acc.length < sizeLine ∧ Nx (upd H4 D (.lst (acc ++ [y]))) else Nx H3) := by
  intro Dd hD
  have I2 : Ok X.K X.B X.H0 ⟨H1, X.Hf.pn, X.Hf.me⟩ σ (wipeE ρ1 vs) (τ.map dim) H1 o1 := by
    have y := (I1.wipeE vs).dim
    exact ⟨y.len, y.bs, y.sm, ⟨Same.refl _, y.fl.2⟩, y.ow, y.sl, y.ms, y.tp⟩
  have I3 := I2.lsNewK (k := k) (vs := []) (ds := []) hD .nil
  have F3 : ∀ p, p ∈ W → Rep X.K (del (upd H1 Dd (.lst [])) (Av X.B (oNew o1 Dd (.tm (τ.map dim).length, [])))) p.1 p.2 := fun p hp => (hF p hp).mono (del_new hD)
  have I4 := I3.aside F3
  refine ⟨fun i m H => m = ds.length - i ∧ i ≤ ds.length ∧ ∃ o done rest, es = done ++ rest ∧ done.length ≤ i ∧ lcGo vs fg ft fe k (wipeE ρ1 vs) (ds.drop i) = some rest ∧ Ok X.K X.B X.H0 ⟨H1, X.Hf.pn, X.Hf.me⟩ σ (wipeE ρ1 vs) (aside W ++ ⟨.ref Dd, .ow (k + 1), .lst done⟩ :: τ.map dim) H o, ⟨_, rfl, Nat.zero_le _, _, [], es, rfl, Nat.le_refl _, ego, I4⟩, ?_⟩
  rintro i m H ⟨rfl, hi, o, done, rest, ees, hdl, hgo, I⟩
  have Ix : OkX X σ (wipeE ρ1 vs) (aside W ++ ⟨.ref Dd, .ow (k + 1), .lst done⟩ :: τ.map dim) H o := ⟨I.len, I.bs, I.sm, ⟨I1.fl.1.trans I.fl.1, I.fl.2⟩, I.ow, I.sl, I.ms, I.tp⟩
  obtain ⟨w1, w2⟩ := hW σ _ _ H o i Ix (aside_get Ix.tp)
  by_cases hlt : i < ds.length
  · obtain ⟨go, y⟩ := w2 ds[i] (List.getElem?_eq_getElem hlt)
    rw [List.drop_eq_getElem_cons hlt] at hgo
    refine .inr ⟨go, fun H' => ∃ o done rest, es = done ++ rest ∧ done.length ≤ i + 1 ∧ lcGo vs fg ft fe k (wipeE ρ1 vs) (ds.drop (i + 1)) = some rest ∧ Ok X.K X.B X.H0 ⟨H1, X.Hf.pn, X.Hf.me⟩ σ (wipeE ρ1 vs) (aside W ++ ⟨.ref Dd, .ow (k + 1), .lst done⟩ :: τ.map dim) H' o, fun H' h => ⟨_, by omega, rfl, hlt, h⟩, fun x H' hy => ?_⟩
    obtain ⟨sm, I5⟩ := y x H' hy
    have I5' : OkX (inner X ⟨H1, X.Hf.pn, X.Hf.me⟩) σ (wipeE ρ1 vs) (⟨x, .ow 0, ds[i]⟩ :: (aside W ++ ⟨.ref Dd, .ow (k + 1), .lst done⟩ :: τ.map dim)) H' o := ⟨I5.len, I5.bs, I5.sm, ⟨I.fl.1.trans sm, I5.fl.2⟩, I5.ow, I5.sl, I5.ms, I5.tp⟩
    unfold lcGo at hgo
    cases e1 : lcOne vs fg ft fe k (wipeE ρ1 vs) ds[i] with
    | none => rw [e1] at hgo; cases hgo
    | some r1 =>
      rw [e1] at hgo
      unfold lcOne at e1
      cases eg : fg (.ow 0, ds[i]) (wipeE ρ1 vs) with
      | none => rw [eg] at e1; cases e1
      | some ρ2 =>
        rw [eg] at e1
        obtain ⟨hw2, e1⟩ := chk_some e1
        refine hg ⟨H1, X.Hf.pn, X.Hf.me⟩ (.ow 0, ds[i]) _ ρ2 eg (L2.wipe σ vs) _ H' o x I5'.wipeS _ fun σ2 H2 o2 I6 ag => ⟨wipe_eq ag, ?_⟩
        cases et : ft ρ2 with
        | none => rw [et] at e1; cases e1
        | some rt =>
          rw [et] at e1
          cases rt with
          | exc x w => cases e1
          | val b ρ3 =>
            obtain ⟨e3, e1⟩ := chk_some e1
            subst e3
            refine ht ⟨H1, X.Hf.pn, X.Hf.me⟩ ρ3 _ et σ2 _ H2 o2 I6 _ fun H3 o3 I7 => ?_
            cases b with
            | false =>
              rw [if_neg Bool.false_ne_true]
              rw [if_neg Bool.false_ne_true] at e1
              cases e1
              exact ⟨o3, done, rest, ees, by omega, hgo, I7.back I1.len ag hw2⟩
            | true =>
              rw [if_pos rfl]
              rw [if_pos rfl] at e1
              cases ee : fe ρ3 with
              | none => rw [ee] at e1; cases e1
              | some re =>
                rw [ee] at e1
                cases re with
                | exc x w => cases e1
                | val a ρ4 =>
                  replace e1 : chk (ρ4 = ρ3) (if okItem k a = true then some (some a.2) else none) = some r1 := e1
                  obtain ⟨e4, e5⟩ := chk_some e1
                  clear e1
                  subst e4
                  by_cases ok : okItem k a = true
                  · rw [if_pos ok] at e5
                    cases e5
                    refine he ⟨H1, X.Hf.pn, X.Hf.me⟩ ρ4 _ ee σ2 _ H3 o3 I7 _ fun v H4 o4 I8 => ?_
                    have I9 : Ok X.K X.B X.H0 ⟨H1, X.Hf.pn, X.Hf.me⟩ σ (wipeE ρ1 vs) (tmp v a :: (aside W ++ ⟨.ref Dd, .ow (k + 1), .lst done⟩ :: τ.map dim)) H4 o4 := I8.back I1.len ag hw2
                    obtain ⟨acc, ha, hl, o5, I10⟩ := I9.appTm hD (noBw_aside W) (noBw_dim τ) ok
                    dsimp only at hgo
                    cases hr : lcGo vs fg ft fe k (wipeE ρ1 vs) (ds.drop (i + 1)) with
                    | none => rw [hr] at hgo; cases hgo
                    | some rest' =>
                      rw [hr] at hgo
                      cases hgo
                      refine ⟨acc, ha, by omega, o5, done ++ [a.2], rest', by rw [ees, List.append_assoc]; rfl, by rw [List.length_append]; exact Nat.succ_le_succ hdl, rfl, I10⟩
                  · rw [if_neg ok] at e5; cases e5
  · have e : i = ds.length := by omega
    subst e
    rw [List.drop_length] at hgo
    cases hgo
    rw [List.append_nil] at ees
    subst ees
    refine .inl ⟨w1 (Nat.le_refl _), q _ H o ?_⟩
    have J : Ok X.K X.B X.H0 ⟨H1, X.Hf.pn, X.Hf.me⟩ σ (wipeE ρ1 vs) (tmp (.ref Dd) (.ow (k + 1), .lst es) :: τ.map dim) H o := I.pops
    have J2 := Ok.undim (τ := τ) I1.tp J.fl.1 J.pop
    refine ⟨J2.len, J2.bs, J2.sm, ⟨I1.fl.1.trans J.fl.1, J2.fl.2⟩, J2.ow, J2.sl, J2.ms, ?_, J2.tp⟩
    have z := J.tp.1
    rw [List.length_map] at z
    exact z
theorem se_lc {wi : TI} {fi : FI} {g : TG} {fg : FG} {vs : List Nat} (hi : SI X wi fi) (hg : ∀ Hf, SG (inner X Hf) vs g fg) (ht : ∀ Hf, ST (inner X Hf) tt ft) (he : ∀ Hf, SE (inner X Hf) te fe) : SE X (tLc wi g tt te vs) (eLc k vs fi fg ft fe) := fun ρ z h σ τ H o I Q q => by
  unfold eLc at h
  split at h
  · cases h
  · rename_i x w e
    cases h
    exact hi ρ _ e σ τ H o I _ q
  · rename_i ds ρ1 e
    obtain ⟨hz, h⟩ := chk_some h
    cases ego : lcGo vs fg ft fe k (wipeE ρ1 vs) ds with
    | none => rw [ego] at h; cases h
    | some es =>
      rw [ego] at h
      cases h
      exact hi ρ _ e σ τ H o I _ fun J W H1 o1 hW I1 hF => lcCore hg ht he hz ego hW I1 hF q
end
theorem blkOk_in {N : List Str} {X : Cx} {s H sc cl C fp e0 sc0} {scope : Scope} {own : List (Str × Nat)} (hN : X.N = N) (he : e0.scope = sc0) (h : blkC N (relS sc sc0) scope own = true) : BlkOk (X.blk s H sc (compEnvC sc cl C e0) fp).N (X.blk s H sc (compEnvC sc cl C e0) fp).env.scope scope own := by
  subst hN he
  exact blkOk_by h
end P
namespace P
open PySem L2

def entryE (ds : List D) (n : Nat) : Env := ds.map (.ow 0) ++ List.replicate n .no
def runD (m n : Nat) (f : FS) : Run := fun ds => if ds.length = m then (match f (entryE ds n) with
  | some (.nxt _) => some (.ret 0 .non)
  | some (.ret k d) => some (.ret k d)
  | some (.exc x w) => some (.exc x w)
  | _ => none) else none
theorem entry_get {ds : List D} {n i k : Nat} {d : D} (h : (entryE ds n)[i]? = some (.ow k d)) : k = 0 ∧ ds[i]? = some d := by
  unfold entryE at h
  by_cases hi : i < ds.length
  · rw [List.getElem?_append_left (by rw [List.length_map]; exact hi), List.getElem?_map] at h
    cases e : ds[i]? with
    | none => rw [e] at h; cases h
    | some d' =>
      rw [e] at h
      cases h
      exact ⟨rfl, rfl⟩
  · rw [List.getElem?_append_right (by rw [List.length_map]; omega), List.getElem?_replicate] at h
    split at h <;> cases h
theorem entry_me {ds : List D} {n i : Nat} {x : Sl} (h : (entryE ds n)[i]? = some x) (hf : x.fixed = true) : False := by
  unfold entryE at h
  by_cases hi : i < ds.length
  · rw [List.getElem?_append_left (by rw [List.length_map]; exact hi), List.getElem?_map] at h
    cases e : ds[i]? with
    | none => rw [e] at h; cases h
    | some d' => rw [e] at h; cases h; cases hf
  · rw [List.getElem?_append_right (by rw [List.length_map]; omega), List.getElem?_replicate] at h
    split at h <;> cases h
    cases hf
theorem entry_look {ds : List D} {n i k : Nat} {d : D} (h : look (entryE ds n) i = some (k, d)) : k = 0 ∧ ds[i]? = some d := by
  unfold look at h
  cases e : (entryE ds n)[i]? with
  | none => rw [e] at h; cases h
  | some s =>
    rw [e] at h
    cases s with
    | no => cases h
    | ow k' d' => cases h; exact entry_get e
    | me k' d' =>
      exfalso
      exact entry_me e rfl
    | fx => cases h
theorem start_get {vs : List V} {N : List Str} {i : Nat} {v : V} (h : vs[i]? = some v) : (L2.start N vs)[i]? = some (some v) := by
  have hi : i < vs.length := (List.getElem?_eq_some_iff.mp h).1
  unfold L2.start
  rw [List.getElem?_append_left (by rw [List.length_map]; exact hi), List.getElem?_map, h]
  all_goals rfl
theorem ok_start {K : PySem.W.Frag} {B : Addr → Prop} {H : Hp} {vs : List V} {ds : List D} {N : List Str} {n : Nat} (hB : ∀ a, B a → Mu H a) (r : Reps K (del H B) vs ds) (hn : N.length = ds.length + n) :
    Ok K B H ⟨H, [], fun _ => .non⟩ (L2.start N vs) (entryE ds n) [] H (fun _ => none) := by
  have hl := r.length
  have e : Av B (fun _ => none) = B := by
    funext a
    exact propext ⟨fun z => z.elim id (fun ⟨p, z⟩ => nomatch z), .inl⟩
  refine ⟨?_, hB, Same.refl _, ⟨Same.refl _, fun p hp => nomatch hp⟩, (fun a p h => nomatch h), fun i k d h => ?_, fun i x h hf => (entry_me h hf).elim, trivial⟩
  · unfold L2.start entryE
    rw [List.length_append, List.length_map, List.length_replicate, List.length_append, List.length_map, List.length_replicate]
    omega
  · obtain ⟨rfl, hd⟩ := entry_look h
    obtain ⟨v, e1, e2⟩ := r.get' hd
    exact ⟨v, start_get e1, by rw [e]; exact .st e2⟩
section
variable {P : Program} {w : World} {K : PySem.W.Frag} {mg : Str → Option Value} {base : Heap}
theorem def_ok {x qual : Str} {st : Stmt} {f : Addr} {fd : FuncData} {N ps : List Str} {k m n : Nat} {fs : FS} (Fn : Fun K x qual st f fd) (S : FnScope N ps (defScope st)) (hm : ps.length = m) (hn : N.length = m + n)
    (hbody : ∀ (cdv : Value) (A : Around) (outer : List PySem.Env) (s : Shared) (H : Hp) (E : XK), Room k (A.deeper (PyProof.Rows.envOfC qual (defScope st) s.heap.objs.size f cdv)) →
      ∃ t, PSs (cxOf (L2.CX P w) P w K mg base N qual (defScope st) f cdv A outer s H E) (defBody st) t ∧ ∀ X : Fx, X.K = K → X.E = E → SS X t fs) : FnOk P w K mg base (L2.CX P w) (k + 1) f fd ps (spR K (runD m n fs)) := by
  refine Fn.okX S (fun vs H Q E h => ?_) (fun cdv A outer s H vs Q E hr h => ?_)
  · obtain ⟨B, ds, r, _, rr, hrun, _⟩ := h
    unfold runD at hrun
    split at hrun
    · rename_i hl
      rw [rr.length, hl, hm]
    · cases hrun
  · obtain ⟨B, ds, r, hB, rr, hrun, q⟩ := h
    obtain ⟨t, ht, hw⟩ := hbody cdv A outer s H E hr
    refine ⟨t, ht, ?_⟩
    unfold runD at hrun
    split at hrun
    · rename_i hl
      cases ef : fs (entryE ds n) with
      | none => rw [ef] at hrun; cases hrun
      | some fl =>
        rw [ef] at hrun
        refine hw ⟨K, B, H, ⟨H, [], fun _ => .non⟩, E⟩ rfl rfl _ fl ef _ [] H _ rfl (fun t ht => nomatch ht) (ok_start hB rr (by rw [hn, hl])) _ ?_
        cases fl with
        | nxt ρ =>
          cases hrun
          intro σ H' o I
          have I1 := I.scal (d := .non) rfl
          obtain ⟨o2, I2⟩ := I1.top.res (X := ⟨K, B, H, ⟨H, [], fun _ => .non⟩, E⟩) I1.pop
          exact q _ H' o2 I2
        | ret k d => cases hrun; exact q
        | exc x w => cases hrun; exact q
        | brk ρ => cases hrun
        | cnt ρ => cases hrun
    · cases hrun
end
structure Gd (P : Program) (w : World) (K : PySem.W.Frag) (mg : Str → Option Value) (base : Heap) (x : Str) (k : Nat) (ps : List Str) (run : Run) : Prop where
  ex : ∃ f fd, FnOk P w K mg base (L2.CX P w) k f fd ps (spR K run) ∧ mg x = some (.ref f) ∧ PySem.W.keepIn K (.ref f) = true ∧ Binds K fd ps []
section
variable {X : Cx} {e : Expr} {es : List Expr} {t : TA} {x : Str} {p p2 pos pos2 : Pos} {k j kk : Nat} {ps : List Str} {run : Run} {E : XK} {K : PySem.W.Frag}
/-- what the call raises goes on -/
theorem pe_gd (tk : Takes X (fun cls d _ H => E cls d H)) (G : Gd X.prog X.w X.K X.mg X.base x k ps run) (hr : Room kk X.A) (hj : k ≤ kk) (hg : Gl X x) (ha : PA X (e :: es) t) (hdb : (x == ("__debug__" : Str)) = false := by decide) (he : starEach (e :: es) X.env = (false, eval e X.env) :: starEach es X.env := by rfl) (hpl : (backTo pos (starEach es X.env)).any (·.1) = false := by rfl) :
    PE X (.Call (.Name x p) (e :: es) [] pos) (tCall (spR X.K run) [] E t) := by
  obtain ⟨f, fd, h1, h2, h3, h4⟩ := G.ex
  exact pe_call h1 (hr.mono hj) hg h2 h3 h4 .nil (passes_call tk fun _ _ _ _ h => h) ha hdb he hpl
/-- within a comprehension: it does not raise -/
theorem pe_gdB (h : X.K = K) (G : Gd X.prog X.w X.K X.mg X.base x k ps run) (hr : Room kk X.A) (hj : k ≤ kk) (hg : Gl X x) (ha : PA X (e :: es) t) (hdb : (x == ("__debug__" : Str)) = false := by decide) (he : starEach (e :: es) X.env = (false, eval e X.env) :: starEach es X.env := by rfl) (hpl : (backTo pos (starEach es X.env)).any (·.1) = false := by rfl) :
    PE X (.Call (.Name x p) (e :: es) [] pos) (tCall (spR K run) [] E0 t) := by
  subst h
  obtain ⟨f, fd, h1, h2, h3, h4⟩ := G.ex
  exact pe_call h1 (hr.mono hj) hg h2 h3 h4 .nil passL ha hdb he hpl
end
theorem law_sp {K : PySem.W.Frag} {run : Run} {H : Hp} {a : Addr} {ns : List Int} {k : Nat} {E : XK} (hS : SqL K H a (ns.map V.int)) (hF : run [.rd ns] = some (.ret k (.bl true))) : spR K run [.ref a] H (fun v _ => v = .bl true) E :=
  ⟨fun _ => False, [.rd ns], .ret k (.bl true), (fun _ h => h.elim), .cons (.rd (by rw [del_nil]; exact hS)) .nil, hF, fun v H' o I => by
    have r := tmp_rep (a := (.ow k, .bl true)) I.top
    cases r
    rfl⟩
end P
namespace P
open PySem L2

def orR (r r' : R2) : R2 := fun x y H Q => r x y H Q ∨ r' x y H Q
theorem OpR.or {X : Cx} {f : Value → Value → Sem Value} {r r' : R2} (h : OpR X f r) (h' : OpR X f r') : OpR X f (orR r r') := by
  intro pins s σ H x y v u Q I rx ry q
  rcases q with q | q
  · exact h pins s σ H x y v u Q I rx ry q
  · exact h' pins s σ H x y v u Q I rx ry q
def rAddS : R2 := fun x y H Q => ∃ i j, x = .str i ∧ y = .str j ∧ i.length + j.length ≤ sizeLine ∧ Q (.str (i ++ j)) H
def rAddA : R2 := orR (rI0 fun i j => .int (i + j)) (orR rCat rAddS)
def rSubA : R2 := rI0 fun i j => .int (i - j)
def DivOk (i j : Int) : Prop := j ≠ 0 ∧ Builtin.divisionGoesByPylong i j = false
def rDivA : R2 := rI DivOk fun i j => .int (i.fdiv j)
def rModA : R2 := rI (fun _ j => j ≠ 0) fun i j => .int (i.fmod j)
def MulOk (i j : Int) : Prop := IntMulOk i j
def rMulS : R2 := fun x y H Q => ∃ s n, x = .str s ∧ y = .int n ∧ PySem.MulOk s n ∧ Q (.str (Txt.mul s n)) H
def rMulA : R2 := orR (rI IntMulOk fun i j => .int (i * j)) (orR rRep rMulS)
def PowOk (i j : Int) : Prop := CPow i j
def rPowA : R2 := rI CPow fun i j => .int (i ^ j.toNat)
def rEqA (K : PySem.W.Frag) : R2 := orR rEq (orR (rEqD K) rEqDA)
def rNeA (K : PySem.W.Frag) : R2 := orR rNe (rNeD K)
def rLtA : R2 := rI0 fun i j => .bl (decide (i < j))
def rGtA : R2 := rI0 fun i j => .bl (decide (j < i))
def rAbs : List V → Hp → VK → Prop := fun xs H Q => ∃ i, xs = [.int i] ∧ Q (.int (if i < 0 then -i else i)) H
def decI (i : Int) : Str := toString i
def rLen (K : PySem.W.Frag) : List V → Hp → VK → Prop := fun xs H Q => ∃ x n, xs = [x] ∧ LenV K x H n ∧ Q (.int n) H
def rListA (K : PySem.W.Frag) : List V → Hp → VK → Prop := fun xs H Q => ∃ p ys, xs = [.ref p] ∧ (SqL K H p ys ∨ SqT K H p ys) ∧ ∀ l, H l = none → Q (.ref l) (upd H l (.lst ys))
section
variable {X : Cx}
theorem CallR.or {f : Value} {r r' : List V → Hp → VK → Prop} (h : CallR X f r) (h' : CallR X f r') : CallR X f (fun xs H Q => r xs H Q ∨ r' xs H Q) := by
  intro pins s σ H xs us Q I rs q
  rcases q with q | q
  · exact h pins s σ H xs us Q I rs q
  · exact h' pins s σ H xs us Q I rs q
theorem op_addA : OpR X (binaryOp .Add) rAddA := OpR.or op_add (OpR.or op_cat op_add_str)
theorem op_subA : OpR X (binaryOp .Sub) rSubA := op_sub
theorem op_divA : OpR X (binaryOp .FloorDiv) rDivA := opI fun _ _ _ _ _ _ _ hc q => PyProof.Rows.floordiv_int hc.1 q (.inl hc.2)
theorem op_modA : OpR X (binaryOp .Mod) rModA := op_modN
theorem op_mulS : OpR X (binaryOp .Mult) rMulS := by
  intro pins s σ H x y v u Q I rx ry h
  obtain ⟨i, j, rfl, rfl, hz, q⟩ := h
  obtain ⟨t, rfl⟩ := rx
  obtain ⟨t', rfl⟩ := ry
  exact SB.mul hz fun t' k => ⟨.str (Txt.mul i j), H, I.tok _, ⟨_, rfl⟩, q⟩
theorem op_mulA : OpR X (binaryOp .Mult) rMulA := OpR.or (opI fun _ _ _ _ _ _ _ hc q => PyProof.Rows.mul_int q hc) (OpR.or op_rep op_mulS)
theorem op_powA : OpR X (binaryOp .Pow) rPowA := op_pow
theorem op_eqA {K : PySem.W.Frag} (h : X.K = K) (hu : X.A.units + 64 < cLine) : OpR X (compareOp .Eq) (rEqA K) := h ▸ OpR.or op_eq (OpR.or (op_eqD hu) (op_eq_dictA (by omega)))
theorem op_neA {K : PySem.W.Frag} (h : X.K = K) (hu : X.A.units + 64 < cLine) : OpR X (compareOp .NotEq) (rNeA K) := h ▸ OpR.or op_ne (op_neD hu)
theorem op_ltA : OpR X (compareOp .Lt) rLtA := op_lt
theorem op_gtA : OpR X (compareOp .Gt) rGtA := op_gt
theorem call_absA : CallR X (.builtin "abs") rAbs := call_abs
theorem call_lenA {K : PySem.W.Frag} (h : X.K = K) : CallR X (.builtin "len") (rLen K) := h ▸ call_len
theorem call_listA {K : PySem.W.Frag} (h : X.K = K) : CallR X (.type "list") (rListA K) := h ▸ call_list_of
theorem call_allA {K : PySem.W.Frag} (h : X.K = K) (hc : X.calm = true) : CallR X (.builtin "all") (rAll K) := h ▸ cr_all hc
theorem call_sortedA {K : PySem.W.Frag} (h : X.K = K) : CallR X (.builtin "sorted") (rSorted K) := h ▸ cr_sorted
theorem ix_seqA {K : PySem.W.Frag} (h : X.K = K) : IxR X (rIx K) := h ▸ ix_seq
def rSlA (K : PySem.W.Frag) : V → Option Int → Option Int → Hp → VK → Prop := fun x lo hi H Q => rSlL K x lo hi H Q ∨ rSlS x lo hi H Q
theorem sl_A {K : PySem.W.Frag} (h : X.K = K) : SlR X (rSlA K) := h ▸ SlR.or sl_list sl_str
end

def gAdd0 : D → D → Option D
  | .int a, .int b => some (.int (a + b))
  | _, _ => none
noncomputable def gAddS0 : D → D → Option D
  | .str a, .str b => chk (a.length + b.length ≤ sizeLine) (some (.str (a ++ b)))
  | _, _ => none
def gSub0 : D → D → Option D
  | .int a, .int b => some (.int (a - b)) | _, _ => none
noncomputable def gDiv0 : D → D → Option D
  | .int a, .int b => chk (DivOk a b) (some (.int (a.fdiv b))) | _, _ => none
noncomputable def gMod0 : D → D → Option D
  | .int a, .int b => chk (b ≠ 0) (some (.int (a.fmod b))) | _, _ => none
noncomputable def gMul0 : D → D → Option D
  | .int a, .int b => chk (MulOk a b) (some (.int (a * b))) | _, _ => none
noncomputable def gPow0 : D → D → Option D
  | .int a, .int b => chk (PowOk a b) (some (.int (a ^ b.toNat))) | _, _ => none
def gLt0 : D → D → Option D
  | .int a, .int b => some (.bl (decide (a < b))) | _, _ => none
def gLe0 : D → D → Option D
  | .int a, .int b => some (.bl (decide (a ≤ b))) | _, _ => none
def gGt0 : D → D → Option D
  | .int a, .int b => some (.bl (decide (b < a))) | _, _ => none
def gGe0 : D → D → Option D
  | .int a, .int b => some (.bl (decide (b ≤ a))) | _, _ => none
def eqD : D → D → Bool
  | .non, .non => true
  | .bl a, .bl b => a == b
  | .bl a, .int j => (if a then 1 else 0) == j
  | .int i, .bl b => i == (if b then 1 else 0)
  | .int i, .int j => i == j
  | .str x, .str y => x == y
  | .lst xs, .lst ys => eqs xs ys
  | .lst xs, .rd ns => eqs xs (ns.map .int)
  | .rd ns, .lst ys => eqN ns ys
  | .rd ns, .rd ms => ns == ms
  | .tup xs, .tup ys => eqs xs ys
  | _, _ => false
where
  eqs : List D → List D → Bool
    | [], [] => true
    | x :: xs, y :: ys => eqD x y && eqs xs ys
    | _, _ => false
  eqN : List Int → List D → Bool
    | [], [] => true
    | n :: ns, .int m :: ys => n == m && eqN ns ys
    | n :: ns, .bl b :: ys => n == (if b then 1 else 0) && eqN ns ys
    | _, _ => false
abbrev eqs := eqD.eqs
def okP : Nat → D → Bool
  | _, .non => true | _, .bl _ => true | _, .int _ => true
  | _, .str x => PyData.strOk x
  | 0, _ => false
  | n + 1, .lst ds => okPs n ds
  | n + 1, .tup ds => okPs n ds
  | _ + 1, .rd _ => true
  | _ + 1, _ => false
where
  okPs : Nat → List D → Bool
    | _, [] => true
    | n, d :: ds => okP n d && okPs n ds
mutual
def toP : D → PyData
  | .non => .none | .bl b => .bool b | .int i => .int i | .str s => .str s
  | .lst ds => .list (toPs ds) | .tup ds => .tuple (toPs ds) | .rd ns => .list (ns.map .int) | _ => .none
def toPs : List D → List PyData
  | [] => []
  | d :: ds => toP d :: toPs ds
end
theorem toPs_ints : ∀ ns : List Int, toPs (ns.map .int) = ns.map .int
  | [] => rfl
  | n :: ns => congrArg (PyData.int n :: ·) (toPs_ints ns)
mutual
theorem Rep.dp {K : PySem.W.Frag} {H : Hp} : ∀ {n : Nat} {v : V} {d : D}, Rep K H v d → okP n d = true → Dp K H v (toP d)
  | _, _, _, .non, _ => .non
  | _, _, _, .bl b, _ => .bl b
  | _, _, _, .int b, _ => .int b
  | _, _, _, .str b, _ => .str b
  | 0, _, _, .lst a r, h => nomatch h
  | n + 1, _, _, .lst a r, h => .lst (SqL.of a) (Reps.dp r h)
  | 0, _, _, .tup a r, h => nomatch h
  | n + 1, _, _, .tup a r, h => .tup (SqT.of a) (Reps.dp r h)
  | 0, _, _, .rd a, h => nomatch h
  | n + 1, _, _, .rd a, h => .lst a (dp_ints _)
  | 0, _, _, .ty _, h => nomatch h
  | n + 1, _, _, .ty _, h => nomatch h
  | 0, _, _, .cls _, h => nomatch h
  | n + 1, _, _, .cls _, h => nomatch h
  | 0, _, _, .ins _ _ _, h => nomatch h
  | n + 1, _, _, .ins _ _ _, h => nomatch h
  | 0, _, _, .dic _ _, h => nomatch h
  | n + 1, _, _, .dic _ _, h => nomatch h
  | 0, _, _, .xo0 _ _, h => nomatch h
  | n + 1, _, _, .xo0 _ _, h => nomatch h
  | 0, _, _, .xo1 _ _ _ _, h => nomatch h
  | n + 1, _, _, .xo1 _ _ _ _, h => nomatch h
theorem Reps.dp {K : PySem.W.Frag} {H : Hp} : ∀ {n : Nat} {v : List V} {d : List D}, Reps K H v d → okP.okPs n d = true → DpAll K H v (toPs d)
  | _, _, _, .nil, _ => .nil
  | n, _, _, .cons a r, h => by
    have h' : (okP n _ && okP.okPs n _) = true := h
    rw [Bool.and_eq_true] at h'
    exact .cons (Rep.dp a h'.1) (Reps.dp r h'.2)
theorem dp_ints {K : PySem.W.Frag} {H : Hp} : ∀ ns : List Int, DpAll K H (ns.map V.int) (ns.map PyData.int)
  | [] => .nil
  | n :: ns => .cons (.int n) (dp_ints ns)
end
mutual
theorem toP_ok : ∀ {n : Nat} {d : D}, n ≤ 64 → okP n d = true → (toP d).canLay0 = true ∧ (toP d).depth ≤ n
  | n, .non, _, _ => ⟨rfl, Nat.zero_le _⟩
  | n, .bl _, _, _ => ⟨rfl, Nat.zero_le _⟩
  | n, .int _, _, _ => ⟨rfl, Nat.zero_le _⟩
  | n, .str x, _, h => ⟨by cases n <;> exact h, Nat.zero_le _⟩
  | 0, .lst ds, _, h => nomatch h
  | n + 1, .lst ds, hn, h => by
    have z := toPs_ok (n := n) (by omega) h
    exact ⟨z.1, Nat.succ_le_succ z.2⟩
  | 0, .tup ds, _, h => nomatch h
  | n + 1, .tup ds, hn, h => by
    have z := toPs_ok (n := n) (by omega) h
    exact ⟨z.1, Nat.succ_le_succ z.2⟩
  | 0, .rd ns, _, h => nomatch h
  | n + 1, .rd ns, hn, h => by
    have z : PyData.canLayAll0 (ns.map PyData.int) = true ∧ PyData.depthAll (ns.map PyData.int) = 0 := by
      clear h hn
      induction ns with
      | nil => exact ⟨rfl, rfl⟩
      | cons a l ih => exact ⟨by show (true && _) = true; rw [ih.1]; rfl, by show max 0 _ = 0; rw [ih.2]; rfl⟩
    exact ⟨z.1, by show PyData.depthAll (ns.map PyData.int) + 1 ≤ n + 1; rw [z.2]; omega⟩
  | 0, .ty _, _, h => nomatch h
  | n + 1, .ty _, _, h => nomatch h
  | 0, .cls _, _, h => nomatch h
  | n + 1, .cls _, _, h => nomatch h
  | 0, .ins _ _, _, h => nomatch h
  | n + 1, .ins _ _, _, h => nomatch h
  | 0, .dic _, _, h => nomatch h
  | n + 1, .dic _, _, h => nomatch h
  | 0, .xo _ _, _, h => nomatch h
  | n + 1, .xo _ _, _, h => nomatch h
theorem toPs_ok : ∀ {n : Nat} {ds : List D}, n ≤ 64 → okP.okPs n ds = true → PyData.canLayAll0 (toPs ds) = true ∧ PyData.depthAll (toPs ds) ≤ n
  | n, [], _, _ => ⟨rfl, Nat.zero_le _⟩
  | n, d :: ds, hn, h => by
    have h' : (okP n d && okP.okPs n ds) = true := h
    rw [Bool.and_eq_true] at h'
    have a := toP_ok hn h'.1
    have b := toPs_ok hn h'.2
    exact ⟨by show (_ && _) = true; rw [a.1, b.1]; rfl, Nat.max_le.mpr ⟨a.2, b.2⟩⟩
end
theorem okP_shaped {n : Nat} {d : D} (hn : n ≤ 64) (h : okP n d = true) : SeqAt.shaped (toP d) = true := by
  have z := toP_ok hn h
  unfold SeqAt.shaped
  rw [z.1, decide_eq_true (show (toP d).depth ≤ 64 by omega)]
  rfl
theorem eqv_ints : ∀ ns ms : List Int, PyData.eqvAll (ns.map .int) (ms.map .int) = (ns == ms)
  | [], [] => rfl
  | [], _ :: _ => rfl
  | _ :: _, [] => rfl
  | n :: ns, m :: ms => by
    show (n == m && PyData.eqvAll (ns.map .int) (ms.map .int)) = _
    rw [eqv_ints ns ms]
    rfl
mutual
theorem eqv_eqD : ∀ {n : Nat} {d e : D}, okP n d = true → okP n e = true → PyData.eqv (toP d) (toP e) = eqD d e := fun {n d e} h h' => by
  cases n with
  | zero => cases d <;> first | (cases h; done) | (cases e <;> first | (cases h'; done) | rfl)
  | succ n =>
    cases d <;> first | (cases h; done) | skip
    case lst xs =>
      cases e <;> first | (cases h'; done) | rfl | skip
      case lst ys => exact eqv_eqs h h'
      case rd ns =>
        show PyData.eqvAll (toPs xs) (ns.map .int) = eqs xs (ns.map .int)
        rw [← toPs_ints]
        exact eqv_eqs (n := n) h (by
          clear h h'
          induction ns with
          | nil => rfl
          | cons a l ih => show (okP n (.int a) && _) = true; rw [ih]; cases n <;> rfl)
    case tup xs =>
      cases e <;> first | (cases h'; done) | rfl | skip
      case tup ys => exact eqv_eqs h h'
    case rd ns =>
      cases e <;> first | (cases h'; done) | rfl | skip
      case lst ys =>
        show PyData.eqvAll (ns.map .int) (toPs ys) = eqD.eqN ns ys
        clear h h'
        induction ns generalizing ys with
        | nil => cases ys <;> rfl
        | cons a l ih =>
          cases ys with
          | nil => rfl
          | cons y ys =>
            show (PyData.eqv (.int a) (toP y) && PyData.eqvAll (l.map .int) (toPs ys)) = _
            rw [ih]
            cases y <;> rfl
      case rd ms => exact eqv_ints ns ms
    all_goals (cases e <;> first | (cases h'; done) | rfl)
theorem eqv_eqs : ∀ {n : Nat} {ds es : List D}, okP.okPs n ds = true → okP.okPs n es = true → PyData.eqvAll (toPs ds) (toPs es) = eqs ds es
  | n, [], [], _, _ => rfl
  | n, [], _ :: _, _, _ => rfl
  | n, _ :: _, [], _, _ => rfl
  | n, d :: ds, e :: es, h, h' => by
    have h1 : (okP n d && okP.okPs n ds) = true := h
    have h2 : (okP n e && okP.okPs n es) = true := h'
    rw [Bool.and_eq_true] at h1 h2
    show (PyData.eqv (toP d) (toP e) && PyData.eqvAll (toPs ds) (toPs es)) = (eqD d e && eqs ds es)
    rw [eqv_eqD h1.1 h2.1, eqv_eqs h1.2 h2.2]
end
end P
namespace P
open PySem L2
section
variable {X : Fx} {K : PySem.W.Frag} {B B' : Addr → Prop} {H0 H H' : Hp} {Hf : Bg} {σ σ' : St} {ρ ρ' : Env} {τ τ' : List T} {o o' : Own} {v w : V} {d e : D} {ta tb tc te to : TE} {fa fb fc fe : FE} {ts : TA} {fs : FA} {a b : Kx} {k : Nat} {rl rl' : R2}
def Op2R (X : Fx) (r : R2) (g : D → D → Option D) : Prop := ∀ d e f, g d e = some f → isS f = true ∧ ∀ (H : Hp) (x y : V) (Q : VK), Rep X.K H x d → Rep X.K H y e → Q (toV f) H → r x y H Q
theorem Op2R.op {g : D → D → Option D} (h : Op2R X rl g) : Op2 X rl (g2 g) := fun a b c e σ ρ τ H o x y I Q q => by
  unfold g2 at e
  cases e1 : g a.2 b.2 with
  | none => rw [e1] at e; cases e
  | some f =>
    rw [e1] at e
    cases e
    obtain ⟨h1, h2⟩ := h _ _ _ e1
    exact h2 H x y Q (tmp_rep I.pop.top) (tmp_rep I.top) (q _ H o (I.pop.pop.scal h1))
theorem Op2.l {g : Kx → Kx → Option Kx} (h : Op2 X rl g) : Op2 X (orR rl rl') g := h.or_inl
theorem Op2.r {g : Kx → Kx → Option Kx} (h : Op2 X rl' g) : Op2 X (orR rl rl') g := h.or_inr
theorem o2_int {g : Int → Int → V} {C : Int → Int → Prop} {g0 : D → D → Option D} (h : ∀ d e f, g0 d e = some f → ∃ a b, d = .int a ∧ e = .int b ∧ C a b ∧ isS f = true ∧ g a b = toV f) : Op2R X (rI C g) g0 := fun d e f h0 => by
  obtain ⟨a, b, rfl, rfl, hc, hs, hv⟩ := h d e f h0
  refine ⟨hs, fun H x y Q r1 r2 q => ?_⟩
  cases r1
  cases r2
  exact ⟨a, b, rfl, rfl, hc, by rw [hv]; exact q⟩
theorem o2_int0 {g : Int → Int → V} {g0 : D → D → Option D} (h : ∀ d e f, g0 d e = some f → ∃ a b, d = .int a ∧ e = .int b ∧ isS f = true ∧ g a b = toV f) : Op2R X (rI0 g) g0 := fun d e f h0 => by
  obtain ⟨a, b, rfl, rfl, hs, hv⟩ := h d e f h0
  refine ⟨hs, fun H x y Q r1 r2 q => ?_⟩
  cases r1
  cases r2
  exact ⟨a, b, rfl, rfl, by rw [hv]; exact q⟩
def itemsOk (a : Kx) (ds : List D) : Bool := match a.1 with
  | .ow _ => true | .bw => flats ds
noncomputable def gCat : Kx → Kx → Option Kx := fun a b => match a.2, b.2 with
  | .lst ds, .lst es => if (itemsOk a ds && itemsOk b es) = true then chk (ds.length + es.length ≤ sizeLine) (some (.ow 1, .lst (ds ++ es))) else chk (ds.length + es.length ≤ sizeLine) (some (.bw, .lst (ds ++ es)))
  | _, _ => none
theorem Known.items {ds : List D} (I : Ok K B H0 Hf σ ρ τ H o) (h : Known K H (Av B o) v a) (e : a.2 = .lst ds) (ok : itemsOk a ds = true) : ∃ p vs, v = .ref p ∧ H p = some (.lst vs) ∧ Reps K (del H (Av B o)) vs ds := by
  obtain ⟨k, d⟩ := a
  cases e
  cases k with
  | ow k =>
    have r : Rep K (del H (Av B o)) v (.lst ds) := h
    cases r with
    | lst hh rr => exact ⟨_, _, rfl, (del_some.mp hh).2, rr⟩
  | bw =>
    have r : Rep K H v (.lst ds) := h
    cases r with
    | lst hh rr => exact ⟨_, _, rfl, hh, Reps.flat (keep_av I) rr ok⟩
theorem op_catA : Op2 X rCat gCat := fun a b c e σ ρ τ H o x y I Q q => by
  obtain ⟨o', I', ka, kb⟩ := I.settle2
  unfold gCat at e
  split at e
  · rename_i ds es ea eb
    have ra := ka.rep
    have rb := kb.rep
    rw [ea] at ra
    rw [eb] at rb
    cases ra with
    | lst h1 r1 =>
      cases rb with
      | lst h2 r2 =>
        rename_i p vs p2 ws
        split at e
        · rename_i ok
          obtain ⟨hz, e⟩ := chk_some e
          cases e
          rw [Bool.and_eq_true] at ok
          obtain ⟨_, _, e1, g1, s1⟩ := ka.items I' ea ok.1
          obtain ⟨_, _, e2, g2, s2⟩ := kb.items I' eb ok.2
          cases e1
          cases e2
          exact ⟨_, _, _, _, rfl, rfl, g1, g2, by rw [s1.length, s2.length]; exact hz, fun p hp => q _ _ _ (I'.lsNew hp (s1.append s2))⟩
        · obtain ⟨hz, e⟩ := chk_some e
          cases e
          exact ⟨_, _, _, _, rfl, rfl, h1, h2, by rw [r1.length, r2.length]; exact hz, fun p hp => q _ _ o' ((I'.grow (same_upd _ hp)).push (t := tmp (.ref p) (.bw, .lst (ds ++ es))) (.lst upd_same ((r1.append r2).mono (same_upd _ hp))))⟩
  · cases e
noncomputable def gAdd : Kx → Kx → Option Kx := gOr (g2 gAdd0) (gOr (g2 gAddS0) gCat)
theorem o_add : Op2 X rAddA gAdd := .gor (.l (Op2R.op (o2_int0 fun d e f h => by
    unfold gAdd0 at h; split at h <;> first | (cases h; exact ⟨_, _, rfl, rfl, rfl, rfl⟩) | cases h)))
  (.gor (.r (.r (Op2R.op fun d e f h => by
    unfold gAddS0 at h
    split at h
    · rename_i a b
      obtain ⟨hz, h⟩ := chk_some h
      cases h
      exact ⟨rfl, fun H x y Q r1 r2 q => by cases r1; cases r2; exact ⟨a, b, rfl, rfl, hz, q⟩⟩
    · cases h))) (.r (.l op_catA)))
theorem o_sub : Op2 X rSubA (g2 gSub0) := (o2_int0 fun d e f h => by
    unfold gSub0 at h; split at h <;> first | (cases h; exact ⟨_, _, rfl, rfl, rfl, rfl⟩) | cases h).op
theorem o_div : Op2 X rDivA (g2 gDiv0) := (o2_int fun d e f h => by
    unfold gDiv0 at h
    split at h
    · obtain ⟨hc, h⟩ := chk_some h; cases h; exact ⟨_, _, rfl, rfl, hc, rfl, rfl⟩
    · cases h).op
theorem o_mod : Op2 X rModA (g2 gMod0) := (o2_int fun d e f h => by
    unfold gMod0 at h
    split at h
    · obtain ⟨hc, h⟩ := chk_some h; cases h; exact ⟨_, _, rfl, rfl, hc, rfl, rfl⟩
    · cases h).op
theorem o_pow : Op2 X rPowA (g2 gPow0) := (o2_int fun d e f h => by
    unfold gPow0 at h
    split at h
    · obtain ⟨hc, h⟩ := chk_some h; cases h; exact ⟨_, _, rfl, rfl, hc, rfl, rfl⟩
    · cases h).op
noncomputable def gRep : Kx → Kx → Option Kx := fun a b => match a.2, b.2 with
  | .lst ds, .int n => if itemsOk a ds = true then chk (-(2 ^ 63) ≤ n ∧ n < 2 ^ 63 ∧ ds.length * n.toNat ≤ sizeLine) (some (.ow 1, .lst (List.replicate n.toNat ds).flatten)) else none
  | _, _ => none
theorem Reps.rep {vs : List V} {ds : List D} (h : Reps K H vs ds) : ∀ n : Nat, Reps K H (List.replicate n vs).flatten (List.replicate n ds).flatten
  | 0 => .nil
  | n + 1 => by
    rw [List.replicate_succ, List.replicate_succ, List.flatten_cons, List.flatten_cons]
    exact h.append (h.rep n)
noncomputable def gMulS0 : D → D → Option D
  | .str s, .int n => chk (PySem.MulOk s n) (some (.str (Txt.mul s n)))
  | _, _ => none
noncomputable def gMul : Kx → Kx → Option Kx := gOr (g2 gMul0) (gOr gRep (g2 gMulS0))
theorem o_lt : Op2 X rLtA (g2 gLt0) := (o2_int0 fun d e f h => by
    unfold gLt0 at h; split at h <;> first | (cases h; exact ⟨_, _, rfl, rfl, rfl, rfl⟩) | cases h).op
theorem o_gt : Op2 X rGtA (g2 gGt0) := (o2_int0 fun d e f h => by
    unfold gGt0 at h; split at h <;> first | (cases h; exact ⟨_, _, rfl, rfl, rfl, rfl⟩) | cases h).op
def gEq0 : D → D → Option D
  | .str a, .str b => some (.bl (a == b))
  | .dic [], .dic [] => some (.bl true)
  | d, e => if (okP 8 d && okP 8 e) = true then some (.bl (eqD d e)) else none
def gNe0 : D → D → Option D
  | .str a, .str b => some (.bl (!(a == b)))
  | d, e => if (okP 8 d && okP 8 e) = true then some (.bl (!eqD d e)) else none
theorem dec_str {a b : Str} : decide (V.str a = V.str b) = (a == b) := by
  rw [Bool.eq_iff_iff]
  simp
theorem o_eq : Op2 X (rEqA X.K) (g2 gEq0) := Op2R.op fun d e f h => by
  unfold gEq0 at h
  split at h
  · rename_i a b
    cases h
    refine ⟨rfl, fun H x y Q r1 r2 q => ?_⟩
    cases r1
    cases r2
    exact .inl ⟨rfl, by rw [dec_str]; exact q⟩
  · cases h
    refine ⟨rfl, fun H x y Q r1 r2 q => ?_⟩
    cases r1 with
    | dic h1 k1 =>
      cases k1
      cases r2 with
      | dic h2 k2 =>
        cases k2
        exact .inr (.inr ⟨_, _, [], [], rfl, rfl, h1, h2, rfl, (fun p hp => absurd hp List.not_mem_nil), q⟩)
  · split at h
    · rename_i ok
      cases h
      rw [Bool.and_eq_true] at ok
      refine ⟨rfl, fun H x y Q r1 r2 q => .inr (.inl ⟨_, _, r1.dp ok.1, r2.dp ok.2, okP_shaped (by decide) ok.1, okP_shaped (by decide) ok.2, ?_⟩)⟩
      rw [eqv_eqD ok.1 ok.2]
      exact q
    · cases h
theorem o_ne : Op2 X (rNeA X.K) (g2 gNe0) := Op2R.op fun d e f h => by
  unfold gNe0 at h
  split at h
  · rename_i a b
    cases h
    refine ⟨rfl, fun H x y Q r1 r2 q => ?_⟩
    cases r1
    cases r2
    exact .inl ⟨rfl, by rw [dec_str]; exact q⟩
  · split at h
    · rename_i ok
      cases h
      rw [Bool.and_eq_true] at ok
      refine ⟨rfl, fun H x y Q r1 r2 q => .inr ⟨_, _, r1.dp ok.1, r2.dp ok.2, okP_shaped (by decide) ok.1, okP_shaped (by decide) ok.2, ?_⟩⟩
      rw [eqv_eqD ok.1 ok.2]
      exact q
    · cases h
def isNon : D → Bool
  | .non => true | _ => false
def gIs0 : D → D → Option D
  | d, .non => some (.bl (isNon d))
  | .bl a, .bl b => some (.bl (decide (a = b)))
  | _, _ => none
def gNot0 : D → D → Option D
  | d, .non => some (.bl (!isNon d))
  | .bl a, .bl b => some (.bl (!decide (a = b)))
  | _, _ => none
def scl : D → Bool
  | .non => true | .bl _ => true | .int _ => true | .str _ => true | _ => false
def listOf : D → Option (List D)
  | .lst ds => some ds | .tup ds => some ds | .rd ns => some (ns.map .int) | _ => none
theorem listOf_sq {ds : List D} (h : Rep K H v d) (e : listOf d = some ds) : ∃ p vs, v = .ref p ∧ (SqL K H p vs ∨ SqT K H p vs) ∧ Reps K H vs ds := by
  cases h with
  | lst hh rr => cases e; exact ⟨_, _, rfl, .inl (SqL.of hh), rr⟩
  | tup hh rr => cases e; exact ⟨_, _, rfl, .inr (SqT.of hh), rr⟩
  | rd hh => cases e; exact ⟨_, _, rfl, .inl hh, .of_ints _⟩
  | _ => cases e
def gIn0 (neg : Bool) (d e : D) : Option D := match d, e with
  | .str s, .str z => match s.cps.toList with
    | [c] => some (.bl (if neg then !decide (c ∈ z.cps.toList) else decide (c ∈ z.cps.toList)))
    | _ => none
  | d, e => match listOf e with
    | some ds => if (scl d && ds.all scl) = true then some (.bl (if neg then !ds.any (eqD · d) else ds.any (eqD · d))) else none
    | none => none

def CB (X : Fx) (r : List V → Hp → VK → Prop) (g : List Kx → Option Kx) : Prop := ∀ as c, g as = some c → ∀ σ ρ τ H o vs, vs.length = as.length → OkX X σ ρ ((vs.zipWith tmp as).reverse ++ τ) H o → ∀ Q : VK, (∀ v H' o', OkX X σ ρ (tmp v c :: τ) H' o' → Q v H') → r vs H Q
def eCB (g : List Kx → Option Kx) (fs : FA) : FE := fun ρ => (fs ρ).bind fun as ρ1 => match g as with
  | some c => some (.val c ρ1) | none => none
theorem se_cb {r : List V → Hp → VK → Prop} {g : List Kx → Option Kx} (hr : CB X r g) (hs : SA X ts fs) : SE X (tCB r ts) (eCB g fs) := fun ρ z h σ τ H o I Q q => by
  have hx : ∀ x w, z = .exc x w → XW X x w := fun x w e => by subst e; exact q
  refine hs.bindG h I hx fun as ρ1 vs H1 o1 h1 l I1 => ?_
  cases e : g as with
  | none => rw [e] at h1; cases h1
  | some c =>
    rw [e] at h1
    cases h1
    exact hr as c e σ ρ1 τ H1 o1 vs l I1 Q q
def CR (X : Fx) (r : List V → Hp → VK → Prop) (g : List D → Option D) : Prop := ∀ ds f, g ds = some f → isS f = true ∧ ∀ (H : Hp) (vs : List V) (Q : VK), Reps X.K H vs ds → Q (toV f) H → r vs H Q
def gC (g : List D → Option D) : List Kx → Option Kx := fun as => match g (as.map (·.2)) with
  | some f => some (.ow 0, f) | none => none
theorem CR.cb {r : List V → Hp → VK → Prop} {g : List D → Option D} (h : CR X r g) : CB X r (gC g) := fun as c e σ ρ τ H o vs l I Q q => by
  unfold gC at e
  cases e1 : g (as.map (·.2)) with
  | none => rw [e1] at e; cases e
  | some f =>
    rw [e1] at e
    cases e
    obtain ⟨o', I', ks⟩ := Ok.settles l I
    obtain ⟨h1, h2⟩ := h _ _ e1
    exact h2 H vs Q ks.rep (q _ H o' (I'.scal h1))
theorem CR.l {r r' : List V → Hp → VK → Prop} {g : List D → Option D} (h : CR X r g) : CR X (fun xs H Q => r xs H Q ∨ r' xs H Q) g := fun ds f e => ⟨(h ds f e).1, fun H vs Q rr q => .inl ((h ds f e).2 H vs Q rr q)⟩
theorem CR.r {r r' : List V → Hp → VK → Prop} {g : List D → Option D} (h : CR X r' g) : CR X (fun xs H Q => r xs H Q ∨ r' xs H Q) g := fun ds f e => ⟨(h ds f e).1, fun H vs Q rr q => .inr ((h ds f e).2 H vs Q rr q)⟩
noncomputable def lenD : D → Option Int
  | .lst ds => some ds.length
  | .tup ds => some ds.length
  | .rd ns => some ns.length
  | .str s => chk (s.length ≤ sizeLine) (some s.length)
  | _ => none
noncomputable def gLen : List D → Option D
  | [d] => (lenD d).map .int | _ => none
theorem c_len : CB X (rLen X.K) (gC gLen) := CR.cb fun ds f h => by
  unfold gLen at h
  split at h
  · rename_i d
    cases el : lenD d with
    | none => rw [el] at h; cases h
    | some n =>
      rw [el] at h
      cases h
      refine ⟨rfl, fun H vs Q rr q => ?_⟩
      cases rr with
      | cons a b =>
        cases b
        cases a with
        | lst hh rr => cases el; exact ⟨_, _, rfl, .inl ⟨_, SqL.of hh, rr.length.symm⟩, q⟩
        | tup hh rr => cases el; exact ⟨_, _, rfl, .inr ⟨_, SqT.of hh, rr.length.symm⟩, q⟩
        | rd hh => cases el; exact ⟨_, _, rfl, .inl ⟨_, hh, by rw [List.length_map]⟩, q⟩
        | str s =>
          obtain ⟨hs, el⟩ := chk_some (show chk (s.length ≤ sizeLine) (some (s.length : Int)) = some n from el)
          cases el
          exact ⟨_, _, rfl, ⟨hs, rfl⟩, q⟩
        | _ => cases el
  · cases h
def gAbs : List D → Option D
  | [.int i] => some (.int i.natAbs) | _ => none
theorem c_abs : CB X rAbs (gC gAbs) := CR.cb fun ds f h => by
  unfold gAbs at h
  split at h
  · rename_i i
    cases h
    refine ⟨rfl, fun H vs Q rr q => ?_⟩
    cases rr with
    | cons a b =>
      cases b
      cases a
      have e : (if i < 0 then -i else i) = (i.natAbs : Int) := by split <;> omega
      exact ⟨i, rfl, by rw [e]; exact q⟩
  · cases h
noncomputable def gInt : List D → Option D
  | [.int i] => some (.int i)
  | [.bl b] => some (.int (if b then 1 else 0))
  | [.str s] => chk (s.length ≤ 640) ((PySem.intText? s).map .int)
  | _ => none
noncomputable def gStr : List D → Option D
  | [.int i] => chk (i.natAbs.log2 < 1920) (some (.str (decI i)))
  | _ => none
def intsD : List D → Option (List Int)
  | [] => some []
  | .int n :: ds => match intsD ds with
    | some ns => some (n :: ns) | none => none
  | _ => none
theorem intsD_eq : ∀ {ds : List D} {ns : List Int}, intsD ds = some ns → ds = ns.map .int
  | [], _, h => by cases h; rfl
  | d :: ds, ns, h => by
    cases d with
    | int n =>
      replace h : (match intsD ds with | some ns => some (n :: ns) | none => none) = some ns := h
      cases e : intsD ds with
      | none => rw [e] at h; cases h
      | some ms =>
        rw [e] at h
        cases h
        rw [intsD_eq e]
        rfl
    | _ => cases h
theorem intsD_map : ∀ ns : List Int, intsD (ns.map .int) = some ns
  | [] => rfl
  | n :: ns => by
    show (match intsD (ns.map .int) with | some ns => some (n :: ns) | none => none) = _
    rw [intsD_map ns]
def blsD : List D → Option (List Bool)
  | [] => some []
  | .bl n :: ds => match blsD ds with
    | some ns => some (n :: ns) | none => none
  | _ => none
theorem blsD_eq : ∀ {ds : List D} {ns : List Bool}, blsD ds = some ns → ds = ns.map .bl
  | [], _, h => by cases h; rfl
  | d :: ds, ns, h => by
    cases d with
    | bl n =>
      replace h : (match blsD ds with | some ns => some (n :: ns) | none => none) = some ns := h
      cases e : blsD ds with
      | none => rw [e] at h; cases h
      | some ms =>
        rw [e] at h
        cases h
        rw [blsD_eq e]
        rfl
    | _ => cases h
theorem blsD_map : ∀ ns : List Bool, blsD (ns.map .bl) = some ns
  | [] => rfl
  | n :: ns => by
    show (match blsD (ns.map .bl) with | some ns => some (n :: ns) | none => none) = _
    rw [blsD_map ns]
def intsOf : D → Option (List Int)
  | .lst ds => intsD ds | .rd ns => some ns | _ => none
theorem intsOf_sq {ns : List Int} (h : Rep K H v d) (e : intsOf d = some ns) : ∃ p, v = .ref p ∧ SqL K H p (ns.map V.int) := by
  cases h with
  | lst hh rr => rw [intsD_eq e] at rr; exact ⟨_, rfl, by rw [← rr.ints]; exact SqL.of hh⟩
  | rd hh => cases e; exact ⟨_, rfl, hh⟩
  | _ => cases e
def gSum : List D → Option D
  | [d] => match intsOf d with
    | some ns => some (.int ns.sum) | none => none
  | _ => none
def blsOf : D → Option (List Bool)
  | .lst ds => blsD ds | _ => none
theorem blsOf_sq {ns : List Bool} (h : Rep K H v d) (e : blsOf d = some ns) : ∃ p, v = .ref p ∧ SqL K H p (ns.map V.bl) := by
  cases h with
  | lst hh rr => rw [blsD_eq e] at rr; exact ⟨_, rfl, by rw [← rr.bls]; exact SqL.of hh⟩
  | _ => cases e
def gAny : List D → Option D
  | [d] => match blsOf d with
    | some ns => some (.bl (ns.any id)) | none => none
  | _ => none
def gAll : List D → Option D
  | [d] => match blsOf d with
    | some ns => some (.bl (ns.all id)) | none => none
  | _ => none
theorem c_all : CB X (rAll X.K) (gC gAll) := CR.cb fun ds f h => by
  unfold gAll at h
  split at h
  · split at h
    · rename_i ns e
      cases h
      refine ⟨rfl, fun H vs Q rr q => ?_⟩
      cases rr with
      | cons a b =>
        cases b
        obtain ⟨p, rfl, hs⟩ := blsOf_sq a e
        exact ⟨p, ns, rfl, hs, q⟩
    · cases h
  · cases h
def maxL : List Int → Int
  | [] => 0
  | n :: ns => ns.foldl max n
def minL : List Int → Int
  | [] => 0
  | n :: ns => ns.foldl min n
noncomputable def gMax : List D → Option D
  | [d] => match intsOf d with
    | some ns => chk (ns ≠ []) (some (.int (maxL ns))) | none => none
  | [.int a, .int b] => some (.int (max a b))
  | _ => none
noncomputable def gMin : List D → Option D
  | [d] => match intsOf d with
    | some ns => chk (ns ≠ []) (some (.int (minL ns))) | none => none
  | [.int a, .int b] => some (.int (min a b))
  | _ => none

noncomputable def gDivmod : List Kx → Option Kx := fun as => match (as.map (·.2) : List D) with
  | [.int a, .int b] => chk (0 < b ∧ DivOk a b) (some (.ow 0, .tup [.int (a / b), .int (a % b)]))
  | _ => none
def gList : List Kx → Option Kx := fun as => match as with
  | [a] => match listOf a.2 with
    | some ds => if itemsOk a ds = true then some (.ow 1, .lst ds) else some (.bw, .lst ds)
    | none => none
  | _ => none
def gTupOf : List Kx → Option Kx := fun as => match as with
  | [a] => match listOf a.2 with
    | some ds => if itemsOk a ds = true then some (.ow 0, .tup ds) else some (.bw, .tup ds)
    | none => none
  | _ => none
theorem Known.its {ds : List D} (I : Ok K B H0 Hf σ ρ τ H o) (h : Known K H (Av B o) v a) (e : listOf a.2 = some ds) : ∃ p vs, v = .ref p ∧ (SqL K H p vs ∨ SqT K H p vs) ∧ Reps K H vs ds ∧ (itemsOk a ds = true → Reps K (del H (Av B o)) vs ds) := by
  obtain ⟨k, d⟩ := a
  cases k with
  | bw =>
    have r : Rep K H v d := h
    obtain ⟨p, vs, rfl, hq, rr⟩ := listOf_sq r e
    exact ⟨p, vs, rfl, hq, rr, fun ok => Reps.flat (keep_av I) rr ok⟩
  | ow k =>
    have r : Rep K (del H (Av B o)) v d := h
    cases r with
    | lst hh rr => cases e; exact ⟨_, _, rfl, .inl (SqL.of (del_some.mp hh).2), rr.mono (del_same _ _), fun _ => rr⟩
    | tup hh rr => cases e; exact ⟨_, _, rfl, .inr (SqT.of (del_some.mp hh).2), rr.mono (del_same _ _), fun _ => rr⟩
    | rd hh => cases e; exact ⟨_, _, rfl, .inl ((del_same _ _).seq hh), .of_ints _, fun _ => .of_ints _⟩
    | _ => cases e
theorem c_list : CB X (rListA X.K) gList := fun as c e σ ρ τ H o vs l I Q q => by
  obtain ⟨o', I', ks⟩ := Ok.settles l I
  unfold gList at e
  split at e
  · rename_i a
    cases ks with
    | cons ka ks =>
      cases ks
      split at e
      · rename_i ds el
        obtain ⟨p, ws, rfl, hq, rr, st⟩ := ka.its I' el
        split at e
        · rename_i ok
          cases e
          exact ⟨p, ws, rfl, hq, fun p hp => q _ _ _ (I'.lsNew hp (st ok))⟩
        · cases e
          exact ⟨p, ws, rfl, hq, fun p hp => q _ _ o' ((I'.grow (same_upd _ hp)).push (t := tmp (.ref p) (.bw, .lst ds)) (.lst upd_same (rr.mono (same_upd _ hp))))⟩
      · cases e
  · cases e
def lstOf : D → Option (List D)
  | .lst ds => some ds | _ => none
def gTupL : List Kx → Option Kx := fun as => match as with
  | [a] => match lstOf a.2 with
    | some ds => if itemsOk a ds = true then some (.ow 0, .tup ds) else some (.bw, .tup ds)
    | none => none
  | _ => none
theorem op_repA : Op2 X rRep gRep := fun a b c e σ ρ τ H o x y I Q q => by
  obtain ⟨o', I', ka, kb⟩ := I.settle2
  unfold gRep at e
  split at e
  · rename_i ds n ea eb
    have rb := kb.rep
    rw [eb] at rb
    cases rb
    split at e
    · rename_i ok
      obtain ⟨hz, e⟩ := chk_some e
      cases e
      obtain ⟨_, _, e1, g1, s1⟩ := ka.items I' ea ok
      cases e1
      exact ⟨_, n, _, rfl, rfl, g1, hz.1, hz.2.1, by rw [s1.length]; exact hz.2.2, fun p hp => q _ _ _ (I'.lsNew hp (s1.rep _))⟩
    · cases e
  · cases e
theorem o_mul : Op2 X rMulA gMul := .gor (.l (o2_int fun d e f h => by
    unfold gMul0 at h
    split at h
    · obtain ⟨hc, h⟩ := chk_some h; cases h; exact ⟨_, _, rfl, rfl, hc, rfl, rfl⟩
    · cases h).op) (.r (.gor (.l op_repA) (.r (Op2R.op fun d e f h => by
    unfold gMulS0 at h
    split at h
    · rename_i s n
      obtain ⟨hz, h⟩ := chk_some h
      cases h
      exact ⟨rfl, fun H x y Q r1 r2 q => by cases r1; cases r2; exact ⟨s, n, rfl, rfl, hz, q⟩⟩
    · cases h))))
def insI (n : Int) : List Int → List Int
  | [] => [n]
  | m :: ms => if n ≤ m then n :: m :: ms else m :: insI n ms
def sortI : List Int → List Int
  | [] => []
  | n :: ns => insI n (sortI ns)
theorem insI_perm (n : Int) : ∀ ms : List Int, (insI n ms).Perm (n :: ms)
  | [] => .refl _
  | m :: ms => by
    unfold insI
    split
    · exact .refl _
    · exact ((insI_perm n ms).cons m).trans (List.Perm.swap ..)
theorem sortI_perm : ∀ ns : List Int, (sortI ns).Perm ns
  | [] => .refl _
  | n :: ns => (insI_perm n _).trans ((sortI_perm ns).cons n)
theorem insI_sorted (n : Int) : ∀ {ms : List Int}, ms.Pairwise (· ≤ ·) → (insI n ms).Pairwise (· ≤ ·)
  | [], _ => List.pairwise_singleton ..
  | m :: ms, h => by
    rw [List.pairwise_cons] at h
    unfold insI
    split
    · rename_i hn
      exact List.pairwise_cons.mpr ⟨fun y hy => by
        rcases List.mem_cons.mp hy with rfl | hy
        · exact hn
        · exact Int.le_trans hn (h.1 y hy), List.pairwise_cons.mpr h⟩
    · rename_i hn
      refine List.pairwise_cons.mpr ⟨fun y hy => ?_, insI_sorted n h.2⟩
      rcases List.mem_cons.mp ((insI_perm n ms).mem_iff.mp hy) with rfl | hy
      · omega
      · exact h.1 y hy
theorem sortI_sorted : ∀ ns : List Int, (sortI ns).Pairwise (· ≤ ·)
  | [] => .nil
  | n :: ns => insI_sorted n (sortI_sorted ns)
noncomputable def gSorted : List Kx → Option Kx := fun as => match as with
  | [a] => match intsOf a.2 with
    | some ns => chk (ns.length < 64) (some (.ow 1, .lst ((sortI ns).map .int))) | none => none
  | _ => none
theorem c_sorted : CB X (rSorted X.K) gSorted := fun as c e σ ρ τ H o vs l I Q q => by
  obtain ⟨o', I', ks⟩ := Ok.settles l I
  unfold gSorted at e
  split at e
  · rename_i a
    cases ks with
    | cons ka ks =>
      cases ks
      split at e
      · rename_i ns el
        obtain ⟨hl, e⟩ := chk_some e
        cases e
        obtain ⟨p, rfl, hs⟩ := intsOf_sq ka.rep el
        refine ⟨p, ns, rfl, hs, hl, fun ms p hp hs' hn => ?_⟩
        have e : ms = sortI ns := PySem.W.ksm_same (hp.trans (sortI_perm ns).symm) hs' (sortI_sorted ns)
        subst e
        exact q _ _ _ (I'.lsNew hn (.of_ints _))
      · cases e
  · cases e

def cutD (xs : List D) (lo hi : Option Int) : List D := (xs.drop (HT.sIx xs.length 0 lo)).take (HT.sIx xs.length xs.length hi - HT.sIx xs.length 0 lo)
theorem Reps.cut {vs : List V} {ds : List D} (r : Reps K H vs ds) (lo hi : Option Int) : Reps K H (cutV vs lo hi) (cutD ds lo hi) := by
  unfold cutV cutD
  rw [r.length]
  exact (r.drop _).take _
noncomputable def gSl (a : Kx) (lo hi : Option Int) : Option Kx := match a.2 with
  | .str s => chk (s.length ≤ sizeLine) (some (.ow 0, .str (cutS s lo hi)))
  | .lst ds => if itemsOk a ds = true then some (.ow 1, .lst (cutD ds lo hi)) else some (.bw, .lst (cutD ds lo hi))
  | .rd ns => some (.ow 1, .lst (cutD (ns.map .int) lo hi))
  | _ => none
def oNo : FO := fun ρ => some (.val none ρ)
def oSome (fe : FE) : FO := fun ρ => (fe ρ).bind fun a ρ1 => match a.2 with
  | .int n => some (.val (some n) ρ1) | _ => none
theorem so_some (he : SE X te fe) : SO X (tPart te) (oSome fe) := fun ρ z h σ τ H o I Q q => by
  have hx : ∀ x w, z = .exc x w → XW X x w := fun x w e => by subst e; exact q
  refine he.bindG h I hx fun a ρ1 x H1 o1 h1 I1 => ?_
  have ra := tmp_rep I1.top
  split at h1
  · rename_i n en
    rw [en] at ra
    cases ra
    cases h1
    exact ⟨n, rfl, q H1 o1 I1.pop⟩
  · cases h1
theorem SO.bindG {β : Type} {fo : FO} {to : TO} (h : SO X to fo) {g : Option Int → Env → R β} {z : Rs β} (e : (fo ρ).bind g = some z) (I : OkX X σ ρ τ H o) {P : Option Int → Hp → Prop} (hx : ∀ x w, z = .exc x w → XW X x w)
    (q : ∀ a ρ' H' o', g a ρ' = some z → OkX X σ ρ' τ H' o' → P a H') : to σ H P := by
  rcases R.bind_some e with ⟨x, w, e1, rfl⟩ | ⟨a, ρ', e1, e2⟩
  · exact h ρ _ e1 σ τ H o I P (hx x w rfl)
  · exact h ρ _ e1 σ τ H o I P fun H' o' J => q a ρ' H' o' e2 J
noncomputable def eSl (fe : FE) (fl fh : FO) : FE := fun ρ => (fe ρ).bind fun a ρ1 => (fl ρ1).bind fun lo ρ2 => (fh ρ2).bind fun hi ρ3 => match gSl a lo hi with
  | some c => some (.val c ρ3) | none => none
theorem se_sl {fl fh : FO} {tl th : TO} (he : SE X te fe) (hl : SO X tl fl) (hh : SO X th fh) : SE X (tSl (rSlA X.K) te tl th) (eSl fe fl fh) := fun ρ z h σ τ H o I Q q => by
  have hx : ∀ x w, z = .exc x w → XW X x w := fun x w e => by subst e; exact q
  refine he.bindG h I hx fun a ρ1 x H1 o1 h1 I1 => hl.bindG h1 I1 hx fun lo ρ2 H2 o2 h2 I2 => hh.bindG h2 I2 hx fun hi ρ3 H3 o3 h3 I3 => ?_
  cases eg : gSl a lo hi with
  | none => rw [eg] at h3; cases h3
  | some c =>
    rw [eg] at h3
    cases h3
    obtain ⟨o4, I4, ka⟩ := I3.settle1
    unfold gSl at eg
    split at eg
    · rename_i s es
      obtain ⟨hs, eg⟩ := chk_some eg
      cases eg
      have ra := ka.rep
      rw [es] at ra
      cases ra
      exact .inr ⟨s, rfl, hs, q _ H3 o4 (I4.scal (d := .str _) rfl)⟩
    · rename_i ds es
      have ra := ka.rep
      rw [es] at ra
      cases ra with
      | lst hh rr =>
        split at eg
        · rename_i ok
          cases eg
          obtain ⟨_, _, e1, g1, s1⟩ := ka.items I4 es ok
          cases e1
          exact .inl ⟨_, _, rfl, SqL.of g1, fun p hp => q _ _ _ (I4.lsNew hp (s1.cut lo hi))⟩
        · cases eg
          exact .inl ⟨_, _, rfl, SqL.of hh, fun p hp => q _ _ o4 ((I4.grow (same_upd _ hp)).push (t := tmp (.ref p) (.bw, .lst (cutD ds lo hi))) (.lst upd_same ((rr.cut lo hi).mono (same_upd _ hp))))⟩
    · rename_i ns es
      cases eg
      have ra := ka.rep
      rw [es] at ra
      cases ra with
      | rd hh => exact .inl ⟨_, _, rfl, hh, fun p hp => q _ _ _ (I4.lsNew hp ((Reps.of_ints ns).cut lo hi))⟩
    · cases eg
def gRevL (a : Kx) : Option Kx := match listOf a.2, a.2 with
  | some _, .tup _ => none
  | some ds, _ => if itemsOk a ds = true then some (.ow 1, .lst ds.reverse) else some (.bw, .lst ds.reverse)
  | none, _ => none
theorem Reps.reverse {vs : List V} {ds : List D} (h : Reps K H vs ds) : Reps K H vs.reverse ds.reverse := by
  induction vs generalizing ds with
  | nil => cases h; exact .nil
  | cons v vs ih =>
    cases h with
    | cons a b =>
      rw [List.reverse_cons, List.reverse_cons]
      exact (ih b).append (.cons a .nil)
def eRevL (fe : FE) : FE := fun ρ => (fe ρ).bind fun a ρ1 => match gRevL a with
  | some c => some (.val c ρ1) | none => none

def tyD : D → Option String
  | .non => some "NoneType" | .bl _ => some "bool" | .int _ => some "int" | .str _ => some "str" | .lst _ => some "list" | .tup _ => some "tuple" | .dic _ => some "dict" | _ => none
theorem rep_ty {t : String} (h : Rep K H v d) (e : tyD d = some t) : TyX K H v (.type t) := by
  cases h with
  | non => cases e; exact .base .non
  | bl b => cases e; exact .base (.bl b)
  | int b => cases e; exact .base (.int b)
  | str b => cases e; exact .base (.str b)
  | lst h _ => cases e; exact .base (.lst h)
  | tup h _ => cases e; exact .base (.tup h)
  | dic h _ => cases e; exact .base (.dK h)
  | _ => cases e
def gIsi : List D → Option D
  | [d, .ty n] => match tyD d with
    | some t => (kitB t n).map .bl | none => none
  | _ => none
theorem c_isi_CR : CR X (rIsi X.K) gIsi := fun ds f h => by
  unfold gIsi at h
  split at h
  · rename_i d n
    split at h
    · rename_i t et
      cases ek : kitB t n with
      | none => rw [ek] at h; cases h
      | some b =>
        rw [ek] at h
        cases h
        refine ⟨rfl, fun H vs Q rr q => ?_⟩
        cases rr with
        | cons r1 rr => cases rr with
          | cons r2 rr =>
            cases rr
            cases r2
            exact ⟨_, .ty n, .type t, .type n, b, rfl, .ty n, rep_ty r1 et, kit_ty ek, q⟩
    · cases h
  · cases h
theorem c_isi : CB X (rIsi X.K) (gC gIsi) := c_isi_CR.cb
end
end P
namespace P
open PySem L2
def iAny (K : PySem.W.Frag) (te : TE) : TI := fun σ H R => iList K te σ H R ∨ iTup K te σ H R ∨ iStr te σ H R
theorem PI.or {X : Cx} {tg e : Expr} {wi wi' : TI} (h : PI X tg e wi) (h' : PI X tg e wi') : PI X tg e (fun σ H R => wi σ H R ∨ wi' σ H R) :=
  ⟨fun pins s σ H R I q => q.elim (h.run pins s σ H R I) (h'.run pins s σ H R I)⟩
theorem pi_any {X : Cx} {K : PySem.W.Frag} {tg e : Expr} {te : TE} (h : X.K = K) (he : PE X e te) : PI X tg e (iAny K te) := h ▸ PI.or (pi_list he) (PI.or (pi_tup he) (pi_str he))
theorem pi_zipA {X : Cx} {K : PySem.W.Frag} {e e2 : Expr} {ta : TA} {p pos tpos : Pos} {elts : List Expr} {kk : Nat} (h : X.K = K) (hg : Gl X "zip") (hm : X.mg "zip" = none) (ha : PA X [e, e2] ta)
    (hs : starEach [e, e2] X.env = (false, eval e X.env) :: starEach [e2] X.env := by rfl) (hpl : (backTo pos (starEach [e2] X.env)).any (·.1) = false := by rfl) :
    PI X (.Tuple elts kk tpos) (.Call (.Name "zip" p) [e, e2] [] pos) (iZip K ta) := h ▸ pi_zip hg hm ha hs hpl
section
variable {X : Fx} {K : PySem.W.Frag} {B B' : Addr → Prop} {H0 H H' : Hp} {Hf : Bg} {σ σ' : St} {ρ ρ' : Env} {τ τ' : List T} {o o' : Own} {v w : V} {d e : D} {ta tb tc te to : TE} {fa fb fc fe : FE} {ts : TA} {fs : FA} {a b : Kx} {k : Nat}
abbrev sgn (c : Nat) : D := .str ⟨#[c]⟩
def seqOf (a : Kx) : Option (List D) := match a with
  | (.ow _, .lst ds) => some ds
  | (.ow _, .rd ns) => some (ns.map .int)
  | (.ow _, .tup ds) => some ds
  | (.bw, .tup ds) => if flats ds = true then some ds else none
  | (_, .str s) => some (s.cps.toList.map sgn)
  | _ => none
theorem walks_t {p : Addr} {ds : List D} : Walks X (Itt X.K p) ds [(.ref p, .tup ds)] := fun σ ρ τ H o i I hW => by
  have r := hW _ (List.mem_cons_self ..)
  cases r with
  | tup hh rr =>
    have hq : SqT X.K H p _ := SqT.of (del_some.mp hh).2
    refine ⟨fun hi => ⟨_, hq, by rw [rr.length]; exact hi⟩, fun d hd => ?_⟩
    obtain ⟨x, e1, e2⟩ := rr.get' hd
    refine ⟨⟨_, x, hq, e1⟩, fun x' H' y => ?_⟩
    obtain ⟨rfl, y⟩ := y
    have e := y _ hq
    rw [e1] at e
    cases e
    exact ⟨Same.refl _, I.stab e2⟩
theorem walks_s {x : Str} : Walks X (Its x) (x.cps.toList.map sgn) [] := fun σ ρ τ H o i I hW => by
  refine ⟨fun hi => ?_, fun d' hd' => ?_⟩
  · show x.cps.size ≤ i
    rw [List.length_map, Array.length_toList] at hi
    exact hi
  · rw [List.getElem?_map, Array.getElem?_toList] at hd'
    cases ec : x.cps[i]? with
    | none => rw [ec] at hd'; cases hd'
    | some k =>
      rw [ec] at hd'
      cases hd'
      refine ⟨?_, fun v H'' yy => ?_⟩
      · show i < x.cps.size
        exact (Array.getElem?_eq_some_iff.mp ec).1
      · obtain ⟨rfl, k', ek, rfl⟩ := yy
        rw [ec] at ek
        cases ek
        exact ⟨Same.refl _, I.stab (.str _)⟩
def iSeq (fe : FE) : FI := fun ρ => (fe ρ).bind fun a ρ1 => match seqOf a with
  | some ds => some (.val ds ρ1) | none => none
theorem si_any (he : SE X te fe) : SI X (iAny X.K te) (iSeq fe) := fun ρ z h σ τ H o I Q q => by
  have hx : ∀ x w, z = .exc x w → XW X x w := fun x w e => by subst e; exact q
  unfold iSeq at h
  rcases R.bind_some h with ⟨x, w, e1, rfl⟩ | ⟨a, ρ1, e1, h1⟩
  · exact .inl (he ρ _ e1 σ τ H o I _ q)
  cases e : seqOf a with
  | none => rw [e] at h1; cases h1
  | some ds =>
    rw [e] at h1
    cases h1
    unfold seqOf at e
    split at e
    · cases e
      refine .inl (he ρ _ e1 σ τ H o I _ fun v H1 o1 I1 => ?_)
      obtain ⟨o2, I2, ka⟩ := I1.settle1
      have r : Rep X.K (del H1 (Av X.B o2)) v (.lst ds) := ka
      cases r with
      | lst hh rr =>
        refine ⟨_, rfl, ⟨_, SqL.of (del_some.mp hh).2⟩, q _ _ H1 o2 walks_l I2 fun p hp => ?_⟩
        rw [List.mem_singleton.mp hp]
        exact .lst hh rr
    · rename_i ns
      cases e
      refine .inl (he ρ _ e1 σ τ H o I _ fun v H1 o1 I1 => ?_)
      obtain ⟨o2, I2, ka⟩ := I1.settle1
      have r : Rep X.K (del H1 (Av X.B o2)) v (.rd ns) := ka
      cases r with
      | rd hh =>
        refine ⟨_, rfl, ⟨_, (del_same _ _).seq hh⟩, q _ _ H1 o2 walks_rd I2 fun p hp => ?_⟩
        rw [List.mem_singleton.mp hp]
        exact .rd hh
    · cases e
      refine .inr (.inl (he ρ _ e1 σ τ H o I _ fun v H1 o1 I1 => ?_))
      obtain ⟨o2, I2, ka⟩ := I1.settle1
      have r : Rep X.K (del H1 (Av X.B o2)) v (.tup ds) := ka
      cases r with
      | tup hh rr =>
        refine ⟨_, rfl, ⟨_, SqT.of (del_some.mp hh).2⟩, q _ _ H1 o2 walks_t I2 fun p hp => ?_⟩
        rw [List.mem_singleton.mp hp]
        exact .tup hh rr
    · rename_i es
      split at e
      · rename_i hf
        cases e
        refine .inr (.inl (he ρ _ e1 σ τ H o I _ fun v H1 o1 I1 => ?_))
        obtain ⟨o2, I2, ka⟩ := I1.settle1
        have r : Rep X.K H1 v (.tup ds) := ka
        have r' : Rep X.K (del H1 (Av X.B o2)) v (.tup ds) := r.flat (keep_av I2) hf
        cases r' with
        | tup hh rr =>
          refine ⟨_, rfl, ⟨_, SqT.of (del_some.mp hh).2⟩, q _ _ H1 o2 walks_t I2 fun p hp => ?_⟩
          rw [List.mem_singleton.mp hp]
          exact .tup hh rr
      · cases e
    · rename_i kk s
      cases e
      refine .inr (.inr (he ρ _ e1 σ τ H o I _ fun v H1 o1 I1 => ?_))
      have r := tmp_rep I1.top
      cases r
      exact ⟨s, rfl, q _ [] H1 o1 walks_s I1.pop fun p hp => nomatch hp⟩
    · cases e

def zipD (ds es : List D) : List D := (ds.zip es).map fun p => .tup [p.1, p.2]
theorem walks_zip {p p' : Addr} {d e : D} {ds es : List D} (hd : lstD (.ow 0, d) = some ds) (he : lstD (.ow 0, e) = some es) : Walks X (Itz X.K p p') (zipD ds es) [(.ref p, d), (.ref p', e)] := fun σ ρ τ H o i I hW => by
  have get : ∀ (a : Addr) (d : D) (ds : List D), lstD (.ow 0, d) = some ds → Rep X.K (del H (Av X.B o)) (.ref a) d → ∃ vs, SqL X.K H a vs ∧ Reps X.K (del H (Av X.B o)) vs ds := fun a d ds hd rv => by
    cases rv with
    | lst hh rr => cases hd; exact ⟨_, SqL.of (del_some.mp hh).2, rr⟩
    | rd hh => cases hd; exact ⟨_, (del_same _ _).seq hh, .of_ints _⟩
    | _ => cases hd
  obtain ⟨vs, hq, rr⟩ := get p d ds hd (hW _ (List.mem_cons_self ..))
  obtain ⟨ws, hq', rr'⟩ := get p' e es he (hW _ (List.mem_cons_of_mem _ (List.mem_cons_self ..)))
  refine ⟨fun hi => ⟨vs, ws, hq, hq', ?_⟩, fun y hy => ?_⟩
  · unfold zipD at hi
    rw [List.length_map, List.length_zip] at hi
    rw [rr.length, rr'.length]
    omega
  · unfold zipD at hy
    rw [List.getElem?_map] at hy
    cases ez : (ds.zip es)[i]? with
    | none => rw [ez] at hy; cases hy
    | some z =>
      rw [ez] at hy
      cases hy
      obtain ⟨e1, e2⟩ := List.getElem?_zip_eq_some.mp ez
      obtain ⟨x, f1, f2⟩ := rr.get' e1
      obtain ⟨x', g1, g2⟩ := rr'.get' e2
      refine ⟨⟨vs, ws, x, x', hq, hq', f1, g1⟩, fun v H' y => ?_⟩
      obtain ⟨T, y1, y2, rfl, hT, rfl, q1, q2⟩ := y
      have k1 := q1 vs hq
      have k2 := q2 ws hq'
      rw [f1] at k1
      rw [g1] at k2
      cases k1
      cases k2
      exact ⟨same_upd _ hT, I.stNew hT rfl fun H' e e2 => .tup e2 (.cons (f2.mono e) (.cons (g2.mono e) .nil))⟩
theorem lstD_ow {d : D} {k : Nat} : lstD (.ow k, d) = lstD (.ow 0, d) := by cases d <;> rfl
def iZ (fa fb : FE) : FI := fun ρ => (fa ρ).bind fun a ρ1 => (fb ρ1).bind fun b ρ2 => match lstD a, lstD b with
  | some ds, some es => some (.val (zipD ds es) ρ2)
  | _, _ => none
theorem si_zip (ha : SE X ta fa) (hb : SE X tb fb) : SI X (iZip X.K (tCons ta (tCons tb tNil))) (iZ fa fb) := fun ρ z h σ τ H o I Q q => by
  have hx : ∀ x w, z = .exc x w → XW X x w := fun x w e => by subst e; exact q
  refine ha.bindI h I hx fun a ρ1 v H1 o1 h1 I1 => hb.bindI h1 I1 hx fun b ρ2 w H2 o2 h2 I2 => ?_
  obtain ⟨o', I', ka, kb⟩ := I2.settle2
  obtain ⟨k1, d1⟩ := a
  obtain ⟨k2, d2⟩ := b
  split at h2
  · rename_i ds es ea eb
    cases h2
    cases k1 with
    | bw => cases ea
    | ow k1 =>
    cases k2 with
    | bw => cases eb
    | ow k2 =>
    rw [lstD_ow] at ea eb
    have ra : Rep X.K (del H2 (Av X.B o')) v d1 := ka
    have rb : Rep X.K (del H2 (Av X.B o')) w d2 := kb
    have get : ∀ (x : V) (d : D) (ds : List D), lstD (.ow 0, d) = some ds → Rep X.K (del H2 (Av X.B o')) x d → ∃ a vs, x = .ref a ∧ SqL X.K H2 a vs := fun a d ds hd rv => by
      cases rv with
      | lst hh rr => exact ⟨_, _, rfl, SqL.of (del_some.mp hh).2⟩
      | rd hh => exact ⟨_, _, rfl, (del_same _ _).seq hh⟩
      | _ => cases hd
    obtain ⟨p, xs, rfl, hx⟩ := get _ d1 ds ea ra
    obtain ⟨p', ys, rfl, hy⟩ := get _ d2 es eb rb
    refine ⟨p, p', xs, ys, rfl, hx, hy, q _ _ H2 o' (walks_zip ea eb) I' fun z hz => ?_⟩
    rcases List.mem_cons.mp hz with rfl | hz
    · exact ra
    · rw [List.mem_singleton.mp hz]
      exact rb
  · cases h2

def gF (i : Nat) : FG := fun a ρ => match a.1 with
  | .ow _ => some (ρ.set i (.ow 0 a.2)) | .bw => if flat a.2 = true then some (ρ.set i (.ow 0 a.2)) else none
theorem sg_nameF {i : Nat} {js : List Nat} (hi : i ∈ js) : SG X js (gName i) (gF i) := fun a ρ ρ' h σ τ H o v I Q q => by
  obtain ⟨o', I', ka⟩ := I.settle1
  obtain ⟨k, d⟩ := a
  cases k with
  | ow k => cases h; exact q _ H _ (Ok.set (k := 0) (I'.stab ka) i) (.of_set _ _ _ hi)
  | bw =>
    unfold gF at h
    dsimp only at h
    split at h
    · rename_i hf
      cases h
      exact q _ H _ (Ok.set (I.pop.flatP (tmp_rep I.top) hf) i) (.of_set _ _ _ hi)
    · cases h
end
end P
namespace P
open PySem L2
/-- an own class of errors without __init__ -/
structure ErrC (K : PySem.W.Frag) (mg : Str → Option Value) (x : Str) : Prop where
  ex : ∃ C, mg x = some (.ref C) ∧ PySem.W.nsIn K mainGlobals x = some (some (.ref C)) ∧ PySem.W.excIn K C [.type "ValueError", .type "Exception", .type "BaseException", .type "object"] "ValueError.__new__" = true ∧ PySem.W.keepIn K (.ref C) = true ∧ PySem.W.subIn K (.ref C) (.type "BaseException") = some true ∧ PySem.W.typeIn K (.ref C) = some (.type "type")
def tRaiseN (K : PySem.W.Frag) (x : Str) (W : WX) : TS := fun _ σ H => ∀ C, PySem.W.nsIn K mainGlobals x = some (some (.ref C)) → W (.ref C) none σ H
section
variable {X : Cx} {x m : Str} {p p2 pos pos2 : Pos} {W : WX}
theorem ps_raiseN {jj : Nat} (hc : X.calm = true) (T : ErrC X.K X.mg x) (tk : Takes X W) (hg : Gl X x) (hdb : (x == ("__debug__" : Str)) = false := by decide) :
    PS X (.Raise (some (.Call (.Name x p) [.Constant (.str m) jj p2] [] pos)) none pos2) (tRaiseN X.K x W) := by
  obtain ⟨C, g1, g2, g3, g4, g5, g6⟩ := T.ex
  have R := ps_raise (pos := pos2) hc tk (pmk_own (m := m) (j := jj) (p := p) (p2 := p2) (pos := pos) PySem.F.excBase_ValueError g3 g1 g4 (raises_own g5 g6) hg hdb)
  exact ⟨fun pins s σ H D I h => R.run pins s σ H D I (h C g2)⟩
end
def sRaise (x : Str) : FS := fun _ => some (.exc x none)
section
variable {X : Fx} {x : Str}
theorem ss_raise : SS X (tRaiseN X.K x (fun cls d _ H => X.E cls d H)) (sRaise x) := fun ρ fl h σ τ H o h0f nb I D q => by
  cases h
  exact fun C n => q C H n I.sm
end

section
variable {X : Fx} {K : PySem.W.Frag} {σ : St} {ρ : Env} {τ : List T} {H : Hp} {o : Own} {ta tb tc te : TE} {fa fb fc fe : FE} {r r' : R2}
def eNeg (fe : FE) : FE := fun ρ => (fe ρ).bind fun a ρ1 => match a.2 with
  | .int n => some (.val (.ow 0, .int (-n)) ρ1) | _ => none
theorem se_neg (he : SE X te fe) : SE X (tUn (rU fun i => .int (-i)) te) (eNeg fe) := fun ρ z h σ τ H o I Q q => by
  have hx : ∀ x w, z = .exc x w → XW X x w := fun x w e => by subst e; exact q
  refine he.bindG h I hx fun a ρ1 x H1 o1 h1 I1 => ?_
  have ra := tmp_rep I1.top
  split at h1
  · rename_i n en
    rw [en] at ra
    cases ra
    cases h1
    exact ⟨n, rfl, q _ H1 o1 (I1.pop.scal (d := .int (-n)) rfl)⟩
  · cases h1
def eChain (g g' : Kx → Kx → Option Kx) (fa fb fc : FE) : FE := fun ρ => (fa ρ).bind fun a ρ1 => (fb ρ1).bind fun b ρ2 => if (isS a.2 && isS b.2) = true then (match g (.ow 0, a.2) (.ow 0, b.2) with
  | some (_, .bl true) => (fc ρ2).bind fun c ρ3 => match g' (.ow 0, b.2) c with
    | some z => some (.val z ρ3) | none => none
  | some (_, .bl false) => some (.val (.ow 0, .bl false) ρ2)
  | _ => none) else none
end
theorem call_isiA {X : Cx} {K : PySem.W.Frag} (h : X.K = K) : CallR X (.builtin "isinstance") (rIsi K) := h ▸ call_isi
end P
namespace P
open PySem L2
section
variable {X : Cx} {K : PySem.W.Frag} {o e : Expr} {to te : TE} {apos pos : Pos}
end
section
variable {X : Fx} {K : PySem.W.Frag} {B B' : Addr → Prop} {H0 H H' : Hp} {Hf : Bg} {σ σ' : St} {ρ ρ' : Env} {τ τ' : List T} {o o' : Own} {v w : V} {d e : D} {ta tb tc te to : TE} {fa fb fc fe fo : FE} {ts : TA} {fs : FA} {a b : Kx} {k : Nat}
def eM1 (g : Str → Kx → Option Kx) (fo fe : FE) : FE := fun ρ => (fo ρ).bind fun a ρ1 => match a.2 with
  | .str s => (fe ρ1).bind fun b ρ2 => match g s b with
    | some c => some (.val c ρ2) | none => none
  | _ => none
def strsD : List D → Option (List Str)
  | [] => some []
  | .str n :: ds => match strsD ds with
    | some ns => some (n :: ns) | none => none
  | _ => none
noncomputable def gJoin : Str → Kx → Option Kx := fun s b => match b.2 with
  | .lst ds => match strsD ds with
    | some ys => chk ((ys.map (·.length)).sum + ys.length * s.length ≤ 16777216) (some (.ow 0, .str (Txt.join s ys)))
    | none => none
  | _ => none
noncomputable def gSplitS : Str → Kx → Option Kx := fun s b => match b.2 with
  | .str z => chk ((z.length == 0) = false ∧ s.length + 2 ≤ sizeLine) (some (.ow 1, .lst ((Txt.split s z).map .str)))
  | _ => none
def gFind : Str → Kx → Option Kx := fun s b => match b.2 with
  | .str z => some (.ow 0, .int (Txt.find s z)) | _ => none
noncomputable def gPart : Str → Kx → Option Kx := fun s b => match b.2 with
  | .str z => chk ((z.length == 0) = false ∧ s.length ≤ sizeLine) (some (.ow 0, .tup [.str (Txt.partition s z).1, .str (Txt.partition s z).2.1, .str (Txt.partition s z).2.2]))
  | _ => none
noncomputable def eJoin (fo fe : FE) : FE := eM1 gJoin fo fe
noncomputable def eSplit (fo fe : FE) : FE := eM1 gSplitS fo fe
def eFind (fo fe : FE) : FE := eM1 gFind fo fe
noncomputable def ePart (fo fe : FE) : FE := eM1 gPart fo fe

abbrev FJ := Str → Env → R Str
def jNil : FJ := fun acc ρ => some (.val acc ρ)
noncomputable def jStr (s : Str) (fj : FJ) : FJ := fun acc ρ => chk ((acc ++ s).length ≤ sizeLine) (fj (acc ++ s) ρ)
noncomputable def jFmt (fe : FE) (fj : FJ) : FJ := fun acc ρ => (fe ρ).bind fun a ρ1 => match a.2 with
  | .str s => chk (s.length ≤ sizeLine ∧ (acc ++ s).length ≤ sizeLine) (fj (acc ++ s) ρ1)
  | .int i => chk (i.natAbs.log2 < 1920 ∧ (acc ++ decI i).length ≤ sizeLine) (fj (acc ++ decI i) ρ1)
  | _ => none
def eJoined (fj : FJ) : FE := fun ρ => (fj Str.empty ρ).bind fun s ρ1 => some (.val (.ow 0, .str s) ρ1)

end
end P
namespace P
open PySem L2
section
variable {X : Cx} {pins : List (Addr × Obj)} {σ : L2.St} {H : Hp} {s : Shared}
end
section
variable {X : Cx} {pins : List (Addr × Obj)}
structure Lies (X : Cx) (pins : List (Addr × Obj)) (a : Addr) : Prop where
  loc : a ≠ X.env.locals
  fs : a ∉ X.fs
  fresh : X.s_0.heap.get? a = none
  apart : ∀ p, p ∈ X.pn ++ pins → p.1 ≠ a
variable {x n : Str} {c : Value} {i : Nat} {body suite : List Stmt} {b₀ : Stmt} {px p1 p2 : Pos} {tb : WX → TS} {ts : Addr → Value → Option Addr → TS} {Wout : WX}
end

section
variable {X : Cx} {e : Expr} {es : List Expr} {t : TA} {x : Str} {p p2 pos pos2 : Pos} {k kk : Nat} {ps : List Str} {run : Run} {E : XK}
end
def setO (fg : Option Nat) (ρ : Env) (k : Nat) (d : D) : Env := match fg with
  | none => ρ | some l => ρ.set l (.ow k d)
def sTryK (is : Str → Option Bool) (i j : Nat) (fg : Option Nat) (run : Run) (fs : FA) : FS := fun ρ => match fs ρ with
  | none => none
  | some (.exc x w) => some (.exc x w)
  | some (.val as ρ1) => match run (as.map (·.2)) with
    | none => none
    | some (.ret k d) => if as.all stb' = true then some (.nxt (setO fg ρ1 k d)) else if cov k d = true then some (.nxt (setO fg ρ1 k d)) else none
    | some (.exc x w) => if ((as.all stb' || flatX w) && decide (i < ρ1.length)) = true then (match is x with
      | some true => some (.nxt ((ρ1.set j (.ow 0 (.xo x w))).set i .no))
      | some false => some (.exc x w)
      | none => none) else none
section
variable {X : Fx} {K : PySem.W.Frag} {B B' : Addr → Prop} {H0 H H' : Hp} {Hf : Bg} {σ σ' : St} {ρ ρ' : Env} {τ τ' : List T} {o o' : Own} {v w : V} {d : D} {ts : TA} {fs : FA}
end

/-- what is known of the classes of errors: of each in rs, whether it is one of cl -/
structure ErrTab (K : PySem.W.Frag) (cl rs : List Str) (isa : Str → Str → Bool) : Prop where
  kit : ∀ x y, x ∈ rs → y ∈ cl → ∀ D C, PySem.W.nsIn K mainGlobals x = some (some (.ref D)) → PySem.W.nsIn K mainGlobals y = some (some (.ref C)) → PySem.W.kitOne K (.ref D) (.ref C) = some (isa x y)
  ve : ∀ x, x ∈ rs → ∀ D, PySem.W.nsIn K mainGlobals x = some (some (.ref D)) → PySem.W.kitOne K (.ref D) (.type "ValueError") = some true
  ok : ∀ x, x ∈ rs → ∀ D, PySem.W.nsIn K mainGlobals x = some (some (.ref D)) → ExcC K D
  exm : ∀ x y, x ∈ rs → y ∈ cl → ∀ D C, PySem.W.nsIn K mainGlobals x = some (some (.ref D)) → PySem.W.nsIn K mainGlobals y = some (some (.ref C)) → PySem.W.exmOne K (.ref D) (.ref C) = some (isa x y)
end P
namespace P
open PySem L2
section
variable {X : Fx} {K : PySem.W.Frag} {B B' : Addr → Prop} {H0 H H' : Hp} {Hf : Bg} {σ σ' : St} {ρ ρ' : Env} {τ τ' : List T} {o o' : Own} {v w : V} {d e : D} {ta tb tc te to : TE} {fa fb fc fe fo : FE} {ts : TA} {fs : FA} {a b : Kx} {k : Nat}
def eDnew : FE := fun ρ => some (.val (.ow 1, .dic []) ρ)
def eDic1 (x y : Str) : FE := fun ρ => some (.val (.ow 1, .dic [(.inr x, .str y)]) ρ)
end
end P
namespace P
open PySem L2
/-- what is known of the program's own classes: cs their names, fld which names are no class's, isa who is whose -/
structure InsTab (K : PySem.W.Frag) (cs : List Str) (fld isa : Str → Str → Bool) : Prop where
  cl : ∀ x, x ∈ cs → ∀ C, PySem.W.nsIn K mainGlobals x = some (some (.ref C)) → Cls K C
  na : ∀ x f, fld x f = true → x ∈ cs ∧ ∀ C, PySem.W.nsIn K mainGlobals x = some (some (.ref C)) → NoAttr K C f
  ha : ∀ x, x ∈ cs → ∀ C, PySem.W.nsIn K mainGlobals x = some (some (.ref C)) → PySem.W.findIn K (.ref C) "__class__" = some (some (.builtin "object.__class__")) ∧ PySem.W.mroIn K C (.type "object") = some true
  hn : PySem.W.specialIn K (.builtin "object.__class__") "__get__" = some (some (.builtin "getset_descriptor.__get__"))
  hk : PySem.W.takesIn K (.builtin "object.__class__") = some true
  is : ∀ x y, x ∈ cs → y ∈ cs → ∀ C D, PySem.W.nsIn K mainGlobals x = some (some (.ref C)) → PySem.W.nsIn K mainGlobals y = some (some (.ref D)) → PySem.W.kitOne K (.ref C) (.ref D) = some (isa x y)
section
variable {X : Fx} {K : PySem.W.Frag} {B B' : Addr → Prop} {H0 H H' : Hp} {Hf : Bg} {σ σ' : St} {ρ ρ' : Env} {τ τ' : List T} {o o' : Own} {v w : V} {d e : D} {ta tb tc te to : TE} {fa fb fc fe fo : FE} {ts : TA} {fs : FA} {a b : Kx} {k : Nat} {cs : List Str} {fld isa : Str → Str → Bool}
def eFld (fld : Str → Str → Bool) (fe : FE) (f : Str) : FE := fun ρ => (fe ρ).bind fun a ρ1 => match a.2 with
  | .ins x gs => if fld x f = true then (gs.lookup f).map fun d => .val (kPart a.1 d, d) ρ1 else none
  | _ => none
end
end P
namespace P
open PySem L2

def entryI (kk : Nat) (cn : Str) (ds : List D) (n : Nat) : Env := .me (kk + 1) (.ins cn []) :: entryE ds n
def runI (kk m n : Nat) (f : FS) : Str → Run := fun cn ds => if ds.length = m then (match f (entryI kk cn ds n) with
  | some (.nxt ρ) => match (ρ[0]? : Option Sl) with
    | some (Sl.me k d) => some (.ret k d)
    | _ => none
  | some (.exc x w) => some (.exc x w)
  | _ => none) else none
noncomputable abbrev hid (H : Hp) (x : Addr) : Hp := del H (fun a => a = x)
def WtI (K : PySem.W.Frag) (B : Addr → Prop) (H0 : Hp) (x : Addr) (Q : VK) (E : XK) : Out → Prop
  | .ret k d => ∀ H' o, Ok K B H0 ⟨H0, [], fun _ => .ref x⟩ [] [] [⟨.ref x, .ow k, d⟩] H' o → Q .non H'
  | .exc y w => XW ⟨K, B, H0, ⟨H0, [], fun _ => .ref x⟩, E⟩ y w
def spI (K : PySem.W.Frag) (run : Str → Run) : Sp := fun vs H Q E => ∃ (B : Addr → Prop) (ds : List D) (r : Out) (cn : Str) (C dx x : Addr) (ws : List V), vs = .ref x :: ws ∧ PySem.W.nsIn K mainGlobals cn = some (some (.ref C)) ∧ H x = some (.ins C dx []) ∧
  (∀ a, B a → Mu (hid H x) a) ∧ Reps K (del (hid H x) B) ws ds ∧ run cn ds = some r ∧ WtI K B (hid H x) x Q E r
section
variable {P : Program} {w : World} {K : PySem.W.Frag} {mg : Str → Option Value} {base : Heap}
end

def keysF (gs : List (Str × D)) : List Str := gs.map (·.1)
noncomputable def sFldN (fld : Str → Str → Bool) (fp : FP) (f : Str) (fe : FE) : FS := fun ρ => (fe ρ).toF fun a ρ1 => match fp ρ1 with
  | none => none
  | some (.exc x w) => some (.exc x w)
  | some (.val z ρ2) => match look ρ2 z.1 with
      | none => none
      | some (k0, d0) => match getK k0 d0 z.2 with
        | some (k + 1, .ins x gs) => if (fld x f && !(keysF gs).contains f && okItem k a && decide (gs.length < 1000)) = true then some (.nxt (setK ρ2 z.1 k0 (putK d0 z.2 (.ins x (gs ++ [(f, a.2)]))))) else none
        | _ => none
section
variable {X : Fx} {K : PySem.W.Frag} {A A' B B' : Addr → Prop} {H0 H H' : Hp} {Hf : Bg} {σ σ' : St} {ρ ρ' : Env} {τ τ' : List T} {o o' : Own} {v w : V} {d e : D} {ta tb tc te to : TE} {fa fb fc fe : FE} {a b : Kx} {k : Nat} {r r' : Root} {p p' q : List Nat} {fp : FP} {cs : List Str} {fld isa : Str → Str → Bool}

def eMake (run : Str → Run) (cn : Str) (fs : FA) : FE := fun ρ => (fs ρ).bind fun as ρ1 => if as.all stb' = true then (match run cn (as.map (·.2)) with
  | none => none
  | some (.ret k d) => some (.val (.ow k, d) ρ1)
  | some (.exc x w) => some (.exc x w)) else none

def sBase1 (run : Str → Run) (fs : FA) : FS := fun ρ => match fs ρ with
  | none => none
  | some (.exc x w) => some (.exc x w)
  | some (.val as ρ1) => if as.all stb' = true then (match (ρ1[0]? : Option Sl) with
    | some (Sl.me (_ + 1) (.ins cn [])) => (match run cn (as.map (·.2)) with
      | none => none
      | some (.ret k d) => some (.nxt (ρ1.set 0 (.me k d)))
      | some (.exc x w) => some (.exc x w))
    | _ => none) else none
def isMe : Option Sl → Bool
  | some (.me _ _) => true | _ => false
def sBase (run : Str → Run) (fs : FA) : FS := fun ρ => if isMe ρ[0]? = true then sBase1 run fs ρ else none
end
end P
namespace P
open PySem L2

abbrev MTab := Addr → Sp → Prop
section
variable {X : Cx} {k : Nat} {tab : MTab} {E : XK} {m : Str} {pos apos : Pos} {e o : Expr} {es : List Expr} {ta : TE} {t : TA}
end
section
variable {X : Fx} {K : PySem.W.Frag} {B B' : Addr → Prop} {H0 H H' : Hp} {Hf : Bg} {σ σ' : St} {ρ ρ' : Env} {τ τ' : List T} {o o' : Own} {v w : V} {d e : D} {ta tb tc te to : TE} {fa fb fc fe fo : FE} {ts : TA} {fs : FA} {a b : Kx} {k : Nat}
def callR (run : Run) (as : List Kx) (ρ : Env) : R Kx := match run (as.map (·.2)) with
  | none => none
  | some (.ret k d) => if as.all stb' = true then some (.val (.ow k, d) ρ) else if cov k d = true then some (.val (.ow k, d) ρ) else none
  | some (.exc x w) => if as.all stb' = true then some (.exc x w) else if flatX w = true then some (.exc x w) else none
def eMeth (runs : Str → Option Run) (m : Str) (fe : FE) (fs : FA) : FE := fun ρ => (fe ρ).bind fun a ρ1 => match a.2 with
  | .ins x gs => match runs x, gs.lookup m with
    | some run, none => (fs ρ1).bind fun as ρ2 => callR run (a :: as) ρ2
    | _, _ => none
  | _ => none
def pFld (fld : Str → Str → Bool) (fp : FP) (f : Str) : FP := fun ρ => (fp ρ).bind fun z ρ1 => match nodeL ρ1 z.1 z.2 with
  | some (_ + 1, .ins x gs) => if fld x f = true then ((keysF gs).findIdx? (· == f)).map fun j => .val (z.1, z.2 ++ [j]) ρ1 else none
  | _ => none
end
section
variable {X : Cx} {K : PySem.W.Frag} {k lv : Nat} {tab : MTab} {E : XK} {m f : Str} {pos apos : Pos} {e o : Expr} {es : List Expr} {ta : TE} {t : TA}
end
/-- what callers know of a class's __init__: the class at C -/
structure Gm (P : Program) (w : World) (K : PySem.W.Frag) (mg : Str → Option Value) (base : Heap) (C : Addr) (k : Nat) (ps : List Str) (run : Str → Run) : Prop where
  ex : ∃ f fd, L2.Mk K C f ∧ ClX.CRead K C (.type "type") ∧ PySem.W.findCls K (.ref C) (.type "type") "__init__" = some (.val (.ref f)) ∧ PySem.W.keepIn K (.ref f) = true ∧ FnOk P w K mg base (L2.CX P w) k f fd ps (spI K run) ∧ Binds K fd ps []
section
variable {X : Cx} {K : PySem.W.Frag} {C : Addr} {e o : Expr} {es : List Expr} {t : TA} {x : Str} {p pos apos : Pos} {k j kk : Nat} {ps : List Str} {run : Str → Run} {E : XK}
end
end P
namespace P
open PySem L2

def keyOf : D → Option Key
  | .int i => some (.inl i) | .str s => some (.inr s) | _ => none
def keyD : Key → D
  | .inl i => .int i | .inr s => .str s
def valD (kds : List (Key × D)) (k : Key) : Option D := (kds.find? fun kv => decide (kv.1 = k)).map (·.2)
def putD (kds : List (Key × D)) (k : Key) (d : D) : List (Key × D) := if (kds.any fun kv => decide (kv.1 = k)) = true then kds.map (fun kv => if kv.1 = k then (kv.1, d) else kv) else kds ++ [(k, d)]
def itemsD (kds : List (Key × D)) : List D := kds.map fun kv => .tup [keyD kv.1, kv.2]
def isDic : D → Bool
  | .dic _ => true | _ => false
section
variable {X : Fx} {K : PySem.W.Frag} {A B B' : Addr → Prop} {H0 H H' : Hp} {Hf : Bg} {σ σ' : St} {ρ ρ' : Env} {τ τ' : List T} {o o' : Own} {v w : V} {d e : D} {ta tb tc te to : TE} {fa fb fc fe fo : FE} {ts : TA} {fs : FA} {a b : Kx} {k : Nat} {tt : TT} {ft : FT} {fp : FP}
theorem Rep.key {key : Key} (r : Rep K H v d) (h : keyOf d = some key) : v = kV key := by
  cases r <;> first | cases h; done | skip
  all_goals (cases h; rfl)
theorem Rep.keyD (key : Key) : Rep K H (kV key) (P.keyD key) := by
  cases key with
  | inl i => exact .int i
  | inr s => exact .str s
theorem RepK.any {key : Key} : ∀ {kvs : List (Key × V)} {kds : List (Key × D)}, RepK K H kvs kds → (kvs.any fun kv => decide (kv.1 = key)) = (kds.any fun kv => decide (kv.1 = key))
  | _, _, .nil => rfl
  | _, _, .cons _ b => by rw [List.any_cons, List.any_cons, b.any]
theorem RepK.len : ∀ {kvs : List (Key × V)} {kds : List (Key × D)}, RepK K H kvs kds → kvs.length = kds.length
  | _, _, .nil => rfl
  | _, _, .cons _ b => congrArg (· + 1) b.len
theorem RepK.app {kvs kvs' : List (Key × V)} {kds kds' : List (Key × D)} (h : RepK K H kvs kds) (h' : RepK K H kvs' kds') : RepK K H (kvs ++ kvs') (kds ++ kds') := by
  induction kvs generalizing kds with
  | nil => cases h; exact h'
  | cons p kvs ih => cases h with | cons a b => exact .cons a (ih b)
theorem RepK.mapk {key : Key} (r : Rep K H v d) : ∀ {kvs : List (Key × V)} {kds : List (Key × D)}, RepK K H kvs kds → RepK K H (kvs.map fun kv => if kv.1 = key then (kv.1, v) else kv) (kds.map fun kv => if kv.1 = key then (kv.1, d) else kv)
  | _, _, .nil => .nil
  | _, _, .cons (f := f) a b => by
    rw [List.map_cons, List.map_cons]
    by_cases e : f = key
    · rw [if_pos e, if_pos e]
      exact .cons r (b.mapk r)
    · rw [if_neg e, if_neg e]
      exact .cons a (b.mapk r)
theorem RepK.put {key : Key} {kvs : List (Key × V)} {kds : List (Key × D)} (h : RepK K H kvs kds) (r : Rep K H v d) : RepK K H (L2.putK kvs key v) (putD kds key d) := by
  unfold L2.putK putD
  rw [h.any]
  split
  · exact h.mapk r
  · exact h.app (.cons r .nil)
def eDget2 (fa fb fc : FE) : FE := fun ρ => (fa ρ).bind fun a ρ1 => if isDic a.2 = true then (fb ρ1).bind fun b ρ2 => (fc ρ2).bind fun c ρ3 => match a.2, keyOf b.2 with
  | .dic kds, some key => (match valD kds key with
    | some d => some (.val (kPart a.1 d, d) ρ3)
    | none => some (.val (kPart c.1 c.2, c.2) ρ3))
  | _, _ => none else none
noncomputable def sDput (fp : FP) (fi fe : FE) : FS := fun ρ => (fe ρ).toF fun a ρ1 => match fp ρ1 with
  | none => none
  | some (.exc x w) => some (.exc x w)
  | some (.val z ρ2) => (fi ρ2).toF fun b ρ3 => match keyOf b.2, look ρ3 z.1 with
      | some key, some (k0, d0) => (match getK k0 d0 z.2 with
        | some (1, .dic kds) => if stb' a = true then chk (kds.length < sizeLine) (some (.nxt (setK ρ3 z.1 k0 (P.putK d0 z.2 (.dic (putD kds key a.2)))))) else none
        | _ => none)
      | _, _ => none

def dimE (ρ : Env) : Env := ρ.map fun s => match s with
  | .ow 0 d => .ow 0 d | _ => .no
noncomputable def eLcD (k i : Nat) (vs : List Nat) (fg : FG) (ft : FT) (fe : FE) : FE := fun ρ => match look ρ i with
  | some (1, .dic kds) => chk (kds.length ≤ sizeLine) (match lcGo vs fg ft fe k (wipeE (dimE ρ) vs) (itemsD kds) with
    | none => none
    | some es => some (.val (.ow (k + 1), .lst es) ρ))
  | _ => none
end
section
variable {X : Cx} {o e f i value : Expr} {apos cpos pos pos' : Pos} {td ty tx tv : TE} {k : Nat}
end
theorem pg_seqB {X : Cx} {K : PySem.W.Frag} {es : List Expr} {k : Nat} {t : TGs} {n : Nat} {pos : Pos} (hK : X.K = K) (hc : X.calm = true) (h : PGs X es t)
    (hn : (assignEach es X.env).length = n := by rfl) (hst : (assignEach es X.env).findIdx? (·.1) = none := by rfl) : PG X (.Tuple es k pos) (gSeq K n t) := hK ▸ pg_seq hc h hn hst
end P
namespace P
open PySem L2

def spErr (K : PySem.W.Frag) (f : Str) : Sp := fun vs H Q _ => ∃ (a C : Addr) (y : V), vs = [.ref a, y] ∧ OexC K C ∧ PySem.W.findIn K (.ref C) f = some none ∧ H a = some (exo a C none) ∧
  ∀ dx, H dx = none → dx ≠ a → Q .non (upd (upd H dx (exd dx [(f, y)])) a (exo a C (some dx)))
section
variable {X : Cx} {o e : Expr} {es : List Expr} {ta : TA} {te : TE} {C : Addr} {mc : Value} {pos apos : Pos}
end
section
variable {P : Program} {w : World} {K : PySem.W.Frag} {mg : Str → Option Value} {base : Heap}
end
/-- what is known of an own class of errors whose __init__ stores f -/
structure ErrO (P : Program) (w : World) (K : PySem.W.Frag) (mg : Str → Option Value) (base : Heap) (x f : Str) (k : Nat) : Prop where
  ex : ∃ (C fI : Addr) (fd : FuncData) (ps : List Str), mg x = some (.ref C) ∧ PySem.W.nsIn K mainGlobals x = some (some (.ref C)) ∧ OexC K C ∧ PySem.W.findIn K (.ref C) "__init__" = some (some (.ref fI)) ∧ PySem.W.typeIn K (.ref fI) = some (.type "function") ∧
    PySem.W.findIn K (.ref C) f = some none ∧ FnOk P w K mg base (L2.CX P w) k fI fd ps (spErr K f) ∧ Binds K fd ps []
section
variable {X : Cx} {x f : Str} {p pos pos2 : Pos} {W : WX} {e : Expr} {te : TE} {k kk : Nat}
end
def sRaiseF (x f : Str) (fe : FE) : FS := fun ρ => (fe ρ).toF fun a _ => if stb' a = true then some (.exc x (some (f, a.2))) else none
section
variable {X : Fx} {K : PySem.W.Frag} {x f : Str} {te : TE} {fe : FE}
end

structure ErrF (K : PySem.W.Frag) (fx : Str → Str → Bool) : Prop where
  f : ∀ x f, fx x f = true → ∀ C, PySem.W.nsIn K mainGlobals x = some (some (.ref C)) → XfC K C ∧ PySem.W.findIn K (.ref C) f = some none
def eFldO (fx : Str → Str → Bool) (fe : FE) (f : Str) : FE := fun ρ => (fe ρ).bind fun a ρ1 => match a.2 with
  | .xo x (some (g, d)) => if (fx x f && decide (g = f)) = true then some (.val (kPart a.1 d, d) ρ1) else none
  | _ => none
section
variable {X : Fx} {te : TE} {fe : FE}
end
end P
namespace P
open PySem L2 PyProof.Rows

abbrev TH := Ends → WX
structure PH (X : Cx) (hand : List ExceptHandler) (th : TH) : Prop where
  run : ∀ (pins : List (Addr × Obj)) (D : Ends) (a : Addr) (B : Heap) (sI : Shared) (σ : L2.St) (H : Hp) (cls : Value) (d : Option Addr) (s : Shared), X.Ok → Inv X pins σ H sI → (∀ b o, sI.heap.get? b = some o → b ∉ frs X.stack → B.get? b = some o) →
    sI.heap.UpToSlots s.heap → HandSPX.FlyingZ B (X.env :: X.outer) a (Zc cls d) s.heap → H a = none → s.os = sI.os → PyProof.Rows.AllBare s.gens → Lies X pins a → th D cls d σ H → wpAny (model X.prog X.w) X.A (handleBy (.ref a) X.env hand) (L2.SP X pins D) X.xe s
section
variable {X : Cx} {pins : List (Addr × Obj)}
variable {x n : Str} {c : Value} {i : Nat} {suite : List Stmt} {b₀ : Stmt} {px p1 p2 : Pos} {ts : TS} {rest : List ExceptHandler} {th : TH}
end
end P
namespace P
open PySem L2

inductive RB where
  | fl (f : Fl) | exc (x : Str) (w : Option (Str × D)) (ρ : Env)
abbrev FB := Env → Option RB
abbrev FH := Str → Option (Str × D) → Env → Option Fl
def ExB (X : Fx) (τ : List T) (W : WX) (x : Str) (w : Option (Str × D)) (ρ : Env) : Prop := ∀ C d σ H o, PySem.W.nsIn X.K mainGlobals x = some (some (.ref C)) → OkX X σ ρ τ H o →
  (∀ a, H a = none → Rep X.K (del (upd H a (XO (.ref C) d a)) (Av X.B o)) (.ref a) (.xo x w)) → ((w = none ∧ d = none) ∨ ∃ f dp dx v, w = some (f, dp) ∧ d = some dx ∧ H dx = some (.xd [(f, v)]) ∧ Rep X.K (del H X.B) v dp) → W (.ref C) d σ H
def EnB (X : Fx) (τ : List T) (D : Ends) (W : WX) : RB → Prop
  | .fl f => En X τ D f
  | .exc x w ρ => ExB X τ W x w ρ
def SB (X : Fx) (tb : WX → TS) (f : FB) : Prop := ∀ ρ z, f ρ = some z → ∀ σ τ H o, X.Hf.hp = X.H0 → noBw τ → OkX X σ ρ τ H o → ∀ (D : Ends) (W : WX), EnB X τ D W z → tb W D σ H
def sTry (fb : FB) (fh : FH) (fm : FS) : FS := fun ρ => match fb ρ with
  | none => none
  | some (.fl (.nxt ρ1)) => fm ρ1
  | some (.fl f) => some f
  | some (.exc x w ρ1) => fh x w ρ1
def hNil : FH := fun x w _ => some (.exc x w)
def endNo (i : Nat) : Fl → Fl
  | .nxt ρ => .nxt (ρ.set i .no)
  | .brk ρ => .brk (ρ.set i .no)
  | .cnt ρ => .cnt (ρ.set i .no)
  | f => f
def hAs (is : Str → Option Bool) (i : Nat) (fs : FS) (rest : FH) : FH := fun x w ρ => match is x with
  | none => none
  | some false => rest x w ρ
  | some true => (fs (ρ.set i (.ow 0 (.xo x w)))).map (endNo i)
def hNo (is : Str → Option Bool) (fs : FS) (rest : FH) : FH := fun x w ρ => match is x with
  | none => none
  | some false => rest x w ρ
  | some true => fs ρ
section
variable {X : Fx} {K : PySem.W.Frag} {σ : St} {ρ : Env} {τ : List T} {H : Hp} {o : Own} {tb : WX → TS} {fb : FB} {th : TH} {fh : FH} {tm ts : TS} {fm fs : FS} {c : Value} {i : Nat} {is : Str → Option Bool}

def callB (run : Run) (as : List Kx) (ρ : Env) : Option (Option (Nat × D) × Option (Str × Option (Str × D)) × Env) := match run (as.map (·.2)) with
  | none => none
  | some (.ret k d) => if (as.all stb' || cov k d) = true then some (some (k, d), none, ρ) else none
  | some (.exc x w) => if (as.all stb' || flatX w) = true then some (none, some (x, w), ρ) else none
def toB (fg : Option Nat) (z : Option (Option (Nat × D) × Option (Str × Option (Str × D)) × Env)) : Option RB := match z with
  | some (some (k, d), _, ρ) => some (.fl (.nxt (setO fg ρ k d)))
  | some (none, some (x, w), ρ) => some (.exc x w ρ)
  | _ => none
def bCall (fg : Option Nat) (run : Run) (fs : FA) : FB := fun ρ => match fs ρ with
  | some (.val as ρ1) => toB fg (callB run as ρ1)
  | _ => none
def bMeth (fg : Option Nat) (runs : Str → Option Run) (m : Str) (fe : FE) (fs : FA) : FB := fun ρ => match fe ρ with
  | some (.val a ρ1) => (match a.2 with
    | .ins x gs => (match runs x, gs.lookup m with
      | some run, none => (match fs ρ1 with
        | some (.val as ρ2) => toB fg (callB run (a :: as) ρ2)
        | _ => none)
      | _, _ => none)
    | _ => none)
  | _ => none
def bIf (ft : FT) (fa fb : FB) : FB := fun ρ => match ft ρ with
  | some (.val b ρ1) => if b = true then fa ρ1 else fb ρ1
  | _ => none
end
section
variable {X : Cx} {K : PySem.W.Frag} {e o : Expr} {es : List Expr} {ta : TE} {t : TA} {x m : Str} {p p2 pos pos2 apos : Pos} {k kk : Nat} {ps : List Str} {run : Run} {tab : MTab} {W : WX} {te : TE}
end
end P
namespace P
open PySem L2

section
variable {K : PySem.W.Frag} {B B' : Addr → Prop} {H0 H0' H H' : Hp} {Hf Hf' : Bg} {σ σ' : St} {ρ ρ' : Env} {τ τ' : List T} {o o' : Own} {v : V} {d : D} {t : T} {k : Nat} {r r' : Root} {p p' : List Nat}
theorem RO.re2 {g : Root × List Nat → Option (Root × List Nat)} (hB : ∀ a, Av B' (ob o g) a → Av B o a) (hg : ∀ q, g (r, p ++ q) = some (r', p' ++ q)) (h : RO K H (Av B o) o r p k v d) : RO K H (Av B' (ob o g)) (ob o g) r' p' k v d := by
  have z := RO.tr (p0 := p) (p0' := p') (r' := r') (q := []) (o' := ob o g) (A' := Av B' (ob o g)) (H' := H) ⟨del_sub hB, fun a u h _ => h, fun a q h => ⟨by unfold ob; rw [h]; exact hg q, fun u e => e⟩⟩ (by simp) h
  simpa using z
theorem Ok.remap2 (I : Ok K B H0 Hf σ ρ τ H o) (g : Root × List Nat → Option (Root × List Nat)) (hB : ∀ a, Av B' (ob o g) a → Av B o a) (bs : ∀ a, B' a → Mu H0' a) (sm : Same H0' H) (hp : Same Hf'.hp H) (pn : Hf'.pn = Hf.pn) (ow : ∀ a p, ob o g a = some p → H0' a = none) (hl : σ'.length = ρ'.length)
    (hs : ∀ i k d, look ρ' i = some (k, d) → ∃ v, σ'[i]? = some (some v) ∧ RO K H (Av B' (ob o g)) (ob o g) (.sl i) [] k v d) (hm : ∀ (i : Nat) (x : Sl), ρ'[i]? = some x → x.fixed = true → σ'[i]? = some (some (Hf'.me i))) (ht : TOk K H B' (ob o g) τ') : Ok K B' H0' Hf' σ' ρ' τ' H (ob o g) :=
  ⟨hl, bs, sm, ⟨hp, fun p hp => ⟨(I.fl.2 p (pn ▸ hp)).1, (I.fl.2 p (pn ▸ hp)).2.mono (del_sub hB)⟩⟩, fun a p h => by
    obtain ⟨y, e, _⟩ := ob_some h
    exact ⟨ow a p h, (I.ow a y e).2⟩, hs, hm, ht⟩
theorem tok_iff : ∀ {L : List T}, TOk K H B o L ↔ ∀ (m : Nat) (t : T), L[m]? = some t → TmOk K H B o (L.length - 1 - m) t
  | [] => ⟨(fun _ m t h => nomatch h), fun _ => trivial⟩
  | u :: L => by
    constructor
    · intro h m t e
      cases m with
      | zero => cases e; exact h.1
      | succ m =>
        have z := (tok_iff (L := L)).mp h.2 m t e
        have : (u :: L).length - 1 - (m + 1) = L.length - 1 - m := by rw [List.length_cons]; omega
        rw [this]
        exact z
    · intro h
      refine ⟨h 0 u rfl, tok_iff.mpr fun m t e => ?_⟩
      have z := h (m + 1) t e
      have : (u :: L).length - 1 - (m + 1) = L.length - 1 - m := by rw [List.length_cons]; omega
      rw [this] at z
      exact z
theorem tok_rev {ts : List T} : TOk K H B o (ts.reverse ++ τ) ↔ TOk K H B o τ ∧ ∀ (m : Nat) (t : T), ts[m]? = some t → TmOk K H B o (τ.length + m) t := by
  rw [tok_iff, tok_iff]
  have ln : (ts.reverse ++ τ).length = ts.length + τ.length := by rw [List.length_append, List.length_reverse]
  constructor
  · intro h
    refine ⟨fun m t e => ?_, fun m t e => ?_⟩
    · have z := h (ts.length + m) t (by rw [List.getElem?_append_right (by rw [List.length_reverse]; omega), List.length_reverse, Nat.add_sub_cancel_left]; exact e)
      have : (ts.reverse ++ τ).length - 1 - (ts.length + m) = τ.length - 1 - m := by rw [ln]; omega
      rw [this] at z
      exact z
    · have hm := (List.getElem?_eq_some_iff.mp e).1
      have z := h (ts.length - 1 - m) t (by
        rw [List.getElem?_append_left (by rw [List.length_reverse]; omega), List.getElem?_reverse (by omega)]
        have : ts.length - 1 - (ts.length - 1 - m) = m := by omega
        rw [this]
        exact e)
      have : (ts.reverse ++ τ).length - 1 - (ts.length - 1 - m) = τ.length + m := by rw [ln]; omega
      rw [this] at z
      exact z
  · rintro ⟨h1, h2⟩ m t e
    by_cases hm : m < ts.length
    · rw [List.getElem?_append_left (by rw [List.length_reverse]; omega), List.getElem?_reverse hm] at e
      have z := h2 _ t e
      have : (ts.reverse ++ τ).length - 1 - m = τ.length + (ts.length - 1 - m) := by rw [ln]; omega
      rw [this]
      exact z
    · rw [List.getElem?_append_right (by rw [List.length_reverse]; omega), List.length_reverse] at e
      have z := h1 _ t e
      have : (ts.reverse ++ τ).length - 1 - m = τ.length - 1 - (m - ts.length) := by rw [ln]; omega
      rw [this]
      exact z
theorem TOk.re2 {g : Root × List Nat → Option (Root × List Nat)} (hB : ∀ a, Av B' (ob o g) a → Av B o a) : ∀ {τ : List T}, (∀ j q, j < τ.length → g (.tm j, q) = some (.tm j, q)) → TOk K H B o τ → TOk K H B' (ob o g) τ
  | [], _, _ => trivial
  | t :: τ, hg, h => ⟨by
      obtain ⟨v, k, d⟩ := t
      obtain ⟨h, _⟩ := h
      cases k with
      | ow k => exact RO.re2 hB (fun q => hg _ _ (Nat.lt_succ_self _)) h
      | bw => exact h
      | pl w q => exact h, TOk.re2 hB (fun j q hj => hg j q (Nat.lt_succ_of_lt hj)) h.2⟩
def itsT (k : Nat) (vs : List V) (ds : List D) : List T := vs.zipWith (fun v d => (⟨v, .ow k, d⟩ : T)) ds
theorem itsT_get {k : Nat} {vs : List V} {ds : List D} {m : Nat} {t : T} (h : (itsT k vs ds)[m]? = some t) : ∃ v d, vs[m]? = some v ∧ ds[m]? = some d ∧ t = ⟨v, .ow k, d⟩ := by
  unfold itsT at h
  rw [List.getElem?_zipWith] at h
  cases e1 : vs[m]? with
  | none => rw [e1] at h; cases h
  | some v =>
    cases e2 : ds[m]? with
    | none => rw [e1, e2] at h; cases h
    | some d => rw [e1, e2] at h; cases h; exact ⟨v, d, rfl, rfl, rfl⟩
theorem itsT_at {k : Nat} {vs : List V} {ds : List D} {m : Nat} (h1 : vs[m]? = some v) (h2 : ds[m]? = some d) : (itsT k vs ds)[m]? = some ⟨v, .ow k, d⟩ := by
  unfold itsT
  rw [List.getElem?_zipWith, h1, h2]
def floorA (H : Hp) (o : Own) (A : Addr) : Hp := fun a => if a = A then H a else match o a with | some _ => none | none => H a
def meA (f : Nat → V) (i : Nat) (v : V) : Nat → V := fun n => if n = i then v else f n
def gIn (i n : Nat) : Root × List Nat → Option (Root × List Nat) := fun z => if z.1 = .sl i then (match z.2 with | m :: q => some (.tm (n + m), q) | [] => none) else some z
def bA (B : Addr → Prop) (A : Addr) : Addr → Prop := fun a => B a ∨ a = A
theorem floor_same (H : Hp) (o : Own) (A : Addr) : Same (floorA H o A) H := fun a u h => by
  unfold floorA at h
  split at h
  · exact h
  · split at h
    · cases h
    · exact h
theorem Ok.enter {i : Nat} {ds : List D} (I : Ok K B H0 Hf σ ρ τ H o) (h0f : Hf.hp = H0) (h : look ρ i = some (k + 1, .lst ds)) :
    ∃ A vs, σ[i]? = some (some (.ref A)) ∧ H A = some (.lst vs) ∧ vs.length = ds.length ∧ H0 A = none ∧ ¬ B A ∧ Same H0 (floorA H o A) ∧ floorA H o A A = some (.lst vs) ∧
      (∀ a, floorA H o A a = none → H0 a = none) ∧ Ok K (bA B A) (floorA H o A) ⟨floorA H o A, Hf.pn, meA Hf.me i (.ref A)⟩ σ (ρ.set i .fx) ((itsT k vs ds).reverse ++ τ) H (ob o (gIn i τ.length)) := by
  obtain ⟨v, e1, e2⟩ := I.sl i _ _ h
  obtain ⟨A, vs, rfl, ha, hh, hs⟩ := own_lst e2
  have nA : H0 A = none := (I.ow A _ ha).1
  have nB : ¬ B A := I.nb ha
  have sm0 : Same H0 (floorA H o A) := fun a u e => by
    unfold floorA
    split
    · exact I.sm a u e
    · split
      · rename_i q eq
        rw [(I.ow a _ eq).1] at e
        cases e
      · exact I.sm a u e
  have fA : floorA H o A A = some (.lst vs) := by
    unfold floorA
    rw [if_pos rfl]
    exact hh
  have hB : ∀ a, Av (bA B A) (ob o (gIn i τ.length)) a → Av B o a := fun a z => by
    rcases z with (z | z) | ⟨q, z⟩
    · exact .inl z
    · rw [z]; exact .inr ⟨_, ha⟩
    · obtain ⟨y, e, _⟩ := ob_some z
      exact .inr ⟨y, e⟩
  refine ⟨A, vs, e1, hh, hs.length, nA, nB, sm0, fA, fun a e => ?_, I.remap2 _ hB (fun a z => ?_) (floor_same H o A) (floor_same H o A) rfl (fun a q z => ?_) (by rw [List.length_set]; exact I.len) (fun j k' d' h' => ?_) (fun j y hy hf => ?_) (tok_rev.mpr ⟨TOk.re2 hB (fun j q hj => if_neg (by intro z; cases z)) I.tp, fun m t e => ?_⟩)⟩
  · cases q : H0 a with
    | none => rfl
    | some u => rw [sm0 a u q] at e; cases e
  · rcases z with z | z
    · obtain ⟨u, e, m⟩ := I.bs a z
      exact ⟨u, sm0 a u e, m⟩
    · rw [z]; exact ⟨_, fA, rfl⟩
  · obtain ⟨y, e, eg⟩ := ob_some z
    unfold floorA
    split
    · rename_i ea
      rw [ea, ha] at e
      cases e
      unfold gIn at eg
      rw [if_pos rfl] at eg
      cases eg
    · rw [e]
  · have hne : i ≠ j := fun e => by
      subst e
      unfold look at h'
      by_cases hi : i < ρ.length
      · rw [List.getElem?_set_self hi] at h'; cases h'
      · rw [List.getElem?_eq_none (by rw [List.length_set]; omega)] at h'; cases h'
    have h'' : look ρ j = some (k', d') := by
      unfold look at h' ⊢
      rw [List.getElem?_set_ne hne] at h'
      exact h'
    obtain ⟨v', f1, f2⟩ := I.sl j k' d' h''
    exact ⟨v', f1, RO.re2 hB (fun q => if_neg (by intro z; cases z; exact hne rfl)) f2⟩
  · show σ[j]? = some (some (if j = i then V.ref A else Hf.me j))
    rcases set_get hy with ⟨rfl, _, _⟩ | ⟨n, hy⟩
    · rw [if_pos rfl]; exact e1
    · rw [if_neg (fun e => n e.symm)]
      exact I.ms j y hy hf
  · obtain ⟨w, e, f1, f2, rfl⟩ := itsT_get e
    have z := hs.gets f1 f2
    exact RO.re2 (r' := .tm (τ.length + m)) (p' := []) hB (fun q => by
      show gIn i τ.length (.sl i, ([] ++ [m]) ++ q) = _
      exact if_pos rfl) z
def gBack (i n : Nat) : Root × List Nat → Option (Root × List Nat) := fun z => match z.1 with
  | .tm m => if n ≤ m then some (.sl i, (m - n) :: z.2) else some z
  | _ => if z.1 = .sl i then none else some z
def resetS (s : Sl) (k : Nat) (d : D) : Sl := match s with
  | .me _ _ => .me k d | _ => .ow k d
theorem Ok.leave {i : Nat} {A : Addr} {vs : List V} {ds : List D} {s : Sl} (hme : s.fixed = true → Hf.me i = .ref A) (hl : vs.length = ds.length) (nA : H0 A = none) (nB : ¬ B A) (bs : ∀ a, B a → Mu H0 a) (sm0 : Same H0 H0') (hn : ∀ a, H0' a = none → H0 a = none) (fA : H0' A = some (.lst vs)) (hf : Hf.hp = H0)
    (J : Ok K (bA B A) H0' ⟨H0', Hf.pn, Hf'.me⟩ σ ρ ((itsT k vs ds).reverse ++ τ) H o) (hi : ρ[i]? = some .fx) (hA : Hf'.me i = .ref A) (hms : ∀ (j : Nat) (x : Sl), j ≠ i → ρ[j]? = some x → x.fixed = true → Hf'.me j = Hf.me j) :
    ∃ o', Ok K B H0 Hf σ (ρ.set i (resetS s (k + 1) (.lst ds))) τ H o' := by
  have eA : H A = some (.lst vs) := J.sm A _ fA
  have oA : o A = none := by
    cases e : o A with
    | none => rfl
    | some q =>
      have := (J.ow A q e).1
      rw [fA] at this
      cases this
  obtain ⟨o', eo⟩ : ∃ o', o' = oNew (ob o (gBack i τ.length)) A (.sl i, []) := ⟨_, rfl⟩
  have hB : ∀ a, Av B o' a → Av (bA B A) o a := fun a z => by
    rcases z with z | ⟨q, z⟩
    · exact .inl (.inl z)
    · rw [eo] at z
      unfold oNew at z
      split at z
      · rename_i e; exact .inl (.inr e)
      · obtain ⟨y, e, _⟩ := ob_some z
        exact .inr ⟨y, e⟩
  have dd := del_sub (H := H) hB
  have tr : ∀ (r r' : Root) (p p' : List Nat), (∀ q, gBack i τ.length (r, p ++ q) = some (r', p' ++ q)) → Tr K H H (Av (bA B A) o) (Av B o') o o' r p r' p' := fun r r' p p' hg => ⟨dd, fun a u h _ => h, fun a q h => ⟨by
    rw [eo]
    unfold oNew
    rw [if_neg (by rintro rfl; rw [oA] at h; cases h)]
    unfold ob
    rw [h]
    exact hg q, fun u e => e⟩⟩
  have tk := tok_rev.mp J.tp
  have isl : i < ρ.length := (List.getElem?_eq_some_iff.mp hi).1
  have σi : σ[i]? = some (some (.ref A)) := by
    have := J.ms i .fx hi rfl
    rw [hA] at this
    exact this
  have lroot : RO K H (Av B o') o' (.sl i) [] (k + 1) (.ref A) (.lst ds) := by
    refine .lst (by rw [eo]; unfold oNew; rw [if_pos rfl]) eA (ROs.of hl fun j w e f1 f2 => ?_)
    have z := tk.2 j _ (itsT_at (k := k) f1 f2)
    have z : RO K H (Av (bA B A) o) o (.tm (τ.length + j)) [] k w e := z
    have y := RO.tr (q := []) (tr (.tm (τ.length + j)) (.sl i) [] ([] ++ [0 + j]) (fun q => by
      show (if τ.length ≤ τ.length + j then some (Root.sl i, (τ.length + j - τ.length) :: ([] ++ q)) else _) = _
      rw [if_pos (Nat.le_add_right ..), Nat.add_sub_cancel_left, Nat.zero_add]
      rfl)) (by simp) z
    rw [List.append_nil] at y
    exact y
  refine ⟨o', by rw [List.length_set]; exact J.len, bs, sm0.trans J.sm, ⟨hf ▸ sm0.trans J.sm, fun p hp => ⟨(J.fl.2 p hp).1, (J.fl.2 p hp).2.mono dd⟩⟩, fun a q h => ?_, fun j k' d' h' => ?_, fun j y hy hff => ?_, ?_⟩
  · rw [eo] at h
    unfold oNew at h
    split at h
    · rename_i e; rw [e]; exact ⟨nA, _, eA, rfl⟩
    · obtain ⟨y, e, _⟩ := ob_some h
      exact ⟨hn a (J.ow a y e).1, (J.ow a y e).2⟩
  · rcases look_set h' with ⟨rfl, e, _⟩ | ⟨n, h'⟩
    · have e2 : k' = k + 1 ∧ d' = .lst ds := by
        unfold resetS at e
        cases s <;> rcases e with e | e <;> cases e <;> exact ⟨rfl, rfl⟩
      obtain ⟨rfl, rfl⟩ := e2
      exact ⟨.ref A, σi, lroot⟩
    · obtain ⟨w, f1, f2⟩ := J.sl j k' d' h'
      refine ⟨w, f1, ?_⟩
      have y := RO.tr (q := []) (tr (.sl j) (.sl j) [] [] (fun q => if_neg (by intro z; cases z; exact n rfl))) (by simp) f2
      simpa using y
  · rcases set_get hy with ⟨rfl, e, _⟩ | ⟨n, hy⟩
    · have : s.fixed = true := by
        rw [← e] at hff
        unfold resetS at hff
        cases s <;> first | rfl | cases hff
      rw [hme this]
      exact σi
    · have z := J.ms j y hy hff
      have e := hms j y (fun e => n e.symm) hy hff
      rw [← e]
      exact z
  · have t2 := tk.1
    have key : ∀ {τ2 : List T}, τ2.length ≤ τ.length → TOk K H (bA B A) o τ2 → TOk K H B o' τ2 := fun {τ2} => by
      induction τ2 with
      | nil => intro _ _; trivial
      | cons t τ2 ih =>
        intro hl h
        rw [List.length_cons] at hl
        refine ⟨?_, ih (by omega) h.2⟩
        obtain ⟨v, kd, d⟩ := t
        have h1 := h.1
        cases kd with
        | ow k2 =>
          have z : RO K H (Av (bA B A) o) o (.tm τ2.length) [] k2 v d := h1
          have y := RO.tr (q := []) (tr (.tm τ2.length) (.tm τ2.length) [] [] (fun q => by
            show (if τ.length ≤ τ2.length then _ else _) = _
            rw [if_neg (by omega)])) (by simp) z
          rw [List.append_nil] at y
          exact y
        | bw => exact h1
        | pl w q => exact h1
    exact key (Nat.le_refl _) t2
def dumT : T := ⟨.non, .ow 0, .non⟩
theorem Ok.takeT {x j : Nat} {vs : List V} {cur : List D} (I : Ok K B H0 ⟨H0, Hf.pn, Hf.me⟩ σ ρ ((itsT k vs cur).reverse ++ τ) H o) (h1 : vs[j]? = some v) (h2 : cur[j]? = some d) (hx : x < ρ.length) :
    Ok K B H0 ⟨H0, Hf.pn, meA Hf.me x v⟩ (σ.set x (some v)) (ρ.set x (.me k d)) (((itsT k vs cur).set j dumT).reverse ++ τ) H (ob o (gSet (τ.length + j) x)) := by
  have tk := tok_rev.mp I.tp
  have hB : ∀ a, Av B (ob o (gSet (τ.length + j) x)) a → Av B o a := fun a => av_ob
  have ht := itsT_at (k := k) h1 h2
  have hj := (List.getElem?_eq_some_iff.mp ht).1
  refine I.remap2 _ hB I.bs I.sm I.fl.1 rfl (fun a p h => ?_) (by rw [List.length_set, List.length_set]; exact I.len) (fun i k' d' h => ?_) (fun i y hy hf => ?_) (tok_rev.mpr ⟨TOk.re2 hB (fun j' q hj' => if_neg (by intro z; cases z; omega)) tk.1, fun m t e => ?_⟩)
  · obtain ⟨y, e, _⟩ := ob_some h
    exact (I.ow a y e).1
  · rcases look_set h with ⟨rfl, e, _⟩ | ⟨n, h⟩
    · have e2 : k = k' ∧ d = d' := by rcases e with e | e <;> cases e; exact ⟨rfl, rfl⟩
      obtain ⟨rfl, rfl⟩ := e2
      exact ⟨v, by rw [List.getElem?_set_self (by rw [I.len]; exact hx)], RO.re2 hB (fun q => if_pos rfl) (tk.2 j _ ht)⟩
    · obtain ⟨w, f1, f2⟩ := I.sl i k' d' h
      exact ⟨w, by rw [List.getElem?_set_ne n]; exact f1, RO.re2 hB (fun q => if_neg (by intro z; cases z)) f2⟩
  · show (σ.set x (some v))[i]? = some (some (if i = x then v else Hf.me i))
    rcases set_get hy with ⟨rfl, _, _⟩ | ⟨n, hy⟩
    · rw [if_pos rfl, List.getElem?_set_self (by rw [I.len]; exact hx)]
    · rw [if_neg (fun e => n e.symm), List.getElem?_set_ne n]
      exact I.ms i y hy hf
  · rcases set_get e with ⟨rfl, e, _⟩ | ⟨n, e⟩
    · rw [← e]
      exact .st .non
    · have z := tk.2 m t e
      obtain ⟨w, f, _, _, rfl⟩ := itsT_get e
      exact RO.re2 hB (fun q => if_neg (by intro z; injection z with z; omega)) z
theorem Ok.putT {x j : Nat} {vs : List V} {cur : List D} {me : Nat → V} (I : Ok K B H0 ⟨H0, Hf.pn, me⟩ σ ρ (((itsT k vs cur).set j dumT).reverse ++ τ) H o) (hm : ∀ i, i ≠ x → me i = Hf.me i) (hx : me x = v) (h1 : vs[j]? = some v) (h : ρ[x]? = some (.me k d)) :
    Ok K B H0 ⟨H0, Hf.pn, Hf.me⟩ σ (ρ.set x .no) ((itsT k vs (cur.set j d)).reverse ++ τ) H (ob o (gOut x (τ.length + j))) := by
  have tk := tok_rev.mp I.tp
  have hB : ∀ a, Av B (ob o (gOut x (τ.length + j))) a → Av B o a := fun a => av_ob
  obtain ⟨w, e1, e2⟩ := I.sl x k d (by unfold look; rw [h])
  have e3 := I.ms x _ h rfl
  rw [e1] at e3
  have e3 : w = me x := Option.some.inj (Option.some.inj e3)
  rw [hx] at e3
  subst e3
  refine I.remap2 _ hB I.bs I.sm I.fl.1 rfl (fun a p h => ?_) (by rw [List.length_set]; exact I.len) (fun i k' d' h => ?_) (fun i y hy hf => ?_) (tok_rev.mpr ⟨TOk.re2 hB (fun j' q hj' => if_neg (by intro z; cases z)) tk.1, fun m t e => ?_⟩)
  · obtain ⟨y, e, _⟩ := ob_some h
    exact (I.ow a y e).1
  · obtain ⟨n, h⟩ := look_no h
    obtain ⟨u, f1, f2⟩ := I.sl i k' d' h
    exact ⟨u, f1, RO.re2 hB (fun q => if_neg (by intro z; cases z; exact n rfl)) f2⟩
  · rcases set_get hy with ⟨rfl, z, _⟩ | ⟨n, hy⟩
    · rw [← z] at hf; cases hf
    · show σ[i]? = some (some (Hf.me i))
      rw [← hm i (fun e => n e.symm)]
      exact I.ms i y hy hf
  · obtain ⟨u, f, g1, g2, rfl⟩ := itsT_get e
    rcases set_get g2 with ⟨rfl, g2, _⟩ | ⟨n, g2⟩
    · subst g2
      rw [h1] at g1
      cases g1
      exact RO.re2 hB (fun q => if_pos rfl) e2
    · have z := tk.2 m ⟨u, .ow k, f⟩ (by rw [List.getElem?_set_ne n]; exact itsT_at g1 g2)
      exact RO.re2 hB (fun q => if_neg (by intro z; cases z)) z
theorem Ok.down {Hg : Bg} (I : Ok K B' H0' Hf' [] [] [⟨v, .ow k, d⟩] H o) (sm : Same H0 H0') (hn : ∀ a, H0' a = none → H0 a = none) (hb : ∀ a, B a → B' a) (bs : ∀ a, B a → Mu H0 a) (hg : Same Hg.hp H0') (hp : ∀ p, p ∈ Hg.pn → p ∈ Hf'.pn) : Ok K B H0 Hg [] [] [⟨v, .ow k, d⟩] H o := by
  have hB : ∀ a, Av B o a → Av B' o a := fun a z => z.imp (hb a) id
  have z := RO.tr (p0 := []) (p0' := []) (r' := .tm 0) (q := []) (A' := Av B o) (o' := o) (H' := H) ⟨del_sub hB, fun a u h _ => h, fun a q h => ⟨h, fun u e => e⟩⟩ (by simp) (show RO K H (Av B' o) o (.tm 0) [] k v d from I.tp.1)
  exact ⟨rfl, bs, sm.trans I.sm, ⟨hg.trans I.sm, fun p h => ⟨(I.fl.2 p (hp p h)).1, (I.fl.2 p (hp p h)).2.mono (del_sub hB)⟩⟩, fun a p h => ⟨hn a (I.ow a p h).1, (I.ow a p h).2⟩, (fun i k d h => nomatch h), (fun _ _ h _ => by cases h), (show RO K H (Av B o) o (.tm 0) [] k v d by simpa using z), trivial⟩
end

def isFx : Option Sl → Bool
  | some .fx => true | _ => false
def setY (ys : Option (Nat × List D)) (j : Nat) (ρ : Env) : Option Env := match ys with
  | none => some ρ
  | some (y, es) => es[j]?.map fun e => ρ.set y (.ow 0 e)
def finO (i x k j : Nat) (cur : List D) (ρ : Env) : Option (List D × Env) := match ρ[x]? with
  | some (.me k' d') => if (decide (k' = k) && isFx ρ[i]?) = true then some (cur.set j d', ρ.set x .no) else none
  | _ => none
def outO (i k : Nat) (s : Sl) (cur : List D) (ρ : Env) : Fl := .nxt (ρ.set i (resetS s (k + 1) (.lst cur)))
def loopOwn (i x k : Nat) (s : Sl) (ys : Option (Nat × List D)) (fb : FS) : Nat → Nat → List D → Env → Option Fl
  | 0, _, cur, ρ => some (outO i k s cur ρ)
  | n + 1, j, cur, ρ => match cur[j]? with
    | none => none
    | some d => match setY ys j (ρ.set x (.me k d)) with
      | none => none
      | some ρ1 => match fb ρ1 with
        | none => none
        | some (.nxt ρ2) => (match finO i x k j cur ρ2 with
          | some (cur', ρ3) => loopOwn i x k s ys fb n (j + 1) cur' ρ3
          | none => none)
        | some (.cnt ρ2) => (match finO i x k j cur ρ2 with
          | some (cur', ρ3) => loopOwn i x k s ys fb n (j + 1) cur' ρ3
          | none => none)
        | some (.brk ρ2) => (match finO i x k j cur ρ2 with
          | some (cur', ρ3) => some (outO i k s cur' ρ3)
          | none => none)
        | some (.ret k d) => some (.ret k d)
        | some (.exc x w) => some (.exc x w)
theorem noBw_its (k : Nat) (vs : List V) (ds : List D) (j : Nat) : noBw ((itsT k vs ds).set j dumT).reverse := fun t ht => by
  rcases List.mem_or_eq_of_mem_set (List.mem_reverse.mp ht) with h | h
  · obtain ⟨m, hm⟩ := List.getElem?_of_mem h
    obtain ⟨v, d, _, _, rfl⟩ := itsT_get hm
    exact ⟨k, rfl⟩
  · rw [h]; exact ⟨0, rfl⟩
def storeA (x : Nat) (ys : Option (Nat × List D)) (σ : St) (v w : V) : St := match ys with
  | none => σ.set x (some v)
  | some (y, _) => (σ.set x (some v)).set y (some w)
def StepA (K : PySem.W.Frag) (B : Addr → Prop) (J : It) (g : TG) (x : Nat) (ys : Option (Nat × List D)) (j : Nat) (v : V) (σ : St) (H : Hp) (o : Own) : Prop :=
  J.go j H ∧ ∀ x' H', J.yld j H x' H' → Same H H' ∧ ∃ w, (∀ y es, ys = some (y, es) → ∃ e, es[j]? = some e ∧ Rep K (del H' (Av B o)) w e) ∧ ∀ Q : St → Hp → Prop, Q (storeA x ys σ v w) H' → g x' σ H' Q
section
variable {X : Fx} {σ : St} {ρ : Env} {τ τ1 : List T} {H H0' : Hp} {o : Own} {t : TS} {fb : FS}
theorem own_for {i x k n : Nat} {s : Sl} {ys : Option (Nat × List D)} {J : It} {g : TG} {A : Addr} {vs : List V} {ds : List D} {fl : Fl} {D : Ends} {B' : Addr → Prop} (hb : ∀ B H0 Hf, SS ⟨X.K, B, H0, Hf, X.E⟩ t fb) (hB' : B' = bA X.B A)
    (hix : i ≠ x) (hme : s.fixed = true → X.Hf.me i = .ref A) (hl : vs.length = ds.length) (nA : X.H0 A = none) (nB : ¬ X.B A) (bs : ∀ a, X.B a → Mu X.H0 a) (sm0 : Same X.H0 H0') (hn0 : ∀ a, H0' a = none → X.H0 a = none) (fA : H0' A = some (.lst vs)) (hf : X.Hf.hp = X.H0) (nb : noBw τ1)
    (hnd : n ≤ ds.length) (hstep : ∀ j v σ ρ (L : List T) H o, j < n → vs[j]? = some v → Ok X.K B' H0' ⟨H0', X.Hf.pn, meA X.Hf.me i (.ref A)⟩ σ ρ (L ++ τ1) H o → StepA X.K B' J g x ys j v σ H o) (hstop : ∀ H, H A = some (.lst vs) → (∀ σ ρ (L : List T) o, Ok X.K B' H0' ⟨H0', X.Hf.pn, meA X.Hf.me i (.ref A)⟩ σ ρ (L ++ τ1) H o → J.stop n H))
    (I : Ok X.K B' H0' ⟨H0', X.Hf.pn, meA X.Hf.me i (.ref A)⟩ σ ρ ((itsT k vs ds).reverse ++ τ1) H o) (hi : ρ[i]? = some .fx) (hx : ρ[x]? = some .no) (h : loopOwn i x k s ys fb n 0 ds ρ = some fl) (q : En X τ1 D fl) :
    ∃ W : Nat → Nat → St → Hp → Prop, (∃ m, W 0 m σ H) ∧ ∀ j m σ H, W j m σ H → (J.stop j H ∧ D.nx σ H) ∨ (J.go j H ∧ ∃ N : St → Hp → Prop, (∀ σ' H', N σ' H' → ∃ m', m' < m ∧ W (j + 1) m' σ' H') ∧ ∀ x H', J.yld j H x H' → g x σ H' fun σ2 H2 => t { D with nx := N, ct := N, bk := D.nx } σ2 H2) := by
  subst hB'
  have out : ∀ σ ρ cur H o, cur.length = ds.length → Ok X.K (bA X.B A) H0' ⟨H0', X.Hf.pn, meA X.Hf.me i (.ref A)⟩ σ ρ ((itsT k vs cur).reverse ++ τ1) H o → ρ[i]? = some .fx → outO i k s cur ρ = fl → D.nx σ H := fun σ ρ cur H o hc I hi e => by
    obtain ⟨o', I'⟩ := Ok.leave (Hf := X.Hf) (Hf' := ⟨H0', X.Hf.pn, meA X.Hf.me i (.ref A)⟩) hme (by rw [hl, hc]) nA nB bs sm0 hn0 fA hf I hi (show (if i = i then V.ref A else X.Hf.me i) = _ from if_pos rfl) (fun j y hj _ _ => show (if j = i then V.ref A else X.Hf.me j) = _ from if_neg hj)
    unfold outO at e
    subst e
    exact q σ H o' I'
  refine ⟨fun j m σ H => m = n - j ∧ j ≤ n ∧ ∃ ρ o cur, cur.length = ds.length ∧ loopOwn i x k s ys fb (n - j) j cur ρ = some fl ∧ Ok X.K (bA X.B A) H0' ⟨H0', X.Hf.pn, meA X.Hf.me i (.ref A)⟩ σ ρ ((itsT k vs cur).reverse ++ τ1) H o ∧ ρ[i]? = some .fx ∧ ρ[x]? = some .no, ⟨_, rfl, Nat.zero_le _, ρ, o, ds, rfl, h, I, hi, hx⟩, ?_⟩
  rintro j m σ H ⟨rfl, hjn, ρ, o, cur, hc, hl2, I, hi, hx⟩
  have eA : H A = some (.lst vs) := I.sm A _ fA
  by_cases hlt : j < n
  · obtain ⟨r, er⟩ : ∃ r, n - j = r + 1 := ⟨n - j - 1, by omega⟩
    rw [er] at hl2
    unfold loopOwn at hl2
    have ev : vs[j]? = some (vs[j]'(by omega)) := List.getElem?_eq_getElem _
    obtain ⟨v, hv⟩ : ∃ v, vs[j]? = some v := ⟨_, ev⟩
    have ed : cur[j]? = some (cur[j]'(by omega)) := List.getElem?_eq_getElem _
    obtain ⟨d, hd⟩ : ∃ d, cur[j]? = some d := ⟨_, ed⟩
    rw [hd] at hl2
    dsimp only at hl2
    obtain ⟨go, yl⟩ := hstep j v σ ρ _ H o hlt hv I
    refine .inr ⟨go, fun σ' H' => ∃ ρ o cur, cur.length = ds.length ∧ loopOwn i x k s ys fb (n - (j + 1)) (j + 1) cur ρ = some fl ∧ Ok X.K (bA X.B A) H0' ⟨H0', X.Hf.pn, meA X.Hf.me i (.ref A)⟩ σ' ρ ((itsT k vs cur).reverse ++ τ1) H' o ∧ ρ[i]? = some .fx ∧ ρ[x]? = some .no, fun σ' H' ⟨ρ, o, cur, z⟩ => ⟨_, by omega, rfl, hlt, ρ, o, cur, z⟩, fun x' H' hy => ?_⟩
    obtain ⟨sm, w, hw, hg⟩ := yl x' H' hy
    have J0 := Ok.takeT (Hf := ⟨H0', X.Hf.pn, meA X.Hf.me i (.ref A)⟩) (I.grow sm) hv hd (List.getElem?_eq_some_iff.mp hx).1
    cases ey : setY ys j (ρ.set x (.me k d)) with
    | none => rw [ey] at hl2; cases hl2
    | some ρ1 =>
      rw [ey] at hl2
      dsimp only at hl2
      have J1 : ∃ o1, Ok X.K (bA X.B A) H0' ⟨H0', X.Hf.pn, meA (meA X.Hf.me i (.ref A)) x v⟩ (storeA x ys σ v w) ρ1 (((itsT k vs cur).set j dumT).reverse ++ τ1) H' o1 := by
        unfold setY at ey
        cases ys with
        | none => cases ey; exact ⟨_, J0⟩
        | some p =>
          obtain ⟨y, es⟩ := p
          obtain ⟨e, ee, re⟩ := hw y es rfl
          dsimp only at ey
          rw [ee] at ey
          cases ey
          exact ⟨_, (J0.stab (re.mono (del_sub fun a => av_ob))).set y⟩
      obtain ⟨o1, J1⟩ := J1
      refine hg _ ?_
      have fin : ∀ {ρ2 σ2 H2 o2 cur' ρ3}, Ok X.K (bA X.B A) H0' ⟨H0', X.Hf.pn, meA (meA X.Hf.me i (.ref A)) x v⟩ σ2 ρ2 (((itsT k vs cur).set j dumT).reverse ++ τ1) H2 o2 → finO i x k j cur ρ2 = some (cur', ρ3) → cur'.length = ds.length ∧ ρ3[i]? = some .fx ∧ ρ3[x]? = some .no ∧ ∃ o3, Ok X.K (bA X.B A) H0' ⟨H0', X.Hf.pn, meA X.Hf.me i (.ref A)⟩ σ2 ρ3 ((itsT k vs cur').reverse ++ τ1) H2 o3 := fun {ρ2 σ2 H2 o2 cur' ρ3} J2 e => by
        unfold finO at e
        split at e
        · rename_i k' d' e2
          split at e
          · rename_i hcond
            cases e
            rw [Bool.and_eq_true, decide_eq_true_eq] at hcond
            obtain ⟨rfl, hfx⟩ := hcond
            have hfx : ρ2[i]? = some .fx := by
              unfold isFx at hfx
              split at hfx
              · assumption
              · cases hfx
            refine ⟨by rw [List.length_set]; exact hc, by rw [List.getElem?_set_ne (Ne.symm hix)]; exact hfx, by rw [List.getElem?_set_self (List.getElem?_eq_some_iff.mp e2).1], _, J2.putT (v := v) (Hf := ⟨H0', X.Hf.pn, meA X.Hf.me i (.ref A)⟩) (fun m hm => by show (if m = x then v else _) = _; rw [if_neg hm]) (by show (if x = x then v else _) = _; rw [if_pos rfl]) hv e2⟩
          · cases e
        · cases e
      cases eb : fb ρ1 with
      | none => rw [eb] at hl2; cases hl2
      | some rr =>
        rw [eb] at hl2
        try dsimp only at hl2
        refine hb (bA X.B A) H0' ⟨H0', X.Hf.pn, meA (meA X.Hf.me i (.ref A)) x v⟩ ρ1 rr eb _ _ H' o1 rfl (noBw_app (noBw_its k vs cur j) nb) J1 _ ?_
        have nj : n - (j + 1) = r := by omega
        cases rr with
        | nxt ρ2 =>
          intro σ2 H2 o2 J2
          try dsimp only at hl2
          cases ef : finO i x k j cur ρ2 with
          | none => rw [ef] at hl2; cases hl2
          | some z =>
            obtain ⟨cur', ρ3⟩ := z
            rw [ef] at hl2
            obtain ⟨a1, a2, a3, o3, J3⟩ := fin J2 ef
            exact ⟨ρ3, o3, cur', a1, by rw [nj]; exact hl2, J3, a2, a3⟩
        | cnt ρ2 =>
          intro σ2 H2 o2 J2
          try dsimp only at hl2
          cases ef : finO i x k j cur ρ2 with
          | none => rw [ef] at hl2; cases hl2
          | some z =>
            obtain ⟨cur', ρ3⟩ := z
            rw [ef] at hl2
            obtain ⟨a1, a2, a3, o3, J3⟩ := fin J2 ef
            exact ⟨ρ3, o3, cur', a1, by rw [nj]; exact hl2, J3, a2, a3⟩
        | brk ρ2 =>
          intro σ2 H2 o2 J2
          try dsimp only at hl2
          cases ef : finO i x k j cur ρ2 with
          | none => rw [ef] at hl2; cases hl2
          | some z =>
            obtain ⟨cur', ρ3⟩ := z
            rw [ef] at hl2
            obtain ⟨a1, a2, a3, o3, J3⟩ := fin J2 ef
            exact out σ2 ρ3 cur' H2 o3 a1 J3 a2 (Option.some.inj hl2)
        | ret k' d' =>
          cases hl2
          intro v' H2 o2 J2
          exact q v' H2 o2 (J2.down sm0 hn0 (fun a z => .inl z) bs (by rw [hf]; exact sm0) (fun p hp => hp))
        | exc x' w' =>
          cases hl2
          exact XW.imp (q : XW ⟨X.K, X.B, X.H0, X.Hf, X.E⟩ x' w') sm0 fun a z => .inl z
  · have e : j = n := by omega
    subst e
    rw [Nat.sub_self] at hl2
    unfold loopOwn at hl2
    exact .inl ⟨hstop H eA σ ρ _ o I, out σ ρ cur H o hc I hi (Option.some.inj hl2)⟩
end
def sForOwn (i x : Nat) (fb : FS) : FS := fun ρ => match ρ[i]?, look ρ i with
  | some s, some (k + 1, .lst ds) => if (decide (i ≠ x) && decide (x < ρ.length)) = true then loopOwn i x k s none fb ds.length 0 ds ((ρ.set i .fx).set x .no) else none
  | _, _ => none
section
variable {X : Fx} {σ : St} {ρ : Env} {τ τ1 : List T} {H H0' : Hp} {o : Own} {t : TS} {fb : FS} {te : TE} {fe : FE}
theorem Ok.drop {K : PySem.W.Frag} {B : Addr → Prop} {H0 : Hp} {Hf : Bg} (I : Ok K B H0 Hf σ ρ τ H o) (x : Nat) : Ok K B H0 Hf σ (ρ.set x .no) τ H o :=
  ⟨by rw [List.length_set]; exact I.len, I.bs, I.sm, I.fl, I.ow, fun j k d h => by
    obtain ⟨n, h⟩ := look_no h
    exact I.sl j k d h, ms_set' I.ms (x := .no) rfl, I.tp⟩
theorem ss_forOwn {i x : Nat} (hb : ∀ B H0 Hf, SS ⟨X.K, B, H0, Hf, X.E⟩ t fb) : SS X (tFor (iAny X.K (tVar i)) (gName x) t) (sForOwn i x fb) := fun ρ fl h σ τ H o h0f nb I D q => by
  unfold sForOwn at h
  split at h
  · rename_i s k ds es el
    split at h
    · rename_i hc
      rw [Bool.and_eq_true, decide_eq_true_eq, decide_eq_true_eq] at hc
      obtain ⟨hix, hx⟩ := hc
      obtain ⟨A, vs, e1, eA, hl, nA, nB, sm0, fA, hn0, J⟩ := I.enter h0f el
      have eme : s.fixed = true → X.Hf.me i = .ref A := fun hf => by
        have z := I.ms i s es hf
        rw [e1] at z
        exact (Option.some.inj (Option.some.inj z)).symm
      refine .inl ⟨.ref A, e1, A, rfl, ⟨_, SqL.of eA⟩, ?_⟩
      have isl : i < ρ.length := (List.getElem?_eq_some_iff.mp es).1
      refine own_for (τ1 := τ) (ys := none) hb rfl hix eme hl nA nB I.bs sm0 hn0 fA h0f nb (Nat.le_refl _) (fun j v σ ρ L H o hj hv I2 => ?_) (fun H eA σ ρ L o I2 => ⟨_, SqL.of eA, by omega⟩) (J.drop x)
        (by rw [List.getElem?_set_ne (Ne.symm hix), List.getElem?_set_self isl]) (by rw [List.getElem?_set_self (by rw [List.length_set]; exact hx)]) h q
      have eA2 : H A = some (.lst vs) := I2.sm A _ fA
      refine ⟨⟨_, v, SqL.of eA2, hv⟩, fun x' H' hy => ?_⟩
      obtain ⟨rfl, hy⟩ := hy
      have z := hy _ (SqL.of eA2)
      rw [hv] at z
      cases z
      exact ⟨Same.refl _, .non, (fun y es e => nomatch e), fun Q hq => hq⟩
    · cases h
  · cases h
end
end P
namespace P
open PySem L2

section
variable {X : Fx} {K : PySem.W.Frag} {B B' : Addr → Prop} {H0 H H' : Hp} {Hf : Bg} {σ σ' : St} {ρ ρ' : Env} {τ τ' : List T} {o o' : Own} {v : V} {d : D} {te : TE} {fe : FE} {k : Nat} {t : TS} {f : FS}
def lendS : Sl → Sl
  | .ow _ d => .me 0 d | .me _ d => .me 0 d | .fx => .fx | .no => .no
def lendE (ρ : Env) : Env := ρ.map lendS
def valAt (σ : St) (i : Nat) : V := match σ[i]? with
  | some (some v) => v | _ => .non
theorem lend_look {i j : Nat} (h : look (lendE ρ) i = some (j, d)) : j = 0 ∧ ∃ k, look ρ i = some (k, d) := by
  unfold look lendE at h
  rw [List.getElem?_map] at h
  cases e : ρ[i]? with
  | none => rw [e] at h; cases h
  | some s =>
    rw [e] at h
    cases s with
    | no => cases h
    | fx => cases h
    | me k d => cases h; exact ⟨rfl, k, by unfold look; rw [e]⟩
    | ow k d => cases h; exact ⟨rfl, k, by unfold look; rw [e]⟩
theorem Ok.lend (I : Ok K B H0 Hf σ ρ τ H o) : Ok K (fun _ => False) H ⟨H, [], valAt σ⟩ σ (lendE ρ) [] H (fun _ => none) := by
  have eav : Av (fun _ => False) (fun _ => none) = fun _ => False := by
    funext a
    exact propext ⟨fun z => z.elim id (fun ⟨p, z⟩ => nomatch z), fun z => z.elim⟩
  refine ⟨by unfold lendE; rw [List.length_map]; exact I.len, (fun b hb => hb.elim), Same.refl _, ⟨Same.refl _, fun p hp => nomatch hp⟩, (fun a p h => nomatch h), fun j kj d h => ?_, fun j x h hf => ?_, trivial⟩
  · obtain ⟨rfl, k0, h5⟩ := lend_look h
    obtain ⟨w, f1, f2⟩ := I.sl j k0 d h5
    refine ⟨w, f1, .st ?_⟩
    rw [eav, del_nil]
    exact f2.repH
  · unfold lendE at h
    rw [List.getElem?_map] at h
    cases e : ρ[j]? with
    | none => rw [e] at h; cases h
    | some s =>
      rw [e] at h
      have val : ∀ w, σ[j]? = some (some w) → σ[j]? = some (some (valAt σ j)) := fun w hw => by
        have : valAt σ j = w := by unfold valAt; rw [hw]
        rw [this]
        exact hw
      cases s with
      | no => cases h; cases hf
      | fx => exact val _ (I.ms j _ e rfl)
      | me k d =>
        obtain ⟨w, f1, _⟩ := I.sl j k d (by unfold look; rw [e])
        exact val w f1
      | ow k d =>
        obtain ⟨w, f1, _⟩ := I.sl j k d (by unfold look; rw [e])
        exact val w f1
def eLend (fe : FE) : FE := fun ρ => match fe (lendE ρ) with
  | some (.val (.ow k, d) _) => if cov k d = true then some (.val (.ow k, d) ρ) else none
  | _ => none

def kept (ρ ρ' : Env) (i : Nat) : Prop := ∃ s' s, ρ'[i]? = some s' ∧ ρ[i]? = some s ∧ (s' = .fx ∨ ∃ d, s' = .me 0 d)
theorem ss_assoc {a b c : TS} (h : SS X (tSeq (tSeq a b) c) f) : SS X (tSeq a (tSeq b c)) f := h

def sRevR (i : Nat) : FS := fun ρ => match look ρ i with
  | some (k + 1, .lst ds) => some (.nxt (setK ρ i (k + 1) (.lst ds.reverse)))
  | _ => none
end
end P
namespace P
open PySem L2 PyProof.Rows

section
variable {prog : Program} {w : World} {A : Around} {It Bs : Addr} {own touched : List Addr} {size : Nat} {Elem : Nat → Value → Prop} {At : Nat → Heap → Prop} {R : Result → Shared → Prop}
end
section
variable {X : Fx} {te : TE} {fe : FE} {ts : TA} {fs : FA}
def eMxDef (g : List Int → Int) (fs : FA) (fe : FE) : FE := fun ρ => (fs ρ).bind fun as ρ1 => (fe ρ1).bind fun z ρ2 => match as, z.2 with
  | [a], .non => (match intsOf a.2 with
    | some [] => some (.val (.ow 0, .non) ρ2)
    | some (n :: ns) => some (.val (.ow 0, .int (g (n :: ns))) ρ2)
    | none => none)
  | [a], .int z => (match intsOf a.2 with
    | some [] => some (.val (.ow 0, .int z) ρ2)
    | some (n :: ns) => some (.val (.ow 0, .int (g (n :: ns))) ρ2)
    | none => none)
  | _, _ => none
end
end P
namespace P
open PySem L2

def endR : Option Fl → Option Out
  | some (.nxt _) => some (.ret 0 .non)
  | some (.ret k d) => some (.ret k d)
  | some (.exc x w) => some (.exc x w)
  | _ => none
def endI : Option Fl → Option Out
  | some (.nxt ρ) => match (ρ[0]? : Option Sl) with
    | some (Sl.me k d) => some (.ret k d)
    | _ => none
  | some (.exc x w) => some (.exc x w)
  | _ => none
section
variable {α β : Type} {a : α} {ρ : Env} {x : Str} {w : Option (Str × D)}
theorem toF_val {f : α → Env → Option Fl} : R.toF (some (.val a ρ)) f = f a ρ := rfl
end

class Bd (x : Int) (n : outParam Nat) : Prop where
  h : x.natAbs < 2 ^ n
theorem pow_le2 {a b : Nat} (h : a ≤ b) : (2 : Nat) ^ a ≤ 2 ^ b := Nat.pow_le_pow_right (by omega) h
theorem lt_pow {k a : Nat} (h : k < 2 ^ a) (b : Nat) (hb : a ≤ b) : k < 2 ^ b := Nat.lt_of_lt_of_le h (pow_le2 hb)
theorem Bd.le {x : Int} {n m : Nat} (b : Bd x n) (h : n ≤ m) : Bd x m := ⟨lt_pow b.h _ h⟩
section
variable {x y : Int} {n m : Nat}
instance (k : Nat) : Bd (no_index (OfNat.ofNat k) : Int) (k.log2 + 1) := ⟨by
  show k < 2 ^ (k.log2 + 1)
  exact Nat.lt_log2_self⟩
instance [h1 : Bd x n] [h2 : Bd y m] : Bd (x + y) (max n m + 1) := ⟨by
  have a := lt_pow h1.h (max n m) (Nat.le_max_left ..)
  have b := lt_pow h2.h (max n m) (Nat.le_max_right ..)
  rw [Nat.pow_succ]
  omega⟩
instance [h1 : Bd x n] [h2 : Bd y m] : Bd (x - y) (max n m + 1) := ⟨by
  have a := lt_pow h1.h (max n m) (Nat.le_max_left ..)
  have b := lt_pow h2.h (max n m) (Nat.le_max_right ..)
  rw [Nat.pow_succ]
  omega⟩
instance [h1 : Bd x n] : Bd (-x) n := ⟨by rw [Int.natAbs_neg]; exact h1.h⟩
instance [h1 : Bd x n] : Bd (x.natAbs : Int) n := ⟨by rw [Int.natAbs_natCast]; exact h1.h⟩
theorem wide_lt {i j : Int} {a b : Nat} (ha : i.natAbs < 2 ^ a) (hb : j.natAbs < 2 ^ b) : (i * j).natAbs < 2 ^ (a + b) := by
  rw [Int.natAbs_mul, Nat.pow_add]
  exact Nat.mul_lt_mul'' ha hb
instance [h1 : Bd x n] [h2 : Bd y m] : Bd (x * y) (n + m) := ⟨wide_lt h1.h h2.h⟩
instance [h1 : Bd x n] : Bd (x.fdiv y) n := ⟨by
  refine Nat.lt_of_le_of_lt ?_ h1.h
  by_cases hy : y = 0
  · subst hy; rw [Int.fdiv_zero]; exact Nat.zero_le _
  · rcases Int.lt_or_gt_of_ne hy with h | h
    · have e : x.fdiv y = (-x).fdiv (-y) := by rw [Int.neg_fdiv_neg]
      rw [e, Int.fdiv_eq_ediv_of_nonneg _ (by omega), ← Int.natAbs_neg x]
      generalize -x = z
      generalize hw : -y = w
      have hw : 0 < w := by omega
      rcases Int.lt_or_le z 0 with hz | hz
      · have l : z ≤ z / w := by
          have := Int.mul_ediv_self_le (x := z) (k := w) (by omega)
          have h2 := Int.lt_mul_ediv_self_add (x := z) (k := w) (by omega)
          have h3 : z / w < 0 := Int.ediv_neg_of_neg_of_pos hz hw
          have h4 : w * (z / w) ≤ 1 * (z / w) := Int.mul_le_mul_of_nonpos_right (by omega) (by omega)
          have h5 : z / w * 1 ≤ 0 := by omega
          rw [Int.one_mul] at h4
          have h6 : z < w * (z / w) + w := h2
          have h7 : (w - 1) * (z / w + 1) ≤ 0 := Int.mul_nonpos_of_nonneg_of_nonpos (by omega) (by omega)
          have h8 : (w - 1) * (z / w + 1) = w * (z / w) + w - (z / w) - 1 := by
            rw [Int.sub_mul, Int.mul_add, Int.mul_one, Int.one_mul]; omega
          omega
        have : z / w < 0 := Int.ediv_neg_of_neg_of_pos hz hw
        omega
      · have l := Int.ediv_le_self w hz
        have := Int.ediv_nonneg hz (Int.le_of_lt hw)
        omega
    · rw [Int.fdiv_eq_ediv_of_nonneg _ (by omega)]
      generalize x = z
      rcases Int.lt_or_le z 0 with hz | hz
      · have l : z ≤ z / y := by
          have h2 := Int.lt_mul_ediv_self_add (x := z) (k := y) (by omega)
          have h3 : z / y < 0 := Int.ediv_neg_of_neg_of_pos hz h
          have h7 : (y - 1) * (z / y + 1) ≤ 0 := Int.mul_nonpos_of_nonneg_of_nonpos (by omega) (by omega)
          have h8 : (y - 1) * (z / y + 1) = y * (z / y) + y - (z / y) - 1 := by
            rw [Int.sub_mul, Int.mul_add, Int.mul_one, Int.one_mul]; omega
          omega
        have : z / y < 0 := Int.ediv_neg_of_neg_of_pos hz h
        omega
      · have l := Int.ediv_le_self y hz
        have := Int.ediv_nonneg hz (Int.le_of_lt h)
        omega⟩
theorem fmod_lt (a : Int) {b : Int} (h : b ≠ 0) : (a.fmod b).natAbs < b.natAbs := by
  rcases Int.lt_or_gt_of_ne h with h | h
  · have e : a.fmod b = -((-a).fmod (-b)) := by rw [Int.neg_fmod_neg, Int.neg_neg]
    have h1 := Int.fmod_nonneg_of_pos (-a) (b := -b) (by omega)
    have h2 := Int.fmod_lt_of_pos (-a) (b := -b) (by omega)
    omega
  · have h1 := Int.fmod_nonneg_of_pos a h
    have h2 := Int.fmod_lt_of_pos a h
    omega
instance [h1 : Bd x n] [h2 : Bd y m] : Bd (x.fmod y) (max n m) := ⟨by
  by_cases hy : y = 0
  · subst hy; rw [Int.fmod_zero]; exact lt_pow h1.h _ (Nat.le_max_left ..)
  · exact Nat.lt_trans (fmod_lt x hy) (lt_pow h2.h _ (Nat.le_max_right ..))⟩
instance {p : Prop} [Decidable p] [h1 : Bd x n] [h2 : Bd y m] : Bd (if p then x else y) (max n m) := ⟨by
  split
  · exact lt_pow h1.h _ (Nat.le_max_left ..)
  · exact lt_pow h2.h _ (Nat.le_max_right ..)⟩
theorem mulOk_bd [h1 : Bd x n] [h2 : Bd y m] (h : n + m ≤ 999998) : MulOk x y :=
  CMulW.ok (wide_mul (lt_pow h1.h (n + 1) (by omega)) (lt_pow h2.h (m + 1) (by omega)) (by omega) (by omega) (by omega))
theorem bits_le {y : Int} {m : Nat} (h : y.natAbs < 2 ^ m) (hm : m ≤ 63) : Builtin.Int.intBits y ≤ 64 := by
  have := lt_pow h 63 hm
  have e : (2 : Nat) ^ 63 = 9223372036854775808 := by decide
  rw [e] at this
  exact PySem.intBits_le_64 (by omega) (by omega)
theorem mulOk_r (x : Int) [h2 : Bd y m] (h : m ≤ 63) : MulOk x y := IntMulOk.of_right (bits_le h2.h h)
theorem mulOk_l (y : Int) [h1 : Bd x n] (h : n ≤ 63) : MulOk x y := IntMulOk.of_left (bits_le h1.h h)
theorem divOk_bd (x : Int) [h2 : Bd y m] (h0 : y ≠ 0) (h : m ≤ 8999) : DivOk x y :=
  ⟨h0, PyProof.noPylong_of_log2 (Nat.lt_of_lt_of_le (PySem.Flt.log2_lt_of (by omega) (lt_pow h2.h 8999 h)) (by omega))⟩
theorem log_bd [h1 : Bd x n] (h : n ≤ 1919) (hn : 0 < n) : x.natAbs.log2 < 1920 := Nat.lt_of_lt_of_le (PySem.Flt.log2_lt_of (by omega) h1.h) (by omega)
end
theorem kit_NoneType_int : kitB "NoneType" "int" = some false := by decide +kernel
theorem kit_NoneType_bool : kitB "NoneType" "bool" = some false := by decide +kernel
theorem kit_NoneType_str : kitB "NoneType" "str" = some false := by decide +kernel
theorem kit_NoneType_tuple : kitB "NoneType" "tuple" = some false := by decide +kernel
theorem kit_NoneType_list : kitB "NoneType" "list" = some false := by decide +kernel
theorem kit_NoneType_dict : kitB "NoneType" "dict" = some false := by decide +kernel
theorem kit_bool_int : kitB "bool" "int" = some true := by decide +kernel
theorem kit_bool_bool : kitB "bool" "bool" = some true := by decide +kernel
theorem kit_bool_str : kitB "bool" "str" = some false := by decide +kernel
theorem kit_bool_tuple : kitB "bool" "tuple" = some false := by decide +kernel
theorem kit_bool_list : kitB "bool" "list" = some false := by decide +kernel
theorem kit_bool_dict : kitB "bool" "dict" = some false := by decide +kernel
theorem kit_int_int : kitB "int" "int" = some true := by decide +kernel
theorem kit_int_bool : kitB "int" "bool" = some false := by decide +kernel
theorem kit_int_str : kitB "int" "str" = some false := by decide +kernel
theorem kit_int_tuple : kitB "int" "tuple" = some false := by decide +kernel
theorem kit_int_list : kitB "int" "list" = some false := by decide +kernel
theorem kit_int_dict : kitB "int" "dict" = some false := by decide +kernel
theorem kit_str_int : kitB "str" "int" = some false := by decide +kernel
theorem kit_str_bool : kitB "str" "bool" = some false := by decide +kernel
theorem kit_str_str : kitB "str" "str" = some true := by decide +kernel
theorem kit_str_tuple : kitB "str" "tuple" = some false := by decide +kernel
theorem kit_str_list : kitB "str" "list" = some false := by decide +kernel
theorem kit_str_dict : kitB "str" "dict" = some false := by decide +kernel
theorem kit_list_int : kitB "list" "int" = some false := by decide +kernel
theorem kit_list_bool : kitB "list" "bool" = some false := by decide +kernel
theorem kit_list_str : kitB "list" "str" = some false := by decide +kernel
theorem kit_list_tuple : kitB "list" "tuple" = some false := by decide +kernel
theorem kit_list_list : kitB "list" "list" = some true := by decide +kernel
theorem kit_list_dict : kitB "list" "dict" = some false := by decide +kernel
theorem kit_tuple_int : kitB "tuple" "int" = some false := by decide +kernel
theorem kit_tuple_bool : kitB "tuple" "bool" = some false := by decide +kernel
theorem kit_tuple_str : kitB "tuple" "str" = some false := by decide +kernel
theorem kit_tuple_tuple : kitB "tuple" "tuple" = some true := by decide +kernel
theorem kit_tuple_list : kitB "tuple" "list" = some false := by decide +kernel
theorem kit_tuple_dict : kitB "tuple" "dict" = some false := by decide +kernel
theorem kit_dict_int : kitB "dict" "int" = some false := by decide +kernel
theorem kit_dict_bool : kitB "dict" "bool" = some false := by decide +kernel
theorem kit_dict_str : kitB "dict" "str" = some false := by decide +kernel
theorem kit_dict_tuple : kitB "dict" "tuple" = some false := by decide +kernel
theorem kit_dict_list : kitB "dict" "list" = some false := by decide +kernel
theorem kit_dict_dict : kitB "dict" "dict" = some true := by decide +kernel

theorem atI_nat {α : Type} (xs : List α) (j : Nat) : atI xs (j : Int) = xs[j]? := by
  unfold atI ixN
  rw [if_pos (by omega)]
  by_cases h : j < xs.length
  · rw [if_pos (by omega)]
    rfl
  · rw [if_neg (by omega), List.getElem?_eq_none (by omega)]
    rfl
theorem atI_lit {α : Type} (xs : List α) (n : Nat) : atI xs (no_index (OfNat.ofNat n) : Int) = xs[n]? := atI_nat xs n
theorem atI_last {α : Type} (xs : List α) : atI xs (-1) = xs[xs.length - 1]? := by
  unfold atI ixN
  rw [if_neg (by omega)]
  by_cases h : xs = []
  · subst h; rfl
  · have := List.length_pos_iff.mpr h
    rw [if_pos (by omega)]
    show xs[(-1 + (xs.length : Int)).toNat]? = _
    congr 1
    omega
theorem ixN_nat (n j : Nat) : ixN n (j : Int) = if j < n then some j else none := by
  unfold ixN
  rw [if_pos (by omega)]
  by_cases h : j < n
  · rw [if_pos (by omega), if_pos h]; rfl
  · rw [if_neg (by omega), if_neg h]
theorem ixN_lit (n j : Nat) : ixN n (no_index (OfNat.ofNat j) : Int) = if j < n then some j else none := ixN_nat n j
theorem cut_nn (xs : List D) (lo hi : Nat) : cutD xs (some (lo : Int)) (some (hi : Int)) = (xs.drop lo).take (hi - lo) := by
  unfold cutD
  rw [HT.sIx_nat, HT.sIx_nat]
  by_cases h : lo ≤ xs.length
  · rw [show min lo xs.length = lo from Nat.min_eq_left h]
    by_cases h2 : hi ≤ xs.length
    · rw [Nat.min_eq_left h2]
    · rw [show min hi xs.length = xs.length from Nat.min_eq_right (by omega), List.take_of_length_le (by rw [List.length_drop]; omega), List.take_of_length_le (by rw [List.length_drop]; omega)]
  · rw [show min lo xs.length = xs.length from Nat.min_eq_right (by omega), List.drop_of_length_le (Nat.le_refl _), List.drop_of_length_le (show xs.length ≤ lo by omega), List.take_nil, List.take_nil]

theorem eqD_nn : eqD .non .non = true := rfl
theorem eqD_ii (a b : Int) : eqD (.int a) (.int b) = decide (a = b) := by
  rw [Bool.eq_iff_iff, decide_eq_true_eq]
  exact beq_iff_eq
theorem eqD_bb (a b : Bool) : eqD (.bl a) (.bl b) = decide (a = b) := by cases a <;> cases b <;> rfl
theorem eqD_ss (a b : Str) : eqD (.str a) (.str b) = decide (a = b) := by
  rw [Bool.eq_iff_iff, decide_eq_true_eq]
  exact beq_iff_eq
theorem eqD_tt (xs ys : List D) : eqD (.tup xs) (.tup ys) = eqD.eqs xs ys := rfl
theorem eqD_ll (xs ys : List D) : eqD (.lst xs) (.lst ys) = eqD.eqs xs ys := rfl
theorem eqs_nn : eqD.eqs [] [] = true := rfl
theorem eqs_cc (x y : D) (xs ys : List D) : eqD.eqs (x :: xs) (y :: ys) = (eqD x y && eqD.eqs xs ys) := rfl
theorem eqs_nc (y : D) (ys : List D) : eqD.eqs [] (y :: ys) = false := rfl
theorem eqs_cn (y : D) (ys : List D) : eqD.eqs (y :: ys) [] = false := rfl
theorem beq_str (a b : Str) : (a == b) = decide (a = b) := by
  rw [Bool.eq_iff_iff, decide_eq_true_eq]
  exact beq_iff_eq
theorem beq_int (a b : Int) : (a == b) = decide (a = b) := by
  rw [Bool.eq_iff_iff, decide_eq_true_eq]
  exact beq_iff_eq
theorem seq_nxt {f g : FS} {ρ ρ1 : Env} {r : Option Fl} (h : f ρ = some (.nxt ρ1)) (h2 : g ρ1 = r) : sSeq f g ρ = r := by
  unfold sSeq
  rw [h]
  exact h2
theorem end_ret {r : Option Fl} {k : Nat} {d : D} (h : r = some (.ret k d)) : endR r = some (.ret k d) := by rw [h]; rfl
end P
namespace P
open PySem L2

section
variable {ft : FT} {fb : FS} {fg : FG} {fe : FE} {vs : List Nat} {k : Nat} {ρ : Env}
theorem sWhile_ind (J : Nat → Env → Prop) (Rr : Env → Prop) (h : ∀ m ρ, J m ρ → (ft ρ = some (.val false ρ) ∧ Rr ρ) ∨ ∃ ρ' m', ft ρ = some (.val true ρ) ∧ fb ρ = some (.nxt ρ') ∧ m' < m ∧ J m' ρ') : ∀ {m : Nat} {ρ : Env}, J m ρ → ∃ ρ', sWhile ft fb ρ = some (.nxt ρ') ∧ Rr ρ' := by
  have key : ∀ m ρ, J m ρ → ∃ n ρ', whileF ft fb n ρ = some (.nxt ρ') ∧ Rr ρ' := fun m => by
    induction m using Nat.strongRecOn with
    | _ m ih =>
      intro ρ hJ
      rcases h m ρ hJ with ⟨h1, h2⟩ | ⟨ρ', m', h1, h2, h3, h4⟩
      · exact ⟨1, ρ, by unfold whileF; rw [h1]; rfl, h2⟩
      · obtain ⟨n, ρ2, e, r⟩ := ih m' h3 ρ' h4
        refine ⟨n + 1, ρ2, ?_, r⟩
        unfold whileF
        rw [h1]
        rw [toF_val, if_pos rfl, h2]
        exact e
  intro m ρ hJ
  obtain ⟨n, ρ', e, r⟩ := key m ρ hJ
  exact ⟨ρ', sWhile_of e, r⟩
theorem loop_inv (J : Nat → Env → Prop) : ∀ {ds : List D} {i : Nat} {ρ : Env}, J i ρ → (∀ j d ρ, ds[j]? = some d → J (i + j) ρ → ∃ ρ1 ρ2, fg (.ow 0, d) ρ = some ρ1 ∧ (fb ρ1 = some (.nxt ρ2) ∨ fb ρ1 = some (.cnt ρ2)) ∧ J (i + j + 1) ρ2) → ∃ ρ', loop fg fb ds ρ = some (.nxt ρ') ∧ J (i + ds.length) ρ'
  | [], i, ρ, hJ, _ => ⟨ρ, rfl, hJ⟩
  | d :: ds, i, ρ, hJ, h => by
    obtain ⟨ρ1, ρ2, e1, e2, hJ2⟩ := h 0 d ρ rfl hJ
    obtain ⟨ρ', e3, hJ3⟩ := loop_inv J (ds := ds) (i := i + 1) hJ2 fun j d' ρ3 hd hj => by
      have e : i + (j + 1) = i + 1 + j := by omega
      have y := h (j + 1) d' ρ3 hd (by rw [e]; exact hj)
      rw [e] at y
      exact y
    refine ⟨ρ', ?_, by rw [List.length_cons, show i + (ds.length + 1) = i + 1 + ds.length by omega]; exact hJ3⟩
    unfold loop
    rw [e1]
    rcases e2 with e2 | e2
    · dsimp only
      rw [e2]
      exact e3
    · dsimp only
      rw [e2]
      exact e3
theorem lcGo_map {β : Type} {u f : β → D} : ∀ {xs : List β}, (∀ x, x ∈ xs → lcOne vs fg ft fe k ρ (u x) = some (some (f x))) → lcGo vs fg ft fe k ρ (xs.map u) = some (xs.map f)
  | [], _ => rfl
  | x :: xs, h => by
    rw [List.map_cons]
    unfold lcGo
    rw [h x (List.mem_cons_self ..)]
    dsimp only
    rw [lcGo_map (xs := xs) fun y hy => h y (List.mem_cons_of_mem _ hy)]
    rfl
end
theorem rangeD_map (n : Nat) : rangeD 0 n = (List.range n).map fun (i : Nat) => D.int (i : Int) := by
  unfold rangeD
  congr 1
  funext i
  rw [Int.zero_add]
theorem fmod_eq (a b : Int) : a.fmod b = a - b * a.fdiv b := Int.fmod_def a b
theorem gcd_fmod (a b : Int) : Int.gcd b (a.fmod b) = Int.gcd a b := by
  rw [fmod_eq, Int.gcd_sub_mul_left_right, Int.gcd_comm]
theorem fmod_pos (a : Int) {b : Int} (h : 0 < b) : 0 ≤ a.fmod b ∧ a.fmod b < b := ⟨Int.fmod_nonneg_of_pos a h, Int.fmod_lt_of_pos a h⟩
theorem fdiv_le (a : Int) {b : Int} (h : b ≠ 0) : (a.fdiv b).natAbs ≤ a.natAbs := by
  have e := Int.mul_fdiv_add_fmod a b
  have hl := fmod_lt a h
  generalize hq : a.fdiv b = q at *
  generalize hr : a.fmod b = r at *
  have e1 : (b * q).natAbs = b.natAbs * q.natAbs := Int.natAbs_mul b q
  by_cases hq0 : q.natAbs ≤ 1
  · by_cases ha : a = 0
    · subst ha
      rw [Int.zero_fdiv] at hq
      omega
    · omega
  · have h2 : 2 * q.natAbs ≤ b.natAbs * q.natAbs ∨ b.natAbs = 1 := by
      by_cases hb : b.natAbs = 1
      · exact .inr hb
      · exact .inl (Nat.mul_le_mul_right _ (by omega))
    rcases h2 with h2 | h2
    · have h3 : b.natAbs * 2 ≤ b.natAbs * q.natAbs := Nat.mul_le_mul_left _ (by omega)
      have h4 : b.natAbs * q.natAbs = b.natAbs * (q.natAbs - 1) + b.natAbs := by
        rw [← Nat.mul_succ]
        congr 1
        omega
      have h5 : 1 * (q.natAbs - 1) ≤ b.natAbs * (q.natAbs - 1) := Nat.mul_le_mul_right _ (by omega)
      omega
    · rw [h2, Nat.one_mul] at e1
      omega
def cellOf (ns : List Int) (k : Nat) : Int := (ns[k]?).getD 0
theorem cell_cut (ns : List Int) (k : Nat) (hl : ns.length ≤ 63) : cutD (ns.map D.int) (some (k : Int)) (some ((k : Int) + 1)) = ((ns.drop k).take 1).map D.int := by
  unfold cutD
  have e : ((k : Int) + 1) = ((k + 1 : Nat) : Int) := by omega
  rw [e, HT.sIx_nat, HT.sIx_nat, List.length_map, ← List.map_drop, ← List.map_take]
  congr 1
  by_cases h : k < ns.length
  · rw [show min k ns.length = k by omega, show min (k + 1) ns.length - k = 1 by omega]
  · rw [List.drop_eq_nil_of_le (show ns.length ≤ min k ns.length by omega), List.drop_eq_nil_of_le (show ns.length ≤ k by omega), List.take_nil, List.take_nil]
theorem cell_at (ns : List Int) (k : Nat) : atI (((ns.drop k).take 1).map D.int ++ [D.int 0]) 0 = some (D.int (cellOf ns k)) := by
  have e : (0 : Int) = ((0 : Nat) : Int) := rfl
  conv => lhs; rw [e]
  rw [atI_nat]
  unfold cellOf
  by_cases h : k < ns.length
  · rw [List.drop_eq_getElem_cons h, List.getElem?_eq_getElem h]
    rfl
  · rw [List.drop_eq_nil_of_le (show ns.length ≤ k by omega), List.getElem?_eq_none (show ns.length ≤ k by omega)]
    rfl
theorem log_lt9 {k : Nat} (h : k < 2 ^ 8999) : k.log2 < 9000 := Nat.lt_of_lt_of_le (PySem.Flt.log2_lt_of (by omega) h) (by omega)
theorem noPy {x y : Int} (h : y.natAbs < 2 ^ 8999) : Builtin.divisionGoesByPylong x y = false := PyProof.noPylong_of_log2 (log_lt9 h)
abbrev fr (p : Int × Int) : D := .tup [.int p.1, .int p.2]
def IsFr (p : Int × Int) : Prop := 0 < p.2 ∧ Int.gcd p.1 p.2 = 1
def lowest (t b : Int) : Int × Int := (t / (Int.gcd t b : Nat), b / (Int.gcd t b : Nat))
theorem lowest_fr {t b : Int} (h : 0 < b) : IsFr (lowest t b) := by
  have g := Int.gcd_pos_of_ne_zero_right t (show b ≠ 0 by omega)
  refine ⟨?_, Int.gcd_ediv_gcd_ediv_gcd g⟩
  have h1 := Int.gcd_dvd_right t b
  have h2 := Int.ediv_mul_cancel h1
  show 0 < b / ((Int.gcd t b : Nat) : Int)
  by_cases z : 0 < b / ((Int.gcd t b : Nat) : Int)
  · exact z
  · have := Int.mul_nonpos_of_nonpos_of_nonneg (a := b / ((Int.gcd t b : Nat) : Int)) (b := ((Int.gcd t b : Nat) : Int)) (by omega) (by omega)
    omega
theorem lowest_mul (t b : Int) : (lowest t b).1 * (Int.gcd t b : Nat) = t ∧ (lowest t b).2 * (Int.gcd t b : Nat) = b := ⟨Int.ediv_mul_cancel (Int.gcd_dvd_left t b), Int.ediv_mul_cancel (Int.gcd_dvd_right t b)⟩
theorem lowest_le (t b : Int) : (lowest t b).1.natAbs ≤ t.natAbs ∧ (lowest t b).2.natAbs ≤ b.natAbs := by
  have h := lowest_mul t b
  by_cases g : Int.gcd t b = 0
  · have z := Int.gcd_eq_zero_iff.mp g
    unfold lowest
    rw [z.1, z.2]
    decide
  · have k1 := Int.natAbs_mul (lowest t b).1 (Int.gcd t b : Nat)
    have k2 := Int.natAbs_mul (lowest t b).2 (Int.gcd t b : Nat)
    rw [h.1] at k1
    rw [h.2] at k2
    rw [Int.natAbs_natCast] at k1 k2
    have j1 : (lowest t b).1.natAbs * 1 ≤ (lowest t b).1.natAbs * Int.gcd t b := Nat.mul_le_mul_left _ (by omega)
    have j2 : (lowest t b).2.natAbs * 1 ≤ (lowest t b).2.natAbs * Int.gcd t b := Nat.mul_le_mul_left _ (by omega)
    omega
theorem gcd_le_r {t b : Int} (h : b ≠ 0) : Int.gcd t b ≤ b.natAbs := Int.gcd_le_natAbs_right t h
theorem min_max_perm (a b : Nat) : ([((min a b : Nat) : Int), ((max a b : Nat) : Int)] : List Int).Perm [(a : Int), (b : Int)] ∧ ([((min a b : Nat) : Int), ((max a b : Nat) : Int)] : List Int).Pairwise (· ≤ ·) := by
  refine ⟨?_, by simp; omega⟩
  rcases Nat.le_total a b with h | h
  · rw [Nat.min_eq_left h, Nat.max_eq_right h]
  · rw [Nat.min_eq_right h, Nat.max_eq_left h]
    exact List.Perm.swap ..
def ratioF (t b : Int) : Int × Int := (t.fdiv (if b < 0 then 0 - (Int.gcd t b : Nat) else (Int.gcd t b : Nat)), b.fdiv (if b < 0 then 0 - (Int.gcd t b : Nat) else (Int.gcd t b : Nat)))
theorem fdiv_exact {x g : Int} (hg : g ≠ 0) (h : g ∣ x) : x.fdiv g * g = x := Int.fdiv_mul_cancel_of_fmod_eq_zero (Int.fmod_eq_zero_of_dvd h)
theorem ratioF_spec {t b : Int} (h : b ≠ 0) : IsFr (ratioF t b) ∧ (ratioF t b).1 * b = t * (ratioF t b).2 := by
  have g0 := Int.gcd_pos_of_ne_zero_right t h
  have d1 := Int.gcd_dvd_left t b
  have d2 := Int.gcd_dvd_right t b
  have key : ∀ s : Int, (s = (Int.gcd t b : Nat) ∧ 0 < b) ∨ (s = 0 - (Int.gcd t b : Nat) ∧ b < 0) → 0 < b.fdiv s ∧ Int.gcd (t.fdiv s) (b.fdiv s) = 1 ∧ t.fdiv s * b = t * b.fdiv s := fun s hs => by
    have s0 : s ≠ 0 := by omega
    have sa : s.natAbs = Int.gcd t b := by omega
    have e1 : s ∣ t := by
      rcases hs with ⟨rfl, _⟩ | ⟨rfl, _⟩
      · exact d1
      · rw [Int.zero_sub]; exact Int.neg_dvd.mpr d1
    have e2 : s ∣ b := by
      rcases hs with ⟨rfl, _⟩ | ⟨rfl, _⟩
      · exact d2
      · rw [Int.zero_sub]; exact Int.neg_dvd.mpr d2
    have f1 := fdiv_exact s0 e1
    have f2 := fdiv_exact s0 e2
    generalize t.fdiv s = p at *
    generalize b.fdiv s = q at *
    refine ⟨?_, ?_, ?_⟩
    · rcases hs with ⟨hs, hb⟩ | ⟨hs, hb⟩
      · by_cases z : 0 < q
        · exact z
        · have := Int.mul_nonpos_of_nonpos_of_nonneg (a := q) (b := s) (by omega) (by omega)
          omega
      · by_cases z : 0 < q
        · exact z
        · have := Int.mul_nonneg_of_nonpos_of_nonpos (a := q) (b := s) (by omega) (by omega)
          omega
    · have k : Int.gcd (p * s) (q * s) = Int.gcd p q * s.natAbs := Int.gcd_mul_right p s q
      rw [f1, f2, sa] at k
      have : Int.gcd t b * 1 = Int.gcd t b * Int.gcd p q := by
        rw [Nat.mul_one, Nat.mul_comm]
        exact k
      exact (Nat.eq_of_mul_eq_mul_left g0 this).symm
    · rw [← f1, ← f2, Int.mul_comm q s, Int.mul_assoc]
  unfold ratioF IsFr
  by_cases hb : b < 0
  · simp only [if_pos hb]
    have k := key _ (.inr ⟨rfl, hb⟩)
    exact ⟨⟨k.1, k.2.1⟩, k.2.2⟩
  · simp only [if_neg hb]
    have k := key _ (.inl ⟨rfl, by omega⟩)
    exact ⟨⟨k.1, k.2.1⟩, k.2.2⟩
theorem ratioF_le {t b : Int} (h : b ≠ 0) : (ratioF t b).1.natAbs ≤ t.natAbs ∧ (ratioF t b).2.natAbs ≤ b.natAbs := by
  have g0 := Int.gcd_pos_of_ne_zero_right t h
  unfold ratioF
  split
  · exact ⟨fdiv_le _ (by omega), fdiv_le _ (by omega)⟩
  · exact ⟨fdiv_le _ (by omega), fdiv_le _ (by omega)⟩

theorem tl_decn (n : Nat) : (decI (n : Int)).cps.toList = TL.numL n := TL.tl_num n
theorem tl_decneg (m : Nat) : (decI (Int.negSucc m)).cps.toList = 45 :: TL.numL (m + 1) := by
  show (Str.ofString ("-" ++ Nat.repr (m + 1))).cps.toList = _
  rw [Str.ofString_eq_toList]
  show (("-" ++ Nat.repr (m + 1)).toList.map Char.toNat) = _
  rw [String.toList_append, List.map_append, Nat.toList_repr]
  rfl
theorem dec_len {i : Int} {k : Nat} (hk : 0 < k) (h : i.natAbs < 10 ^ k) : (decI i).length ≤ k + 1 := by
  have e : (decI i).cps.toList.length = (decI i).length := Array.length_toList
  rw [← e]
  cases i with
  | ofNat n =>
    have q := TL.numL_len hk (show n < 10 ^ k from h)
    rw [show (decI (Int.ofNat n)).cps.toList = TL.numL n from tl_decn n]
    omega
  | negSucc m =>
    have q := TL.numL_len hk (show m + 1 < 10 ^ k from h)
    rw [tl_decneg, List.length_cons]
    omega
end P
namespace P
open PySem L2

theorem eVar_ap (i : Nat) (ρ : Env) : eVar i ρ = match look ρ i with
  | some (0, d) => some (.val (.ow 0, d) ρ)
  | some (_ + 1, d) => some (.val (.bw, d) ρ)
  | none => none := rfl
theorem eFz_ap (i : Nat) (ρ : Env) : eFz i ρ = match look ρ i with
  | some (_, d) => some (.val (.ow 0, d) (ρ.set i (.ow 0 d)))
  | none => none := rfl
theorem eMv_ap (i : Nat) (ρ : Env) : eMv i ρ = match look ρ i with
  | some (k, d) => some (.val (.ow k, d) (ρ.set i .no))
  | none => none := rfl
theorem eC_ap (d : D) (ρ : Env) : eC d ρ = some (.val (.ow 0, d) ρ) := rfl
theorem eOp_ap (g : Kx → Kx → Option Kx) (fa fb : FE) (ρ : Env) : eOp g fa fb ρ = (fa ρ).bind fun a ρ1 => (fb ρ1).bind fun b ρ2 => (g a b).map fun c => .val c ρ2 := rfl
theorem g2_ap (g : D → D → Option D) (a : Kx) (b : Kx) : g2 g a b = (g a.2 b.2).map fun c => (.ow 0, c) := rfl
theorem gOr_ap (g g' : Kx → Kx → Option Kx) (a : Kx) (b : Kx) : gOr g g' a b = match g a b with
  | some c => some c | none => g' a b := rfl
theorem eAnd_ap (fa fb : FE) (ρ : Env) : eAnd fa fb ρ = (fa ρ).bind fun a ρ1 => match a.2 with
  | .bl true => fb ρ1 | .bl false => some (.val (.ow 0, .bl false) ρ1) | _ => none := rfl
theorem eOr_ap (fa fb : FE) (ρ : Env) : eOr fa fb ρ = (fa ρ).bind fun a ρ1 => match a.2 with
  | .bl true => some (.val (.ow 0, .bl true) ρ1) | .bl false => fb ρ1 | _ => none := rfl
theorem eNot_ap (fa : FE) (ρ : Env) : eNot fa ρ = (fa ρ).bind fun a ρ1 => match a.2 with
  | .bl b => some (.val (.ow 0, .bl (!b)) ρ1) | _ => none := rfl
theorem bOf_ap (fa : FE) (ρ : Env) : bOf fa ρ = (fa ρ).bind fun a ρ1 => match a.2 with
  | .bl b => some (.val b ρ1) | _ => none := rfl
theorem bAnd_ap (ft fu : FT) (ρ : Env) : bAnd ft fu ρ = (ft ρ).bind fun a ρ1 => if a = true then fu ρ1 else some (.val false ρ1) := rfl
theorem bOr_ap (ft fu : FT) (ρ : Env) : bOr ft fu ρ = (ft ρ).bind fun a ρ1 => if a = true then some (.val true ρ1) else fu ρ1 := rfl
theorem bNot_ap (ft : FT) (ρ : Env) : bNot ft ρ = (ft ρ).bind fun a ρ1 => some (.val (!a) ρ1) := rfl
theorem eIf_ap (ft : FT) (fa fb : FE) (ρ : Env) : eIf ft fa fb ρ = (ft ρ).bind fun b ρ1 => if b = true then fa ρ1 else fb ρ1 := rfl
theorem aNil_ap  (ρ : Env) : aNil ρ = some (.val [] ρ) := rfl
theorem aCons_ap (fa : FE) (fs : FA) (ρ : Env) : aCons fa fs ρ = (fa ρ).bind fun a ρ1 => (fs ρ1).bind fun as ρ2 => some (.val (a :: as) ρ2) := rfl
theorem eTup_ap (k : Nat) (fs : FA) (ρ : Env) : eTup k fs ρ = (fs ρ).bind fun as ρ1 => if as.length ≤ 1000 then (match k with
  | 0 => if as.all stb' = true then some (.val (.ow 0, .tup (as.map (·.2))) ρ1) else some (.val (.bw, .tup (as.map (·.2))) ρ1)
  | k + 1 => if as.all (hasK k) = true then some (.val (.ow (k + 1), .tup (as.map (·.2))) ρ1) else none) else none := rfl
theorem eLst_ap (k : Nat) (fs : FA) (ρ : Env) : eLst k fs ρ = (fs ρ).bind fun as ρ1 => if as.length ≤ 1000 then (match k with
  | 0 => if as.all stb' = true then some (.val (.ow 1, .lst (as.map (·.2))) ρ1) else some (.val (.bw, .lst (as.map (·.2))) ρ1)
  | k + 1 => if as.all (hasK k) = true then some (.val (.ow (k + 2), .lst (as.map (·.2))) ρ1) else none) else none := rfl
theorem gIx_ap  (a : Kx) (b : Kx) : gIx a b = match b.2 with
  | .int i => (ixD a.2 i).map fun f => (kPart a.1 f, f)
  | _ => none := rfl
theorem eCall_ap (run : Run) (fs : FA) (ρ : Env) : eCall run fs ρ = (fs ρ).bind fun as ρ1 => match run (as.map (·.2)) with
  | none => none
  | some (.ret k d) => if as.all stb' = true then some (.val (.ow k, d) ρ1) else if cov k d = true then some (.val (.ow k, d) ρ1) else none
  | some (.exc x w) => if as.all stb' = true then some (.exc x w) else if flatX w = true then some (.exc x w) else none := rfl
theorem sNext_ap  (ρ : Env) : sNext ρ = some (.nxt ρ) := rfl
theorem sBrk_ap  (ρ : Env) : sBrk ρ = some (.brk ρ) := rfl
theorem sCnt_ap  (ρ : Env) : sCnt ρ = some (.cnt ρ) := rfl
theorem sNever_ap  (x0 : Env) : sNever x0 = none := rfl
theorem sSeq_ap (f g : FS) (ρ : Env) : sSeq f g ρ = match f ρ with
  | some (.nxt ρ1) => g ρ1
  | r => r := rfl
theorem sRet_ap (fe : FE) (ρ : Env) : sRet fe ρ = (fe ρ).toF fun a ρ1 => match a.1 with
  | .ow k => some (.ret k a.2) | .bw => if flat a.2 = true then some (.ret 0 a.2) else none := rfl
theorem sDrop_ap (fe : FE) (ρ : Env) : sDrop fe ρ = (fe ρ).toF fun _ ρ1 => some (.nxt ρ1) := rfl
theorem sIf_ap (ft : FT) (f g : FS) (ρ : Env) : sIf ft f g ρ = (ft ρ).toF fun b ρ1 => if b = true then f ρ1 else g ρ1 := rfl
theorem sRetN_ap  (x0 : Env) : sRetN x0 = some (.ret 0 .non) := rfl
theorem gN_ap (i : Nat) (a : Kx) (ρ : Env) : gN i a ρ = match a.1 with
  | .ow k => some (ρ.set i (.ow k a.2)) | .bw => if flat a.2 = true then some (ρ.set i (.ow 0 a.2)) else none := rfl
theorem gsNil_ap  (as : List Kx) (ρ : Env) : gsNil as ρ = match as with
  | [] => some ρ | _ => none := rfl
theorem gsCons_ap (fg : FG) (fgs : FGs) (as : List Kx) (ρ : Env) : gsCons fg fgs as ρ = match as with
  | [] => none
  | a :: as => match fg a ρ with
    | some ρ1 => fgs as ρ1 | none => none := rfl
theorem gT_ap (n : Nat) (fgs : FGs) (a : Kx) (ρ : Env) : gT n fgs a ρ = match a with
  | (.ow 0, .tup ds) => if ds.length = n then fgs (withK (.ow 0) ds) ρ else none
  | (.ow (k + 1), .tup ds) => if ds.length = n then fgs (withK (.ow (k + 1)) ds) ρ else none
  | (.ow _, .lst ds) => if ds.length = n then fgs (withK (.ow 0) ds) ρ else none
  | (.bw, .tup ds) => if ds.length = n then (if flats ds = true then fgs (withK (.ow 0) ds) ρ else none) else none
  | (.bw, .lst ds) => if ds.length = n then (if flats ds = true then fgs (withK (.ow 0) ds) ρ else none) else none
  | _ => none := rfl
theorem sAsg_ap (fe : FE) (fg : FG) (ρ : Env) : sAsg fe fg ρ = (fe ρ).toF fun a ρ1 => match fg a ρ1 with
  | some ρ2 => some (.nxt ρ2) | none => none := rfl
theorem sPar_ap (i j : Nat) (fs : FA) (ρ : Env) : sPar i j fs ρ = match fs ρ with
  | none => none
  | some (.exc x w) => some (.exc x w)
  | some (.val as ρ1) => match as with
    | [a, b] => if as.all stb' = true then some (.nxt ((ρ1.set i (.ow 0 a.2)).set j (.ow 0 b.2))) else none
    | _ => none := rfl
theorem sAug_ap (i : Nat) (fe : FE) (op : Int → Int → Int) (ρ : Env) : sAug i fe op ρ = match look ρ i with
  | some (_, .int m) => (fe ρ).toF fun a ρ1 => match a.2 with
    | .int n => some (.nxt (ρ1.set i (.ow 0 (.int (op m n))))) | _ => none
  | _ => none := rfl
theorem iLst_ap (fe : FE) (ρ : Env) : iLst fe ρ = (fe ρ).bind fun a ρ1 => (lstD a).map fun ds => .val ds ρ1 := rfl
theorem iR1_ap (fe : FE) (ρ : Env) : iR1 fe ρ = (fe ρ).bind fun a ρ1 => match a.2 with
  | .int n => chk (-(2 ^ 62) ≤ n ∧ n < 2 ^ 62) (some (.val (rangeD 0 n.toNat) ρ1)) | _ => none := rfl
theorem iR2_ap (fa fb : FE) (ρ : Env) : iR2 fa fb ρ = (fa ρ).bind fun a ρ1 => (fb ρ1).bind fun b ρ2 => match a.2, b.2 with
  | .int m, .int n => chk (-(2 ^ 62) ≤ m ∧ m < 2 ^ 62 ∧ -(2 ^ 62) ≤ n ∧ n < 2 ^ 62) (some (.val (rangeD m (n - m).toNat) ρ2)) | _, _ => none := rfl
theorem sFor_ap (fi : FI) (fg : FG) (fb : FS) (ρ : Env) : sFor fi fg fb ρ = match fi ρ with
  | none => none
  | some (.exc x w) => some (.exc x w)
  | some (.val ds ρ1) => loop fg fb ds ρ1 := rfl
theorem pVar_ap (i : Nat) (ρ : Env) : pVar i ρ = match look ρ i with
  | some _ => some (.val (i, []) ρ) | none => none := rfl
theorem pIx_ap (fp : FP) (fe : FE) (ρ : Env) : pIx fp fe ρ = (fp ρ).bind fun z ρ1 => (fe ρ1).bind fun a ρ2 => match a.2, nodeL ρ2 z.1 z.2 with
  | .int n, some (_ + 1, e) => match seqD e with
    | some ds => (ixN ds.length n).map fun j => .val (z.1, z.2 ++ [j]) ρ2
    | none => none
  | _, _ => none := rfl
theorem sApp_ap (fp : FP) (fe : FE) (ρ : Env) : sApp fp fe ρ = match fp ρ with
  | none => none
  | some (.exc x w) => some (.exc x w)
  | some (.val z ρ1) => if isLst (nodeL ρ1 z.1 z.2) = true then (fe ρ1).toF fun a ρ2 => match look ρ2 z.1 with
    | none => none
    | some (k0, d0) => match getK k0 d0 z.2 with
      | some (k + 1, .lst ds) => if okItem k a = true then chk (ds.length < sizeLine) (some (.nxt (setK ρ2 z.1 k0 (putK d0 z.2 (.lst (ds ++ [a.2])))))) else none
      | _ => none else none := rfl
theorem sSet_ap (fp : FP) (fi fe : FE) (ρ : Env) : sSet fp fi fe ρ = (fe ρ).toF fun a ρ1 => match fp ρ1 with
  | none => none
  | some (.exc x w) => some (.exc x w)
  | some (.val z ρ2) => (fi ρ2).toF fun b ρ3 => match b.2 with
    | .int n => match look ρ3 z.1 with
      | none => none
      | some (k0, d0) => match getK k0 d0 z.2 with
        | some (k + 1, .lst ds) => match ixN ds.length n with
          | some j => if okItem k a = true then some (.nxt (setK ρ3 z.1 k0 (putK d0 z.2 (.lst (ds.set j a.2))))) else none
          | none => none
        | _ => none
    | _ => none := rfl
theorem sClr_ap (fp : FP) (ρ : Env) : sClr fp ρ = match fp ρ with
  | none => none
  | some (.exc x w) => some (.exc x w)
  | some (.val z ρ2) => match look ρ2 z.1 with
      | none => none
      | some (k0, d0) => match getK k0 d0 z.2 with
        | some (_ + 1, .lst _) => some (.nxt (setK ρ2 z.1 k0 (putK d0 z.2 (.lst []))))
        | _ => none := rfl
theorem sRev_ap (fp : FP) (ρ : Env) : sRev fp ρ = match fp ρ with
  | none => none
  | some (.exc x w) => some (.exc x w)
  | some (.val z ρ2) => match look ρ2 z.1 with
      | none => none
      | some (k0, d0) => match getK k0 d0 z.2 with
        | some (1, .lst ds) => some (.nxt (setK ρ2 z.1 k0 (putK d0 z.2 (.lst ds.reverse))))
        | _ => none := rfl
theorem eLc_ap (k : Nat) (vs : List Nat) (fi : FI) (fg : FG) (ft : FT) (fe : FE) (ρ : Env) : eLc k vs fi fg ft fe ρ = match fi ρ with
  | none => none
  | some (.exc x w) => some (.exc x w)
  | some (.val ds ρ1) => chk (ds.length ≤ sizeLine) (match lcGo vs fg ft fe k (wipeE ρ1 vs) ds with
    | none => none
    | some es => some (.val (.ow (k + 1), .lst es) (wipeE ρ1 vs))) := rfl
theorem bYes_ap  (ρ : Env) : bYes ρ = some (.val true ρ) := rfl
theorem gCat_ap  (a : Kx) (b : Kx) : gCat a b = match a.2, b.2 with
  | .lst ds, .lst es => if (itemsOk a ds && itemsOk b es) = true then chk (ds.length + es.length ≤ sizeLine) (some (.ow 1, .lst (ds ++ es))) else chk (ds.length + es.length ≤ sizeLine) (some (.bw, .lst (ds ++ es)))
  | _, _ => none := rfl
theorem gRep_ap  (a : Kx) (b : Kx) : gRep a b = match a.2, b.2 with
  | .lst ds, .int n => if itemsOk a ds = true then chk (-(2 ^ 63) ≤ n ∧ n < 2 ^ 63 ∧ ds.length * n.toNat ≤ sizeLine) (some (.ow 1, .lst (List.replicate n.toNat ds).flatten)) else none
  | _, _ => none := rfl
theorem eCB_ap (g : List Kx → Option Kx) (fs : FA) (ρ : Env) : eCB g fs ρ = (fs ρ).bind fun as ρ1 => match g as with
  | some c => some (.val c ρ1) | none => none := rfl
theorem gC_ap (g : List D → Option D) (as : List Kx) : gC g as = match g (as.map (·.2)) with
  | some f => some (.ow 0, f) | none => none := rfl
theorem gDivmod_ap  (as : List Kx) : gDivmod as = match (as.map (·.2) : List D) with
  | [.int a, .int b] => chk (0 < b ∧ DivOk a b) (some (.ow 0, .tup [.int (a / b), .int (a % b)]))
  | _ => none := rfl
theorem gList_ap  (as : List Kx) : gList as = match as with
  | [a] => match listOf a.2 with
    | some ds => if itemsOk a ds = true then some (.ow 1, .lst ds) else some (.bw, .lst ds)
    | none => none
  | _ => none := rfl
theorem gTupOf_ap  (as : List Kx) : gTupOf as = match as with
  | [a] => match listOf a.2 with
    | some ds => if itemsOk a ds = true then some (.ow 0, .tup ds) else some (.bw, .tup ds)
    | none => none
  | _ => none := rfl
theorem gTupL_ap  (as : List Kx) : gTupL as = match as with
  | [a] => match lstOf a.2 with
    | some ds => if itemsOk a ds = true then some (.ow 0, .tup ds) else some (.bw, .tup ds)
    | none => none
  | _ => none := rfl
theorem gSorted_ap  (as : List Kx) : gSorted as = match as with
  | [a] => match intsOf a.2 with
    | some ns => chk (ns.length < 64) (some (.ow 1, .lst ((sortI ns).map .int))) | none => none
  | _ => none := rfl
theorem oNo_ap  (ρ : Env) : oNo ρ = some (.val none ρ) := rfl
theorem oSome_ap (fe : FE) (ρ : Env) : oSome fe ρ = (fe ρ).bind fun a ρ1 => match a.2 with
  | .int n => some (.val (some n) ρ1) | _ => none := rfl
theorem eSl_ap (fe : FE) (fl fh : FO) (ρ : Env) : eSl fe fl fh ρ = (fe ρ).bind fun a ρ1 => (fl ρ1).bind fun lo ρ2 => (fh ρ2).bind fun hi ρ3 => match gSl a lo hi with
  | some c => some (.val c ρ3) | none => none := rfl
theorem eRevL_ap (fe : FE) (ρ : Env) : eRevL fe ρ = (fe ρ).bind fun a ρ1 => match gRevL a with
  | some c => some (.val c ρ1) | none => none := rfl
theorem iSeq_ap (fe : FE) (ρ : Env) : iSeq fe ρ = (fe ρ).bind fun a ρ1 => match seqOf a with
  | some ds => some (.val ds ρ1) | none => none := rfl
theorem iZ_ap (fa fb : FE) (ρ : Env) : iZ fa fb ρ = (fa ρ).bind fun a ρ1 => (fb ρ1).bind fun b ρ2 => match lstD a, lstD b with
  | some ds, some es => some (.val (zipD ds es) ρ2)
  | _, _ => none := rfl
theorem gF_ap (i : Nat) (a : Kx) (ρ : Env) : gF i a ρ = match a.1 with
  | .ow _ => some (ρ.set i (.ow 0 a.2)) | .bw => if flat a.2 = true then some (ρ.set i (.ow 0 a.2)) else none := rfl
theorem sRaise_ap (x : Str) (x0 : Env) : sRaise x x0 = some (.exc x none) := rfl
theorem eNeg_ap (fe : FE) (ρ : Env) : eNeg fe ρ = (fe ρ).bind fun a ρ1 => match a.2 with
  | .int n => some (.val (.ow 0, .int (-n)) ρ1) | _ => none := rfl
theorem eChain_ap (g g' : Kx → Kx → Option Kx) (fa fb fc : FE) (ρ : Env) : eChain g g' fa fb fc ρ = (fa ρ).bind fun a ρ1 => (fb ρ1).bind fun b ρ2 => if (isS a.2 && isS b.2) = true then (match g (.ow 0, a.2) (.ow 0, b.2) with
  | some (_, .bl true) => (fc ρ2).bind fun c ρ3 => match g' (.ow 0, b.2) c with
    | some z => some (.val z ρ3) | none => none
  | some (_, .bl false) => some (.val (.ow 0, .bl false) ρ2)
  | _ => none) else none := rfl
theorem eM1_ap (g : Str → Kx → Option Kx) (fo fe : FE) (ρ : Env) : eM1 g fo fe ρ = (fo ρ).bind fun a ρ1 => match a.2 with
  | .str s => (fe ρ1).bind fun b ρ2 => match g s b with
    | some c => some (.val c ρ2) | none => none
  | _ => none := rfl
theorem gJoin_ap  (s : Str) (b : Kx) : gJoin s b = match b.2 with
  | .lst ds => match strsD ds with
    | some ys => chk ((ys.map (·.length)).sum + ys.length * s.length ≤ 16777216) (some (.ow 0, .str (Txt.join s ys)))
    | none => none
  | _ => none := rfl
theorem gSplitS_ap  (s : Str) (b : Kx) : gSplitS s b = match b.2 with
  | .str z => chk ((z.length == 0) = false ∧ s.length + 2 ≤ sizeLine) (some (.ow 1, .lst ((Txt.split s z).map .str)))
  | _ => none := rfl
theorem gFind_ap  (s : Str) (b : Kx) : gFind s b = match b.2 with
  | .str z => some (.ow 0, .int (Txt.find s z)) | _ => none := rfl
theorem gPart_ap  (s : Str) (b : Kx) : gPart s b = match b.2 with
  | .str z => chk ((z.length == 0) = false ∧ s.length ≤ sizeLine) (some (.ow 0, .tup [.str (Txt.partition s z).1, .str (Txt.partition s z).2.1, .str (Txt.partition s z).2.2]))
  | _ => none := rfl
theorem jNil_ap  (acc : Str) (ρ : Env) : jNil acc ρ = some (.val acc ρ) := rfl
theorem jStr_ap (s : Str) (fj : FJ) (acc : Str) (ρ : Env) : jStr s fj acc ρ = chk ((acc ++ s).length ≤ sizeLine) (fj (acc ++ s) ρ) := rfl
theorem jFmt_ap (fe : FE) (fj : FJ) (acc : Str) (ρ : Env) : jFmt fe fj acc ρ = (fe ρ).bind fun a ρ1 => match a.2 with
  | .str s => chk (s.length ≤ sizeLine ∧ (acc ++ s).length ≤ sizeLine) (fj (acc ++ s) ρ1)
  | .int i => chk (i.natAbs.log2 < 1920 ∧ (acc ++ decI i).length ≤ sizeLine) (fj (acc ++ decI i) ρ1)
  | _ => none := rfl
theorem eJoined_ap (fj : FJ) (ρ : Env) : eJoined fj ρ = (fj Str.empty ρ).bind fun s ρ1 => some (.val (.ow 0, .str s) ρ1) := rfl
theorem sTryK_ap (is : Str → Option Bool) (i j : Nat) (fg : Option Nat) (run : Run) (fs : FA) (ρ : Env) : sTryK is i j fg run fs ρ = match fs ρ with
  | none => none
  | some (.exc x w) => some (.exc x w)
  | some (.val as ρ1) => match run (as.map (·.2)) with
    | none => none
    | some (.ret k d) => if as.all stb' = true then some (.nxt (setO fg ρ1 k d)) else if cov k d = true then some (.nxt (setO fg ρ1 k d)) else none
    | some (.exc x w) => if ((as.all stb' || flatX w) && decide (i < ρ1.length)) = true then (match is x with
      | some true => some (.nxt ((ρ1.set j (.ow 0 (.xo x w))).set i .no))
      | some false => some (.exc x w)
      | none => none) else none := rfl
theorem eDnew_ap  (ρ : Env) : eDnew ρ = some (.val (.ow 1, .dic []) ρ) := rfl
theorem eDic1_ap (x y : Str) (ρ : Env) : eDic1 x y ρ = some (.val (.ow 1, .dic [(.inr x, .str y)]) ρ) := rfl
theorem eFld_ap (fld : Str → Str → Bool) (fe : FE) (f : Str) (ρ : Env) : eFld fld fe f ρ = (fe ρ).bind fun a ρ1 => match a.2 with
  | .ins x gs => if fld x f = true then (gs.lookup f).map fun d => .val (kPart a.1 d, d) ρ1 else none
  | _ => none := rfl
theorem sFldN_ap (fld : Str → Str → Bool) (fp : FP) (f : Str) (fe : FE) (ρ : Env) : sFldN fld fp f fe ρ = (fe ρ).toF fun a ρ1 => match fp ρ1 with
  | none => none
  | some (.exc x w) => some (.exc x w)
  | some (.val z ρ2) => match look ρ2 z.1 with
      | none => none
      | some (k0, d0) => match getK k0 d0 z.2 with
        | some (k + 1, .ins x gs) => if (fld x f && !(keysF gs).contains f && okItem k a && decide (gs.length < 1000)) = true then some (.nxt (setK ρ2 z.1 k0 (putK d0 z.2 (.ins x (gs ++ [(f, a.2)]))))) else none
        | _ => none := rfl
theorem eMake_ap (run : Str → Run) (cn : Str) (fs : FA) (ρ : Env) : eMake run cn fs ρ = (fs ρ).bind fun as ρ1 => if as.all stb' = true then (match run cn (as.map (·.2)) with
  | none => none
  | some (.ret k d) => some (.val (.ow k, d) ρ1)
  | some (.exc x w) => some (.exc x w)) else none := rfl
theorem sBase1_ap (run : Str → Run) (fs : FA) (ρ : Env) : sBase1 run fs ρ = match fs ρ with
  | none => none
  | some (.exc x w) => some (.exc x w)
  | some (.val as ρ1) => if as.all stb' = true then (match (ρ1[0]? : Option Sl) with
    | some (Sl.me (_ + 1) (.ins cn [])) => (match run cn (as.map (·.2)) with
      | none => none
      | some (.ret k d) => some (.nxt (ρ1.set 0 (.me k d)))
      | some (.exc x w) => some (.exc x w))
    | _ => none) else none := rfl
theorem sBase_ap (run : Str → Run) (fs : FA) (ρ : Env) : sBase run fs ρ = if isMe ρ[0]? = true then sBase1 run fs ρ else none := rfl
theorem eMeth_ap (runs : Str → Option Run) (m : Str) (fe : FE) (fs : FA) (ρ : Env) : eMeth runs m fe fs ρ = (fe ρ).bind fun a ρ1 => match a.2 with
  | .ins x gs => match runs x, gs.lookup m with
    | some run, none => (fs ρ1).bind fun as ρ2 => callR run (a :: as) ρ2
    | _, _ => none
  | _ => none := rfl
theorem pFld_ap (fld : Str → Str → Bool) (fp : FP) (f : Str) (ρ : Env) : pFld fld fp f ρ = (fp ρ).bind fun z ρ1 => match nodeL ρ1 z.1 z.2 with
  | some (_ + 1, .ins x gs) => if fld x f = true then ((keysF gs).findIdx? (· == f)).map fun j => .val (z.1, z.2 ++ [j]) ρ1 else none
  | _ => none := rfl
theorem eDget2_ap (fa fb fc : FE) (ρ : Env) : eDget2 fa fb fc ρ = (fa ρ).bind fun a ρ1 => if isDic a.2 = true then (fb ρ1).bind fun b ρ2 => (fc ρ2).bind fun c ρ3 => match a.2, keyOf b.2 with
  | .dic kds, some key => (match valD kds key with
    | some d => some (.val (kPart a.1 d, d) ρ3)
    | none => some (.val (kPart c.1 c.2, c.2) ρ3))
  | _, _ => none else none := rfl
theorem sDput_ap (fp : FP) (fi fe : FE) (ρ : Env) : sDput fp fi fe ρ = (fe ρ).toF fun a ρ1 => match fp ρ1 with
  | none => none
  | some (.exc x w) => some (.exc x w)
  | some (.val z ρ2) => (fi ρ2).toF fun b ρ3 => match keyOf b.2, look ρ3 z.1 with
      | some key, some (k0, d0) => (match getK k0 d0 z.2 with
        | some (1, .dic kds) => if stb' a = true then chk (kds.length < sizeLine) (some (.nxt (setK ρ3 z.1 k0 (P.putK d0 z.2 (.dic (putD kds key a.2)))))) else none
        | _ => none)
      | _, _ => none := rfl
theorem eLcD_ap (k i : Nat) (vs : List Nat) (fg : FG) (ft : FT) (fe : FE) (ρ : Env) : eLcD k i vs fg ft fe ρ = match look ρ i with
  | some (1, .dic kds) => chk (kds.length ≤ sizeLine) (match lcGo vs fg ft fe k (wipeE (dimE ρ) vs) (itemsD kds) with
    | none => none
    | some es => some (.val (.ow (k + 1), .lst es) ρ))
  | _ => none := rfl
theorem sRaiseF_ap (x f : Str) (fe : FE) (ρ : Env) : sRaiseF x f fe ρ = (fe ρ).toF fun a _ => if stb' a = true then some (.exc x (some (f, a.2))) else none := rfl
theorem eFldO_ap (fx : Str → Str → Bool) (fe : FE) (f : Str) (ρ : Env) : eFldO fx fe f ρ = (fe ρ).bind fun a ρ1 => match a.2 with
  | .xo x (some (g, d)) => if (fx x f && decide (g = f)) = true then some (.val (kPart a.1 d, d) ρ1) else none
  | _ => none := rfl
theorem sTry_ap (fb : FB) (fh : FH) (fm : FS) (ρ : Env) : sTry fb fh fm ρ = match fb ρ with
  | none => none
  | some (.fl (.nxt ρ1)) => fm ρ1
  | some (.fl f) => some f
  | some (.exc x w ρ1) => fh x w ρ1 := rfl
theorem hNil_ap  (x : Str) (w : Option (Str × D)) (x2 : Env) : hNil x w x2 = some (.exc x w) := rfl
theorem hAs_ap (is : Str → Option Bool) (i : Nat) (fs : FS) (rest : FH) (x : Str) (w : Option (Str × D)) (ρ : Env) : hAs is i fs rest x w ρ = match is x with
  | none => none
  | some false => rest x w ρ
  | some true => (fs (ρ.set i (.ow 0 (.xo x w)))).map (endNo i) := rfl
theorem hNo_ap (is : Str → Option Bool) (fs : FS) (rest : FH) (x : Str) (w : Option (Str × D)) (ρ : Env) : hNo is fs rest x w ρ = match is x with
  | none => none
  | some false => rest x w ρ
  | some true => fs ρ := rfl
theorem bCall_ap (fg : Option Nat) (run : Run) (fs : FA) (ρ : Env) : bCall fg run fs ρ = match fs ρ with
  | some (.val as ρ1) => toB fg (callB run as ρ1)
  | _ => none := rfl
theorem bMeth_ap (fg : Option Nat) (runs : Str → Option Run) (m : Str) (fe : FE) (fs : FA) (ρ : Env) : bMeth fg runs m fe fs ρ = match fe ρ with
  | some (.val a ρ1) => (match a.2 with
    | .ins x gs => (match runs x, gs.lookup m with
      | some run, none => (match fs ρ1 with
        | some (.val as ρ2) => toB fg (callB run (a :: as) ρ2)
        | _ => none)
      | _, _ => none)
    | _ => none)
  | _ => none := rfl
theorem bIf_ap (ft : FT) (fa fb : FB) (ρ : Env) : bIf ft fa fb ρ = match ft ρ with
  | some (.val b ρ1) => if b = true then fa ρ1 else fb ρ1
  | _ => none := rfl
theorem bind_ap {α β : Type} (r : R α) (f : α → Env → R β) : R.bind r f = match r with
  | none => none
  | some (.exc x w) => some (.exc x w)
  | some (.val a ρ) => f a ρ := rfl
theorem toF_ap {α : Type} (r : R α) (f : α → Env → Option Fl) : R.toF r f = match r with
  | none => none
  | some (.exc x w) => some (.exc x w)
  | some (.val a ρ) => f a ρ := rfl
theorem cast_lit (n : Nat) : ((no_index (OfNat.ofNat n) : Nat) : Int) = OfNat.ofNat n := rfl
theorem ixD_l (ds : List D) (i : Int) : ixD (.lst ds) i = atI ds i := rfl
theorem ixD_t (ds : List D) (i : Int) : ixD (.tup ds) i = atI ds i := rfl
theorem ixD_r (ns : List Int) (i : Int) : ixD (.rd ns) i = (atI ns i).map D.int := rfl
theorem in_sgn (b : Bool) (c : Nat) (z : Str) : gIn0 b (.str ⟨#[c]⟩) (.str z) = some (.bl (if b then !decide (c ∈ z.cps.toList) else decide (c ∈ z.cps.toList))) := rfl
theorem str_cat (a b : Str) : (a ++ b).length = a.length + b.length := by
  show (a ++ b).cps.size = _
  rw [Str.cps_append, Array.size_append]
  rfl
theorem run_0 (n : Nat) (f : FS) : runD 0 n f [] = endR (f (entryE [] n)) := rfl
theorem run_1 (n : Nat) (f : FS) (a : D) : runD 1 n f [a] = endR (f (entryE [a] n)) := rfl
theorem run_2 (n : Nat) (f : FS) (a b : D) : runD 2 n f [a, b] = endR (f (entryE [a, b] n)) := rfl
theorem run_3 (n : Nat) (f : FS) (a b c : D) : runD 3 n f [a, b, c] = endR (f (entryE [a, b, c] n)) := rfl
theorem run_4 (n : Nat) (f : FS) (a b c d : D) : runD 4 n f [a, b, c, d] = endR (f (entryE [a, b, c, d] n)) := rfl
theorem run_5 (n : Nat) (f : FS) (a b c d e : D) : runD 5 n f [a, b, c, d, e] = endR (f (entryE [a, b, c, d, e] n)) := rfl
theorem run_6 (n : Nat) (f : FS) (a b c d e g : D) : runD 6 n f [a, b, c, d, e, g] = endR (f (entryE [a, b, c, d, e, g] n)) := rfl
theorem run_i1 (kk n : Nat) (f : FS) (c : Str) (a : D) : runI kk 1 n f c [a] = endI (f (entryI kk c [a] n)) := rfl
theorem run_i2 (kk n : Nat) (f : FS) (c : Str) (a b : D) : runI kk 2 n f c [a, b] = endI (f (entryI kk c [a, b] n)) := rfl
theorem run_i3 (kk n : Nat) (f : FS) (c : Str) (a b d : D) : runI kk 3 n f c [a, b, d] = endI (f (entryI kk c [a, b, d] n)) := rfl
theorem run_i4 (kk n : Nat) (f : FS) (c : Str) (a b d e : D) : runI kk 4 n f c [a, b, d, e] = endI (f (entryI kk c [a, b, d, e] n)) := rfl
theorem run_i5 (kk n : Nat) (f : FS) (c : Str) (a b d e g : D) : runI kk 5 n f c [a, b, d, e, g] = endI (f (entryI kk c [a, b, d, e, g] n)) := rfl
theorem loop_nil (fg : FG) (fb : FS) (ρ : Env) : loop fg fb [] ρ = some (.nxt ρ) := rfl
theorem loop_cons (fg : FG) (fb : FS) (d : D) (ds : List D) (ρ : Env) : loop fg fb (d :: ds) ρ = match fg (.ow 0, d) ρ with
    | none => none
    | some ρ1 => match fb ρ1 with
      | none => none
      | some (.nxt ρ2) => loop fg fb ds ρ2
      | some (.cnt ρ2) => loop fg fb ds ρ2
      | some (.brk ρ2) => some (.nxt ρ2)
      | some r => some r := rfl
theorem lcOne_ap (vs : List Nat) (fg : FG) (ft : FT) (fe : FE) (k : Nat) (ρ : Env) (d : D) : lcOne vs fg ft fe k ρ d = match fg (.ow 0, d) ρ with
  | none => none
  | some ρ2 => chk (wipeE ρ2 vs = ρ) (match ft ρ2 with
    | some (.val b ρ3) => chk (ρ3 = ρ2) (if b = true then (match fe ρ2 with
      | some (.val a ρ4) => chk (ρ4 = ρ2) (if okItem k a = true then some (some a.2) else none)
      | _ => none) else some none)
    | _ => none) := rfl
end P
namespace P
open PySem L2
def allIn (L z : Str) : Bool := z.cps.toList.all fun c => decide (c ∈ L.cps.toList)
def LETT : Str := "abcdefghijklmnopqrstuvwxyz"
def isWord : D → Bool
  | .str z => decide (1 ≤ z.length) && decide (z.length ≤ 8) && allIn LETT z
  | _ => false
def numT (p : Int × Int) : Str := if p.2 = 1 then decI p.1 else Str.empty ++ decI p.1 ++ "/" ++ decI p.2
theorem slash_len : (("/" : Str)).length = 1 := by decide +kernel
theorem empty_len : (Str.empty).length = 0 := rfl
def Fit6 (p : Int × Int) : Prop := IsFr p ∧ p.1.natAbs < 10 ^ 40 ∧ p.2.natAbs < 10 ^ 40

end P
namespace P
open PySem L2

def isI : D → Bool
  | .int _ => true | _ => false
def lcmI (b c : Int) : Int := b * c / ((Int.gcd b c : Nat) : Int)
theorem lcmI_eq {b c : Int} (hb : 0 < b) (hc : 0 < c) : lcmI b c = ((Int.lcm b c : Nat) : Int) := by
  have h := Int.lcm_mul_gcd b c
  have g : 0 < Int.gcd b c := Int.gcd_pos_of_ne_zero_left c (by omega)
  have e : b * c = ((Int.lcm b c : Nat) : Int) * ((Int.gcd b c : Nat) : Int) := by
    rw [← Int.natCast_mul, h, Int.natCast_mul, Int.natAbs_of_nonneg (by omega), Int.natAbs_of_nonneg (by omega)]
  unfold lcmI
  rw [e, Int.mul_ediv_cancel _ (by omega)]
def LFb : Int → List (Int × Int) → Int
  | b, [] => b
  | b, f :: r => LFb (lcmI b f.2) r
abbrev LF (fs : List (Int × Int)) : Int := LFb 1 fs
theorem LFb_spec : ∀ {fs : List (Int × Int)} {b : Int}, 0 < b → (∀ f, f ∈ fs → 0 < f.2) → 0 < LFb b fs ∧ b ∣ LFb b fs ∧ (∀ f, f ∈ fs → f.2 ∣ LFb b fs) ∧ ∀ M, b ∣ M → (∀ f, f ∈ fs → f.2 ∣ M) → LFb b fs ∣ M
  | [], b, hb, _ => ⟨hb, Int.dvd_refl _, (fun f h => by cases h), fun M h _ => h⟩
  | g :: r, b, hb, h => by
    have hg := h g (List.mem_cons_self ..)
    have e := lcmI_eq hb hg
    have hl : 0 < lcmI b g.2 := by
      rw [e]
      have := Int.lcm_pos (m := b) (n := g.2) (by omega) (by omega)
      omega
    obtain ⟨h1, h2, h3, h4⟩ := LFb_spec (fs := r) hl fun f hf => h f (List.mem_cons_of_mem _ hf)
    have d1 : b ∣ lcmI b g.2 := by rw [e]; exact Int.dvd_lcm_left ..
    have d2 : g.2 ∣ lcmI b g.2 := by rw [e]; exact Int.dvd_lcm_right ..
    refine ⟨h1, Int.dvd_trans d1 h2, fun f hf => ?_, fun M hM hall => h4 M ?_ fun f hf => hall f (List.mem_cons_of_mem _ hf)⟩
    · rcases List.mem_cons.mp hf with rfl | hf
      · exact Int.dvd_trans d2 h2
      · exact h3 f hf
    · rw [e]
      exact Int.coe_lcm_dvd hM (hall g (List.mem_cons_self ..))
theorem LFb_le {k : Nat} : ∀ {fs : List (Int × Int)} {b : Int}, 0 < b → (∀ f, f ∈ fs → 0 < f.2 ∧ f.2.natAbs < 2 ^ k) → (LFb b fs).natAbs ≤ b.natAbs * 2 ^ (k * fs.length)
  | [], b, hb, _ => by show b.natAbs ≤ _; simp
  | g :: r, b, hb, h => by
    obtain ⟨hg, hs⟩ := h g (List.mem_cons_self ..)
    have e := lcmI_eq hb hg
    have hl : 0 < lcmI b g.2 := by
      rw [e]
      have := Int.lcm_pos (m := b) (n := g.2) (by omega) (by omega)
      omega
    have q := LFb_le (k := k) (fs := r) hl fun f hf => h f (List.mem_cons_of_mem _ hf)
    have m : (lcmI b g.2).natAbs ≤ b.natAbs * 2 ^ k := by
      rw [e, Int.natAbs_natCast]
      exact Nat.le_trans (Int.lcm_le_natAbs_mul (by omega) (by omega)) (Nat.mul_le_mul_left _ (Nat.le_of_lt hs))
    show (LFb (lcmI b g.2) r).natAbs ≤ _
    refine Nat.le_trans q (Nat.le_trans (Nat.mul_le_mul_right _ m) ?_)
    rw [Nat.mul_assoc, ← Nat.pow_add, List.length_cons, Nat.mul_succ, Nat.add_comm]
    exact Nat.le_refl _
def Good (fs : List (Int × Int)) : Prop := fs.length ≤ 45 ∧ ∀ f, f ∈ fs → 0 < f.2 ∧ f.1.natAbs < 2 ^ 100 ∧ f.2.natAbs < 2 ^ 100
theorem Good.pos {fs : List (Int × Int)} (h : Good fs) : ∀ f, f ∈ fs → 0 < f.2 := fun f hf => (h.2 f hf).1
theorem Good.take {fs : List (Int × Int)} (h : Good fs) (i : Nat) : Good (fs.take i) := ⟨by rw [List.length_take]; have := h.1; omega, fun f hf => h.2 f (List.mem_of_mem_take hf)⟩
theorem Good.bound {fs : List (Int × Int)} (h : Good fs) : 0 < LF fs ∧ (LF fs).natAbs < 2 ^ 4501 := by
  have h1 := (LFb_spec (b := 1) (by decide) h.pos).1
  have h2 := LFb_le (k := 100) (b := 1) (by decide) fun f hf => ⟨(h.2 f hf).1, (h.2 f hf).2.2⟩
  refine ⟨h1, Nat.lt_of_le_of_lt h2 ?_⟩
  have e : (1 : Int).natAbs = 1 := rfl
  rw [e, Nat.one_mul]
  exact Nat.pow_lt_pow_right (by decide) (by have := h.1; omega)
def topsOf (fs : List (Int × Int)) : List Int := fs.map fun f => f.1 * (LF fs / f.2)
theorem Good.top {fs : List (Int × Int)} (h : Good fs) {y : Int} (hy : y ∈ topsOf fs) : y.natAbs < 2 ^ 4601 := by
  obtain ⟨f, hf, rfl⟩ := List.mem_map.mp hy
  have b := h.bound
  have hm := h.2 f hf
  have h1 : 0 ≤ LF fs / f.2 := Int.ediv_nonneg (by omega) (by omega)
  have h2 : LF fs / f.2 ≤ LF fs := Int.ediv_le_self _ (by omega)
  exact Nat.lt_of_lt_of_le (wide_lt hm.2.1 (Nat.lt_of_le_of_lt (by omega : (LF fs / f.2).natAbs ≤ (LF fs).natAbs) b.2)) (Nat.pow_le_pow_right (by decide) (by decide))
theorem sum_le {B : Nat} : ∀ {l : List Int}, (∀ y, y ∈ l → y.natAbs ≤ B) → l.sum.natAbs ≤ l.length * B
  | [], _ => Nat.zero_le _
  | a :: r, h => by
    have h1 := h a (List.mem_cons_self ..)
    have h2 := sum_le (l := r) fun y hy => h y (List.mem_cons_of_mem _ hy)
    rw [List.sum_cons, List.length_cons, Nat.succ_mul]
    omega
theorem Good.sum {fs : List (Int × Int)} (h : Good fs) : (topsOf fs).sum.natAbs < 2 ^ 4610 := by
  have h1 := sum_le (B := 2 ^ 4601) (l := topsOf fs) fun y hy => Nat.le_of_lt (h.top hy)
  have e : (topsOf fs).length = fs.length := List.length_map ..
  rw [e] at h1
  refine Nat.lt_of_le_of_lt (Nat.le_trans h1 (Nat.mul_le_mul_right _ (Nat.le_trans h.1 (by decide : 45 ≤ 2 ^ 6)))) ?_
  rw [← Nat.pow_add]
  exact Nat.pow_lt_pow_right (by decide) (by decide)

theorem IsFr.uniq {p q : Int × Int} (hp : IsFr p) (hq : IsFr q) (h : p.1 * q.2 = q.1 * p.2) : p = q := by
  obtain ⟨a, b⟩ := p
  obtain ⟨c, d⟩ := q
  obtain ⟨b0, g1⟩ := hp
  obtain ⟨d0, g2⟩ := hq
  have h : a * d = c * b := h
  have b0 : 0 < b := b0
  have d0 : 0 < d := d0
  have g1 : Nat.gcd a.natAbs b.natAbs = 1 := g1
  have g2 : Nat.gcd c.natAbs d.natAbs = 1 := g2
  have hn : a.natAbs * d.natAbs = c.natAbs * b.natAbs := by rw [← Int.natAbs_mul, ← Int.natAbs_mul, h]
  have k1 : b.natAbs ∣ d.natAbs := by
    have : b.natAbs ∣ a.natAbs * d.natAbs := by rw [hn]; exact Nat.dvd_mul_left ..
    exact Nat.Coprime.dvd_of_dvd_mul_left (show Nat.Coprime b.natAbs a.natAbs by unfold Nat.Coprime; rw [Nat.gcd_comm]; exact g1) this
  have k2 : d.natAbs ∣ b.natAbs := by
    have : d.natAbs ∣ c.natAbs * b.natAbs := by rw [← hn]; exact Nat.dvd_mul_left ..
    exact Nat.Coprime.dvd_of_dvd_mul_left (show Nat.Coprime d.natAbs c.natAbs by unfold Nat.Coprime; rw [Nat.gcd_comm]; exact g2) this
  have k3 := Nat.dvd_antisymm k1 k2
  have e : b = d := by omega
  subst e
  have e2 : a = c := Int.eq_of_mul_eq_mul_right (by omega) h
  subst e2
  rfl
def Val (p : Int × Int) (a s : Int) : Prop := IsFr p ∧ p.1 * s = a * p.2
theorem Val.low (a : Int) {s : Int} (h : 0 < s) : Val (lowest a s) a s := ⟨lowest_fr h, by
  have k := lowest_mul a s
  generalize (Int.gcd a s : Nat) = g at k
  generalize (lowest a s).1 = x at *
  generalize (lowest a s).2 = y at *
  obtain ⟨rfl, rfl⟩ := k
  rw [Int.mul_assoc, Int.mul_comm y, ← Int.mul_assoc]⟩
theorem Val.uniq {p q : Int × Int} {a s : Int} (h : 0 < s) (hp : Val p a s) (hq : Val q a s) : p = q := by
  refine hp.1.uniq hq.1 (Int.eq_of_mul_eq_mul_right (a := s) (by omega) ?_)
  rw [Int.mul_assoc, Int.mul_comm q.2, ← Int.mul_assoc, hp.2, Int.mul_assoc q.1, Int.mul_comm p.2, ← Int.mul_assoc, hq.2, Int.mul_assoc, Int.mul_assoc, Int.mul_comm p.2]
theorem Val.eq {p : Int × Int} {a s : Int} (h : 0 < s) (hp : Val p a s) : p = lowest a s := hp.uniq h (Val.low a h)
theorem Val.ratio (a : Int) {s : Int} (h : s ≠ 0) : Val (ratioF a s) a s := ⟨(ratioF_spec h).1, (ratioF_spec h).2⟩
theorem Val.self {p : Int × Int} (h : IsFr p) : Val p p.1 p.2 := ⟨h, rfl⟩
theorem Val.zero {p : Int × Int} {a s : Int} (h : 0 < s) (hp : Val p a s) : p = (0, 1) ↔ a = 0 := by
  constructor
  · rintro rfl
    have := hp.2
    omega
  · rintro rfl
    exact hp.uniq h ⟨⟨by decide, by decide⟩, by omega⟩
theorem Val.one {p : Int × Int} {a s : Int} (h : 0 < s) (hp : Val p a s) : p = (1, 1) ↔ a = s := by
  constructor
  · rintro rfl
    have := hp.2
    omega
  · rintro rfl
    exact hp.uniq h ⟨⟨by decide, by decide⟩, by omega⟩
theorem Val.lt {p q : Int × Int} {a b s : Int} (h : 0 < s) (hp : Val p a s) (hq : Val q b s) : p.1 * q.2 < q.1 * p.2 ↔ a < b := by
  have h1 := hp.1.1
  have h2 := hq.1.1
  have hpq := Int.mul_pos h1 h2
  have e1 : p.1 * q.2 * s = a * (p.2 * q.2) := by
    rw [Int.mul_assoc, Int.mul_comm q.2, ← Int.mul_assoc, hp.2, Int.mul_assoc]
  have e2 : q.1 * p.2 * s = b * (p.2 * q.2) := by
    rw [Int.mul_assoc, Int.mul_comm p.2 s, ← Int.mul_assoc, hq.2, Int.mul_assoc, Int.mul_comm q.2]
  constructor
  · intro z
    have := Int.mul_lt_mul_of_pos_right z h
    rw [e1, e2] at this
    exact Int.lt_of_mul_lt_mul_right this (Int.le_of_lt hpq)
  · intro z
    have := Int.mul_lt_mul_of_pos_right z hpq
    rw [← e1, ← e2] at this
    exact Int.lt_of_mul_lt_mul_right this (Int.le_of_lt h)
def addF (p q : Int × Int) : Int × Int := ratioF (p.1 * q.2 + q.1 * p.2) (p.2 * q.2)
def subF (p q : Int × Int) : Int × Int := ratioF (p.1 * q.2 - q.1 * p.2) (p.2 * q.2)
theorem mul_ne {a b : Int} (ha : 0 < a) (hb : 0 < b) : a * b ≠ 0 := by
  have := Int.mul_pos ha hb
  omega
theorem Val.cross {z : Int × Int} {t b a s : Int} (h : 0 < b) (hz : Val z t b) (e : t * s = a * b) : Val z a s := ⟨hz.1, by
  have k := hz.2
  refine Int.eq_of_mul_eq_mul_right (a := b) (by omega) ?_
  rw [Int.mul_right_comm, k, Int.mul_right_comm, e, Int.mul_right_comm]⟩
theorem Val.add {p q : Int × Int} {a b s : Int} (hp : Val p a s) (hq : Val q b s) : Val (addF p q) (a + b) s := by
  have h1 := hp.1.1
  have h2 := hq.1.1
  refine (Val.ratio _ (mul_ne h1 h2)).cross (Int.mul_pos h1 h2) ?_
  rw [Int.add_mul, Int.add_mul]
  congr 1
  · rw [Int.mul_right_comm, hp.2, Int.mul_assoc]
  · rw [Int.mul_right_comm, hq.2, Int.mul_assoc, Int.mul_comm q.2]
theorem Val.sub {p q : Int × Int} {a b s : Int} (hp : Val p a s) (hq : Val q b s) : Val (subF p q) (a - b) s := by
  have h1 := hp.1.1
  have h2 := hq.1.1
  refine (Val.ratio _ (mul_ne h1 h2)).cross (Int.mul_pos h1 h2) ?_
  rw [Int.sub_mul, Int.sub_mul]
  congr 1
  · rw [Int.mul_right_comm, hp.2, Int.mul_assoc]
  · rw [Int.mul_right_comm, hq.2, Int.mul_assoc, Int.mul_comm q.2]
theorem eqD_frs (p q : Int × Int) : eqD (fr p) (fr q) = decide (p = q) := by
  show (eqD (.int p.1) (.int q.1) && (eqD (.int p.2) (.int q.2) && true)) = _
  rw [eqD_ii, eqD_ii, Bool.and_true, Bool.eq_iff_iff]
  simp [Prod.ext_iff]
end P
namespace P
open PySem L2

def putL (acc : List (Str × Int)) (z : Str) (v : Int) : List (Str × Int) := if (acc.any fun q => decide (q.1 = z)) = true then acc.map (fun q => if q.1 = z then (q.1, v) else q) else acc ++ [(z, v)]
def getW (acc : List (Str × Int)) (z : Str) : Int := ((acc.find? fun q => decide (q.1 = z)).map (·.2)).getD 0
def addW (acc : List (Str × Int)) (q : Str × Int) : List (Str × Int) := putL acc q.1 (getW acc q.1 + q.2)
theorem putL_mem {acc : List (Str × Int)} {z : Str} {v : Int} {q : Str × Int} (h : q ∈ putL acc z v) : (q.1 = z ∧ q.2 = v) ∨ q ∈ acc := by
  unfold putL at h
  split at h
  · obtain ⟨p, hp, rfl⟩ := List.mem_map.mp h
    by_cases e : p.1 = z
    · rw [if_pos e]; exact .inl ⟨e, rfl⟩
    · rw [if_neg e]; exact .inr hp
  · rcases List.mem_append.mp h with h | h
    · exact .inr h
    · rw [List.mem_singleton.mp h]; exact .inl ⟨rfl, rfl⟩
theorem putL_len (acc : List (Str × Int)) (z : Str) (v : Int) : (putL acc z v).length ≤ acc.length + 1 := by
  unfold putL
  split
  · rw [List.length_map]; omega
  · rw [List.length_append]; simp
theorem putL_nodup {acc : List (Str × Int)} (h : (acc.map (·.1)).Nodup) (z : Str) (v : Int) : ((putL acc z v).map (·.1)).Nodup := by
  unfold putL
  split
  · rw [List.map_map]
    have e : acc.map ((fun x : Str × Int => x.1) ∘ fun q => if q.1 = z then (q.1, v) else q) = acc.map (·.1) := List.map_congr_left fun q _ => by
      show (if q.1 = z then (q.1, v) else q).1 = q.1
      split <;> rfl
    rw [e]
    exact h
  · rename_i hn
    rw [List.map_append, List.map_cons, List.map_nil, List.nodup_append]
    refine ⟨h, by simp, fun a ha b hb => ?_⟩
    rw [List.mem_singleton.mp hb]
    rintro rfl
    obtain ⟨p, hp, e⟩ := List.mem_map.mp ha
    exact hn (List.any_eq_true.mpr ⟨p, hp, decide_eq_true e⟩)
theorem getW_mem (acc : List (Str × Int)) (z : Str) : (acc.find? (fun q => decide (q.1 = z)) = none ∧ getW acc z = 0) ∨ ∃ q, q ∈ acc ∧ acc.find? (fun q => decide (q.1 = z)) = some q ∧ q.1 = z ∧ getW acc z = q.2 := by
  unfold getW
  cases e : acc.find? (fun q => decide (q.1 = z)) with
  | none => exact .inl ⟨rfl, rfl⟩
  | some q => exact .inr ⟨q, List.mem_of_find?_eq_some e, rfl, of_decide_eq_true (List.find?_some (p := fun q : Str × Int => decide (q.1 = z)) e), rfl⟩
structure Sums (Pk : Str → Prop) (M : Int) (n : Nat) (acc : List (Str × Int)) : Prop where
  len : acc.length ≤ n
  nd : (acc.map (·.1)).Nodup
  ke : ∀ q, q ∈ acc → Pk q.1 ∧ 0 ≤ q.2 ∧ q.2 ≤ n * M
theorem Sums.get {Pk : Str → Prop} {M : Int} {n : Nat} {acc : List (Str × Int)} (h : Sums Pk M n acc) (hM : 0 ≤ M) (z : Str) : 0 ≤ getW acc z ∧ getW acc z ≤ n * M := by
  rcases getW_mem acc z with ⟨_, e⟩ | ⟨q, hq, _, _, e⟩
  · rw [e]
    exact ⟨Int.le_refl _, Int.mul_nonneg (by omega) hM⟩
  · rw [e]; exact (h.ke q hq).2
theorem Sums.add {Pk : Str → Prop} {M : Int} {n : Nat} {acc : List (Str × Int)} (h : Sums Pk M n acc) {z : Str} {w : Int} (hz : Pk z) (h0 : 0 ≤ w) (h1 : w ≤ M) : Sums Pk M (n + 1) (addW acc (z, w)) := by
  have g := h.get (by omega) z
  have e : ((n + 1 : Nat) : Int) * M = n * M + M := by rw [Int.natCast_add, Int.add_mul]; simp
  refine ⟨Nat.le_trans (putL_len ..) (by have := h.len; omega), putL_nodup h.nd _ _, fun q hq => ?_⟩
  rw [e]
  rcases putL_mem hq with ⟨e1, e2⟩ | hq
  · rw [e1, e2]
    exact ⟨hz, by show 0 ≤ getW acc z + w; omega, by show getW acc z + w ≤ _; omega⟩
  · have := h.ke q hq
    exact ⟨this.1, this.2.1, by omega⟩
theorem Sums.nil (Pk : Str → Prop) (M : Int) : Sums Pk M 0 [] := ⟨Nat.le_refl _, List.nodup_nil, fun q h => nomatch h⟩

theorem lett_list : LETT.cps.toList.all (fun c => decide (c < 0x110000)) = true := by decide +kernel
theorem word_strOk {z : Str} (h : allIn LETT z = true) : PyData.strOk z = true := by
  unfold PyData.strOk
  unfold allIn at h
  rw [List.all_eq_true] at h
  rw [← Array.all_toList, List.all_eq_true]
  intro c hc
  exact List.all_eq_true.mp lett_list c (of_decide_eq_true (h c hc))

def Wd (z : Str) : Prop := 1 ≤ z.length ∧ z.length ≤ 8 ∧ allIn LETT z = true
theorem Wd.is {z : Str} (h : Wd z) : isWord (.str z) = true := by
  show (decide (1 ≤ z.length) && decide (z.length ≤ 8) && allIn LETT z) = true
  rw [decide_eq_true h.1, decide_eq_true h.2.1, h.2.2]
  rfl
theorem Wd.len {z : Str} (h : Wd z) : z.length ≤ 1000 := by have := h.2.1; omega
theorem Wd.ok {z : Str} (h : Wd z) : PyData.strOk z = true := word_strOk h.2.2

structure Desc where
  sort : Int
  pay : Int × Int
  ps : List (Nat × Int)
  s : Int
structure DescOk (m : Nat) (d : Desc) : Prop where
  so : 0 ≤ d.sort ∧ d.sort < 5
  l0 : d.sort = 0 ∨ d.sort = 4 → ∃ r, d.ps = [(r, 1)] ∧ d.s = 1
  l1 : d.sort = 1 → ∃ r0 w0 r1 w1, d.ps = [(r0, w0), (r1, w1)]
  l2 : d.sort = 2 → ∃ rs : List Nat, d.ps = rs.map (fun r => (r, (1 : Int))) ∧ d.s = rs.length
  rm : ∀ q, q ∈ d.ps → q.1 < m
  wt : ∀ q, q ∈ d.ps → 0 ≤ q.2 ∧ q.2 ≤ 2 ^ 80
  ln : 1 ≤ d.ps.length ∧ d.ps.length ≤ 8
  su : d.s = (d.ps.map fun q => q.2).sum
  po : 0 < d.s
  sb : d.s.natAbs < 2 ^ 90
  py : IsFr d.pay ∧ d.pay.1.natAbs ≤ 10 ^ 30 ∧ d.pay.2 ≤ 1000
theorem ixN_last {n : Nat} (h : 0 < n) : ixN n (-1) = some (n - 1) := by
  unfold ixN
  rw [if_neg (by omega), if_pos (by omega)]
  congr 1
  omega
end P
namespace P
open PySem L2

def rv (p : Int × Int) : Rat := (p.1 : Rat) / (p.2 : Rat)
theorem castI_pos {b : Int} (h : 0 < b) : (0 : Rat) < (b : Rat) := by exact_mod_cast h
theorem castI_ne {b : Int} (h : b ≠ 0) : (b : Rat) ≠ 0 := by exact_mod_cast h
theorem rcancel {a b c d : Rat} (hc : c ≠ 0) (hd : d ≠ 0) (h : a * c * d = b * d * c) : a = b := by grind
theorem rdiv_mul {a b : Rat} (h : b ≠ 0) : a / b * b = a := by grind
theorem rv_mul {p : Int × Int} (h : 0 < p.2) : rv p * (p.2 : Rat) = p.1 := rdiv_mul (castI_ne (by omega))
theorem rv_eq {p q : Int × Int} (hp : 0 < p.2) (hq : 0 < q.2) : rv p = rv q ↔ p.1 * q.2 = q.1 * p.2 := by
  have h1 := castI_ne (show p.2 ≠ 0 by omega)
  have h2 := castI_ne (show q.2 ≠ 0 by omega)
  have key : (p.1 * q.2 = q.1 * p.2) ↔ ((p.1 : Rat) * q.2 = q.1 * p.2) := by
    constructor
    · intro h; exact_mod_cast h
    · intro h; exact_mod_cast h
  rw [key, ← rv_mul hp, ← rv_mul hq]
  constructor
  · intro h; rw [h]; grind
  · intro h; exact rcancel h1 h2 h
theorem rv_lt {p q : Int × Int} (hp : 0 < p.2) (hq : 0 < q.2) : rv p < rv q ↔ p.1 * q.2 < q.1 * p.2 := by
  have h1 := castI_pos hp
  have h2 := castI_pos hq
  have e1 := rv_mul hp
  have e2 := rv_mul hq
  have key : (p.1 * q.2 < q.1 * p.2) ↔ ((p.1 : Rat) * q.2 < q.1 * p.2) := by
    constructor
    · intro h; exact_mod_cast h
    · intro h; exact_mod_cast h
  have h12 : (0 : Rat) < (p.2 : Rat) * q.2 := Rat.mul_pos h1 h2
  rw [key, ← e1, ← e2, show rv p * (p.2 : Rat) * q.2 = rv p * ((p.2 : Rat) * q.2) by grind, show rv q * (q.2 : Rat) * p.2 = rv q * ((p.2 : Rat) * q.2) by grind]
  exact (Rat.mul_lt_mul_right h12).symm
theorem rv_le {p q : Int × Int} (hp : 0 < p.2) (hq : 0 < q.2) : rv p ≤ rv q ↔ p.1 * q.2 ≤ q.1 * p.2 := by
  have := rv_lt hq hp
  rw [← Rat.not_lt, this]
  omega
theorem IsFr.ext {p q : Int × Int} (hp : IsFr p) (hq : IsFr q) (h : rv p = rv q) : p = q := hp.uniq hq ((rv_eq hp.1 hq.1).mp h)
theorem rv_int (a : Int) : rv (a, 1) = (a : Rat) := by
  show (a : Rat) / ((1 : Int) : Rat) = a
  have : ((1 : Int) : Rat) = 1 := by norm_cast
  rw [this]
  grind
theorem rv_zero : rv (0, 1) = 0 := rv_int 0
theorem rv_one : rv (1, 1) = 1 := rv_int 1
theorem fr_zero : IsFr (0, 1) := ⟨by decide, by decide⟩
theorem fr_one : IsFr (1, 1) := ⟨by decide, by decide⟩
theorem Val.rv {p : Int × Int} {a s : Int} (h : 0 < s) (v : Val p a s) : rv p = (a : Rat) / s := (rv_eq (p := p) (q := (a, s)) v.1.1 h).mpr v.2
theorem fr_ratioF (t : Int) {b : Int} (h : b ≠ 0) : IsFr (ratioF t b) := (Val.ratio t h).1
theorem rv_ratioF (t : Int) {b : Int} (h : b ≠ 0) : rv (ratioF t b) = (t : Rat) / b := by
  have v := Val.ratio t h
  have e : ((ratioF t b).1 : Rat) * b = t * (ratioF t b).2 := by exact_mod_cast v.2
  have h1 := castI_ne (show (ratioF t b).2 ≠ 0 by have := v.1.1; omega)
  have h2 := castI_ne h
  unfold P.rv
  grind
theorem rv_low (t : Int) {b : Int} (h : 0 < b) : rv (lowest t b) = (t : Rat) / b := (Val.low t h).rv h
def mulF (p q : Int × Int) : Int × Int := ratioF (p.1 * q.1) (p.2 * q.2)
section
variable {p q : Int × Int}
theorem fr_addF (hp : 0 < p.2) (hq : 0 < q.2) : IsFr (addF p q) := fr_ratioF _ (mul_ne hp hq)
theorem fr_subF (hp : 0 < p.2) (hq : 0 < q.2) : IsFr (subF p q) := fr_ratioF _ (mul_ne hp hq)
theorem fr_mulF (hp : 0 < p.2) (hq : 0 < q.2) : IsFr (mulF p q) := fr_ratioF _ (mul_ne hp hq)
theorem rv_addF (hp : 0 < p.2) (hq : 0 < q.2) : rv (addF p q) = rv p + rv q := by
  have h1 := castI_ne (show p.2 ≠ 0 by omega)
  have h2 := castI_ne (show q.2 ≠ 0 by omega)
  unfold addF
  rw [rv_ratioF _ (mul_ne hp hq)]
  unfold rv
  push_cast
  grind
theorem rv_subF (hp : 0 < p.2) (hq : 0 < q.2) : rv (subF p q) = rv p - rv q := by
  have h1 := castI_ne (show p.2 ≠ 0 by omega)
  have h2 := castI_ne (show q.2 ≠ 0 by omega)
  unfold subF
  rw [rv_ratioF _ (mul_ne hp hq)]
  unfold rv
  push_cast
  grind
theorem rv_mulF (hp : 0 < p.2) (hq : 0 < q.2) : rv (mulF p q) = rv p * rv q := by
  have h1 := castI_ne (show p.2 ≠ 0 by omega)
  have h2 := castI_ne (show q.2 ≠ 0 by omega)
  unfold mulF
  rw [rv_ratioF _ (mul_ne hp hq)]
  unfold rv
  push_cast
  grind
end

def Sz (n : Nat) (p : Int × Int) : Prop := p.1.natAbs < 2 ^ n ∧ p.2.natAbs < 2 ^ n
theorem Sz.le {n m : Nat} {p : Int × Int} (h : Sz n p) (e : n ≤ m) : Sz m p := ⟨lt_pow h.1 _ e, lt_pow h.2 _ e⟩
section
variable {p q : Int × Int} {n m : Nat}
theorem Sz.mul (hp : Sz n p) (hq : Sz m q) (p0 : 0 < p.2) (q0 : 0 < q.2) : Sz (n + m) (mulF p q) := by
  have l := ratioF_le (t := p.1 * q.1) (mul_ne p0 q0)
  exact ⟨Nat.lt_of_le_of_lt l.1 (wide_lt hp.1 hq.1), Nat.lt_of_le_of_lt l.2 (wide_lt hp.2 hq.2)⟩
theorem Sz.add (hp : Sz n p) (hq : Sz m q) (p0 : 0 < p.2) (q0 : 0 < q.2) : Sz (n + m + 1) (addF p q) := by
  have l := ratioF_le (t := p.1 * q.2 + q.1 * p.2) (mul_ne p0 q0)
  have a := wide_lt hp.1 hq.2
  have b := wide_lt hq.1 hp.2
  rw [Nat.add_comm m n] at b
  refine ⟨Nat.lt_of_le_of_lt l.1 ?_, lt_pow (Nat.lt_of_le_of_lt l.2 (wide_lt hp.2 hq.2)) _ (by omega)⟩
  rw [Nat.pow_succ]
  omega
theorem Sz.sub (hp : Sz n p) (hq : Sz m q) (p0 : 0 < p.2) (q0 : 0 < q.2) : Sz (n + m + 1) (subF p q) := by
  have l := ratioF_le (t := p.1 * q.2 - q.1 * p.2) (mul_ne p0 q0)
  have a := wide_lt hp.1 hq.2
  have b := wide_lt hq.1 hp.2
  rw [Nat.add_comm m n] at b
  refine ⟨Nat.lt_of_le_of_lt l.1 ?_, lt_pow (Nat.lt_of_le_of_lt l.2 (wide_lt hp.2 hq.2)) _ (by omega)⟩
  rw [Nat.pow_succ]
  omega
end
def GoodM (fs : List (Int × Int)) : Prop := fs.length ≤ 1000 ∧ ∃ M : Int, 0 < M ∧ M.natAbs < 2 ^ 8990 ∧ ∀ f, f ∈ fs → 0 < f.2 ∧ f.2 ∣ M ∧ f.1.natAbs < 2 ^ 900000
theorem GoodM.pos {fs : List (Int × Int)} (h : GoodM fs) : ∀ f, f ∈ fs → 0 < f.2 := fun f hf => by
  obtain ⟨_, M, _, _, h⟩ := h
  exact (h f hf).1
theorem GoodM.take {fs : List (Int × Int)} (h : GoodM fs) (i : Nat) : GoodM (fs.take i) := by
  obtain ⟨hl, M, h1, h2, h⟩ := h
  exact ⟨by rw [List.length_take]; omega, M, h1, h2, fun f hf => h f (List.mem_of_mem_take hf)⟩
theorem GoodM.bound {fs : List (Int × Int)} (h : GoodM fs) : 0 < LF fs ∧ (LF fs).natAbs < 2 ^ 8990 := by
  have p := h.pos
  obtain ⟨hl, M, h1, h2, h⟩ := h
  obtain ⟨a, _, _, d⟩ := LFb_spec (fs := fs) (b := 1) (by decide) p
  have dv := d M (Int.one_dvd _) fun f hf => (h f hf).2.1
  have a : 0 < LF fs := a
  have k : LF fs ≤ M := Int.le_of_dvd h1 dv
  exact ⟨a, Nat.lt_of_le_of_lt (by omega) h2⟩
theorem GoodM.at {fs : List (Int × Int)} (h : GoodM fs) {f : Int × Int} (hf : f ∈ fs) : f.2.natAbs < 2 ^ 8990 ∧ f.1.natAbs < 2 ^ 900000 := by
  obtain ⟨hl, M, h1, h2, h⟩ := h
  obtain ⟨a, b, c⟩ := h f hf
  exact ⟨Nat.lt_of_le_of_lt (by have := Int.le_of_dvd h1 b; omega) h2, c⟩
theorem GoodM.of {fs : List (Int × Int)} {n l : Nat} (hl : fs.length ≤ l) (h : ∀ f, f ∈ fs → 0 < f.2 ∧ Sz n f) (hn : n * l + 1 ≤ 8990) (l1 : l ≤ 1000) : GoodM fs := by
  have sp := LFb_spec (fs := fs) (b := 1) (by decide) fun f hf => (h f hf).1
  have le := LFb_le (k := n) (fs := fs) (b := 1) (by decide) fun f hf => ⟨(h f hf).1, (h f hf).2.2⟩
  refine ⟨by omega, LF fs, sp.1, Nat.lt_of_le_of_lt le ?_, fun f hf => ⟨(h f hf).1, sp.2.2.1 f hf, ?_⟩⟩
  · have e : (1 : Int).natAbs = 1 := rfl
    rw [e, Nat.one_mul]
    have := Nat.mul_le_mul_left n hl
    exact Nat.pow_lt_pow_right (by decide) (by omega)
  · have l0 : 0 < l := Nat.lt_of_lt_of_le (List.length_pos_of_mem hf) hl
    have : n * 1 ≤ n * l := Nat.mul_le_mul_left n l0
    exact lt_pow (h f hf).2.1 _ (by omega)
theorem Good.M {fs : List (Int × Int)} (h : Good fs) : GoodM fs := by
  have b := h.bound
  have sp := LFb_spec (fs := fs) (b := 1) (by decide) h.pos
  exact ⟨by have := h.1; omega, LF fs, b.1, lt_pow b.2 _ (by decide), fun f hf => ⟨h.pos f hf, sp.2.2.1 f hf, lt_pow (h.2 f hf).2.1 _ (by decide)⟩⟩

def sumR {α : Type} (f : α → Rat) (l : List α) : Rat := (l.map f).sum
theorem sumR_nil {α : Type} (f : α → Rat) : sumR f [] = 0 := rfl
theorem sumR_cons {α : Type} (f : α → Rat) (a : α) (l : List α) : sumR f (a :: l) = f a + sumR f l := by
  unfold sumR
  rw [List.map_cons, List.sum_cons]
theorem sumR_congr {α : Type} {f g : α → Rat} {l : List α} (h : ∀ a, a ∈ l → f a = g a) : sumR f l = sumR g l := by
  unfold sumR
  rw [List.map_congr_left h]
theorem sumR_app {α : Type} (f : α → Rat) : ∀ l m : List α, sumR f (l ++ m) = sumR f l + sumR f m
  | [], m => by rw [List.nil_append, sumR_nil]; grind
  | a :: l, m => by
    rw [List.cons_append, sumR_cons, sumR_cons, sumR_app f l m]
    grind
section
variable (g : Str → Rat)
end

section
variable {i x k y : Nat} {s : Sl} {es : List D} {fb : FS}
end

theorem eqs_frs : ∀ f : List (Int × Int), eqD.eqs (f.map fr) (f.map fr) = true
  | [] => rfl
  | p :: f => by
    show (eqD (fr p) (fr p) && eqD.eqs (f.map fr) (f.map fr)) = true
    rw [eqs_frs f, eqD_frs, decide_eq_true rfl]
    rfl
theorem eqs_frs2 : ∀ f g : List (Int × Int), eqD.eqs (f.map fr) (g.map fr) = decide (f = g)
  | [], [] => rfl
  | [], q :: g => rfl
  | p :: f, [] => rfl
  | p :: f, q :: g => by
    show (eqD (fr p) (fr q) && eqD.eqs (f.map fr) (g.map fr)) = _
    rw [eqs_frs2 f g, eqD_frs, Bool.eq_iff_iff, Bool.and_eq_true, decide_eq_true_eq, decide_eq_true_eq, decide_eq_true_eq, List.cons.injEq]
theorem okPs_frs (n : Nat) : ∀ f : List (Int × Int), okP.okPs (n + 2) (f.map fr) = true
  | [] => rfl
  | p :: f => by
    show (okP (n + 2) (fr p) && okP.okPs (n + 2) (f.map fr)) = true
    rw [okPs_frs n f]
    rfl
end P
namespace P

theorem len_filter_split {α : Type} (p : α → Bool) : ∀ l : List α, (l.filter p).length + (l.filter fun x => !p x).length = l.length
  | [] => rfl
  | a :: l => by
    have ih := len_filter_split p l
    rw [List.filter_cons, List.filter_cons, List.length_cons]
    cases p a <;> simp <;> omega
theorem ph_one {α : Type} (f : α → Nat) (B : Nat) : ∀ (W : Nat) (S : List α), (∀ x, x ∈ S → f x < W) → (∀ v, v < W → (S.filter fun x => decide (f x = v)).length ≤ B) → S.length ≤ W * B
  | 0, S, h, _ => by
    cases S with
    | nil => simp
    | cons a S => exact absurd (h a (List.mem_cons_self ..)) (Nat.not_lt_zero _)
  | W + 1, S, h, hb => by
    have e := len_filter_split (fun x => decide (f x = W)) S
    have h1 := hb W (Nat.lt_succ_self W)
    have h2 := ph_one f B W (S.filter fun x => !decide (f x = W)) (fun x hx => by
      have := h x (List.mem_filter.mp hx).1
      have h3 := (List.mem_filter.mp hx).2
      simp at h3
      omega) (fun v hv => by
      rw [List.filter_filter]
      refine Nat.le_trans ?_ (hb v (by omega))
      exact (List.Sublist.length_le (by
        have : (S.filter fun x => decide (f x = v) && !decide (f x = W)) = (S.filter fun x => decide (f x = v)).filter (fun x => !decide (f x = W)) := by rw [List.filter_filter]; congr 1; funext x; exact Bool.and_comm _ _
        rw [this]
        exact List.filter_sublist)))
    rw [Nat.succ_mul]
    omega
theorem ph_all {α : Type} : ∀ (fs : List ((α → Nat) × Nat)) (S : List α), S.Nodup → (∀ q, q ∈ fs → ∀ x, x ∈ S → q.1 x < q.2) → (fs.map (·.2)).foldr (· * ·) 1 < S.length → ∃ x y, x ∈ S ∧ y ∈ S ∧ x ≠ y ∧ ∀ q, q ∈ fs → q.1 x = q.1 y
  | [], S, hn, _, hl => by
    match S, hn, hl with
    | [], _, hl => exact absurd hl (by simp)
    | [a], _, hl => exact absurd hl (by simp)
    | a :: b :: S, hn, _ =>
      refine ⟨a, b, by simp, by simp, ?_, fun q h => nomatch h⟩
      rintro rfl
      exact (List.nodup_cons.mp hn).1 (List.mem_cons_self ..)
  | q :: fs, S, hn, h, hl => by
    have : ∃ v, v < q.2 ∧ (fs.map (·.2)).foldr (· * ·) 1 < (S.filter fun x => decide (q.1 x = v)).length := by
      apply Classical.byContradiction
      intro hc
      have := ph_one q.1 ((fs.map (·.2)).foldr (· * ·) 1) q.2 S (h q (List.mem_cons_self ..)) fun v hv => by
        apply Nat.le_of_not_lt
        intro z
        exact hc ⟨v, hv, z⟩
      rw [List.map_cons, List.foldr_cons] at hl
      omega
    obtain ⟨v, _, hv⟩ := this
    obtain ⟨x, y, hx, hy, hne, he⟩ := ph_all fs _ (hn.sublist List.filter_sublist) (fun p hp x hx => h p (List.mem_cons_of_mem _ hp) x (List.mem_filter.mp hx).1) hv
    have ex := of_decide_eq_true (List.mem_filter.mp hx).2
    have ey := of_decide_eq_true (List.mem_filter.mp hy).2
    refine ⟨x, y, (List.mem_filter.mp hx).1, (List.mem_filter.mp hy).1, hne, fun p hp => ?_⟩
    rcases List.mem_cons.mp hp with rfl | hp
    · exact ex.trans ey.symm
    · exact he p hp

def boxes (T : Nat) : Nat → List (List Nat)
  | 0 => [[]]
  | n + 1 => (List.range (T + 1)).flatMap fun i => (boxes T n).map (i :: ·)
theorem boxes_len (T : Nat) : ∀ n, (boxes T n).length = (T + 1) ^ n
  | 0 => rfl
  | n + 1 => by
    unfold boxes
    rw [List.length_flatMap]
    have : (List.map (fun a => (List.map (fun x => a :: x) (boxes T n)).length) (List.range (T + 1))) = List.replicate (T + 1) ((T + 1) ^ n) := by
      rw [List.eq_replicate_iff]
      refine ⟨by simp, fun b hb => ?_⟩
      obtain ⟨a, _, rfl⟩ := List.mem_map.mp hb
      rw [List.length_map, boxes_len T n]
    rw [this, List.sum_replicate_nat, Nat.pow_succ, Nat.mul_comm]
theorem boxes_mem (T : Nat) : ∀ n l, l ∈ boxes T n → l.length = n ∧ ∀ x, x ∈ l → x ≤ T
  | 0, l, h => by
    have : l = [] := by simpa [boxes] using h
    subst this
    exact ⟨rfl, fun x h => nomatch h⟩
  | n + 1, l, h => by
    unfold boxes at h
    obtain ⟨i, hi, h⟩ := List.mem_flatMap.mp h
    obtain ⟨r, hr, rfl⟩ := List.mem_map.mp h
    obtain ⟨h1, h2⟩ := boxes_mem T n r hr
    have := List.mem_range.mp hi
    refine ⟨by rw [List.length_cons, h1], fun x hx => ?_⟩
    rcases List.mem_cons.mp hx with rfl | hx
    · omega
    · exact h2 x hx
theorem boxes_nodup (T : Nat) : ∀ n, (boxes T n).Nodup
  | 0 => by simp [boxes]
  | n + 1 => by
    unfold boxes
    rw [List.nodup_iff_pairwise_ne, List.pairwise_flatMap]
    constructor
    · intro a _
      rw [List.pairwise_map]
      exact (boxes_nodup T n).imp fun h e => h (List.cons.inj e).2
    · refine List.nodup_range.imp fun h => ?_
      intro x hx y hy e
      obtain ⟨r, _, rfl⟩ := List.mem_map.mp hx
      obtain ⟨s, _, rfl⟩ := List.mem_map.mp hy
      exact h (List.cons.inj e).1

def dotZ : List Int → List Int → Int
  | a :: l, x :: m => a * x + dotZ l m
  | _, _ => 0
def norm1 (l : List Int) : Nat := (l.map Int.natAbs).sum
theorem dotZ_le {T : Nat} : ∀ (a x : List Int), (∀ y, y ∈ x → y.natAbs ≤ T) → (dotZ a x).natAbs ≤ norm1 a * T
  | [], x, _ => by simp [dotZ]
  | a :: l, [], _ => by simp [dotZ]
  | a :: l, x :: m, h => by
    have ih := dotZ_le l m fun y hy => h y (List.mem_cons_of_mem _ hy)
    have hx := h x (List.mem_cons_self ..)
    have e : dotZ (a :: l) (x :: m) = a * x + dotZ l m := rfl
    have e2 : norm1 (a :: l) = a.natAbs + norm1 l := by simp [norm1]
    have e3 : (a * x).natAbs ≤ a.natAbs * T := by rw [Int.natAbs_mul]; exact Nat.mul_le_mul_left _ hx
    rw [e, e2, Nat.add_mul]
    omega
def negs (l : List Int) : Nat := (l.map fun a => (-a).toNat).sum
def poss (l : List Int) : Nat := (l.map fun a => a.toNat).sum
theorem norm_split : ∀ l : List Int, norm1 l = poss l + negs l
  | [] => rfl
  | a :: l => by
    have ih := norm_split l
    unfold norm1 poss negs at *
    simp only [List.map_cons, List.sum_cons]
    omega
theorem dot_range {T : Nat} : ∀ (a : List Int) (x : List Nat), (∀ y, y ∈ x → y ≤ T) → -((negs a * T : Nat) : Int) ≤ dotZ a (x.map Int.ofNat) ∧ dotZ a (x.map Int.ofNat) ≤ ((poss a * T : Nat) : Int)
  | [], x, _ => by cases x <;> simp [dotZ, negs, poss]
  | a :: l, [], _ => by
    show -(_ : Int) ≤ 0 ∧ (0 : Int) ≤ _
    omega
  | a :: l, x :: m, h => by
    have ih := dot_range l m fun y hy => h y (List.mem_cons_of_mem _ hy)
    have hx := h x (List.mem_cons_self ..)
    have e : dotZ (a :: l) ((x :: m).map Int.ofNat) = a * x + dotZ l (m.map Int.ofNat) := rfl
    have e2 : negs (a :: l) = (-a).toNat + negs l := by simp [negs]
    have e3 : poss (a :: l) = a.toNat + poss l := by simp [poss]
    rw [e, e2, e3, Nat.add_mul, Nat.add_mul]
    have k : -(((-a).toNat * T : Nat) : Int) ≤ a * x ∧ a * x ≤ ((a.toNat * T : Nat) : Int) := by
      rcases Int.le_total 0 a with h0 | h0
      · obtain ⟨b, rfl⟩ := Int.eq_ofNat_of_zero_le h0
        have : (-(b : Int)).toNat = 0 := by omega
        rw [this, Int.toNat_natCast]
        have : b * x ≤ b * T := Nat.mul_le_mul_left _ hx
        rw [← Int.natCast_mul]
        omega
      · obtain ⟨b, hb⟩ := Int.eq_ofNat_of_zero_le (show 0 ≤ -a by omega)
        have ea : a = -(b : Int) := by omega
        subst ea
        have : (-(b : Int)).toNat = 0 := by omega
        rw [this, Int.neg_neg, Int.toNat_natCast]
        have : b * x ≤ b * T := Nat.mul_le_mul_left _ hx
        rw [Int.neg_mul, ← Int.natCast_mul]
        omega
    omega
theorem dot_sub : ∀ (a x y : List Int), x.length = y.length → dotZ a (List.zipWith (· - ·) x y) = dotZ a x - dotZ a y
  | [], x, y, _ => by cases x <;> cases y <;> simp [dotZ]
  | a :: l, [], [], _ => by simp [dotZ]
  | a :: l, x :: m, y :: n, h => by
    have ih := dot_sub l m n (Nat.succ.inj h)
    show a * (x - y) + dotZ l (List.zipWith (· - ·) m n) = a * x + dotZ l m - (a * y + dotZ l n)
    rw [ih, Int.mul_sub]
    omega
def prodN (l : List Nat) : Nat := l.foldr (· * ·) 1
theorem prodN_pos : ∀ l : List Nat, (∀ x, x ∈ l → 1 ≤ x) → 1 ≤ prodN l
  | [], _ => Nat.le_refl _
  | a :: l, h => Nat.mul_le_mul (h a (List.mem_cons_self ..)) (prodN_pos l fun x hx => h x (List.mem_cons_of_mem _ hx))
theorem prod_le (T : Nat) : ∀ l : List Nat, (∀ x, x ∈ l → 1 ≤ x) → prodN (l.map fun N => N * T + 1) ≤ prodN l * (T + 1) ^ l.length
  | [], _ => Nat.le_refl _
  | a :: l, h => by
    have ih := prod_le T l fun x hx => h x (List.mem_cons_of_mem _ hx)
    have h1 := h a (List.mem_cons_self ..)
    show (a * T + 1) * prodN (l.map fun N => N * T + 1) ≤ a * prodN l * (T + 1) ^ (l.length + 1)
    have h2 : a * T + 1 ≤ a * (T + 1) := by rw [Nat.mul_succ]; omega
    refine Nat.le_trans (Nat.mul_le_mul h2 ih) ?_
    rw [Nat.pow_succ]
    have : a * (T + 1) * (prodN l * (T + 1) ^ l.length) = a * prodN l * ((T + 1) ^ l.length * (T + 1)) := by
      rw [Nat.mul_assoc, Nat.mul_assoc]
      congr 1
      rw [Nat.mul_left_comm, Nat.mul_comm (T + 1) _]
    rw [this]
    exact Nat.le_refl _
theorem zip_ne : ∀ (x y : List Nat), x.length = y.length → x ≠ y → ∃ z, z ∈ List.zipWith (· - ·) (x.map Int.ofNat) (y.map Int.ofNat) ∧ z ≠ 0
  | [], [], _, h => absurd rfl h
  | x :: m, y :: n, l, h => by
    by_cases e : x = y
    · subst e
      obtain ⟨z, hz, h0⟩ := zip_ne m n (Nat.succ.inj l) (fun e => h (by rw [e]))
      exact ⟨z, List.mem_cons_of_mem _ hz, h0⟩
    · refine ⟨(x : Int) - y, List.mem_cons_self .., by omega⟩
theorem zip_mem {T : Nat} : ∀ (x y : List Nat), (∀ z, z ∈ x → z ≤ T) → (∀ z, z ∈ y → z ≤ T) → ∀ z, z ∈ List.zipWith (· - ·) (x.map Int.ofNat) (y.map Int.ofNat) → z.natAbs ≤ T
  | [], _, _, _, z, h => by simp at h
  | x :: m, [], _, _, z, h => by simp at h
  | x :: m, y :: n, hx, hy, z, h => by
    rcases List.mem_cons.mp (show z ∈ ((x : Int) - y) :: List.zipWith (· - ·) (m.map Int.ofNat) (n.map Int.ofNat) from h) with rfl | h
    · have := hx x (List.mem_cons_self ..)
      have := hy y (List.mem_cons_self ..)
      omega
    · exact zip_mem m n (fun z hz => hx z (List.mem_cons_of_mem _ hz)) (fun z hz => hy z (List.mem_cons_of_mem _ hz)) z h
theorem siegel (rows : List (List Int)) (Ns : List Nat) (hN : Ns.length = rows.length) (h : ∀ (i : Nat) r N, rows[i]? = some r → Ns[i]? = some N → 1 ≤ N ∧ norm1 r ≤ N) :
    ∃ x : List Int, x.length = rows.length + 1 ∧ (∀ y, y ∈ x → y.natAbs ≤ prodN Ns) ∧ (∃ y, y ∈ x ∧ y ≠ 0) ∧ ∀ r, r ∈ rows → dotZ r x = 0 := by
  have N1 : ∀ N, N ∈ Ns → 1 ≤ N := fun N hN' => by
    obtain ⟨i, hi⟩ := List.getElem?_of_mem hN'
    have il := (List.getElem?_eq_some_iff.mp hi).1
    exact (h i (rows[i]'(by omega)) N (List.getElem?_eq_getElem _) hi).1
  obtain ⟨T, eT⟩ : ∃ T, T = prodN Ns := ⟨_, rfl⟩
  have T1 : 1 ≤ T := by rw [eT]; exact prodN_pos Ns N1
  let fs : List ((List Nat → Nat) × Nat) := (rows.zip Ns).map fun q => (fun x => (dotZ q.1 (x.map Int.ofNat) + ((negs q.1 * T : Nat) : Int)).toNat, q.2 * T + 1)
  have e2 : fs.map (·.2) = Ns.map fun N => N * T + 1 := by
    show ((rows.zip Ns).map _).map _ = _
    rw [List.map_map]
    have : ((fun x : (List Nat → Nat) × Nat => x.2) ∘ fun q : List Int × Nat => ((fun x : List Nat => (dotZ q.1 (x.map Int.ofNat) + ((negs q.1 * T : Nat) : Int)).toNat), q.2 * T + 1)) = (fun N => N * T + 1) ∘ Prod.snd := rfl
    rw [this, ← List.map_map, List.map_snd_zip (by omega)]
  have e3 : (fs.map (·.2)).foldr (· * ·) 1 < (boxes T (rows.length + 1)).length := by
    rw [e2, boxes_len]
    refine Nat.lt_of_le_of_lt (prod_le T Ns N1) ?_
    rw [← eT, hN, Nat.pow_succ, Nat.mul_comm]
    exact Nat.mul_lt_mul_of_pos_left (Nat.lt_succ_self T) (Nat.pow_pos (by omega))
  obtain ⟨x, y, hx, hy, hne, he⟩ := ph_all fs (boxes T (rows.length + 1)) (boxes_nodup ..) (fun q hq x hx => by
    obtain ⟨p, hp, rfl⟩ := List.mem_map.mp hq
    obtain ⟨i, hi⟩ := List.getElem?_of_mem hp
    obtain ⟨h1, h2⟩ := List.getElem?_zip_eq_some.mp hi
    have k := h i _ _ h1 h2
    have r := dot_range p.1 x (boxes_mem T _ x hx).2
    have s := norm_split p.1
    have : (poss p.1 + negs p.1) * T ≤ p.2 * T := Nat.mul_le_mul_right _ (by omega)
    rw [Nat.add_mul] at this
    show (dotZ p.1 (x.map Int.ofNat) + ((negs p.1 * T : Nat) : Int)).toNat < p.2 * T + 1
    omega) e3
  have mx := boxes_mem T _ x hx
  have my := boxes_mem T _ y hy
  refine ⟨List.zipWith (· - ·) (x.map Int.ofNat) (y.map Int.ofNat), ?_, ?_, zip_ne x y (mx.1.trans my.1.symm) hne, fun r hr => ?_⟩
  · rw [List.length_zipWith, List.length_map, List.length_map, mx.1, my.1, Nat.min_self]
  · rw [← eT]
    exact zip_mem x y mx.2 my.2
  · rw [dot_sub _ _ _ (by rw [List.length_map, List.length_map, mx.1, my.1])]
    obtain ⟨i, hi⟩ := List.getElem?_of_mem hr
    have il := (List.getElem?_eq_some_iff.mp hi).1
    have hz : (rows.zip Ns)[i]? = some (r, Ns[i]'(by omega)) := List.getElem?_zip_eq_some.mpr ⟨hi, List.getElem?_eq_getElem _⟩
    have := he _ (List.mem_map_of_mem (f := fun q : List Int × Nat => ((fun x : List Nat => (dotZ q.1 (x.map Int.ofNat) + ((negs q.1 * T : Nat) : Int)).toNat), q.2 * T + 1)) (List.mem_of_getElem? hz))
    have this : (dotZ r (x.map Int.ofNat) + ((negs r * T : Nat) : Int)).toNat = (dotZ r (y.map Int.ofNat) + ((negs r * T : Nat) : Int)).toNat := this
    have r1 := dot_range r x mx.2
    have r2 := dot_range r y my.2
    omega
end P
namespace P

def dw (r v : Nat → Rat) : Nat → Rat
  | 0 => 0
  | w + 1 => dw r v w + r w * v w
theorem dw_congr {r s v : Nat → Rat} : ∀ {w : Nat}, (∀ j, j < w → r j = s j) → dw r v w = dw s v w
  | 0, _ => rfl
  | w + 1, h => by
    unfold dw
    rw [dw_congr fun j hj => h j (Nat.lt_succ_of_lt hj), h w (Nat.lt_succ_self w)]
theorem dw_congr_r {r v u : Nat → Rat} : ∀ {w : Nat}, (∀ j, j < w → v j = u j) → dw r v w = dw r u w
  | 0, _ => rfl
  | w + 1, h => by
    unfold dw
    rw [dw_congr_r fun j hj => h j (Nat.lt_succ_of_lt hj), h w (Nat.lt_succ_self w)]
theorem dw_lin (r s v : Nat → Rat) (a b : Rat) : ∀ w : Nat, dw (fun j => a * r j + b * s j) v w = a * dw r v w + b * dw s v w
  | 0 => by unfold dw; grind
  | w + 1 => by
    unfold dw
    rw [dw_lin r s v a b w]
    grind
theorem dw_lin_r (r v u : Nat → Rat) (a b : Rat) : ∀ w : Nat, dw r (fun j => a * v j + b * u j) w = a * dw r v w + b * dw r u w
  | 0 => by unfold dw; grind
  | w + 1 => by
    unfold dw
    rw [dw_lin_r r v u a b w]
    grind
theorem dw_zero_r (r : Nat → Rat) : ∀ w : Nat, dw r (fun _ => 0) w = 0
  | 0 => rfl
  | w + 1 => by
    unfold dw
    rw [dw_zero_r r w]
    grind
theorem dw_unit (r : Nat → Rat) (c : Nat) (x : Rat) : ∀ w : Nat, dw r (fun j => if j = c then x else 0) w = if c < w then r c * x else 0
  | 0 => by unfold dw; simp
  | w + 1 => by
    unfold dw
    rw [dw_unit r c x w]
    by_cases h : w = c
    · subst h
      rw [if_neg (Nat.lt_irrefl _), if_pos rfl, if_pos (Nat.lt_succ_self _)]
      grind
    · rw [if_neg h]
      by_cases h2 : c < w
      · rw [if_pos h2, if_pos (by omega)]
        grind
      · rw [if_neg h2, if_neg (by omega)]
        grind
def vecQ : List Nat → List Int → Nat → Rat
  | c :: cs, x :: xs => fun j => 1 * (if j = c then (x : Rat) else 0) + 1 * vecQ cs xs j
  | _, _ => fun _ => 0
def dotQ (r : Nat → Rat) : List Nat → List Int → Rat
  | c :: cs, x :: xs => r c * (x : Rat) + dotQ r cs xs
  | _, _ => 0
theorem dw_vec (r : Nat → Rat) (w : Nat) : ∀ (cs : List Nat) (xs : List Int), (∀ c, c ∈ cs → c < w) → dw r (vecQ cs xs) w = dotQ r cs xs
  | [], xs, _ => by
    show dw r (fun _ => 0) w = 0
    exact dw_zero_r r w
  | c :: cs, [], _ => by
    show dw r (fun _ => 0) w = 0
    exact dw_zero_r r w
  | c :: cs, x :: xs, h => by
    show dw r (fun j => 1 * (if j = c then (x : Rat) else 0) + 1 * vecQ cs xs j) w = r c * (x : Rat) + dotQ r cs xs
    rw [dw_lin_r, dw_unit, if_pos (h c (List.mem_cons_self ..)), dw_vec r w cs xs fun c hc => h c (List.mem_cons_of_mem _ hc)]
    grind
theorem dotQ_int {r : Nat → Rat} {m : Nat → Int} {d : Rat} (h : ∀ j, r j * d = (m j : Rat)) : ∀ (cs : List Nat) (xs : List Int), dotQ r cs xs * d = ((dotZ (cs.map m) xs : Int) : Rat)
  | [], xs => by
    show (0 : Rat) * d = ((0 : Int) : Rat)
    have : ((0 : Int) : Rat) = 0 := by norm_cast
    grind
  | c :: cs, [] => by
    show (0 : Rat) * d = ((0 : Int) : Rat)
    have : ((0 : Int) : Rat) = 0 := by norm_cast
    grind
  | c :: cs, x :: xs => by
    show (r c * (x : Rat) + dotQ r cs xs) * d = ((m c * x + dotZ (cs.map m) xs : Int) : Rat)
    have ih := dotQ_int h cs xs
    have hc := h c
    push_cast
    rw [← ih, ← hc]
    grind
theorem dotQ_snoc (r : Nat → Rat) (c : Nat) (x : Int) : ∀ (cs : List Nat) (xs : List Int), cs.length = xs.length → dotQ r (cs ++ [c]) (xs ++ [x]) = dotQ r cs xs + r c * (x : Rat)
  | [], [], _ => by
    show r c * (x : Rat) + 0 = 0 + r c * (x : Rat)
    grind
  | d :: cs, y :: xs, h => by
    show r d * (y : Rat) + dotQ r (cs ++ [c]) (xs ++ [x]) = r d * (y : Rat) + dotQ r cs xs + r c * (x : Rat)
    rw [dotQ_snoc r c x cs xs (Nat.succ.inj h)]
    grind
theorem dotQ_one {r : Nat → Rat} : ∀ {cs : List Nat} {xs : List Int} (t : Nat), cs.length = xs.length → (∀ (s : Nat) c, cs[s]? = some c → r c = if s = t then 1 else 0) → dotQ r cs xs = ((xs[t]?.getD 0 : Int) : Rat)
  | [], [], t, _, _ => by
    show (0 : Rat) = ((([] : List Int)[t]?.getD 0 : Int) : Rat)
    have : ((0 : Int) : Rat) = 0 := by norm_cast
    simp [this]
  | c :: cs, x :: xs, 0, l, h => by
    have h0 := h 0 c rfl
    have hz : dotQ r cs xs = 0 := by
      have key : ∀ (cs : List Nat) (xs : List Int), (∀ c, c ∈ cs → r c = 0) → dotQ r cs xs = 0 := fun cs => by
        induction cs with
        | nil => intro xs _; rfl
        | cons c cs ih =>
          intro xs h
          cases xs with
          | nil => rfl
          | cons x xs =>
            show r c * (x : Rat) + dotQ r cs xs = 0
            rw [h c (List.mem_cons_self ..), ih xs fun c hc => h c (List.mem_cons_of_mem _ hc)]
            grind
      refine key cs xs fun d hd => ?_
      obtain ⟨i, hi⟩ := List.getElem?_of_mem hd
      rw [h (i + 1) d hi]
      simp
    show r c * (x : Rat) + dotQ r cs xs = (x : Rat)
    rw [h0, hz]
    simp
    grind
  | c :: cs, x :: xs, t + 1, l, h => by
    have ih := dotQ_one (r := r) (cs := cs) (xs := xs) t (Nat.succ.inj l) fun s d hd => by
      rw [h (s + 1) d hd]
      simp
    have h0 := h 0 c rfl
    show r c * (x : Rat) + dotQ r cs xs = (((x :: xs)[t + 1]?.getD 0 : Int) : Rat)
    rw [ih, h0]
    simp
    grind

structure Stg (n w : Nat) (M0 M A : Nat → Nat → Rat) (c k : Nat) (Pc : List Nat) : Prop where
  kn : k ≤ n
  pl : Pc.length = k
  pc : ∀ p, p ∈ Pc → p < c
  pi : Pc.Pairwise (· < ·)
  pv : ∀ (t p : Nat), Pc[t]? = some p → ∀ s, s < n → A s p = if t = s then 1 else 0
  zr : ∀ i, k ≤ i → i < n → ∀ j, j < c → A i j = 0
  ld : ∀ (t p : Nat), Pc[t]? = some p → ∀ j, j < p → A t j = 0
  pm : ∀ i, i < n → ∃ i', i' < n ∧ M i = M0 i'
  ia : ∀ v, (∀ t, t < k → dw (M t) v w = 0) → ∀ t, t < k → dw (A t) v w = 0
  ib : ∀ v, (∀ t, t < k → dw (M t) v w = 0) → ∀ i, k ≤ i → i < n → dw (A i) v w = dw (M i) v w
  ev : ∀ v, (∀ i, i < n → dw (M0 i) v w = 0) ↔ ∀ i, i < n → dw (A i) v w = 0
def swp (k f i : Nat) : Nat := if i = k then f else if i = f then k else i
theorem swp_lt {k f i n : Nat} (hk : k < n) (hf : f < n) (hi : i < n) : swp k f i < n := by
  unfold swp
  split
  · exact hf
  · split
    · exact hk
    · exact hi
def piv (A : Nat → Nat → Rat) (k f c : Nat) : Nat → Nat → Rat := fun i j => if i = k then A f j / A f c else A (swp k f i) j - A (swp k f i) c * (A f j / A f c)
theorem Stg.skip {n w : Nat} {M0 M A : Nat → Nat → Rat} {c k : Nat} {Pc : List Nat} (S : Stg n w M0 M A c k Pc) (h : ∀ i, k ≤ i → i < n → A i c = 0) : Stg n w M0 M A (c + 1) k Pc :=
  { S with
    pc := fun p hp => Nat.lt_succ_of_lt (S.pc p hp)
    zr := fun i h1 h2 j hj => by
      by_cases e : j = c
      · subst e; exact h i h1 h2
      · exact S.zr i h1 h2 j (by omega) }
theorem dw_piv {A : Nat → Nat → Rat} {k f c i w : Nat} (v : Nat → Rat) (hi : i ≠ k) : dw (piv A k f c i) v w = dw (A (swp k f i)) v w - A (swp k f i) c * dw (piv A k f c k) v w := by
  have e : dw (piv A k f c i) v w = dw (fun j => 1 * A (swp k f i) j + (-(A (swp k f i) c)) * piv A k f c k j) v w := dw_congr fun j _ => by
    unfold piv
    rw [if_neg hi, if_pos rfl]
    grind
  rw [e, dw_lin]
  grind
theorem dw_pivk {A : Nat → Nat → Rat} {k f c w : Nat} (v : Nat → Rat) : dw (piv A k f c k) v w = dw (A f) v w / A f c := by
  have e : dw (piv A k f c k) v w = dw (fun j => (1 / A f c) * A f j + 0 * A f j) v w := dw_congr fun j _ => by
    unfold piv
    rw [if_pos rfl]
    grind
  rw [e, dw_lin]
  grind
theorem Stg.next {n w : Nat} {M0 M A : Nat → Nat → Rat} {c k f : Nat} {Pc : List Nat} (S : Stg n w M0 M A c k Pc) (hk : k ≤ f) (hf : f < n) (h0 : A f c ≠ 0) (hc : c < w) : Stg n w M0 (fun i => M (swp k f i)) (piv A k f c) (c + 1) (k + 1) (Pc ++ [c]) := by
  have kn : k < n := by omega
  have sk : swp k f k = f := if_pos rfl
  have sl : ∀ t, t < k → swp k f t = t := fun t ht => by unfold swp; rw [if_neg (by omega), if_neg (by omega)]
  have sg : ∀ t, k < t → k ≤ swp k f t := fun t ht => by unfold swp; split; omega; split <;> omega
  have mv : ∀ v, (∀ t, t < k + 1 → dw (M (swp k f t)) v w = 0) → (∀ t, t < k → dw (M t) v w = 0) ∧ dw (M f) v w = 0 := fun v h => ⟨fun t ht => by
    have := h t (by omega)
    rwa [sl t ht] at this, by
    have := h k (by omega)
    rwa [sk] at this⟩
  have pk0 : ∀ v, (∀ t, t < k + 1 → dw (M (swp k f t)) v w = 0) → dw (piv A k f c k) v w = 0 := fun v h => by
    obtain ⟨h1, h2⟩ := mv v h
    have e := S.ib v h1 f hk hf
    rw [dw_pivk, e, h2]
    grind
  refine ⟨by omega, by rw [List.length_append, S.pl]; rfl, ?_, ?_, ?_, ?_, ?_, ?_, ?_, ?_, ?_⟩
  · intro p hp
    rcases List.mem_append.mp hp with hp | hp
    · have := S.pc p hp; omega
    · rw [List.mem_singleton.mp hp]; omega
  · rw [List.pairwise_append]
    exact ⟨S.pi, List.pairwise_singleton .., fun a ha b hb => by rw [List.mem_singleton.mp hb]; exact S.pc a ha⟩
  · intro t p hp s hs
    by_cases ht : t < k
    · rw [List.getElem?_append_left (by rw [S.pl]; exact ht)] at hp
      have pc := S.pc p (List.mem_of_getElem? hp)
      have z := S.zr f hk hf p pc
      unfold piv
      by_cases e : s = k
      · rw [if_pos e, if_neg (by omega), z]
        grind
      · rw [if_neg e, z, S.pv t p hp _ (swp_lt kn hf hs)]
        by_cases e2 : t = s
        · subst e2
          rw [sl t ht, if_pos rfl]
          grind
        · rw [if_neg e2, if_neg]
          · grind
          · unfold swp
            rw [if_neg e]
            split <;> omega
    · rw [List.getElem?_append_right (by rw [S.pl]; omega), S.pl] at hp
      have : t = k := by
        cases q : t - k with
        | zero => omega
        | succ i => rw [q] at hp; simp at hp
      subst this
      rw [Nat.sub_self] at hp
      cases hp
      unfold piv
      by_cases e : s = t
      · rw [if_pos e, if_pos e.symm]
        grind
      · rw [if_neg e, if_neg (fun z => e z.symm)]
        grind
  · intro i hi1 hi2 j hj
    unfold piv
    rw [if_neg (by omega)]
    have g := sg i (by omega)
    have l := swp_lt (k := k) (f := f) kn hf hi2
    by_cases e : j = c
    · subst e
      grind
    · rw [S.zr _ g l j (by omega), S.zr f hk hf j (by omega)]
      grind
  · intro t p hp j hj
    by_cases ht : t < k
    · rw [List.getElem?_append_left (by rw [S.pl]; exact ht)] at hp
      have pc := S.pc p (List.mem_of_getElem? hp)
      unfold piv
      rw [if_neg (by omega), sl t ht, S.ld t p hp j hj, S.zr f hk hf j (by omega)]
      grind
    · rw [List.getElem?_append_right (by rw [S.pl]; omega), S.pl] at hp
      have : t = k := by
        cases q : t - k with
        | zero => omega
        | succ i => rw [q] at hp; simp at hp
      subst this
      rw [Nat.sub_self] at hp
      cases hp
      unfold piv
      rw [if_pos rfl, S.zr f hk hf j hj]
      grind
  · intro i hi
    exact S.pm _ (swp_lt kn hf hi)
  · intro v h t ht
    have p0 := pk0 v h
    by_cases e : t = k
    · rw [e]; exact p0
    · obtain ⟨h1, h2⟩ := mv v h
      rw [dw_piv v e, p0, sl t (by omega), S.ia v h1 t (by omega)]
      grind
  · intro v h i hi1 hi2
    have p0 := pk0 v h
    obtain ⟨h1, h2⟩ := mv v h
    rw [dw_piv v (by omega), p0, S.ib v h1 _ (sg i (by omega)) (swp_lt kn hf hi2)]
    grind
  · intro v
    rw [S.ev v]
    constructor
    · intro h i hi
      have p0 : dw (piv A k f c k) v w = 0 := by rw [dw_pivk, h f hf]; grind
      by_cases e : i = k
      · rw [e]; exact p0
      · rw [dw_piv v e, p0, h _ (swp_lt kn hf hi)]
        grind
    · intro h i hi
      have p0 := h k kn
      have e1 : dw (A f) v w = 0 := by
        have := dw_pivk (A := A) (k := k) (f := f) (c := c) (w := w) v
        rw [p0] at this
        have e2 : dw (A f) v w = dw (A f) v w / A f c * A f c := by grind
        rw [e2, ← this]
        grind
      by_cases e : i = f
      · rw [e]; exact e1
      · by_cases ek : i = k
        · have q := h f hf
          rw [dw_piv v (by omega), p0] at q
          have : swp k f f = k := by unfold swp; rw [if_neg (by omega), if_pos rfl]
          rw [this] at q
          rw [ek]
          grind
        · have q := h i hi
          rw [dw_piv v ek, p0] at q
          have : swp k f i = i := by unfold swp; rw [if_neg ek, if_neg e]
          rw [this] at q
          grind
theorem snoc_of {α : Type} {xs : List α} {k : Nat} (h : xs.length = k + 1) : ∃ ys z, xs = ys ++ [z] ∧ ys.length = k := by
  have hn : xs ≠ [] := by rintro rfl; cases h
  exact ⟨xs.dropLast, xs.getLast hn, (List.dropLast_concat_getLast hn).symm, by rw [List.length_dropLast, h]; rfl⟩
theorem norm_le {m : Nat → Int} {B : Nat} (h : ∀ j, (m j).natAbs ≤ B) : ∀ cs : List Nat, norm1 (cs.map m) ≤ cs.length * B
  | [] => Nat.zero_le _
  | c :: cs => by
    have ih := norm_le h cs
    have := h c
    show (m c).natAbs + norm1 (cs.map m) ≤ (cs.length + 1) * B
    rw [Nat.add_mul]
    omega
theorem prodN_rep (N : Nat) : ∀ k, prodN (List.replicate k N) = N ^ k
  | 0 => rfl
  | k + 1 => by
    show N * prodN (List.replicate k N) = _
    rw [prodN_rep N k, Nat.pow_succ, Nat.mul_comm]
def RowB (b : Nat) (r : Nat → Rat) : Prop := ∃ (d : Int) (m : Nat → Int), 0 < d ∧ d.natAbs ≤ 2 ^ b ∧ (∀ j, r j * (d : Rat) = (m j : Rat)) ∧ ∀ j, (m j).natAbs ≤ 2 ^ b
theorem castQ_ne {b : Int} (h : b ≠ 0) : (b : Rat) ≠ 0 := by exact_mod_cast h
theorem Stg.bound {n w b e : Nat} {M0 M A : Nat → Nat → Rat} {c k : Nat} {Pc : List Nat} (S : Stg n w M0 M A c k Pc) (hc : c ≤ w) (hM : ∀ i, i < n → RowB b (M0 i)) (he : n + 1 ≤ 2 ^ e) {i j : Nat} (hi : i < n) (hj : j < w) :
    ∃ x y : Int, y ≠ 0 ∧ A i j * (y : Rat) = (x : Rat) ∧ x.natAbs ≤ 2 ^ ((b + e) * (n + 1)) ∧ y.natAbs ≤ 2 ^ ((b + e) * (n + 1)) := by
  have p1 : 1 ≤ 2 ^ ((b + e) * (n + 1)) := Nat.one_le_two_pow
  have kn := S.kn
  by_cases hp : j ∈ Pc
  · obtain ⟨t, ht⟩ := List.getElem?_of_mem hp
    have v := S.pv t j ht i hi
    by_cases q : t = i
    · rw [if_pos q] at v
      exact ⟨1, 1, by decide, by rw [v]; grind, p1, p1⟩
    · rw [if_neg q] at v
      exact ⟨0, 1, by decide, by rw [v]; have : ((0 : Int) : Rat) = 0 := by norm_cast
                                 grind, Nat.zero_le _, p1⟩
  · have hM' : ∀ i, i < n → RowB b (M i) := fun i hi => by
      obtain ⟨i', h1, h2⟩ := S.pm i hi
      rw [h2]
      exact hM i' h1
    obtain ⟨D, hD⟩ : ∃ D : Nat → Int × (Nat → Int), ∀ i, i < n → 0 < (D i).1 ∧ (D i).1.natAbs ≤ 2 ^ b ∧ (∀ j, M i j * ((D i).1 : Rat) = ((D i).2 j : Rat)) ∧ ∀ j, ((D i).2 j).natAbs ≤ 2 ^ b := by
      refine Classical.axiomOfChoice (r := fun (i : Nat) (q : Int × (Nat → Int)) => i < n → 0 < q.1 ∧ q.1.natAbs ≤ 2 ^ b ∧ (∀ j, M i j * (q.1 : Rat) = (q.2 j : Rat)) ∧ ∀ j, (q.2 j).natAbs ≤ 2 ^ b) fun i => ?_
      by_cases hi : i < n
      · obtain ⟨d, m, h⟩ := hM' i hi
        exact ⟨(d, m), fun _ => h⟩
      · exact ⟨(0, fun _ => 0), fun h => absurd h hi⟩
    obtain ⟨cols, ecols⟩ : ∃ cols, cols = Pc ++ [j] := ⟨_, rfl⟩
    have cl : cols.length = k + 1 := by rw [ecols, List.length_append, S.pl]; rfl
    have cw : ∀ x, x ∈ cols → x < w := fun x hx => by
      rw [ecols] at hx
      rcases List.mem_append.mp hx with hx | hx
      · have := S.pc x hx; omega
      · rw [List.mem_singleton.mp hx]; exact hj
    have nrm : ∀ i, i < n → norm1 (cols.map (D i).2) ≤ 2 ^ (b + e) := fun i hi => by
      refine Nat.le_trans (norm_le (hD i hi).2.2.2 cols) ?_
      rw [cl, Nat.pow_add, Nat.mul_comm]
      exact Nat.mul_le_mul_left _ (by omega)
    obtain ⟨xs, xl, xb, xn, xz⟩ := siegel ((List.range k).map fun t => cols.map (D t).2) (List.replicate k (2 ^ (b + e))) (by simp) (fun t r N hr hN => by
      rw [List.getElem?_map] at hr
      have hN := List.eq_of_mem_replicate (List.mem_of_getElem? hN)
      cases q : (List.range k)[t]? with
      | none => rw [q] at hr; cases hr
      | some s =>
        rw [q] at hr
        cases hr
        have := List.mem_range.mp (List.mem_of_getElem? q)
        rw [hN]
        exact ⟨Nat.one_le_two_pow, nrm s (by omega)⟩)
    rw [prodN_rep, ← Nat.pow_mul] at xb
    rw [List.length_map, List.length_range] at xl
    obtain ⟨ys, z, exs, yl⟩ := snoc_of xl
    have mz : ∀ t, t < k → dw (M t) (vecQ cols xs) w = 0 := fun t ht => by
      rw [dw_vec _ _ _ _ cw]
      have h1 := hD t (by omega)
      have q := dotQ_int h1.2.2.1 cols xs
      rw [xz _ (List.mem_map_of_mem (f := fun t => cols.map (D t).2) (List.mem_range.mpr ht))] at q
      have h2 := castQ_ne (show (D t).1 ≠ 0 by omega)
      have h3 : ((0 : Int) : Rat) = 0 := by norm_cast
      grind
    have az : ∀ t, t < k → ((ys[t]?.getD 0 : Int) : Rat) + A t j * (z : Rat) = 0 := fun t ht => by
      have q := S.ia _ mz t ht
      rw [dw_vec _ _ _ _ cw, exs, ecols, dotQ_snoc _ _ _ _ _ (by rw [S.pl, yl]), dotQ_one t (by rw [S.pl, yl]) (fun s p hp => by
        have := S.pv s p hp t (by omega)
        rw [this])] at q
      exact q
    have zn : z ≠ 0 := by
      rintro rfl
      obtain ⟨y, hy, hy0⟩ := xn
      rw [exs] at hy
      rcases List.mem_append.mp hy with hy | hy
      · obtain ⟨t, ht⟩ := List.getElem?_of_mem hy
        have tl := (List.getElem?_eq_some_iff.mp ht).1
        have q := az t (by omega)
        rw [ht] at q
        have h3 : ((0 : Int) : Rat) = 0 := by norm_cast
        have q : ((y : Int) : Rat) = 0 := by
          have q : ((y : Int) : Rat) + A t j * ((0 : Int) : Rat) = 0 := q
          grind
        exact castQ_ne hy0 q
      · exact hy0 (List.mem_singleton.mp hy)
    have zb : z.natAbs ≤ 2 ^ ((b + e) * k) := xb z (by rw [exs]; simp)
    have kb : (b + e) * k + (b + e) ≤ (b + e) * (n + 1) := by
      have := Nat.mul_le_mul_left (b + e) (show k + 1 ≤ n + 1 by omega)
      rwa [Nat.mul_succ] at this
    by_cases ik : i < k
    · have q := az i ik
      refine ⟨-(ys[i]?.getD 0), z, zn, ?_, ?_, Nat.le_trans zb (Nat.pow_le_pow_right (by decide) (by omega))⟩
      · push_cast
        grind
      · rw [Int.natAbs_neg]
        have hy : ys[i]?.getD 0 ∈ xs := by
          have il : i < ys.length := by omega
          rw [List.getElem?_eq_getElem il]
          show ys[i] ∈ xs
          rw [exs]
          exact List.mem_append_left _ (List.getElem_mem _)
        exact Nat.le_trans (xb _ hy) (Nat.pow_le_pow_right (by decide) (by omega))
    · have h1 := hD i hi
      have q := S.ib _ mz i (by omega) hi
      rw [dw_vec _ _ _ _ cw, dw_vec _ _ _ _ cw] at q
      have q2 := dotQ_int h1.2.2.1 cols xs
      have q3 : dotQ (A i) cols xs = A i j * (z : Rat) := by
        rw [exs, ecols, dotQ_snoc _ _ _ _ _ (by rw [S.pl, yl])]
        have : dotQ (A i) Pc ys = 0 := by
          have := dotQ_one (r := A i) (cs := Pc) (xs := ys) k (by rw [S.pl, yl]) (fun s p hp => by
            have sl : s < k := by have := (List.getElem?_eq_some_iff.mp hp).1; rw [S.pl] at this; exact this
            rw [S.pv s p hp i hi, if_neg (by omega), if_neg (by omega)])
          rw [this, List.getElem?_eq_none (by omega)]
          show ((0 : Int) : Rat) = 0
          norm_cast
        rw [this]
        grind
      refine ⟨dotZ (cols.map (D i).2) xs, z * (D i).1, Int.mul_ne_zero zn (by omega), ?_, ?_, ?_⟩
      · rw [← q2, ← q, q3]
        push_cast
        grind
      · refine Nat.le_trans (dotZ_le _ _ xb) (Nat.le_trans (Nat.mul_le_mul_right _ (nrm i hi)) ?_)
        rw [← Nat.pow_add]
        exact Nat.pow_le_pow_right (by decide) (by omega)
      · rw [Int.natAbs_mul]
        refine Nat.le_trans (Nat.mul_le_mul zb h1.2.1) ?_
        rw [← Nat.pow_add]
        exact Nat.pow_le_pow_right (by decide) (by omega)
end P
namespace P
open PySem L2

section
variable {fi : FI} {fg : FG} {fb rest : FS} {ft : FT} {fe : FE} {ρ ρ1 : Env} {r : Option Fl} {ds : List D}
theorem for_inv (J : Nat → Env → Prop) (hi : fi ρ = some (.val ds ρ)) (h0 : J 0 ρ) (hb : ∀ j d ρ, ds[j]? = some d → J j ρ → ∃ ρ1 ρ2, fg (.ow 0, d) ρ = some ρ1 ∧ (fb ρ1 = some (.nxt ρ2) ∨ fb ρ1 = some (.cnt ρ2)) ∧ J (j + 1) ρ2) : ∃ ρ', sFor fi fg fb ρ = some (.nxt ρ') ∧ J ds.length ρ' := by
  obtain ⟨ρ', e, h⟩ := loop_inv (fg := fg) (fb := fb) J (ds := ds) (i := 0) h0 (fun j d ρ hd hJ => by
    rw [Nat.zero_add] at hJ ⊢
    exact hb j d ρ hd hJ)
  rw [Nat.zero_add] at h
  exact ⟨ρ', by rw [sFor_ap, hi]; exact e, h⟩
theorem seq_for (J : Nat → Env → Prop) (hi : fi ρ = some (.val ds ρ)) (h0 : J 0 ρ) (hb : ∀ j d ρ, ds[j]? = some d → J j ρ → ∃ ρ1 ρ2, fg (.ow 0, d) ρ = some ρ1 ∧ (fb ρ1 = some (.nxt ρ2) ∨ fb ρ1 = some (.cnt ρ2)) ∧ J (j + 1) ρ2) (hr : ∀ ρ', J ds.length ρ' → rest ρ' = r) : sSeq (sFor fi fg fb) rest ρ = r := by
  obtain ⟨ρ', e, h⟩ := for_inv J hi h0 hb
  exact seq_nxt e (hr ρ' h)
theorem seq_forM {α : Type} {u : α → D} {xs : List α} (J : Nat → Env → Prop) (hi : fi ρ = some (.val (xs.map u) ρ)) (h0 : J 0 ρ) (hb : ∀ j x ρ, xs[j]? = some x → J j ρ → ∃ ρ1 ρ2, fg (.ow 0, u x) ρ = some ρ1 ∧ (fb ρ1 = some (.nxt ρ2) ∨ fb ρ1 = some (.cnt ρ2)) ∧ J (j + 1) ρ2) (hr : ∀ ρ', J xs.length ρ' → rest ρ' = r) : sSeq (sFor fi fg fb) rest ρ = r := by
  refine seq_for J hi h0 (fun j d ρ hd hJ => ?_) (fun ρ' h => hr ρ' (by rwa [List.length_map] at h))
  rw [List.getElem?_map] at hd
  cases e : xs[j]? with
  | none => rw [e] at hd; cases hd
  | some x =>
    rw [e] at hd
    cases hd
    exact hb j x ρ e hJ
end
theorem rng_ok {n : Nat} (h : n ≤ 100000) : -(2 ^ 62) ≤ (n : Int) ∧ (n : Int) < 2 ^ 62 := by omega
theorem rng_ln {n : Nat} (h : n ≤ 1000) : (rangeD 0 n).length ≤ sizeLine := by
  rw [rangeD_length]
  exact Nat.le_trans h (by decide)
theorem tn (n : Nat) : ((n : Int)).toNat = n := Int.toNat_natCast n
structure PlanOf (ns : List Nat) (Q : List (Option Nat)) : Prop where
  ln : Q.length = ns.length
  at0 : ∀ (i : Nat) n q, ns[i]? = some n → Q[i]? = some q → (n = 0 ∧ q = none) ∨ ∃ a, q = some a ∧ a < n

theorem mulOk_sz {a b : Int} {n m : Nat} (h1 : a.natAbs < 2 ^ n) (h2 : b.natAbs < 2 ^ m) (h : n + m ≤ 999998) : MulOk a b := by
  have := (⟨h1⟩ : Bd a n)
  have := (⟨h2⟩ : Bd b m)
  exact mulOk_bd h
abbrev atF (f : List (Int × Int)) (i : Nat) : Int × Int := f[i]?.getD (0, 1)
theorem atF_some {f : List (Int × Int)} {i : Nat} {y : Int × Int} (h : f[i]? = some y) : atF f i = y := by
  show f[i]?.getD (0, 1) = y
  rw [h]
  rfl
theorem atF_get {f : List (Int × Int)} {i : Nat} (h : i < f.length) : f[i]? = some (atF f i) := by
  show f[i]? = some (f[i]?.getD (0, 1))
  rw [List.getElem?_eq_getElem h]
  rfl
theorem atF_mem {f : List (Int × Int)} {i : Nat} (h : i < f.length) : atF f i ∈ f := List.mem_of_getElem? (atF_get h)
structure MendTo (F : List (Int × Int)) (a b : Nat) : Prop where
  lt : b < F.length
  top : ∀ i, i < F.length → rv (atF F i) ≤ rv (atF F b)
  or : b = a ∨ (rv (atF F a) < rv (atF F b) ∧ ∀ i, i < b → rv (atF F i) < rv (atF F b))

theorem eLend_ap (fe : FE) (ρ : Env) : eLend fe ρ = match fe (lendE ρ) with
  | some (.val (.ow k, d) _) => if cov k d = true then some (.val (.ow k, d) ρ) else none
  | _ => none := rfl
theorem covs_frs (k : Nat) : ∀ f : List (Int × Int), cov.covs k (f.map fr) = true
  | [] => rfl
  | p :: f => by
    show (cov k (fr p) && cov.covs k (f.map fr)) = true
    rw [covs_frs k f]
    cases k <;> rfl
theorem sRevR_ap (i : Nat) (ρ : Env) : sRevR i ρ = match look ρ i with
  | some (k + 1, .lst ds) => some (.nxt (setK ρ i (k + 1) (.lst ds.reverse)))
  | _ => none := rfl
theorem eMxDef_ap (g : List Int → Int) (fs : FA) (fe : FE) (ρ : Env) : eMxDef g fs fe ρ = (fs ρ).bind fun as ρ1 => (fe ρ1).bind fun z ρ2 => match as, z.2 with
  | [a], .non => (match intsOf a.2 with
    | some [] => some (.val (.ow 0, .non) ρ2)
    | some (n :: ns) => some (.val (.ow 0, .int (g (n :: ns))) ρ2)
    | none => none)
  | [a], .int z => (match intsOf a.2 with
    | some [] => some (.val (.ow 0, .int z) ρ2)
    | some (n :: ns) => some (.val (.ow 0, .int (g (n :: ns))) ρ2)
    | none => none)
  | _, _ => none := rfl

theorem IsFr.dvd {p : Int × Int} (h : IsFr p) {M t : Int} (e : rv p * (M : Rat) = (t : Rat)) : p.2 ∣ M := by
  have h0 := h.1
  have k := rv_mul h0
  have c := castI_ne (show p.2 ≠ 0 by omega)
  have e2 : p.1 * M = t * p.2 := by
    have : (p.1 : Rat) * (M : Rat) = (t : Rat) * (p.2 : Rat) := by rw [← k, ← e]; grind
    exact_mod_cast this
  have e3 : p.2 ∣ p.1 * M := by rw [e2]; exact Int.dvd_mul_left ..
  have e4 : p.2.natAbs ∣ p.1.natAbs * M.natAbs := by
    rw [← Int.natAbs_mul]
    exact Int.natAbs_dvd_natAbs.mpr e3
  have g : Nat.Coprime p.2.natAbs p.1.natAbs := by
    unfold Nat.Coprime
    rw [Nat.gcd_comm]
    exact h.2
  exact Int.natAbs_dvd_natAbs.mp (g.dvd_of_dvd_mul_left e4)
def IntBy (M : Int) (v : Rat) : Prop := ∃ t : Int, v * (M : Rat) = (t : Rat)
theorem IntBy.dvd {p : Int × Int} {M : Int} (h : IsFr p) (i : IntBy M (rv p)) : p.2 ∣ M := by
  obtain ⟨t, e⟩ := i
  exact h.dvd e
theorem IntBy.of {p : Int × Int} {M : Int} (h : 0 < p.2) (d : p.2 ∣ M) : IntBy M (rv p) := by
  obtain ⟨c, rfl⟩ := d
  refine ⟨p.1 * c, ?_⟩
  have k := rv_mul h
  push_cast
  rw [← k]
  grind
theorem IntBy.add {M : Int} {u v : Rat} (h : IntBy M u) (k : IntBy M v) : IntBy M (u + v) := by
  obtain ⟨s, hs⟩ := h
  obtain ⟨t, ht⟩ := k
  refine ⟨s + t, ?_⟩
  push_cast
  rw [← hs, ← ht]
  grind
theorem IntBy.sub {M : Int} {u v : Rat} (h : IntBy M u) (k : IntBy M v) : IntBy M (u - v) := by
  obtain ⟨s, hs⟩ := h
  obtain ⟨t, ht⟩ := k
  refine ⟨s - t, ?_⟩
  push_cast
  rw [← hs, ← ht]
  grind
theorem IntBy.mul {M N : Int} {u v : Rat} (h : IntBy M u) (k : IntBy N v) : IntBy (M * N) (u * v) := by
  obtain ⟨s, hs⟩ := h
  obtain ⟨t, ht⟩ := k
  refine ⟨s * t, ?_⟩
  push_cast
  rw [← hs, ← ht]
  grind
theorem IntBy.zero (M : Int) : IntBy M 0 := ⟨0, by
  have : ((0 : Int) : Rat) = 0 := by norm_cast
  grind⟩
theorem IntBy.mono {M N : Int} {u : Rat} (h : IntBy M u) (d : M ∣ N) : IntBy N u := by
  obtain ⟨s, hs⟩ := h
  obtain ⟨c, rfl⟩ := d
  refine ⟨s * c, ?_⟩
  push_cast
  rw [← hs]
  grind
theorem IntBy.sum {M : Int} {α : Type} {g : α → Rat} : ∀ {l : List α}, (∀ a, a ∈ l → IntBy M (g a)) → IntBy M (sumR g l)
  | [], _ => by rw [sumR_nil]; exact .zero M
  | a :: l, h => by
    rw [sumR_cons]
    exact (h a (List.mem_cons_self ..)).add (IntBy.sum fun b hb => h b (List.mem_cons_of_mem _ hb))
def AbsR (V v : Rat) : Prop := -V ≤ v ∧ v ≤ V
theorem AbsR.le {V W v : Rat} (h : AbsR V v) (k : V ≤ W) : AbsR W v := by
  unfold AbsR at *
  grind
section
variable {i x k : Nat} {s : Sl} {fb : FS}
theorem loopOwn_map {D0 : List D} (h : Nat → D → D) (J : Env → Prop) (hb : ∀ (j : Nat) d ρ, D0[j]? = some d → J ρ → ∃ ρ2, fb (ρ.set x (.me k d)) = some (.nxt ρ2) ∧ ρ2[x]? = some (.me k (h j d)) ∧ isFx ρ2[i]? = true ∧ J (ρ2.set x .no)) :
    ∀ (n j : Nat) (pre cur : List D) (ρ : Env), J ρ → pre.length = j → cur.length = n → (∀ m, cur[m]? = D0[j + m]?) → ∃ ρ', loopOwn i x k s none fb n j (pre ++ cur) ρ = some (.nxt (ρ'.set i (resetS s (k + 1) (.lst (pre ++ cur.mapIdx fun m d => h (j + m) d))))) ∧ J ρ'
  | 0, j, pre, cur, ρ, hJ, _, hc, _ => by
    have : cur = [] := List.length_eq_zero_iff.mp hc
    subst this
    exact ⟨ρ, rfl, hJ⟩
  | n + 1, j, pre, cur, ρ, hJ, hp, hc, hd => by
    match cur, hc, hd with
    | d :: cur, hc, hd =>
      obtain ⟨ρ2, h1, h2, h3, h4⟩ := hb j d ρ (hd 0).symm hJ
      have ej : (pre ++ d :: cur)[j]? = some d := by rw [List.getElem?_append_right (by omega), hp, Nat.sub_self]; rfl
      have sy : setY none j (ρ.set x (.me k d)) = some (ρ.set x (.me k d)) := rfl
      have fi : finO i x k j (pre ++ d :: cur) ρ2 = some ((pre ++ [h j d]) ++ cur, ρ2.set x .no) := by
        unfold finO
        rw [h2]
        show (if (decide (k = k) && isFx ρ2[i]?) = true then _ else _) = _
        rw [decide_eq_true rfl, h3, Bool.and_self, if_pos rfl, List.set_append_right _ _ (by omega), hp, Nat.sub_self, List.append_assoc]
        rfl
      obtain ⟨ρ', h5, h6⟩ := loopOwn_map h J hb n (j + 1) (pre ++ [h j d]) cur (ρ2.set x .no) h4 (by rw [List.length_append, hp]; rfl) (Nat.succ.inj hc) (fun m => by rw [show j + 1 + m = j + (m + 1) by omega]; exact hd (m + 1))
      refine ⟨ρ', ?_, h6⟩
      unfold loopOwn
      rw [ej]
      dsimp only
      rw [sy]
      dsimp only
      rw [h1]
      dsimp only
      rw [fi]
      dsimp only
      rw [h5, List.mapIdx_cons, List.append_assoc]
      have e2 : (List.mapIdx (fun m d => h (j + 1 + m) d) cur) = (List.mapIdx (fun i => (fun m d => h (j + m) d) (i + 1)) cur) := by
        congr 1
        funext m d
        rw [Nat.add_assoc, Nat.add_comm 1 m]
      rw [e2]
      rfl
theorem sForOwn_map (h : Nat → D → D) (J : Env → Prop) {ρ : Env} {ds : List D} (e3 : ρ[i]? = some s) (e4 : look ρ i = some (k + 1, .lst ds)) (ne : i ≠ x) (xl : x < ρ.length) (hJ : J ((ρ.set i .fx).set x .no))
    (hb : ∀ (j : Nat) d ρ, ds[j]? = some d → J ρ → ∃ ρ2, fb (ρ.set x (.me k d)) = some (.nxt ρ2) ∧ ρ2[x]? = some (.me k (h j d)) ∧ isFx ρ2[i]? = true ∧ J (ρ2.set x .no)) :
    ∃ ρ', sForOwn i x fb ρ = some (.nxt (ρ'.set i (resetS s (k + 1) (.lst (ds.mapIdx h))))) ∧ J ρ' := by
  obtain ⟨ρ', h1, h2⟩ := loopOwn_map (s := s) h J hb ds.length 0 [] ds _ hJ rfl rfl (fun m => by rw [Nat.zero_add])
  refine ⟨ρ', ?_, h2⟩
  unfold sForOwn
  rw [e3, e4]
  dsimp only
  rw [decide_eq_true ne, decide_eq_true xl, Bool.and_self, if_pos rfl]
  simp only [Nat.zero_add, List.nil_append] at h1
  exact h1
end
end P
namespace P
open PySem L2
section
variable {ft : FT} {fb : FS}
end
section
variable {fg : FG} {ft : FT} {fe : FE} {ρ : Env}
end

section
variable {α : Type} [DecidableEq α]
def putG (acc : List (α × Int)) (z : α) (v : Int) : List (α × Int) := if (acc.any fun q => decide (q.1 = z)) = true then acc.map (fun q => if q.1 = z then (q.1, v) else q) else acc ++ [(z, v)]
def getG (acc : List (α × Int)) (z : α) : Int := ((acc.find? fun q => decide (q.1 = z)).map (·.2)).getD 0
def addG (acc : List (α × Int)) (q : α × Int) : List (α × Int) := putG acc q.1 (getG acc q.1 + q.2)
def sumG (ps : List (α × Int)) : List (α × Int) := ps.foldl addG []
theorem mem_putG {acc : List (α × Int)} {z : α} {v : Int} {q : α × Int} : q ∈ putG acc z v ↔ q = (z, v) ∨ (q ∈ acc ∧ q.1 ≠ z) := by
  unfold putG
  split
  · rename_i h
    obtain ⟨p, hp, e⟩ := List.any_eq_true.mp h
    have e := of_decide_eq_true e
    constructor
    · intro hq
      obtain ⟨r, hr, rfl⟩ := List.mem_map.mp hq
      by_cases k : r.1 = z
      · rw [if_pos k]; left; rw [← k]
      · rw [if_neg k]; exact .inr ⟨hr, k⟩
    · rintro (rfl | ⟨h1, h2⟩)
      · refine List.mem_map.mpr ⟨p, hp, ?_⟩
        rw [if_pos e, e]
      · exact List.mem_map.mpr ⟨q, h1, by rw [if_neg h2]⟩
  · rename_i h
    rw [List.mem_append, List.mem_singleton]
    constructor
    · rintro (h1 | rfl)
      · exact .inr ⟨h1, fun e => h (List.any_eq_true.mpr ⟨q, h1, decide_eq_true e⟩)⟩
      · exact .inl rfl
    · rintro (rfl | ⟨h1, _⟩)
      · exact .inr rfl
      · exact .inl h1
theorem putG_len (acc : List (α × Int)) (z : α) (v : Int) : (putG acc z v).length ≤ acc.length + 1 := by
  unfold putG
  split
  · rw [List.length_map]; omega
  · rw [List.length_append]; simp
structure SumOf (acc : List (α × Int)) (n : Nat) (M : Int) (Q : α → Prop) : Prop where
  len : acc.length ≤ n
  un : ∀ q r, q ∈ acc → r ∈ acc → q.1 = r.1 → q = r
  nn : ∀ q, q ∈ acc → 0 ≤ q.2 ∧ q.2 ≤ n * M
  ld : ∀ x, (∃ q, q ∈ acc ∧ q.1 = x ∧ q.2 ≠ 0) ↔ Q x
theorem getG_mem (acc : List (α × Int)) (z : α) : (acc.find? (fun q => decide (q.1 = z)) = none ∧ getG acc z = 0 ∧ ∀ q, q ∈ acc → q.1 ≠ z) ∨ ∃ q, q ∈ acc ∧ acc.find? (fun q => decide (q.1 = z)) = some q ∧ q.1 = z ∧ getG acc z = q.2 := by
  unfold getG
  cases e : acc.find? (fun q => decide (q.1 = z)) with
  | none =>
    refine .inl ⟨rfl, rfl, fun q hq h => ?_⟩
    have := List.find?_eq_none.mp e q hq
    exact this (decide_eq_true h)
  | some q => exact .inr ⟨q, List.mem_of_find?_eq_some e, rfl, of_decide_eq_true (List.find?_some (p := fun q : α × Int => decide (q.1 = z)) e), rfl⟩
variable {acc : List (α × Int)} {n : Nat} {M : Int} {Q : α → Prop}
theorem SumOf.get (h : SumOf acc n M Q) (hM : 0 ≤ M) (z : α) : 0 ≤ getG acc z ∧ getG acc z ≤ n * M ∧ (getG acc z ≠ 0 ↔ Q z) := by
  rcases getG_mem acc z with ⟨_, e, k⟩ | ⟨q, hq, _, e1, e⟩
  · rw [e]
    refine ⟨Int.le_refl _, Int.mul_nonneg (by omega) hM, fun h0 => absurd rfl h0, fun hQ => ?_⟩
    obtain ⟨q, hq, e1, _⟩ := (h.ld z).mpr hQ
    exact absurd e1 (k q hq)
  · rw [e]
    refine ⟨(h.nn q hq).1, (h.nn q hq).2, fun h0 => (h.ld z).mp ⟨q, hq, e1, h0⟩, fun hQ => ?_⟩
    obtain ⟨r, hr, e2, h2⟩ := (h.ld z).mpr hQ
    rw [h.un q r hq hr (by rw [e1, e2])]
    exact h2
theorem SumOf.add (h : SumOf acc n M Q) {z : α} {w : Int} (h0 : 0 ≤ w) (h1 : w ≤ M) : SumOf (addG acc (z, w)) (n + 1) M (fun x => Q x ∨ (z = x ∧ w ≠ 0)) := by
  have g := h.get (by omega) z
  have e : ((n + 1 : Nat) : Int) * M = n * M + M := by rw [Int.natCast_add, Int.add_mul]; simp
  refine ⟨Nat.le_trans (putG_len ..) (by have := h.len; omega), fun q r hq hr eq => ?_, fun q hq => ?_, fun x => ?_⟩
  · rcases mem_putG.mp hq with e1 | ⟨e1, e2⟩
    · rcases mem_putG.mp hr with e3 | ⟨e3, e4⟩
      · rw [e1, e3]
      · rw [e1] at eq; exact absurd eq.symm e4
    · rcases mem_putG.mp hr with e3 | ⟨e3, e4⟩
      · rw [e3] at eq; exact absurd eq e2
      · exact h.un q r e1 e3 eq
  · rw [e]
    rcases mem_putG.mp hq with e1 | ⟨e1, e2⟩
    · rw [e1]
      exact ⟨by show 0 ≤ getG acc z + w; omega, by show getG acc z + w ≤ _; omega⟩
    · have := h.nn q e1
      exact ⟨this.1, by omega⟩
  · constructor
    · rintro ⟨q, hq, rfl, h2⟩
      rcases mem_putG.mp hq with e1 | ⟨e1, e2⟩
      · rw [e1] at h2 ⊢
        have h2 : getG acc z + w ≠ 0 := h2
        by_cases hw : w = 0
        · exact .inl (g.2.2.mp (by omega))
        · exact .inr ⟨rfl, hw⟩
      · exact .inl ((h.ld q.1).mp ⟨q, e1, rfl, h2⟩)
    · rintro (hQ | ⟨rfl, hw⟩)
      · obtain ⟨q, hq, e1, h2⟩ := (h.ld x).mpr hQ
        by_cases hz : q.1 = z
        · refine ⟨(z, getG acc z + w), mem_putG.mpr (.inl rfl), by rw [← e1, hz], ?_⟩
          have := g.2.2.mpr (by rw [← hz, e1]; exact hQ)
          show getG acc z + w ≠ 0
          omega
        · exact ⟨q, mem_putG.mpr (.inr ⟨hq, hz⟩), e1, h2⟩
      · refine ⟨(z, getG acc z + w), mem_putG.mpr (.inl rfl), rfl, ?_⟩
        show getG acc z + w ≠ 0
        omega
theorem SumOf.nil (M : Int) : SumOf ([] : List (α × Int)) 0 M (fun _ => False) := by
  refine ⟨Nat.le_refl _, ?_, ?_, ?_⟩
  · intro q r h
    exact absurd h (List.not_mem_nil)
  · intro q h
    exact absurd h (List.not_mem_nil)
  · intro x
    constructor
    · rintro ⟨q, h, _⟩
      exact absurd h (List.not_mem_nil)
    · intro h
      exact False.elim h
end

structure SameD (a b : List (List Nat)) : Prop where
  ln : a.length = b.length
  eq : ∀ (j : Nat) x y, a[j]? = some x → b[j]? = some y → ∀ k, k ∈ x ↔ k ∈ y
theorem SameD.symm {a b : List (List Nat)} (h : SameD a b) : SameD b a := ⟨h.ln.symm, fun j x y h1 h2 k => (h.eq j y x h2 h1 k).symm⟩
structure SameL (A B : List (List (List Nat))) : Prop where
  ln : A.length = B.length
  eq : ∀ (i : Nat) a b, A[i]? = some a → B[i]? = some b → SameD a b

def within (F : List (Option Nat)) (t : Nat) (u : Nat) : Prop := ∃ r, F[u]? = some (some r) ∧ r ≤ t
def fnd (F : List (Option Nat)) (u : Nat) : Prop := ∃ r, F[u]? = some (some r)
structure Steps (near : Nat → (Nat → Prop) → Prop) (G : Nat → Prop) (n : Nat) (F : List (Option Nat)) : Prop where
  ln : F.length = n
  g0 : ∀ k : Nat, k < n → (F[k]? = some (some 0) ↔ G k)
  dn : ∀ k t : Nat, F[k]? = some (some (t + 1)) → near k (within F t)
  up : ∀ k t : Nat, k < n → near k (within F t) → within F (t + 1) k
structure StepsTo (near : Nat → (Nat → Prop) → Prop) (G : Nat → Prop) (n s : Nat) (F : List (Option Nat)) : Prop where
  ln : F.length = n
  g0 : ∀ k : Nat, k < n → (F[k]? = some (some 0) ↔ G k)
  dn : ∀ k t : Nat, F[k]? = some (some (t + 1)) → near k (within F t)
  up : ∀ k t : Nat, t < s → k < n → near k (within F t) → within F (t + 1) k
  bd : ∀ k r : Nat, F[k]? = some (some r) → r ≤ s
theorem pred_eq {S T : Nat → Prop} (h : ∀ u, S u ↔ T u) : S = T := funext fun u => propext (h u)
section
variable {near : Nat → (Nat → Prop) → Prop} {G : Nat → Prop} {n s : Nat} {F F' : List (Option Nat)}
theorem StepsTo.wi (h : StepsTo near G n s F) : fnd F = within F s := pred_eq fun u => ⟨fun ⟨r, e⟩ => ⟨r, e, h.bd u r e⟩, fun ⟨r, e, _⟩ => ⟨r, e⟩⟩
theorem StepsTo.done (h : StepsTo near G n s F) (hd : ∀ k, k < n → F[k]? = some none → ¬ near k (fnd F)) : Steps near G n F := by
  refine ⟨h.ln, h.g0, h.dn, fun k t hk hn => ?_⟩
  by_cases ht : t < s
  · exact h.up k t ht hk hn
  · have e : within F t = fnd F := pred_eq fun u => ⟨fun ⟨r, e, _⟩ => ⟨r, e⟩, fun ⟨r, e⟩ => ⟨r, e, Nat.le_trans (h.bd u r e) (by omega)⟩⟩
    rw [e] at hn
    have hl : F[k]? = some (F[k]'(by rw [h.ln]; exact hk)) := List.getElem?_eq_getElem _
    cases ek : F[k]'(by rw [h.ln]; exact hk) with
    | none => rw [ek] at hl; exact absurd hn (hd k hk hl)
    | some r => rw [ek] at hl; exact ⟨r, hl, by have := h.bd k r hl; omega⟩
theorem StepsTo.next (h : StepsTo near G n s F) (hl : F'.length = n) (h1 : ∀ k, k < n → F[k]? = some none → near k (fnd F) → F'[k]? = some (some (s + 1))) (h2 : ∀ k, k < n → ¬ (F[k]? = some none ∧ near k (fnd F)) → F'[k]? = F[k]?) : StepsTo near G n (s + 1) F' := by
  have lt : ∀ k x, F'[k]? = some x → k < n := fun k x e => by rw [← hl]; exact (List.getElem?_eq_some_iff.mp e).1
  have old : ∀ k r, F[k]? = some (some r) → F'[k]? = some (some r) := fun k r e => by
    have hk : k < n := by rw [← h.ln]; exact (List.getElem?_eq_some_iff.mp e).1
    rw [h2 k hk (fun c => by rw [c.1] at e; cases e)]
    exact e
  have new : ∀ k r, F'[k]? = some (some r) → F[k]? = some (some r) ∨ (r = s + 1 ∧ near k (fnd F)) := fun k r e => by
    have hk := lt k _ e
    by_cases c : F[k]? = some none ∧ near k (fnd F)
    · rw [h1 k hk c.1 c.2] at e
      cases e
      exact .inr ⟨rfl, c.2⟩
    · rw [h2 k hk c] at e
      exact .inl e
  have wi : ∀ t, t ≤ s → within F' t = within F t := fun t ht => pred_eq fun u => by
    constructor
    · rintro ⟨r, e, hr⟩
      rcases new u r e with e1 | ⟨e1, _⟩
      · exact ⟨r, e1, hr⟩
      · omega
    · rintro ⟨r, e, hr⟩
      exact ⟨r, old u r e, hr⟩
  refine ⟨hl, fun k hk => ?_, fun k t e => ?_, fun k t ht hk hn => ?_, fun k r e => ?_⟩
  · constructor
    · intro e
      rcases new k 0 e with e1 | ⟨e1, _⟩
      · exact (h.g0 k hk).mp e1
      · omega
    · intro hg
      exact old k 0 ((h.g0 k hk).mpr hg)
  · rcases new k _ e with e1 | ⟨e1, e2⟩
    · have := h.bd k _ e1
      rw [wi t (by omega)]
      exact h.dn k t e1
    · have et : t = s := by omega
      rw [et, wi s (Nat.le_refl _), ← h.wi]
      exact e2
  · have ht2 : t ≤ s := by omega
    rw [wi t ht2] at hn
    by_cases ht3 : t < s
    · obtain ⟨r, e, hr⟩ := h.up k t ht3 hk hn
      exact ⟨r, old k r e, hr⟩
    · have et : t = s := by omega
      rw [et, ← h.wi] at hn
      have hl : F[k]? = some (F[k]'(by rw [h.ln]; exact hk)) := List.getElem?_eq_getElem _
      cases ek : F[k]'(by rw [h.ln]; exact hk) with
      | none => rw [ek] at hl; exact ⟨s + 1, h1 k hk hl hn, by omega⟩
      | some r => rw [ek] at hl; exact ⟨r, old k r hl, by have := h.bd k r hl; omega⟩
  · rcases new k r e with e1 | ⟨e1, _⟩
    · have := h.bd k r e1
      omega
    · omega
end

theorem SameL.symm {A B : List (List (List Nat))} (h : SameL A B) : SameL B A := ⟨h.ln.symm, fun i a b h1 h2 => (h.eq i b a h2 h1).symm⟩
end P
namespace P
open PySem L2
def tb (b : List Bool) (x : Nat) : Bool := b[x]?.getD false
structure LotOk (LH : List (List (List Nat))) (n : Nat) : Prop where
  ln : LH.length = n
  n1 : n ≤ 12
  rm : ∀ ls, ls ∈ LH → ls.length ≤ 12 ∧ ∀ l, l ∈ ls → l.length ≤ 8 ∧ ∀ x, x ∈ l → x < n
theorem LotOk.at {LH : List (List (List Nat))} {n : Nat} (h : LotOk LH n) {k : Nat} (hk : k < n) : ∃ ls, LH[k]? = some ls ∧ ls ∈ LH := ⟨LH[k]'(by rw [h.ln]; exact hk), List.getElem?_eq_getElem _, List.getElem_mem _⟩

structure SweptG (c : List Bool → Nat → Bool) (v : Bool) (n : Nat) (F0 F : List Bool) : Prop where
  ln : F.length = n
  inv : ∀ Inv : List Bool → Prop, Inv F0 → (∀ F k, k < n → F.length = n → Inv F → c F k = true → Inv (F.set k v)) → Inv F
  st : ∀ k, k < n → c F k = true → F[k]? = some v
section
variable {c : List Bool → Nat → Bool} {v : Bool} {n : Nat} {St : List Bool → Env → Prop} {fiI fiO : FI} {fgI fgO : FG} {fbI : FS}
end
end P
namespace P
open PySem PySem.Spec PyProof.Rows L2
section
variable {X : Fx} {te : TE} {fe : FE}
noncomputable def eItmL (fe : FE) : FE := fun ρ => (fe ρ).bind fun a ρ1 => match a.2 with
  | .dic kds => if flats (kds.map (·.2)) = true then some (.val (.ow 0, .lst (itemsD kds)) ρ1) else none
  | _ => none
theorem eItmL_ap (fe : FE) (ρ : Env) : eItmL fe ρ = (fe ρ).bind fun a ρ1 => match a.2 with
  | .dic kds => if flats (kds.map (·.2)) = true then some (.val (.ow 0, .lst (itemsD kds)) ρ1) else none
  | _ => none := rfl
end
theorem putG_nodup {acc : List (Nat × Int)} (h : (acc.map (·.1)).Nodup) (z : Nat) (v : Int) : ((putG acc z v).map (·.1)).Nodup := by
  unfold putG
  split
  · rw [List.map_map]
    have e : acc.map ((fun x : Nat × Int => x.1) ∘ fun q => if q.1 = z then (q.1, v) else q) = acc.map (·.1) := List.map_congr_left fun q _ => by
      show (if q.1 = z then (q.1, v) else q).1 = q.1
      split <;> rfl
    rw [e]
    exact h
  · rename_i hn
    rw [List.map_append, List.map_cons, List.map_nil, List.nodup_append]
    refine ⟨h, by simp, fun a ha b hb => ?_⟩
    rw [List.mem_singleton.mp hb]
    rintro rfl
    obtain ⟨p, hp, e⟩ := List.mem_map.mp ha
    exact hn (List.any_eq_true.mpr ⟨p, hp, decide_eq_true e⟩)
structure Uni (ps : List (Nat × Int)) : Prop where
  nd : (ps.map (·.1)).Nodup
  po : ∀ q, q ∈ ps → 0 < q.2
theorem Uni.put {acc : List (Nat × Int)} (h : Uni acc) (z : Nat) {w : Int} (hw : 0 < w) : Uni (putG acc z (getG acc z + w)) := by
  have g0 : 0 ≤ getG acc z := by
    rcases getG_mem acc z with ⟨_, e, _⟩ | ⟨q, hq, _, _, e⟩
    · omega
    · have := h.po q hq
      omega
  refine ⟨putG_nodup h.nd _ _, fun q hq => ?_⟩
  rcases mem_putG.mp hq with e | ⟨e, _⟩
  · rw [e]
    show 0 < getG acc z + w
    omega
  · exact h.po q e
end P
namespace P
open PySem PySem.Spec PyProof.Rows L2
section
variable {X : Fx} {te : TE} {fe : FE}
noncomputable def sExt (i : Nat) (fe : FE) : FS := fun ρ => match look ρ i with
  | some (1, .lst _) => (fe ρ).toF fun a ρ1 => match look ρ1 i, a with
    | some (1, .lst ds), (.ow _, .lst es) => chk (ds.length + es.length ≤ sizeLine) (some (.nxt (setK ρ1 i 1 (.lst (ds ++ es)))))
    | _, _ => none
  | _ => none
theorem sExt_ap (i : Nat) (fe : FE) (ρ : Env) : sExt i fe ρ = match look ρ i with
  | some (1, .lst _) => (fe ρ).toF fun a ρ1 => match look ρ1 i, a with
    | some (1, .lst ds), (.ow _, .lst es) => chk (ds.length + es.length ≤ sizeLine) (some (.nxt (setK ρ1 i 1 (.lst (ds ++ es)))))
    | _, _ => none
  | _ => none := rfl
end
section
variable {ft : FT} {fb : FS}
end
section
variable {X : Fx} {ts : TS} {fs : FS}
def sFzB (i : Nat) (f : FS) : FS := fun ρ => match look ρ i with
  | some (_, d) => f (ρ.set i (.ow 0 d))
  | none => f ρ
theorem sFzB_ap (i : Nat) (f : FS) (ρ : Env) : sFzB i f ρ = match look ρ i with
  | some (_, d) => f (ρ.set i (.ow 0 d))
  | none => f ρ := rfl
end
section
variable {X : Fx} {tb : TE} {fb : FE}
noncomputable def eIx1 (i : Nat) (fb : FE) : FE := fun ρ => match look ρ i with
  | some (_, .lst ds0) => (fb ρ).bind fun b ρ1 => match look ρ1 i, b.2 with
    | some (0, .lst ds), .int n => (atI ds n).map fun f => .val (.ow 0, f) ρ1
    | some (1, .lst ds), .int n => (atI ds n).map fun f => .val (.ow 0, f) ρ1
    | _, _ => none
  | _ => none
theorem eIx1_ap (i : Nat) (fb : FE) (ρ : Env) : eIx1 i fb ρ = match look ρ i with
  | some (_, .lst ds0) => (fb ρ).bind fun b ρ1 => match look ρ1 i, b.2 with
    | some (0, .lst ds), .int n => (atI ds n).map fun f => .val (.ow 0, f) ρ1
    | some (1, .lst ds), .int n => (atI ds n).map fun f => .val (.ow 0, f) ρ1
    | _, _ => none
  | _ => none := rfl
end
end P
namespace P
open PySem L2

abbrev Row := List (Int × Int)
abbrev rowD (f : Row) : D := .lst (f.map fr)
abbrev rowsD (rs : List Row) : D := .lst (rs.map rowD)
abbrev rowAt (rs : List Row) (i : Nat) : Row := rs[i]?.getD []
abbrev at2 (rs : List Row) (i j : Nat) : Int × Int := atF (rowAt rs i) j
def mat (rs : List Row) (i j : Nat) : Rat := rv (at2 rs i j)
structure Mat (n w : Nat) (rs : List Row) : Prop where
  ln : rs.length = n
  wd : ∀ r, r ∈ rs → r.length = w
  fr : ∀ r, r ∈ rs → ∀ x, x ∈ r → IsFr x
section
variable {n w : Nat} {rs : List Row}
theorem row_get {i : Nat} (h : i < rs.length) : rs[i]? = some (rowAt rs i) := by
  show rs[i]? = some (rs[i]?.getD [])
  rw [List.getElem?_eq_getElem h]
  rfl
theorem row_out {i : Nat} (h : rs.length ≤ i) : rowAt rs i = [] := by
  show rs[i]?.getD [] = []
  rw [List.getElem?_eq_none h]
  rfl
theorem row_mem {i : Nat} (h : i < rs.length) : rowAt rs i ∈ rs := List.mem_of_getElem? (row_get h)
theorem rows_at {i : Nat} (h : i < rs.length) : (rs.map rowD)[i]? = some (rowD (rowAt rs i)) := by
  rw [List.getElem?_map, row_get h]
  rfl
theorem Mat.row (h : Mat n w rs) {i : Nat} (hi : i < n) : (rowAt rs i).length = w := h.wd _ (row_mem (by rw [h.ln]; exact hi))
theorem Mat.at2 (h : Mat n w rs) {i j : Nat} : IsFr (at2 rs i j) := by
  by_cases hi : i < rs.length
  · by_cases hj : j < (rowAt rs i).length
    · exact h.fr _ (row_mem hi) _ (atF_mem hj)
    · show IsFr ((rowAt rs i)[j]?.getD (0, 1))
      rw [List.getElem?_eq_none (by omega)]
      exact fr_zero
  · have e : rowAt rs i = [] := row_out (by omega)
    show IsFr (atF (rowAt rs i) j)
    rw [e]
    exact fr_zero
theorem Mat.zero (h : Mat n w rs) {i j : Nat} : (P.at2 rs i j).1 = 0 ↔ mat rs i j = 0 := by
  have f := h.at2 (i := i) (j := j)
  have k := rv_mul f.1
  have c := castI_ne (show (P.at2 rs i j).2 ≠ 0 by have := f.1; omega)
  constructor
  · intro e
    rw [e] at k
    have h3 : ((0 : Int) : Rat) = 0 := by norm_cast
    unfold mat
    grind
  · intro e
    unfold mat at e
    rw [e] at k
    have : (((P.at2 rs i j).1 : Int) : Rat) = ((0 : Int) : Rat) := by
      have h3 : ((0 : Int) : Rat) = 0 := by norm_cast
      grind
    exact_mod_cast this
theorem Mat.one (h : Mat n w rs) {i j : Nat} : P.at2 rs i j = (1, 1) ↔ mat rs i j = 1 := by
  constructor
  · intro e
    unfold mat
    rw [e]
    exact rv_one
  · intro e
    exact h.at2.ext fr_one (e.trans rv_one.symm)
end

def BndR (S : Nat) (v : Rat) : Prop := ∃ x y : Int, y ≠ 0 ∧ v * (y : Rat) = (x : Rat) ∧ x.natAbs ≤ 2 ^ S ∧ y.natAbs ≤ 2 ^ S
theorem IsFr.small {p : Int × Int} (h : IsFr p) {S : Nat} (b : BndR S (rv p)) : Sz (S + 1) p := by
  obtain ⟨x, y, y0, e, hx, hy⟩ := b
  have h0 := h.1
  have d := h.dvd e
  have p2 : p.2.natAbs ≤ y.natAbs := Nat.le_of_dvd (by omega) (Int.natAbs_dvd_natAbs.mpr d)
  have s1 : 2 ^ S < 2 ^ (S + 1) := Nat.pow_lt_pow_right (by decide) (by omega)
  refine ⟨?_, by omega⟩
  have k := rv_mul h0
  have c := castI_ne (show p.2 ≠ 0 by omega)
  have e2 : p.1 * y = x * p.2 := by
    have : (p.1 : Rat) * (y : Rat) = (x : Rat) * (p.2 : Rat) := by rw [← k, ← e]; grind
    exact_mod_cast this
  obtain ⟨z, ez⟩ := d
  have z0 : z ≠ 0 := by
    rintro rfl
    rw [Int.mul_zero] at ez
    exact y0 ez
  have e3 : p.1 * z = x := by
    have : p.1 * z * p.2 = x * p.2 := by rw [← e2, ez]; grind
    exact Int.eq_of_mul_eq_mul_right (by omega) this
  have : x.natAbs = p.1.natAbs * z.natAbs := by rw [← e3, Int.natAbs_mul]
  have : p.1.natAbs * 1 ≤ p.1.natAbs * z.natAbs := Nat.mul_le_mul_left _ (by omega)
  omega
def MSz (S : Nat) (rs : List Row) : Prop := ∀ r, r ∈ rs → ∀ x, x ∈ r → Sz S x
theorem MSz.at2 {S : Nat} {rs : List Row} (h : MSz S rs) (s0 : 1 ≤ S) {i j : Nat} : Sz S (at2 rs i j) := by
  have z : Sz S (0, 1) := ⟨Nat.pow_pos (by decide), Nat.lt_of_lt_of_le (by decide) (Nat.pow_le_pow_right (show 0 < 2 by decide) s0)⟩
  by_cases hi : i < rs.length
  · by_cases hj : j < (rowAt rs i).length
    · exact h _ (row_mem hi) _ (atF_mem hj)
    · show Sz S ((rowAt rs i)[j]?.getD (0, 1))
      rw [List.getElem?_eq_none (by omega)]
      exact z
  · have e : rowAt rs i = [] := row_out (by omega)
    show Sz S (atF (rowAt rs i) j)
    rw [e]
    exact z

inductive Stp where
  | swap (a b : Nat) | times (a : Nat) (q : Int × Int) | add (a b : Nat) (q : Int × Int)
def stpD : Stp → D
  | .swap a b => .tup [.str "swap", .int (a : Int), .int (b : Int)]
  | .times a q => .tup [.str "times", .int (a : Int), fr q]
  | .add a b q => .tup [.str "add", .int (a : Int), .int (b : Int), fr q]
def overI (q : Int × Int) : Int × Int := ratioF (1 * q.2) (1 * q.1)
def addX (q x y : Int × Int) : Int × Int := if y.1 = 0 then x else addF x (mulF q y)
def addRow (r s : Row) (q : Int × Int) : Row := List.zipWith (addX q) r s
def stpF : Stp → List Row → List Row
  | .swap a b, rs => (rs.set a (rowAt rs b)).set b (rowAt rs a)
  | .times a q, rs => rs.set a ((rowAt rs a).map (mulF q))
  | .add a b q, rs => rs.set a (addRow (rowAt rs a) (rowAt rs b) q)
def StpOk (n : Nat) : Stp → Prop
  | .swap a b => a < n ∧ b < n
  | .times a q => a < n ∧ IsFr q
  | .add a b q => a < n ∧ b < n ∧ IsFr q
def StpSz (S : Nat) : Stp → Prop
  | .swap a b => True
  | .times a q => Sz S q
  | .add a b q => Sz S q
def stpM : Stp → (Nat → Nat → Rat) → Nat → Nat → Rat
  | .swap a b, A => fun i j => A (swp a b i) j
  | .times a q, A => fun i j => if i = a then rv q * A a j else A i j
  | .add a b q, A => fun i j => if i = a then A a j + rv q * A b j else A i j
theorem mem_set {α : Type} {l : List α} {i : Nat} {a x : α} (h : x ∈ l.set i a) : x ∈ l ∨ x = a := List.mem_or_eq_of_mem_set h
theorem fr_addX {q x y : Int × Int} (hq : IsFr q) (hx : IsFr x) (hy : IsFr y) : IsFr (addX q x y) := by
  unfold addX
  split
  · exact hx
  · exact fr_addF hx.1 (fr_mulF hq.1 hy.1).1
theorem rv_addX {q x y : Int × Int} (hq : IsFr q) (hx : IsFr x) (hy : IsFr y) : rv (addX q x y) = rv x + rv q * rv y := by
  unfold addX
  split
  · rename_i h
    have : rv y = 0 := by
      have k := rv_mul hy.1
      have c := castI_ne (show y.2 ≠ 0 by have := hy.1; omega)
      rw [h] at k
      have h3 : ((0 : Int) : Rat) = 0 := by norm_cast
      grind
    rw [this]
    grind
  · rw [rv_addF hx.1 (fr_mulF hq.1 hy.1).1, rv_mulF hq.1 hy.1]
theorem Mat.set {n w : Nat} {rs : List Row} (h : Mat n w rs) {a : Nat} {r : Row} (hl : r.length = w) (hf : ∀ x, x ∈ r → IsFr x) : Mat n w (rs.set a r) :=
  ⟨by rw [List.length_set, h.ln], fun s hs => by
    rcases mem_set hs with hs | rfl
    · exact h.wd s hs
    · exact hl, fun s hs => by
    rcases mem_set hs with hs | rfl
    · exact h.fr s hs
    · exact hf⟩
theorem rowAt_set {rs : List Row} {a i : Nat} {r : Row} (ha : a < rs.length) : rowAt (rs.set a r) i = if i = a then r else rowAt rs i := by
  show (rs.set a r)[i]?.getD [] = _
  rw [List.getElem?_set]
  by_cases e : a = i
  · subst e
    rw [if_pos rfl, if_pos ha, if_pos rfl]
    rfl
  · rw [if_neg e, if_neg (fun h => e h.symm)]
theorem mat_set {rs : List Row} {a : Nat} {r : Row} (ha : a < rs.length) (i j : Nat) : mat (rs.set a r) i j = if i = a then rv (atF r j) else mat rs i j := by
  unfold mat
  show rv (atF (rowAt (rs.set a r) i) j) = _
  rw [rowAt_set ha]
  split <;> rfl
theorem addRow_at {r s : Row} {q : Int × Int} (e : r.length = s.length) {j : Nat} (hj : j < r.length) : atF (addRow r s q) j = addX q (atF r j) (atF s j) := by
  refine atF_some ?_
  unfold addRow
  rw [List.getElem?_zipWith, atF_get hj, atF_get (by omega)]
theorem Mat.step {n w : Nat} {rs : List Row} (h : Mat n w rs) {s : Stp} (hs : StpOk n s) : Mat n w (stpF s rs) ∧ ∀ i j, i < n → j < w → mat (stpF s rs) i j = stpM s (mat rs) i j := by
  have hn := h.ln
  cases s with
  | swap a b =>
    obtain ⟨ha, hb⟩ := hs
    have ma := row_mem (show a < rs.length by omega)
    have mb := row_mem (show b < rs.length by omega)
    have m1 : Mat n w (rs.set a (rowAt rs b)) := h.set (h.wd _ mb) (h.fr _ mb)
    refine ⟨m1.set (h.wd _ ma) (h.fr _ ma), fun i j hi hj => ?_⟩
    show mat ((rs.set a (rowAt rs b)).set b (rowAt rs a)) i j = mat rs (swp a b i) j
    rw [mat_set (by rw [List.length_set]; omega), mat_set (by omega)]
    unfold swp
    by_cases e : i = b
    · rw [if_pos e]
      by_cases e2 : i = a
      · rw [if_pos e2, ← e, e2]; rfl
      · rw [if_neg e2, if_pos e]; rfl
    · rw [if_neg e]
      by_cases e2 : i = a
      · rw [if_pos e2, if_pos e2]; rfl
      · rw [if_neg e2, if_neg e2, if_neg e]
  | times a q =>
    obtain ⟨ha, hq⟩ := hs
    have ma := row_mem (show a < rs.length by omega)
    refine ⟨h.set (by rw [List.length_map]; exact h.wd _ ma) (fun x hx => ?_), fun i j hi hj => ?_⟩
    · obtain ⟨y, hy, rfl⟩ := List.mem_map.mp hx
      exact fr_mulF hq.1 (h.fr _ ma y hy).1
    · show mat (rs.set a ((rowAt rs a).map (mulF q))) i j = if i = a then rv q * mat rs a j else mat rs i j
      rw [mat_set (by omega)]
      split
      · have jl : j < (rowAt rs a).length := by rw [h.wd _ ma]; exact hj
        have : atF ((rowAt rs a).map (mulF q)) j = mulF q (atF (rowAt rs a) j) := atF_some (by rw [List.getElem?_map, atF_get jl]; rfl)
        rw [this, rv_mulF hq.1 (h.at2 (i := a) (j := j)).1]
        rfl
      · rfl
  | add a b q =>
    obtain ⟨ha, hb, hq⟩ := hs
    have ma := row_mem (show a < rs.length by omega)
    have mb := row_mem (show b < rs.length by omega)
    have el : (rowAt rs a).length = (rowAt rs b).length := by rw [h.wd _ ma, h.wd _ mb]
    refine ⟨h.set (by unfold addRow; rw [List.length_zipWith, h.wd _ ma, h.wd _ mb, Nat.min_self]) (fun x hx => ?_), fun i j hi hj => ?_⟩
    · obtain ⟨t, ht⟩ := List.getElem?_of_mem hx
      have tl := (List.getElem?_eq_some_iff.mp ht).1
      have : t < (rowAt rs a).length := by unfold addRow at tl; rw [List.length_zipWith] at tl; omega
      have e := atF_some ht
      rw [addRow_at el this] at e
      rw [← e]
      exact fr_addX hq (h.at2 (i := a) (j := t)) (h.at2 (i := b) (j := t))
    · show mat (rs.set a (addRow (rowAt rs a) (rowAt rs b) q)) i j = if i = a then mat rs a j + rv q * mat rs b j else mat rs i j
      rw [mat_set (by omega)]
      split
      · have jl : j < (rowAt rs a).length := by rw [h.wd _ ma]; exact hj
        rw [addRow_at el jl, rv_addX hq (h.at2 (i := a) (j := j)) (h.at2 (i := b) (j := j))]
        rfl
      · rfl

def walkF (rs : List Row) (ss : List Stp) : List Row := ss.foldl (fun r s => stpF s r) rs
def Walk (n S : Nat) : List Row → List Stp → Prop
  | _, [] => True
  | rs, s :: ss => MSz S rs ∧ StpOk n s ∧ StpSz S s ∧ Walk n S (stpF s rs) ss
theorem walkF_app (rs : List Row) (a b : List Stp) : walkF rs (a ++ b) = walkF (walkF rs a) b := List.foldl_append
theorem Walk.app {n S : Nat} : ∀ {a b : List Stp} {rs : List Row}, Walk n S rs a → Walk n S (walkF rs a) b → Walk n S rs (a ++ b)
  | [], _, _, _, h => h
  | s :: a, b, rs, ⟨h1, h2, h3, h4⟩, h => ⟨h1, h2, h3, h4.app h⟩
theorem Walk.mat {n S w : Nat} : ∀ {ss : List Stp} {rs : List Row}, Mat n w rs → Walk n S rs ss → Mat n w (walkF rs ss)
  | [], _, m, _ => m
  | s :: ss, rs, m, ⟨_, h2, _, h4⟩ => show Mat n w (walkF (stpF s rs) ss) from Walk.mat (m.step h2).1 h4
theorem Walk.le {n S S' : Nat} (e : S ≤ S') : ∀ {ss : List Stp} {rs : List Row}, Walk n S rs ss → Walk n S' rs ss
  | [], _, _ => trivial
  | s :: ss, rs, ⟨h1, h2, h3, h4⟩ => ⟨fun r hr x hx => (h1 r hr x hx).le e, h2, by cases s <;> first | trivial | exact Sz.le h3 e, Walk.le e h4⟩
theorem Walk.at_ {n S w : Nat} : ∀ {ss : List Stp} {rs : List Row} {j : Nat} {s : Stp}, Walk n S rs ss → Mat n w rs → ss[j]? = some s → MSz S (walkF rs (ss.take j)) ∧ StpOk n s ∧ StpSz S s ∧ Mat n w (walkF rs (ss.take j))
  | t :: ss, rs, 0, s, ⟨h1, h2, h3, h4⟩, m, e => by
    cases e
    exact ⟨h1, h2, h3, m⟩
  | t :: ss, rs, j + 1, s, ⟨h1, h2, h3, h4⟩, m, e => Walk.at_ (rs := stpF t rs) h4 (m.step h2).1 e
end P
namespace P
open PySem L2

def swapS (k f : Nat) : List Stp := if f ≠ k then [.swap k f] else []
def timesS (rs : List Row) (k f c : Nat) : List Stp := if at2 rs f c ≠ (1, 1) then [.times k (overI (at2 rs f c))] else []
def addsTo (rs : List Row) (k f c : Nat) : Nat → List Stp
  | 0 => []
  | m + 1 => addsTo rs k f c m ++ (if m ≠ k ∧ m ≠ f ∧ (at2 rs m c).1 ≠ 0 then [.add m k (0 - (at2 rs m c).1, (at2 rs m c).2)] else [])
def colS (rs : List Row) (k f c : Nat) : List Stp := (swapS k f ++ timesS rs k f c) ++ addsTo rs k f c rs.length
section
variable {n w S k f c : Nat} {rs : List Row}

def firstR (rs : List Row) (k c : Nat) : Option Nat := ((List.range (rs.length - k)).find? fun i => decide ((at2 rs (k + i) c).1 ≠ 0)).map (k + ·)
end

theorem Stg.congr {n w : Nat} {M0 M A A' : Nat → Nat → Rat} {c k : Nat} {Pc : List Nat} (S : Stg n w M0 M A c k Pc) (hc : c ≤ w) (h : ∀ i j, i < n → j < w → A' i j = A i j) : Stg n w M0 M A' c k Pc :=
  have d : ∀ v i, i < n → dw (A' i) v w = dw (A i) v w := fun v i hi => dw_congr fun j hj => h i j hi hj
  have pl : ∀ {t p : Nat}, Pc[t]? = some p → t < n ∧ p < w := fun {t p} e => by
    have h1 := (List.getElem?_eq_some_iff.mp e).1
    have h2 := S.pc p (List.mem_of_getElem? e)
    have h3 := S.pl
    have h4 := S.kn
    omega
  { S with
    pv := fun t p e s hs => by rw [h s p hs (pl e).2]; exact S.pv t p e s hs
    zr := fun i h1 h2 j hj => by rw [h i j h2 (by omega)]; exact S.zr i h1 h2 j hj
    ld := fun t p e j hj => by rw [h t j (pl e).1 (by have := (pl e).2; omega)]; exact S.ld t p e j hj
    ia := fun v hv t ht => by rw [d v t (by have := S.kn; omega)]; exact S.ia v hv t ht
    ib := fun v hv i h1 h2 => by rw [d v i h2]; exact S.ib v hv i h1 h2
    ev := fun v => (S.ev v).trans ⟨fun q i hi => by rw [d v i hi]; exact q i hi, fun q i hi => by rw [← d v i hi]; exact q i hi⟩ }
structure RedAt (n w b e : Nat) (rs : List Row) (c : Nat) (q : List Stp × List Row × Nat) : Prop where
  mt : Mat n w q.2.1
  sz : MSz ((b + e) * (n + 1) + 1) q.2.1
  kn : q.2.2 ≤ n ∧ q.2.2 ≤ c
  st : ∃ M Pc, Stg n w (mat rs) M (mat q.2.1) c q.2.2 Pc
  nx : c < w → ∀ f, firstR q.2.1 q.2.2 c = some f → f < n ∧ Walk n ((b + e) * (n + 1) + 1) q.2.1 (colS q.2.1 q.2.2 f c)
end P
namespace P
open PySem L2

def Sol (n w : Nat) (A : Nat → Nat → Rat) (x : Nat → Rat) : Prop := ∀ i, i < n → dw (A i) x w = A i w
section
variable {n w : Nat} {rs : List Row} {M0 M : Nat → Nat → Rat} {k : Nat} {Pc : List Nat}


def extV (w : Nat) (x : Nat → Rat) (z : Rat) : Nat → Rat := fun j => if j < w then x j else z
theorem dw_ext (r x : Nat → Rat) (w : Nat) (z : Rat) : dw r (extV w x z) (w + 1) = dw r x w + r w * z := by
  show dw r (extV w x z) w + r w * extV w x z w = _
  have e : dw r (extV w x z) w = dw r x w := dw_congr_r fun j hj => if_pos hj
  rw [e]
  unfold extV
  rw [if_neg (Nat.lt_irrefl _)]
theorem sol_ker {A : Nat → Nat → Rat} {x : Nat → Rat} : Sol n w A x ↔ ∀ i, i < n → dw (A i) (extV w x (-1)) (w + 1) = 0 := by
  constructor
  · intro h i hi
    rw [dw_ext, h i hi]
    grind
  · intro h i hi
    have := h i hi
    rw [dw_ext] at this
    grind
theorem Stg.sol (S : Stg n (w + 1) M0 M A w k Pc) {x : Nat → Rat} : Sol n w M0 x ↔ Sol n w A x := by
  rw [sol_ker, sol_ker]
  exact S.ev _
end
structure AnsIs (n w : Nat) (rs : List Row) (o : Option (List (Int × Int))) : Prop where
  no : o = none → ∀ x, Sol n w (mat rs) x → ∃ y, Sol n w (mat rs) y ∧ ∃ j, j < w ∧ y j ≠ x j
  ln : ∀ xs, o = some xs → xs.length = w ∧ ∀ x, x ∈ xs → IsFr x
  sol : ∀ xs, o = some xs → ∀ y, Sol n w (mat rs) y ↔ ∀ i, i < w → y i = rv (atF xs i)

section
variable {n w : Nat} {rs : List Row} {bs : List (Int × Int)}
end
end P
namespace P
open PySem L2

def sm (f : Nat → Rat) : Nat → Rat
  | 0 => 0
  | n + 1 => sm f n + f n
theorem sm_congr {f g : Nat → Rat} : ∀ {n : Nat}, (∀ j, j < n → f j = g j) → sm f n = sm g n
  | 0, _ => rfl
  | n + 1, h => by
    unfold sm
    rw [sm_congr fun j hj => h j (Nat.lt_succ_of_lt hj), h n (Nat.lt_succ_self n)]
theorem sm_le {f g : Nat → Rat} : ∀ {n : Nat}, (∀ j, j < n → f j ≤ g j) → sm f n ≤ sm g n
  | 0, _ => Rat.le_refl
  | n + 1, h => by
    have a := sm_le (n := n) fun j hj => h j (Nat.lt_succ_of_lt hj)
    have b := h n (Nat.lt_succ_self n)
    unfold sm
    grind
theorem sm_zero : ∀ n : Nat, sm (fun _ => 0) n = 0
  | 0 => rfl
  | n + 1 => by unfold sm; rw [sm_zero n]; grind
theorem sm_add (f g : Nat → Rat) : ∀ n : Nat, sm (fun j => f j + g j) n = sm f n + sm g n
  | 0 => by unfold sm; grind
  | n + 1 => by unfold sm; rw [sm_add f g n]; grind
theorem sm_mul (c : Rat) (f : Nat → Rat) : ∀ n : Nat, sm (fun j => c * f j) n = c * sm f n
  | 0 => by unfold sm; grind
  | n + 1 => by unfold sm; rw [sm_mul c f n]; grind
theorem sm_nonneg {f : Nat → Rat} {n : Nat} (h : ∀ j, j < n → 0 ≤ f j) : 0 ≤ sm f n := by
  have := sm_le (f := fun _ => 0) (g := f) (n := n) h
  rwa [sm_zero] at this
theorem sm_one {f : Nat → Rat} {n i : Nat} (hi : i < n) : sm f n = f i + sm (fun j => if j = i then 0 else f j) n := by
  induction n with
  | zero => omega
  | succ n ih =>
    unfold sm
    by_cases e : i = n
    · subst e
      rw [if_pos rfl, sm_congr (f := fun j => if j = i then 0 else f j) (g := f) (fun j hj => if_neg (by omega))]
      grind
    · rw [ih (by omega), if_neg (fun h => e h.symm)]
      grind
theorem dw_sm (r v : Nat → Rat) : ∀ n : Nat, dw r v n = sm (fun j => r j * v j) n
  | 0 => rfl
  | n + 1 => by
    show dw r v n + r n * v n = sm _ n + r n * v n
    rw [dw_sm r v n]

def abR (x : Rat) : Rat := if 0 ≤ x then x else -x
theorem abR_nonneg (x : Rat) : 0 ≤ abR x := by unfold abR; split <;> grind
theorem abR_le (x : Rat) : x ≤ abR x := by unfold abR; split <;> grind
theorem abR_neg (x : Rat) : abR (-x) = abR x := by unfold abR; split <;> split <;> grind
theorem abR_nle (x : Rat) : -x ≤ abR x := by unfold abR; split <;> grind
theorem abR_of {x y : Rat} (h1 : x ≤ y) (h2 : -x ≤ y) : abR x ≤ y := by unfold abR; split <;> assumption
theorem abR_pos {x : Rat} (h : 0 ≤ x) : abR x = x := if_pos h
theorem abR_zero {x : Rat} (h : abR x = 0) : x = 0 := by unfold abR at h; split at h <;> grind
theorem abR_add (x y : Rat) : abR (x + y) ≤ abR x + abR y := by
  have := abR_le x; have := abR_le y; have := abR_nle x; have := abR_nle y
  exact abR_of (by grind) (by grind)
theorem abR_mul (x y : Rat) : abR (x * y) = abR x * abR y := by
  have pos : ∀ a b : Rat, 0 ≤ a → 0 ≤ b → abR (a * b) = a * b := fun a b ha hb => abR_pos (Rat.mul_nonneg ha hb)
  by_cases hx : 0 ≤ x
  · by_cases hy : 0 ≤ y
    · rw [pos x y hx hy, abR_pos hx, abR_pos hy]
    · have := pos x (-y) hx (by grind)
      rw [show x * -y = -(x * y) by grind, abR_neg] at this
      rw [this, abR_pos hx]
      unfold abR
      rw [if_neg hy]
      grind
  · by_cases hy : 0 ≤ y
    · have := pos (-x) y (by grind) hy
      rw [show -x * y = -(x * y) by grind, abR_neg] at this
      rw [this, abR_pos hy]
      unfold abR
      rw [if_neg hx]
      grind
    · have := pos (-x) (-y) (by grind) (by grind)
      rw [show -x * -y = x * y by grind] at this
      rw [this]
      unfold abR
      rw [if_neg hx, if_neg hy]
      grind
theorem abR_sm (f : Nat → Rat) : ∀ n : Nat, abR (sm f n) ≤ sm (fun j => abR (f j)) n
  | 0 => by show abR 0 ≤ 0; rw [abR_pos Rat.le_refl]; exact Rat.le_refl
  | n + 1 => by
    have h := abR_sm f n
    have h2 := abR_add (sm f n) (f n)
    unfold sm
    grind
theorem r_mulL {a b c : Rat} (h : a ≤ b) (k : 0 ≤ c) : c * a ≤ c * b := Rat.mul_le_mul_of_nonneg_left h k
theorem r_mulR {a b c : Rat} (h : a ≤ b) (k : 0 ≤ c) : a * c ≤ b * c := Rat.mul_le_mul_of_nonneg_right h k

structure Heavy (n : Nat) (A : Nat → Nat → Rat) (wt : Nat → Rat) : Prop where
  pos : ∀ i, i < n → 0 < wt i
  big : ∀ i, i < n → sm (fun j => if j = i then 0 else abR (A i j)) n + wt i ≤ abR (A i i)
theorem max_at (f : Nat → Rat) : ∀ n : Nat, 0 < n → ∃ i, i < n ∧ ∀ j, j < n → f j ≤ f i
  | 0, h => absurd h (Nat.lt_irrefl _)
  | 1, _ => ⟨0, Nat.zero_lt_one, fun j hj => by have : j = 0 := by omega
                                                subst this; exact Rat.le_refl⟩
  | n + 2, _ => by
    obtain ⟨i, hi, h⟩ := max_at f (n + 1) (by omega)
    by_cases e : f i ≤ f (n + 1)
    · refine ⟨n + 1, by omega, fun j hj => ?_⟩
      by_cases q : j = n + 1
      · subst q; exact Rat.le_refl
      · exact Rat.le_trans (h j (by omega)) e
    · refine ⟨i, by omega, fun j hj => ?_⟩
      by_cases q : j = n + 1
      · subst q; grind
      · exact h j (by omega)
theorem Heavy.bound {n : Nat} {A : Nat → Nat → Rat} {wt x b : Nat → Rat} (H : Heavy n A wt) (n0 : 0 < n) (h : ∀ i, i < n → dw (A i) x n = b i) : ∃ i, i < n ∧ wt i * abR (x i) ≤ abR (b i) ∧ ∀ j, j < n → abR (x j) ≤ abR (x i) := by
  obtain ⟨i, hi, hm⟩ := max_at (fun j => abR (x j)) n n0
  refine ⟨i, hi, ?_, hm⟩
  have e := h i hi
  rw [dw_sm, sm_one hi] at e
  obtain ⟨O, eO⟩ : ∃ O, O = sm (fun j => if j = i then 0 else A i j * x j) n := ⟨_, rfl⟩
  rw [← eO] at e
  have e2 : abR O ≤ sm (fun j => if j = i then 0 else abR (A i j)) n * abR (x i) := by
    rw [eO]
    refine Rat.le_trans (abR_sm _ _) ?_
    rw [show sm (fun j => if j = i then 0 else abR (A i j)) n * abR (x i) = abR (x i) * sm (fun j => if j = i then 0 else abR (A i j)) n by grind, ← sm_mul]
    refine sm_le fun j hj => ?_
    by_cases q : j = i
    · rw [if_pos q, if_pos q, abR_pos Rat.le_refl]
      grind
    · rw [if_neg q, if_neg q, abR_mul]
      have := r_mulL (hm j hj) (abR_nonneg (A i j))
      grind
  have e3 : abR (A i i) * abR (x i) ≤ abR (b i) + abR O := by
    rw [← abR_mul]
    have := abR_add (b i) (-O)
    rw [abR_neg] at this
    rw [show A i i * x i = b i + -O by grind]
    exact this
  have e4 := r_mulR (H.big i hi) (abR_nonneg (x i))
  grind
theorem Heavy.inj {n : Nat} {A : Nat → Nat → Rat} {wt v : Nat → Rat} (H : Heavy n A wt) (h : ∀ i, i < n → dw (A i) v n = 0) : ∀ j, j < n → v j = 0 := fun j hj => by
  obtain ⟨i, hi, h1, h2⟩ := H.bound (by omega) h
  rw [abR_pos Rat.le_refl] at h1
  have := H.pos i hi
  have q := abR_nonneg (v i)
  have z : abR (v i) = 0 := by
    by_cases c : 0 < abR (v i)
    · have := Rat.mul_pos this c
      grind
    · grind
  have := h2 j hj
  have := abR_nonneg (v j)
  exact abR_zero (by grind)
section
variable {fg : FG} {ft : FT} {fe : FE} {ρ : Env} {vs : List Nat} {k : Nat}
theorem lcGo_ex {α β : Type} {u : α → D} {v : β → D} {Q : α → β → Prop} : ∀ {xs : List α}, (∀ x, x ∈ xs → ∃ y, lcOne vs fg ft fe k ρ (u x) = some (some (v y)) ∧ Q x y) → ∃ ys : List β, lcGo vs fg ft fe k ρ (xs.map u) = some (ys.map v) ∧ ys.length = xs.length ∧ ∀ (i : Nat) x y, xs[i]? = some x → ys[i]? = some y → Q x y
  | [], _ => ⟨[], rfl, rfl, fun i x y h => by simp at h⟩
  | x :: xs, h => by
    obtain ⟨y, e, q⟩ := h x (List.mem_cons_self ..)
    obtain ⟨ys, e2, l, q2⟩ := lcGo_ex (xs := xs) fun z hz => h z (List.mem_cons_of_mem _ hz)
    refine ⟨y :: ys, ?_, by rw [List.length_cons, List.length_cons, l], fun i a b h1 h2 => ?_⟩
    · rw [List.map_cons, List.map_cons]
      unfold lcGo
      rw [e]
      dsimp only
      rw [e2]
    · cases i with
      | zero => cases h1; cases h2; exact q
      | succ i => exact q2 i a b h1 h2
end
theorem eqs_rows : ∀ rs ss : List Row, eqD.eqs (rs.map rowD) (ss.map rowD) = decide (rs = ss)
  | [], [] => rfl
  | [], q :: g => rfl
  | p :: f, [] => rfl
  | p :: f, q :: g => by
    show (eqD (.lst (p.map fr)) (.lst (q.map fr)) && eqD.eqs (f.map rowD) (g.map rowD)) = _
    rw [eqs_rows f g, eqD_ll, eqs_frs2, Bool.eq_iff_iff, Bool.and_eq_true, decide_eq_true_eq, decide_eq_true_eq, decide_eq_true_eq, List.cons.injEq]
theorem eqs_rows1 (rs : List Row) : eqD.eqs (rs.map rowD) (rs.map rowD) = true := by rw [eqs_rows]; exact decide_eq_true rfl
theorem okPs_rows (n : Nat) : ∀ rs : List Row, okP.okPs (n + 3) (rs.map rowD) = true
  | [] => rfl
  | p :: f => by
    show (okP.okPs (n + 2) (p.map fr) && okP.okPs (n + 3) (f.map rowD)) = true
    rw [okPs_rows n f, okPs_frs]
    rfl
theorem covs_rows (k : Nat) : ∀ rs : List Row, cov.covs (k + 1) (rs.map rowD) = true
  | [] => rfl
  | p :: f => by
    show (cov.covs k (p.map fr) && cov.covs (k + 1) (f.map rowD)) = true
    rw [covs_rows k f, covs_frs]
    rfl
end P
namespace P
open PySem L2

abbrev Ways := List (Nat × (Int × Int))
def chF (ws : Ways) (j : Nat) : Rat := sumR (fun w => if w.1 = j then rv w.2 else 0) ws
structure WaysOk (n : Nat) (s : Int) (ws : Ways) : Prop where
  rm : ∀ w, w ∈ ws → w.1 < n
  fr : ∀ w, w ∈ ws → IsFr w.2 ∧ w.2.2 ∣ s ∧ 0 ≤ rv w.2
  s0 : 0 < s
  su : sumR (fun w => rv w.2) ws ≤ 1
  ln : ws.length ≤ 8
theorem WaysOk.nil (n : Nat) : WaysOk n 1 [] := ⟨(fun w h => nomatch h), (fun w h => nomatch h), by decide, (by rw [sumR_nil]; decide), by decide⟩
structure ShareOk (p : Int × Int) : Prop where
  fp : IsFr p
  p0 : 0 ≤ p.1
  p1 : p.1 < p.2
  pb : p.2 ≤ 100
section
variable {p : Int × Int} (S : ShareOk p)
include S
theorem ShareOk.rv : 0 ≤ rv p ∧ rv p < 1 := by
  have h0 := S.p0
  have h1 := S.p1
  have p2 : 0 < p.2 := by omega
  constructor
  · have := (rv_le (p := (0, 1)) (q := p) (by decide) p2).mpr (by show 0 * p.2 ≤ p.1 * 1; omega)
    rwa [rv_zero] at this
  · have := (rv_lt (p := p) (q := (1, 1)) p2 (by decide)).mpr (by show p.1 * 1 < 1 * p.2; omega)
    rwa [rv_one] at this
end
theorem chF_nil (j : Nat) : chF [] j = 0 := rfl
theorem chF_cons (w : Nat × (Int × Int)) (ws : Ways) (j : Nat) : chF (w :: ws) j = (if w.1 = j then rv w.2 else 0) + chF ws j := sumR_cons ..
theorem chF_app (a b : Ways) (j : Nat) : chF (a ++ b) j = chF a j + chF b j := sumR_app ..
theorem chF_nonneg {ws : Ways} (h : ∀ w, w ∈ ws → 0 ≤ rv w.2) (j : Nat) : 0 ≤ chF ws j := by
  induction ws with
  | nil => rw [chF_nil]; exact Rat.le_refl
  | cons w ws ih =>
    rw [chF_cons]
    have a := ih fun v hv => h v (List.mem_cons_of_mem _ hv)
    have b := h w (List.mem_cons_self ..)
    split <;> grind
theorem chF_sm {n : Nat} (g : Nat → Rat) : ∀ {ws : Ways}, (∀ w, w ∈ ws → w.1 < n) → sm (fun j => chF ws j * g j) n = sumR (fun w => rv w.2 * g w.1) ws
  | [], _ => by
    rw [sumR_nil, sm_congr (g := fun _ => 0) (fun j _ => by rw [chF_nil]; grind), sm_zero]
  | w :: ws, h => by
    have hw := h w (List.mem_cons_self ..)
    rw [sumR_cons, ← chF_sm g fun v hv => h v (List.mem_cons_of_mem _ hv)]
    have e : sm (fun j => chF (w :: ws) j * g j) n = sm (fun j => (if w.1 = j then rv w.2 else 0) * g j + chF ws j * g j) n := sm_congr fun j _ => by rw [chF_cons]; grind
    rw [e, sm_add, sm_one hw, if_pos rfl, sm_congr (g := fun _ => 0) (n := n) (f := fun j => if j = w.1 then 0 else (if w.1 = j then rv w.2 else 0) * g j), sm_zero]
    · grind
    · intro j _
      by_cases q : j = w.1
      · rw [if_pos q]
      · rw [if_neg q, if_neg (fun z => q z.symm)]
        grind
theorem chF_sum {n : Nat} {ws : Ways} (h : ∀ w, w ∈ ws → w.1 < n) : sm (chF ws) n = sumR (fun w => rv w.2) ws := by
  have e := chF_sm (fun _ => 1) h
  rw [sm_congr (g := chF ws) (fun j _ => by grind)] at e
  rw [e]
  exact sumR_congr fun w _ => by grind
theorem sm_mem {f : Nat → Rat} {n j : Nat} (h : ∀ i, i < n → 0 ≤ f i) (hj : j < n) : f j ≤ sm f n := by
  rw [sm_one hj]
  have := sm_nonneg (f := fun i => if i = j then 0 else f i) (n := n) fun i hi => by split; exact Rat.le_refl; exact h i hi
  grind
section
variable {p : Int × Int} {n : Nat} {s : Int} {ws : Ways}
theorem chF_le (h : WaysOk n s ws) {j : Nat} (hj : j < n) : chF ws j ≤ 1 := by
  have a := sm_mem (f := chF ws) (n := n) (fun i _ => chF_nonneg (fun w hw => (h.fr w hw).2.2) i) hj
  rw [chF_sum h.rm] at a
  exact Rat.le_trans a h.su
theorem WaysOk.take (h : WaysOk n s ws) (t : Nat) : WaysOk n s (ws.take t) := by
  refine ⟨fun w hw => h.rm w (List.mem_of_mem_take hw), fun w hw => h.fr w (List.mem_of_mem_take hw), h.s0, ?_, by rw [List.length_take]; have := h.ln; omega⟩
  have e : sumR (fun w => rv w.2) ws = sumR (fun w => rv w.2) (ws.take t) + sumR (fun w => rv w.2) (ws.drop t) := by rw [← sumR_app, List.take_append_drop]
  have su := h.su
  have d : 0 ≤ sumR (fun w : Nat × (Int × Int) => rv w.2) (ws.drop t) := by
    have key : ∀ l : Ways, (∀ w, w ∈ l → 0 ≤ rv w.2) → 0 ≤ sumR (fun w => rv w.2) l := fun l => by
      induction l with
      | nil => intro _; rw [sumR_nil]; exact Rat.le_refl
      | cons w l ih =>
        intro hl
        rw [sumR_cons]
        have a := ih fun v hv => hl v (List.mem_cons_of_mem _ hv)
        have b := hl w (List.mem_cons_self ..)
        grind
    exact key _ fun w hw => (h.fr w (List.mem_of_mem_drop hw)).2.2
  rw [e] at su
  grind
structure RowIs (p : Int × Int) (n i : Nat) (s : Int) (ws : Ways) (r : Row) : Prop where
  ln : r.length = n
  fr : ∀ x, x ∈ r → IsFr x
  va : ∀ j, j < n → rv (atF r j) = (if i = j then 1 else 0) - rv p * chF ws j
theorem RowIs.start {i : Nat} (hi : i < n) : RowIs p n i s [] ((List.replicate n (0, 1)).set i (1, 1)) := by
  refine ⟨by simp, fun x hx => ?_, fun j hj => ?_⟩
  · rcases mem_set hx with hx | rfl
    · rw [List.eq_of_mem_replicate hx]; exact fr_zero
    · exact fr_one
  · rw [chF_nil]
    by_cases e : i = j
    · subst e
      have : atF ((List.replicate n ((0, 1) : Int × Int)).set i (1, 1)) i = (1, 1) := atF_some (List.getElem?_set_self (by simp; omega))
      rw [this, if_pos rfl, rv_one]
      grind
    · have : atF ((List.replicate n ((0, 1) : Int × Int)).set i (1, 1)) j = (0, 1) := atF_some (by rw [List.getElem?_set_ne e, List.getElem?_replicate, if_pos hj])
      rw [this, if_neg e, rv_zero]
      grind
theorem RowIs.step {i : Nat} {r : Row} {w : Nat × (Int × Int)} (S : ShareOk p) (h : RowIs p n i s ws r) (hw : w.1 < n) (wf : IsFr w.2) : RowIs p n i s (ws ++ [w]) (r.set w.1 (subF (atF r w.1) (mulF p w.2))) := by
  have p2 : 0 < p.2 := S.fp.1
  have hl := h.ln
  have f1 := h.fr _ (atF_mem (show w.1 < r.length by omega))
  have f2 := fr_mulF (p := p) (q := w.2) p2 wf.1
  refine ⟨by rw [List.length_set, hl], fun x hx => ?_, fun j hj => ?_⟩
  · rcases mem_set hx with hx | rfl
    · exact h.fr x hx
    · exact fr_subF f1.1 f2.1
  · rw [chF_app, chF_cons, chF_nil]
    by_cases e : w.1 = j
    · have : atF (r.set w.1 (subF (atF r w.1) (mulF p w.2))) j = subF (atF r w.1) (mulF p w.2) := atF_some (by rw [← e]; exact List.getElem?_set_self (by omega))
      rw [this, rv_subF f1.1 f2.1, rv_mulF p2 wf.1, if_pos e, h.va _ hw, e]
      grind
    · have : atF (r.set w.1 (subF (atF r w.1) (mulF p w.2))) j = atF r j := by
        show (r.set w.1 _)[j]?.getD (0, 1) = _
        rw [List.getElem?_set_ne e]
      rw [this, if_neg e, h.va j hj]
      grind
theorem RowIs.small {i : Nat} {r : Row} (S : ShareOk p) (h : RowIs p n i s ws r) (hw : WaysOk n s ws) : ∀ x, x ∈ r → IsFr x ∧ x.2 ∣ p.2 * s ∧ x.1.natAbs ≤ (p.2 * s).natAbs ∧ AbsR 1 (rv x) := fun x hx => by
  have f := h.fr x hx
  obtain ⟨j, hj⟩ := List.getElem?_of_mem hx
  have jl := (List.getElem?_eq_some_iff.mp hj).1
  rw [h.ln] at jl
  have v := h.va j jl
  rw [atF_some hj] at v
  have sp := S.rv
  have c0 := chF_nonneg (fun w hw' => (hw.fr w hw').2.2) j
  have c1 := chF_le hw jl
  have p2 : 0 < p.2 := S.fp.1
  have ibp : IntBy p.2 (rv p) := IntBy.of p2 (Int.dvd_refl _)
  have ibc : IntBy s (chF ws j) := IntBy.sum fun w hw' => by
    split
    · exact IntBy.of (hw.fr w hw').1.1 (hw.fr w hw').2.1
    · exact IntBy.zero s
  have ib : IntBy (p.2 * s) (rv x) := by
    rw [v]
    refine IntBy.sub ?_ (ibp.mul ibc)
    split
    · exact ⟨p.2 * s, by grind⟩
    · exact IntBy.zero _
  have pc : 0 ≤ rv p * chF ws j := Rat.mul_nonneg sp.1 c0
  have pc2 : rv p * chF ws j ≤ 1 := by
    have := r_mulL c1 sp.1
    grind
  have ab : AbsR 1 (rv x) := by
    rw [v]
    unfold AbsR
    split <;> grind
  refine ⟨f, ib.dvd f, ?_, ab⟩
  have f0 := f.1
  have d := Int.le_of_dvd (Int.mul_pos p2 hw.s0) (ib.dvd f)
  have k := rv_mul f0
  have q := castI_pos f0
  have e1 : (x.1 : Rat) ≤ (x.2 : Rat) := by
    rw [← k]
    have := r_mulR ab.2 (Rat.le_of_lt q)
    grind
  have e2 : -(x.2 : Rat) ≤ (x.1 : Rat) := by
    rw [← k]
    have := r_mulR ab.1 (Rat.le_of_lt q)
    grind
  have e1 : x.1 ≤ x.2 := by exact_mod_cast e1
  have e2 : -x.2 ≤ x.1 := by exact_mod_cast e2
  omega
theorem RowIs.dw {i : Nat} {r : Row} (h : RowIs p n i s ws r) (hi : i < n) (hw : ∀ w, w ∈ ws → w.1 < n) (v : Nat → Rat) : dw (fun j => rv (atF r j)) v n = v i - rv p * sumR (fun w => rv w.2 * v w.1) ws := by
  rw [dw_sm, sm_congr (g := fun j => (if j = i then v i else 0) + -(rv p) * (chF ws j * v j)) (fun j hj => by
    rw [h.va j hj]
    by_cases e : j = i
    · rw [if_pos e, if_pos e.symm, e]; grind
    · rw [if_neg e, if_neg (fun z => e z.symm)]; grind), sm_add, sm_mul, chF_sm v hw, sm_one (f := fun j => if j = i then v i else 0) hi, if_pos rfl, sm_congr (g := fun _ => 0) (f := fun j => if j = i then 0 else if j = i then v i else 0) (fun j _ => by split <;> rfl), sm_zero]
  grind
end


end P
namespace P
open PySem L2

section
variable {n w W : Nat} {rs : List Row} {M0 M A : Nat → Nat → Rat} {k : Nat} {Pc : List Nat}

end

inductive Paper where
  | one (x : List (Int × Int)) (left : List Row)
  | many (x v : List (Int × Int))
  | none (o : List (Int × Int))
section
variable {n w : Nat} {rs : List Row} {bs : List (Int × Int)}
end
section
variable {n w : Nat} {A : Nat → Nat → Rat} {B : Nat → Rat}
end
end P
namespace P
open PySem L2

section
variable {X : Fx} {K : PySem.W.Frag} {B B' : Addr → Prop} {H0 H H' : Hp} {Hf : Bg} {σ σ' : St} {ρ ρ' : Env} {τ τ' : List T} {o o' : Own} {v : V} {d : D} {k : Nat} {t : TS} {f : FS} {js : List Nat} {c : Nat → Bool}

end
end P
namespace P
open PySem L2

section
variable {X : Cx} {K : PySem.W.Frag} {o e : Expr} {to te : TE} {apos pos : Pos}
end
section
variable {X : Fx} {K : PySem.W.Frag} {B B' : Addr → Prop} {H0 H H' : Hp} {Hf : Bg} {σ σ' : St} {ρ ρ' : Env} {τ τ' : List T} {o o' : Own} {v w : V} {d e : D} {ta tb tc te to : TE} {fa fb fc fe fo : FE} {ts : TA} {fs : FA} {a b : Kx} {k : Nat}
def eIndex (fo fe : FE) : FE := fun ρ => (fo ρ).bind fun a ρ1 => match a.2 with
  | .lst ds => (fe ρ1).bind fun b ρ2 => if (okP.okPs 8 ds && okP 8 b.2) = true then (match ds.findIdx? (fun z => eqD z b.2) with
    | some j => some (.val (.ow 0, .int (j : Int)) ρ2) | none => none) else none
  | _ => none
theorem eIndex_ap (fo fe : FE) (ρ : Env) : eIndex fo fe ρ = (fo ρ).bind fun a ρ1 => match a.2 with
  | .lst ds => (fe ρ1).bind fun b ρ2 => if (okP.okPs 8 ds && okP 8 b.2) = true then (match ds.findIdx? (fun z => eqD z b.2) with
    | some j => some (.val (.ow 0, .int (j : Int)) ρ2) | none => none) else none
  | _ => none := rfl
end
end P
namespace P
open PySem L2

theorem r_eq_le {a b : Rat} (h : a = b) : a ≤ b := by rw [h]; exact Rat.le_refl
def pm (ws : Ways) (v : Nat → Rat) : Rat := sumR (fun w => rv w.2 * v w.1) ws
theorem pm_zero {ws : Ways} {v : Nat → Rat} (h : ∀ w, w ∈ ws → v w.1 = 0) : pm ws v = 0 := by
  unfold pm
  have key : ∀ l : Ways, (∀ w, w ∈ l → w ∈ ws) → sumR (fun w => rv w.2 * v w.1) l = 0 := fun l => by
    induction l with
    | nil => intro _; rfl
    | cons w l ih =>
      intro hl
      rw [sumR_cons, ih fun x hx => hl x (List.mem_cons_of_mem _ hx), h w (hl w (List.mem_cons_self ..))]
      grind
  exact key ws fun w hw => hw
theorem pm_sub (ws : Ways) (v u : Nat → Rat) : pm ws (fun j => v j - u j) = pm ws v - pm ws u := by
  unfold pm
  induction ws with
  | nil => rw [sumR_nil, sumR_nil, sumR_nil]; grind
  | cons w ws ih => rw [sumR_cons, sumR_cons, sumR_cons, ih]; grind
theorem pm_neg (ws : Ways) (v : Nat → Rat) : pm ws (fun j => -(v j)) = -(pm ws v) := by
  unfold pm
  induction ws with
  | nil => rw [sumR_nil, sumR_nil]; grind
  | cons w ws ih => rw [sumR_cons, sumR_cons, ih]; grind
theorem pm_max {n : Nat} {s : Int} {ws : Ways} (h : WaysOk n s ws) (pos : ∀ w, w ∈ ws → 0 < rv w.2) {v : Nat → Rat} {c : Rat} (c0 : 0 < c) (le : ∀ j, j < n → v j ≤ c) (ge : c ≤ pm ws v) : ∀ w, w ∈ ws → v w.1 = c := by
  have su := h.su
  have key : ∀ l : Ways, (∀ w, w ∈ l → w ∈ ws) → pm l v ≤ sumR (fun w => rv w.2) l * c ∧ (sumR (fun w => rv w.2) l * c ≤ pm l v → ∀ w, w ∈ l → v w.1 = c) := fun l => by
    induction l with
    | nil =>
      intro _
      refine ⟨?_, fun _ w hw => nomatch hw⟩
      unfold pm
      rw [sumR_nil, sumR_nil]
      grind
    | cons w l ih =>
      intro hl
      obtain ⟨a1, a2⟩ := ih fun x hx => hl x (List.mem_cons_of_mem _ hx)
      have m := hl w (List.mem_cons_self ..)
      have p := pos w m
      have lw := le _ (h.rm w m)
      have b := Rat.mul_le_mul_of_nonneg_left lw (Rat.le_of_lt p)
      have e : pm (w :: l) v = rv w.2 * v w.1 + pm l v := sumR_cons ..
      rw [e, sumR_cons]
      refine ⟨by grind, fun g x hx => ?_⟩
      rcases List.mem_cons.mp hx with rfl | hx
      · refine Classical.byContradiction fun ne => ?_
        have := Rat.mul_pos p (show 0 < c - v x.1 by grind)
        grind
      · exact a2 (by grind) x hx
  obtain ⟨_, k⟩ := key ws fun w hw => hw
  have := Rat.mul_le_mul_of_nonneg_right su (Rat.le_of_lt c0)
  exact k (by grind)
inductive Nr (mk : Nat → Prop) (ws : Nat → Ways) : Nat → Prop
  | base {k : Nat} : mk k → Nr mk ws k
  | step {k : Nat} {w : Nat × (Int × Int)} : w ∈ ws k → Nr mk ws w.1 → Nr mk ws k
structure Chn (n : Nat) (ws : Nat → Ways) : Prop where
  ok : ∀ k, k < n → ∃ s, WaysOk n s (ws k)
  pos : ∀ k, k < n → ∀ w, w ∈ ws k → 0 < rv w.2
theorem Chn.lt {n : Nat} {ws : Nat → Ways} (C : Chn n ws) {k : Nat} (hk : k < n) {w : Nat × (Int × Int)} (hw : w ∈ ws k) : w.1 < n := by
  obtain ⟨s, h⟩ := C.ok k hk
  exact h.rm w hw
structure IsCh (n : Nat) (mk : Nat → Prop) (ws : Nat → Ways) (h : Nat → Rat) : Prop where
  m1 : ∀ k, k < n → mk k → h k = 1
  m0 : ∀ k, k < n → ¬ Nr mk ws k → h k = 0
  mp : ∀ k, k < n → ¬ mk k → Nr mk ws k → h k = pm (ws k) h
section
variable {n : Nat} {mk : Nat → Prop} {ws : Nat → Ways} (C : Chn n ws)
include C
theorem Chn.top {d : Nat → Rat} {c : Rat} (c0 : 0 < c) (le : ∀ k, k < n → d k ≤ c) {k : Nat} (hk : k < n) (e : d k = c) (h : d k ≤ pm (ws k) d) : ∀ w, w ∈ ws k → d w.1 = c := by
  obtain ⟨s, ok⟩ := C.ok k hk
  exact pm_max ok (C.pos k hk) c0 le (by rw [← e]; exact h)
theorem Chn.near_lt {d : Nat → Rat} {c : Rat} (c0 : 0 < c) (le : ∀ k, k < n → d k ≤ c) (h1 : ∀ k, k < n → mk k → d k < c) (h2 : ∀ k, k < n → ¬ mk k → d k < c ∨ d k ≤ pm (ws k) d) {k : Nat} (nr : Nr mk ws k) : k < n → d k < c := by
  induction nr with
  | base m => exact fun hk => h1 _ hk m
  | step hw _ ih =>
    rename_i k w _
    intro hk
    by_cases m : mk k
    · exact h1 k hk m
    · rcases h2 k hk m with a | a
      · exact a
      · refine Classical.byContradiction fun no => ?_
        have l := le k hk
        have t := C.top c0 le hk (by grind) a w hw
        have := ih (C.lt hk hw)
        rw [t] at this
        exact absurd this Rat.lt_irrefl
omit C in
theorem max_pos {d : Nat → Rat} (no : ¬ ∀ k, k < n → d k ≤ 0) : ∃ c, 0 < c ∧ (∀ k, k < n → d k ≤ c) ∧ ∃ k, k < n ∧ d k = c := by
  have ex : ∃ k, k < n ∧ ¬ d k ≤ 0 := by
    refine Classical.byContradiction fun h => no fun k hk => ?_
    exact Classical.byContradiction fun q => h ⟨k, hk, q⟩
  obtain ⟨k, hk, dk⟩ := ex
  obtain ⟨m, hm, mx⟩ := max_at d n (by omega)
  have := mx k hk
  exact ⟨d m, by grind, mx, m, hm, rfl⟩
theorem Nr.not {k : Nat} (h : ¬ Nr mk ws k) : ∀ w, w ∈ ws k → ¬ Nr mk ws w.1 := fun w hw z => h (.step hw z)
variable {h : Nat → Rat} (H : IsCh n mk ws h)
include H
theorem IsCh.all {k : Nat} (hk : k < n) (m : ¬ mk k) : h k = pm (ws k) h := by
  by_cases nr : Nr mk ws k
  · exact H.mp k hk m nr
  · rw [H.m0 k hk nr, pm_zero fun w hw => H.m0 w.1 (C.lt hk hw) (Nr.not C nr w hw)]
omit H in
theorem Chn.inj {u : Nat → Rat} (h1 : ∀ k, k < n → mk k → u k = 0) (h0 : ∀ k, k < n → ¬ Nr mk ws k → u k = 0) (hp : ∀ k, k < n → ¬ mk k → Nr mk ws k → u k = pm (ws k) u) : ∀ k, k < n → u k = 0 := by
  have one : ∀ v : Nat → Rat, (∀ k, k < n → mk k → v k = 0) → (∀ k, k < n → ¬ Nr mk ws k → v k = 0) → (∀ k, k < n → ¬ mk k → Nr mk ws k → v k = pm (ws k) v) → ∀ k, k < n → v k ≤ 0 := fun v h1 h0 hp => by
    refine Classical.byContradiction fun no => ?_
    obtain ⟨c, c0, le, k, hk, e⟩ := max_pos (n := n) (d := v) no
    by_cases nr : Nr mk ws k
    · have := C.near_lt (d := v) c0 le (fun j hj m => by rw [h1 j hj m]; exact c0) (fun j hj m => by
        by_cases q : Nr mk ws j
        · exact .inr (r_eq_le (hp j hj m q))
        · exact .inl (by rw [h0 j hj q]; exact c0)) nr hk
      rw [e] at this
      exact absurd this Rat.lt_irrefl
    · rw [h0 k hk nr] at e
      grind
  intro k hk
  have a := one u h1 h0 hp k hk
  have b := one (fun j => -(u j)) (fun j hj m => by rw [h1 j hj m]; grind) (fun j hj m => by rw [h0 j hj m]; grind) (fun j hj m q => by rw [pm_neg, ← hp j hj m q]) k hk
  grind
theorem IsCh.uniq {g : Nat → Rat} (G : IsCh n mk ws g) : ∀ k, k < n → h k = g k := fun k hk => by
  have := C.inj (mk := mk) (u := fun j => h j - g j) (fun j hj m => by rw [H.m1 j hj m, G.m1 j hj m]; grind) (fun j hj m => by rw [H.m0 j hj m, G.m0 j hj m]; grind) (fun j hj m q => by
    rw [pm_sub, ← H.mp j hj m q, ← G.mp j hj m q]) k hk
  have this : h k - g k = 0 := this
  grind
end

section
variable {n : Nat} {mk : Nat → Prop} {ws ws' : Nat → Ways} (C : Chn n ws) (C' : Chn n ws') {h h' : Nat → Rat} (H : IsCh n mk ws h) (H' : IsCh n mk ws' h')
include C C' H H'
end
end P
namespace P
open PySem PySem.Spec PyProof.Rows L2
section
variable {X : Fx} {K : PySem.W.Frag} {B B' : Addr → Prop} {H0 H H' : Hp} {Hf : Bg} {σ σ' : L2.St} {ρ ρ' : Env} {τ τ' : List T} {o o' : Own} {v w : V} {d e : D} {ta tb tc : TE} {fa fb fc : FE}
def zipD3 (ds es us : List D) : List D := (ds.zip (es.zip us)).map fun p => .tup [p.1, p.2.1, p.2.2]
def iZ3 (fa fb fc : FE) : FI := fun ρ => (fa ρ).bind fun a ρ1 => (fb ρ1).bind fun b ρ2 => (fc ρ2).bind fun c ρ3 => match lstD a, lstD b, lstD c with
  | some ds, some es, some us => some (.val (zipD3 ds es us) ρ3)
  | _, _, _ => none
theorem iZ3_ap (fa fb fc : FE) (ρ : Env) : iZ3 fa fb fc ρ = (fa ρ).bind fun a ρ1 => (fb ρ1).bind fun b ρ2 => (fc ρ2).bind fun c ρ3 => match lstD a, lstD b, lstD c with
  | some ds, some es, some us => some (.val (zipD3 ds es us) ρ3)
  | _, _, _ => none := rfl
end
end P
namespace P
open PySem L2

section
variable {X : Cx} {K : PySem.W.Frag}
end
def gInD (neg : Bool) (d e : D) : Option D := match e with
  | .lst ds => if (okP.okPs 8 ds && okP 8 d) = true then some (.bl (if neg then !ds.any (fun z => eqD z d) else ds.any (fun z => eqD z d))) else none
  | _ => none
section
variable {X : Fx}
end
end P
namespace P
open PySem L2

abbrev RunM := List (Nat × D) → Option Out
def entryM (as : List (Nat × D)) (n : Nat) : Env := as.map (fun a => .ow a.1 a.2) ++ List.replicate n .no
def runM (m n : Nat) (f : FS) : RunM := fun as => if as.length = m then (match f (entryM as n) with
  | some (.nxt _) => some (.ret 0 .non)
  | some (.ret k d) => some (.ret k d)
  | some (.exc x w) => some (.exc x w)
  | _ => none) else none
def spM (K : PySem.W.Frag) (run : RunM) : Sp := fun vs H Q E => ∃ (B : Addr → Prop) (H0 : Hp) (o : Own) (as : List (Nat × D)) (r : Out),
  (∀ a, B a → Mu H0 a) ∧ Same H0 H ∧ (∀ a p, o a = some p → H0 a = none ∧ Mu H a) ∧ vs.length = as.length ∧
  (∀ i k d, as[i]? = some (k, d) → ∃ v, vs[i]? = some v ∧ RO K H (Av B o) o (.sl i) [] k v d) ∧ run as = some r ∧ WtO K B H0 Q E r
theorem entryM_get {as : List (Nat × D)} {n i : Nat} {x : Sl} (h : (entryM as n)[i]? = some x) : x = .no ∨ ∃ a, as[i]? = some a ∧ x = .ow a.1 a.2 := by
  unfold entryM at h
  by_cases hi : i < as.length
  · rw [List.getElem?_append_left (by rw [List.length_map]; exact hi), List.getElem?_map] at h
    cases e : as[i]? with
    | none => rw [e] at h; cases h
    | some a => rw [e] at h; cases h; exact .inr ⟨a, rfl, rfl⟩
  · rw [List.getElem?_append_right (by rw [List.length_map]; omega), List.getElem?_replicate] at h
    split at h <;> cases h
    exact .inl rfl
theorem entryM_look {as : List (Nat × D)} {n i k : Nat} {d : D} (h : look (entryM as n) i = some (k, d)) : as[i]? = some (k, d) := by
  unfold look at h
  cases e : (entryM as n)[i]? with
  | none => rw [e] at h; cases h
  | some s =>
    rw [e] at h
    rcases entryM_get e with rfl | ⟨a, ha, rfl⟩
    · cases h
    · cases h; exact ha
section
variable {P : Program} {w : World} {K : PySem.W.Frag} {mg : Str → Option Value} {base : Heap}
theorem def_okM {x qual : Str} {st : Stmt} {f : Addr} {fd : FuncData} {N ps : List Str} {k m n : Nat} {fs : FS} (Fn : Fun K x qual st f fd) (S : FnScope N ps (defScope st)) (hm : ps.length = m) (hn : N.length = m + n)
    (hbody : ∀ (cdv : Value) (A : Around) (outer : List PySem.Env) (s : Shared) (H : Hp) (E : XK), Room k (A.deeper (PyProof.Rows.envOfC qual (defScope st) s.heap.objs.size f cdv)) →
      ∃ t, PSs (cxOf (L2.CX P w) P w K mg base N qual (defScope st) f cdv A outer s H E) (defBody st) t ∧ ∀ X : Fx, X.K = K → X.E = E → SS X t fs) : FnOk P w K mg base (L2.CX P w) (k + 1) f fd ps (spM K (runM m n fs)) := by
  refine Fn.okX S (fun vs H Q E h => ?_) (fun cdv A outer s H vs Q E hr h => ?_)
  · obtain ⟨B, H0, o, as, r, _, _, _, hl, _, hrun, _⟩ := h
    unfold runM at hrun
    split at hrun
    · rename_i hm'
      rw [hl, hm', hm]
    · cases hrun
  · obtain ⟨B, H0, o, as, r, hB, sm, ow, hl, ha, hrun, q⟩ := h
    obtain ⟨t, ht, hw⟩ := hbody cdv A outer s H E hr
    refine ⟨t, ht, ?_⟩
    unfold runM at hrun
    split at hrun
    · rename_i hm'
      have I : Ok K B H0 ⟨H0, [], fun _ => .non⟩ (L2.start N vs) (entryM as n) [] H o := by
        refine ⟨?_, hB, sm, ⟨sm, fun p hp => nomatch hp⟩, ow, fun i k d h => ?_, fun i x h hf => ?_, trivial⟩
        · unfold L2.start entryM
          rw [List.length_append, List.length_map, List.length_replicate, List.length_append, List.length_map, List.length_replicate]
          omega
        · obtain ⟨v, e1, e2⟩ := ha i k d (entryM_look h)
          exact ⟨v, start_get e1, e2⟩
        · rcases entryM_get h with rfl | ⟨a, _, rfl⟩ <;> cases hf
      cases ef : fs (entryM as n) with
      | none => rw [ef] at hrun; cases hrun
      | some fl =>
        rw [ef] at hrun
        refine hw ⟨K, B, H0, ⟨H0, [], fun _ => .non⟩, E⟩ rfl rfl _ fl ef _ [] H _ rfl (fun t ht => nomatch ht) I _ ?_
        cases fl with
        | nxt ρ =>
          cases hrun
          intro σ H' o I
          have I1 := I.scal (d := .non) rfl
          obtain ⟨o2, I2⟩ := I1.top.res (X := ⟨K, B, H0, ⟨H0, [], fun _ => .non⟩, E⟩) I1.pop
          exact q _ H' o2 I2
        | ret k d => cases hrun; exact q
        | exc x w => cases hrun; exact q
        | brk ρ => cases hrun
        | cnt ρ => cases hrun
    · cases hrun
end
structure GdM (P : Program) (w : World) (K : PySem.W.Frag) (mg : Str → Option Value) (base : Heap) (x : Str) (k : Nat) (ps : List Str) (run : RunM) : Prop where
  ex : ∃ f fd, FnOk P w K mg base (L2.CX P w) k f fd ps (spM K run) ∧ mg x = some (.ref f) ∧ PySem.W.keepIn K (.ref f) = true ∧ Binds K fd ps []
section
variable {X : Cx} {e : Expr} {es : List Expr} {t : TA} {x : Str} {p p2 pos pos2 : Pos} {k j kk : Nat} {ps : List Str} {run : RunM} {E : XK} {K : PySem.W.Frag}
theorem pe_gdM (tk : Takes X (fun cls d _ H => E cls d H)) (G : GdM X.prog X.w X.K X.mg X.base x k ps run) (hr : Room kk X.A) (hj : k ≤ kk) (hg : Gl X x) (ha : PA X (e :: es) t) (hdb : (x == ("__debug__" : Str)) = false := by decide) (he : starEach (e :: es) X.env = (false, eval e X.env) :: starEach es X.env := by rfl) (hpl : (backTo pos (starEach es X.env)).any (·.1) = false := by rfl) :
    PE X (.Call (.Name x p) (e :: es) [] pos) (tCall (spM X.K run) [] E t) := by
  obtain ⟨f, fd, h1, h2, h3, h4⟩ := G.ex
  exact pe_call h1 (hr.mono hj) hg h2 h3 h4 .nil (passes_call tk fun _ _ _ _ h => h) ha hdb he hpl
end
section
variable {X : Fx} {K : PySem.W.Frag} {B B' : Addr → Prop} {H0 H H' : Hp} {Hf : Bg} {σ σ' : St} {ρ ρ' : Env} {τ τ' : List T} {o o' : Own} {v : V} {d : D} {ta tb tc te : TE} {fa fb fc fe : FE} {tt tu : TT} {ft fu : FT} {ts : TA} {fs : FA} {a b : Kx} {k : Nat} {t : TS} {f : FS}
def SEn (X : Fx) (te : TE) (f : FE) : Prop := ∀ ρ r, f ρ = some r → ∀ σ τ H o, X.Hf.hp = X.H0 → noBw τ → OkX X σ ρ τ H o → ∀ Q : VK,
  (match r with
  | .val a ρ' => ∀ v H' o', OkX X σ ρ' (tmp v a :: τ) H' o' → Q v H'
  | .exc x w => XW X x w) → te σ H Q
theorem SE.n (h : SE X te fe) : SEn X te fe := fun ρ r e σ τ H o _ _ I Q q => h ρ r e σ τ H o I Q q
theorem SEn.toF (h : SEn X te fe) {g : Kx → Env → Option Fl} {z : Fl} (e : (fe ρ).toF g = some z) (hf : X.Hf.hp = X.H0) (nb : noBw τ) (I : OkX X σ ρ τ H o) {D : Ends} (hz : En X τ' D z) {P : VK}
    (q : ∀ a ρ' v H' o', g a ρ' = some z → OkX X σ ρ' (tmp v a :: τ) H' o' → P v H') : te σ H P := by
  rcases R.toF_some e with ⟨x, w, e1, rfl⟩ | ⟨a, ρ', e1, e2⟩
  · exact h ρ _ e1 σ τ H o hf nb I P hz
  · exact h ρ _ e1 σ τ H o hf nb I P fun v H' o' J => q a ρ' v H' o' e2 J
theorem ss_asgM {js : List Nat} {g : TG} {fg : FG} (he : SEn X te fe) (hg : SG X js g fg) : SS X (tAsg te g) (sAsg fe fg) := fun ρ fl h σ τ H o h0f nb I D q => by
  refine he.toF h h0f nb I q fun a ρ1 v H1 o1 h1 I1 => ?_
  cases e : fg a ρ1 with
  | none => rw [e] at h1; cases h1
  | some ρ2 =>
    rw [e] at h1
    cases h1
    exact hg a ρ1 ρ2 e σ τ H1 o1 v I1 _ fun σ' H' o' I' _ => q σ' H' o' I'
def tops (o : Own) (n : Nat) : Addr → Prop := fun a => ∃ j q, n ≤ j ∧ o a = some (.tm j, q)
theorem tops_gTop {n : Nat} {a : Addr} {z : Root × List Nat} (h : ob o (gTop n) a = some z) : ¬ tops o n a := fun ⟨j, q, hj, e⟩ => by
  obtain ⟨y, e1, e2⟩ := ob_some h
  rw [e] at e1
  cases e1
  have e2 : (if n ≤ j then none else some (Root.tm j, q)) = some z := e2
  rw [if_pos hj] at e2
  cases e2
theorem Ok.shed (hf : Hf.hp = H0) (nb : noBw τ) (I : Ok K B H0 Hf σ ρ (τ' ++ τ) H o) : Ok K B H0 Hf σ ρ τ (del H (tops o τ.length)) (ob o (gTop τ.length)) := by
  have mu : ∀ a, tops o τ.length a → Mu H a := fun a ⟨j, q, _, e⟩ => (I.ow a _ e).2
  have ki : KeepI H (del H (tops o τ.length)) := keep_mu mu
  have sm : Same H0 (del H (tops o τ.length)) := fun a u h => del_some.mpr ⟨(fun ⟨j, q, _, e⟩ => by
    have := (I.ow a _ e).1
    rw [h] at this
    cases this), I.sm a u h⟩
  have st : Same (del H (Av B o)) (del (del H (tops o τ.length)) (Av B (ob o (gTop τ.length)))) := fun a u h => by
    obtain ⟨n, e⟩ := del_some.mp h
    exact del_some.mpr ⟨fun z => n (av_ob z), del_some.mpr ⟨fun ⟨j, q, _, z⟩ => n (.inr ⟨_, z⟩), e⟩⟩
  have tr : ∀ r : Root, (∀ j, τ.length ≤ j → r ≠ .tm j) → ∀ {k : Nat} {v : V} {d : D}, RO K H (Av B o) o r [] k v d → RO K (del H (tops o τ.length)) (Av B (ob o (gTop τ.length))) (ob o (gTop τ.length)) r [] k v d := fun r hr k v d h => by
    have T : Tr K H (del H (tops o τ.length)) (Av B o) (Av B (ob o (gTop τ.length))) o (ob o (gTop τ.length)) r [] r [] := ⟨st, ki, fun a q h => by
      have hg : gTop τ.length (r, [] ++ q) = some (r, [] ++ q) := by
        cases r with
        | sl i => rfl
        | tm j =>
          show (if τ.length ≤ j then none else some (Root.tm j, [] ++ q)) = _
          rw [if_neg fun z => hr j z rfl]
      refine ⟨by unfold ob; rw [h]; exact hg, fun u e => del_some.mpr ⟨fun ⟨j, q', hj, z⟩ => ?_, e⟩⟩
      rw [h] at z
      injection z with z
      injection z with z _
      exact hr j hj z⟩
    have z := RO.tr (q := []) T (by simp) h
    simpa using z
  refine ⟨I.len, I.bs, sm, I.fl.tr (hf ▸ sm) ki st, fun a p h => ?_, fun i k d h => ?_, I.ms, ?_⟩
  · obtain ⟨y, e1, e2⟩ := ob_some h
    obtain ⟨u, e3, e4⟩ := (I.ow a y e1).2
    exact ⟨(I.ow a y e1).1, u, del_some.mpr ⟨tops_gTop h, e3⟩, e4⟩
  · obtain ⟨v, e1, e2⟩ := I.sl i k d h
    exact ⟨v, e1, tr (.sl i) (fun j _ z => nomatch z) e2⟩
  · have J := I.tp.drop
    have key : ∀ (τ1 : List T), τ1.length ≤ τ.length → noBw τ1 → TOk K H B o τ1 → TOk K (del H (tops o τ.length)) B (ob o (gTop τ.length)) τ1 := fun τ1 => by
      induction τ1 with
      | nil => intro _ _ _; trivial
      | cons t τ1 ih =>
        intro hl nb h
        refine ⟨?_, ih (Nat.le_of_succ_le hl) (fun t ht => nb t (List.mem_cons_of_mem _ ht)) h.2⟩
        obtain ⟨v, kd, d⟩ := t
        obtain ⟨k, e⟩ := nb _ (List.mem_cons_self ..)
        have e : kd = .ow k := e
        subst e
        exact tr (.tm τ1.length) (fun j hj z => by cases z; exact absurd hl (by rw [List.length_cons]; omega)) h.1
    exact key τ (Nat.le_refl _) nb J
def movs : List Kx → Option (List (Nat × D))
  | [] => some []
  | (.ow k, d) :: as => (movs as).map ((k, d) :: ·)
  | (.bw, d) :: as => if flat d = true then (movs as).map ((0, d) :: ·) else none
theorem movs_len : ∀ {as : List Kx} {ks : List (Nat × D)}, movs as = some ks → ks.length = as.length
  | [], _, h => by cases h; rfl
  | (.ow k, d) :: as, ks, h => by
    have h : (movs as).map ((k, d) :: ·) = some ks := h
    cases e : movs as with
    | none => rw [e] at h; cases h
    | some x => rw [e] at h; cases h; exact congrArg (· + 1) (movs_len e)
  | (.bw, d) :: as, ks, h => by
    have h : (if flat d = true then (movs as).map ((0, d) :: ·) else none) = some ks := h
    split at h
    · cases e : movs as with
      | none => rw [e] at h; cases h
      | some x => rw [e] at h; cases h; exact congrArg (· + 1) (movs_len e)
    · cases h
theorem movs_get : ∀ {as : List Kx} {ks : List (Nat × D)} {i k : Nat} {d : D}, movs as = some ks → ks[i]? = some (k, d) → as[i]? = some (.ow k, d) ∨ (as[i]? = some (.bw, d) ∧ k = 0 ∧ flat d = true)
  | [], _, i, k, d, h, hi => by cases h; cases hi
  | (.ow k', d') :: as, ks, i, k, d, h, hi => by
    have h : (movs as).map ((k', d') :: ·) = some ks := h
    cases e : movs as with
    | none => rw [e] at h; cases h
    | some x =>
      rw [e] at h
      cases h
      cases i with
      | zero => cases hi; exact .inl rfl
      | succ i => exact movs_get (i := i) e hi
  | (.bw, d') :: as, ks, i, k, d, h, hi => by
    have h : (if flat d' = true then (movs as).map ((0, d') :: ·) else none) = some ks := h
    split at h
    · rename_i hf
      cases e : movs as with
      | none => rw [e] at h; cases h
      | some x =>
        rw [e] at h
        cases h
        cases i with
        | zero => cases hi; exact .inr ⟨rfl, rfl, hf⟩
        | succ i => exact movs_get (i := i) e hi
    · cases h
theorem tops_get : ∀ {as : List Kx} {vs : List V} {τ1 : List T} {i : Nat} {a : Kx}, vs.length = as.length → TOk K H B o ((vs.zipWith tmp as).reverse ++ τ1) → as[i]? = some a → ∃ v, vs[i]? = some v ∧ TmOk K H B o (τ1.length + i) (tmp v a)
  | [], _, _, _, _, _, _, h => by cases h
  | a :: as, [], _, _, _, l, _, _ => by cases l
  | a :: as, v :: vs, τ1, i, b, l, I, h => by
    rw [List.zipWith_cons_cons, List.reverse_cons, List.append_assoc] at I
    cases i with
    | zero => cases h; exact ⟨v, rfl, I.drop.1⟩
    | succ i =>
      obtain ⟨w, e1, e2⟩ := tops_get (i := i) (τ1 := tmp v a :: τ1) (Nat.succ.inj l) I h
      refine ⟨w, e1, ?_⟩
      rw [List.length_cons, show ∀ n m : Nat, n + 1 + m = n + (m + 1) from fun n m => by omega] at e2
      exact e2
def eCallM (run : RunM) (fs : FA) : FE := fun ρ => (fs ρ).bind fun as ρ1 => match movs as with
  | none => none
  | some ks => match run ks with
    | none => none
    | some (.ret k d) => some (.val (.ow k, d) ρ1)
    | some (.exc x w) => some (.exc x w)
theorem sn_callM {run : RunM} (hs : SA X ts fs) : SEn X (tCall (spM X.K run) [] X.E ts) (eCallM run fs) := fun ρ z h σ τ H o hf nb I Q q => by
  have hx : ∀ x w, z = .exc x w → XW X x w := fun x w e => by subst e; exact q
  refine hs.bindG h I hx fun as ρ1 vs H1 o1 h1 l I1 => ?_
  cases em : movs as with
  | none => rw [em] at h1; cases h1
  | some ks =>
    rw [em] at h1
    have I2 := Ok.shed hf nb I1
    let oA : Own := fun a => match o1 a with
      | some (.tm j, s) => if τ.length ≤ j then some (.sl (j - τ.length), s) else none
      | _ => none
    have hA : ∀ a p, oA a = some p → tops o1 τ.length a := fun a p h => by
      have h : (match o1 a with
        | some (.tm j, s) => if τ.length ≤ j then some (Root.sl (j - τ.length), s) else none
        | _ => none) = some p := h
      cases e : o1 a with
      | none => rw [e] at h; cases h
      | some y =>
        rw [e] at h
        obtain ⟨r, s⟩ := y
        cases r with
        | sl i => cases h
        | tm j =>
          have h : (if τ.length ≤ j then some (Root.sl (j - τ.length), s) else none) = some p := h
          split at h
          · rename_i hj
            exact ⟨j, s, hj, e⟩
          · cases h
    have hA2 : ∀ a i s, o1 a = some (.tm (τ.length + i), s) → oA a = some (.sl i, s) := fun a i s h => by
      show (match o1 a with
        | some (.tm j, s) => if τ.length ≤ j then some (Root.sl (j - τ.length), s) else none
        | _ => none) = _
      rw [h]
      show (if τ.length ≤ τ.length + i then some (Root.sl (τ.length + i - τ.length), s) else none) = _
      rw [if_pos (Nat.le_add_right ..), Nat.add_sub_cancel_left]
    have sub : ∀ a, Av (Av X.B (ob o1 (gTop τ.length))) oA a → Av X.B o1 a := fun a h => by
      rcases h with h | ⟨p, h⟩
      · exact av_ob h
      · obtain ⟨j, s, _, e⟩ := hA a p h
        exact .inr ⟨_, e⟩
    have args : ∀ i k d, ks[i]? = some (k, d) → ∃ v, vs[i]? = some v ∧ RO X.K H1 (Av (Av X.B (ob o1 (gTop τ.length))) oA) oA (.sl i) [] k v d := fun i k d hi => by
      rcases movs_get em hi with e | ⟨e, rfl, fl⟩
      · obtain ⟨v, e1, e2⟩ := tops_get l I1.tp e
        have e2 : RO X.K H1 (Av X.B o1) o1 (.tm (τ.length + i)) [] k v d := e2
        have T : Tr X.K H1 H1 (Av X.B o1) (Av (Av X.B (ob o1 (gTop τ.length))) oA) o1 oA (.tm (τ.length + i)) [] (.sl i) [] := ⟨del_sub sub, fun a u h _ => h, fun a q h => ⟨hA2 a i _ h, fun u e => e⟩⟩
        have z := RO.tr (q := []) T (by simp) e2
        exact ⟨v, e1, by simpa using z⟩
      · obtain ⟨v, e1, e2⟩ := tops_get l I1.tp e
        have e2 : Rep X.K H1 v d := e2
        exact ⟨v, e1, .st ((Rep.flat (keep_av I1) e2 fl).mono (del_sub sub))⟩
    have pre : ∀ r, run ks = some r → WtO X.K (Av X.B (ob o1 (gTop τ.length))) (del H1 (tops o1 τ.length)) Q X.E r → tCall (spM X.K run) [] X.E (fun _ H P => P vs H) σ H1 Q := fun r e w => by
      exact ⟨_, _, oA, ks, r, fun a ha => I2.mu ha, del_same _ _, fun a p h => ⟨by
        have z := hA a p h
        cases e : del H1 (tops o1 τ.length) a with
        | none => rfl
        | some u => exact absurd z (del_some.mp e).1, by
        obtain ⟨j, s, _, e⟩ := hA a p h
        exact (I1.ow a _ e).2⟩, by rw [List.append_nil, l, movs_len em], by rw [List.append_nil]; exact args, e, w⟩
    cases er : run ks with
    | none =>
      have h1 : (match run ks with
        | none => none
        | some (.ret k d) => some (Rs.val (Kv.ow k, d) ρ1)
        | some (.exc x w) => some (.exc x w)) = some z := h1
      rw [er] at h1
      cases h1
    | some out =>
      have h1 : (match run ks with
        | none => none
        | some (.ret k d) => some (Rs.val (Kv.ow k, d) ρ1)
        | some (.exc x w) => some (.exc x w)) = some z := h1
      rw [er] at h1
      cases out with
      | ret k d =>
        cases h1
        exact pre _ er fun v H' o3 J => by
          obtain ⟨o4, I4⟩ := I2.join J
          exact q v H' o4 I4
      | exc x w =>
        cases h1
        exact pre _ er (XW.imp (q : XW ⟨X.K, X.B, X.H0, X.Hf, X.E⟩ x w) I2.sm fun a ha => .inl ha)
theorem eCallM_ap (run : RunM) (fs : FA) (ρ : Env) : eCallM run fs ρ = (fs ρ).bind fun as ρ1 => match movs as with
  | none => none
  | some ks => match run ks with
    | none => none
    | some (.ret k d) => some (.val (.ow k, d) ρ1)
    | some (.exc x w) => some (.exc x w) := rfl
end
end P
namespace P
open PySem L2
section
variable {X : Fx} {K : PySem.W.Frag} {B : Addr → Prop} {H0 : Hp} {Hf : Bg} {σ : St} {ρ ρ1 : Env} {τ τ1 : List T} {H H0' : Hp} {o o0 : Own} {t : TS} {fb : FS}
end
section
variable {X : Fx} {σ : St} {ρ : Env} {τ τ1 : List T} {H H0' : Hp} {o : Own} {t : TS} {fb : FS} {te te2 : TE} {fe fe2 : FE}
end
end P
namespace P
open PySem L2
section
variable {X : Fx} {te ta tb : TE} {fe fa fb : FE}
noncomputable def eRgL (fe : FE) : FE := fun ρ => (fe ρ).bind fun a ρ1 => match a.2 with
  | .int n => chk (0 ≤ n ∧ n ≤ 16777216) (some (.val (.ow 1, .lst (rangeD 0 n.toNat)) ρ1)) | _ => none
theorem eRgL_ap (fe : FE) (ρ : Env) : eRgL fe ρ = (fe ρ).bind fun a ρ1 => match a.2 with
  | .int n => chk (0 ≤ n ∧ n ≤ 16777216) (some (.val (.ow 1, .lst (rangeD 0 n.toNat)) ρ1)) | _ => none := rfl
end
end P
namespace P
open PySem L2
section
variable {X : Cx}
end
def isT1 : D → Bool
  | .tup (_ :: _) => true | _ => false
def leD (d e : D) : Bool := !PySem.W.dataLt (toP e) (toP d)
def sortD (ds : List D) : List D := ds.mergeSort leD
def sortOk (ds : List D) : Bool := okP.okPs 8 ds && (ds.all (fun d => ds.all fun e => PySem.W.alike (toP d) (toP e)) && ds.all isT1)
def gSortD : List Kx → Option Kx := fun as => match as with
  | [a] => match lstOf a.2 with
    | some ds => if sortOk ds = true then (if itemsOk a ds = true then some (.ow 1, .lst (sortD ds)) else some (.bw, .lst (sortD ds))) else none
    | none => none
  | _ => none
section
variable {X : Fx}
end
end P
namespace P
open PySem L2 PyProof.Rows
mutual
theorem Reads.there {h : Heap} : ∀ {v : Value} {d : PyData} {as : List Addr}, Reads h v d as → ∀ b ∈ as, b < h.objs.size
  | _, _, _, .none, b, hb => nomatch hb
  | _, _, _, .bool _, b, hb => nomatch hb
  | _, _, _, .int _ _, b, hb => nomatch hb
  | _, _, _, .str _ _, b, hb => nomatch hb
  | _, _, _, .list h1 h2 h3 h4, b, hb => by
    rcases List.mem_cons.mp hb with rfl | hb
    · exact Heap.lt_size h1
    · exact ReadsAll.there h4 b hb
  | _, _, _, .tuple h1 h2 h3 h4, b, hb => ReadsAll.there h4 b hb
  | _, _, _, .dict h1 h2 h3 h4 h5, b, hb => by
    rw [List.cons_append] at hb
    rcases List.mem_cons.mp hb with rfl | hb
    · exact Heap.lt_size h1
    · rcases List.mem_append.mp hb with hb | hb
      · exact ReadsAll.there h4 b hb
      · exact ReadsAll.there h5 b hb
theorem ReadsAll.there {h : Heap} : ∀ {vs : List Value} {ds : List PyData} {as : List Addr}, ReadsAll h vs ds as → ∀ b ∈ as, b < h.objs.size
  | _, _, _, .nil, b, hb => nomatch hb
  | _, _, _, .cons h1 h2, b, hb => by
    rcases List.mem_append.mp hb with hb | hb
    · exact Reads.there h1 b hb
    · exact ReadsAll.there h2 b hb
end
section
variable {X : Cx} {e : Expr} {te : TE} {p apos cpos pos : Pos}
end
end P
namespace P
open PySem L2

def leIt (a b : Key × D) : Bool := !PySem.W.dataLt (.tuple [toP (keyD b.1), toP b.2]) (.tuple [toP (keyD a.1), toP a.2])
def sortIt (kds : List (Key × D)) : List (Key × D) := kds.mergeSort leIt
def itOk (kds : List (Key × D)) : Bool := okP.okPs 7 (itemsD kds) && (kds.all (fun a => kds.all fun b => PySem.W.alike (.tuple [toP (keyD a.1), toP a.2]) (.tuple [toP (keyD b.1), toP b.2])) && flats (kds.map (·.2)))
noncomputable def eSrtI (fe : FE) : FE := fun ρ => (fe ρ).bind fun a ρ1 => match a.2 with
  | .dic kds => if itOk kds = true then some (.val (.ow 1, .lst (itemsD (sortIt kds))) ρ1) else none
  | _ => none
theorem eSrtI_ap (fe : FE) (ρ : Env) : eSrtI fe ρ = (fe ρ).bind fun a ρ1 => match a.2 with
  | .dic kds => if itOk kds = true then some (.val (.ow 1, .lst (itemsD (sortIt kds))) ρ1) else none
  | _ => none := rfl
section
variable {X : Fx} {te : TE} {fe : FE}
end
end P
namespace P
open PySem L2

structure Sto {α : Type} (lt : α → α → Bool) : Prop where
  irr : ∀ a, lt a a = false
  tr : ∀ a b c, lt a b = true → lt b c = true → lt a c = true
  tri : ∀ a b, lt a b = false → lt b a = false → a = b
section
variable {α β : Type} [DecidableEq α] [PySem.W.DatumOrd α] [DecidableEq β] [PySem.W.DatumOrd β]
end
section
variable {α : Type} {lt : α → α → Bool}
def srt (lt : α → α → Bool) (l : List α) : List α := l.mergeSort fun a b => !lt b a
def fsts [DecidableEq α] (acc : List α) (x : α) : List α := if x ∈ acc then acc else acc ++ [x]
def uniq [DecidableEq α] (l : List α) : List α := l.foldl fsts []
end

abbrev Crd := (Int × Int) × List (Nat × (Int × Int))
abbrev CrdT := (Int × Int) × List (Int × (Int × Int))
def wT (w : Nat × (Int × Int)) : Int × (Int × Int) := ((w.1 : Int), w.2)
def cT (c : Crd) : CrdT := (c.1, c.2.map wT)
def ltW (a b : Nat × (Int × Int)) : Bool := PySem.W.DatumOrd.lt (wT a) (wT b)
def ltC (a b : Crd) : Bool := PySem.W.DatumOrd.lt (cT a) (cT b)
def wayI (w : Nat × (Int × Int)) : D := .tup [.int (w.1 : Int), fr w.2]
def cardD (p : Int × Int) (ws : List (Nat × (Int × Int))) : D := .tup [fr p, .lst (ws.map wayI)]
def cardV (c : Crd) : D := cardD c.1 c.2
theorem okPs_map {α : Type} {n : Nat} {u : α → D} (h : ∀ a, okP n (u a) = true) : ∀ l : List α, okP.okPs n (l.map u) = true
  | [] => rfl
  | a :: l => by
    show (okP n (u a) && okP.okPs n (l.map u)) = true
    rw [h, okPs_map h l]
    rfl

section
variable {α : Type} [DecidableEq α]
end

def lowW (s : Int) (q : Nat × Int) : Nat × (Int × Int) := (q.1, lowest q.2 s)
def blk (B : List Nat) (q : Nat × Int) : Nat × Int := (B[q.1]?.getD 0, q.2)
def partsC (B : List Nat) (s : Int) (ps : List (Nat × Int)) : List (Nat × (Int × Int)) := srt ltW (((sumG (ps.map (blk B))).filter fun q => decide (q.2 ≠ 0)).map (lowW s))
def crd (B : List Nat) (d : Desc) : Crd := (d.pay, partsC B d.s d.ps)
end P
namespace P
open PySem L2
section
variable {X : Fx} {to tb : TE} {fp : FP} {fb : FE}
noncomputable def eIxP (fp : FP) (fb : FE) : FE := fun ρ => match fp ρ with
  | none => none
  | some (.exc x w) => some (.exc x w)
  | some (.val z ρ1) => (fb ρ1).bind fun b ρ2 => match nodeL ρ2 z.1 z.2, b.2 with
    | some (1, .lst ds), .int n => (atI ds n).map fun f => .val (.ow 0, f) ρ2
    | _, _ => none
theorem eIxP_ap (fp : FP) (fb : FE) (ρ : Env) : eIxP fp fb ρ = match fp ρ with
  | none => none
  | some (.exc x w) => some (.exc x w)
  | some (.val z ρ1) => (fb ρ1).bind fun b ρ2 => match nodeL ρ2 z.1 z.2, b.2 with
    | some (1, .lst ds), .int n => (atI ds n).map fun f => .val (.ow 0, f) ρ2
    | _, _ => none := rfl
end
end P
namespace P
open PySem L2
def addFst (fs : List D) (t : D) : List D := if fs.any (fun z => eqD z t) = true then fs else fs ++ [t]
def ixF (fs : List D) (t : D) : Nat := (fs.findIdx? fun z => eqD z t).getD 0
def nmbD : List D → List D → List Nat
  | _, [] => []
  | fs, t :: ts => ixF (addFst fs t) t :: nmbD (addFst fs t) ts
mutual
theorem alike_okP : ∀ {n : Nat} {d : D}, okP n d = true → PySem.W.alike (toP d) (toP d) = true
  | _, .non, _ => by show PySem.W.alike .none .none = true; simp [PySem.W.alike]
  | _, .bl b, _ => by show PySem.W.alike (.bool b) (.bool b) = true; simp [PySem.W.alike]
  | _, .int b, _ => by show PySem.W.alike (.int b) (.int b) = true; simp [PySem.W.alike]
  | _, .str b, _ => by show PySem.W.alike (.str b) (.str b) = true; simp [PySem.W.alike]
  | n + 1, .lst ds, h => by
    have h : okP.okPs n ds = true := h
    show PySem.W.alike (.list (toPs ds)) (.list (toPs ds)) = true
    simp only [PySem.W.alike]
    exact alike_okPs h
  | n + 1, .tup ds, h => by
    have h : okP.okPs n ds = true := h
    show PySem.W.alike (.tuple (toPs ds)) (.tuple (toPs ds)) = true
    simp only [PySem.W.alike]
    exact alike_okPs h
  | n + 1, .rd ns, _ => by
    show PySem.W.alike (.list (ns.map .int)) (.list (ns.map .int)) = true
    simp only [PySem.W.alike]
    exact PySem.W.alike_ints ns ns
  | 0, .ty _, h => nomatch h
  | n + 1, .ty _, h => nomatch h
  | 0, .cls _, h => nomatch h
  | n + 1, .cls _, h => nomatch h
  | 0, .ins _ _, h => nomatch h
  | n + 1, .ins _ _, h => nomatch h
  | 0, .dic _, h => nomatch h
  | n + 1, .dic _, h => nomatch h
  | 0, .xo _ _, h => nomatch h
  | n + 1, .xo _ _, h => nomatch h
  | 0, .lst _, h => nomatch h
  | 0, .tup _, h => nomatch h
  | 0, .rd _, h => nomatch h
theorem alike_okPs : ∀ {n : Nat} {ds : List D}, okP.okPs n ds = true → PySem.W.alikeAll (toPs ds) (toPs ds) = true
  | _, [], _ => by show PySem.W.alikeAll [] [] = true; simp [PySem.W.alikeAll]
  | n, d :: ds, h => by
    have h : (okP n d && okP.okPs n ds) = true := h
    rw [Bool.and_eq_true] at h
    show PySem.W.alikeAll (toP d :: toPs ds) (toP d :: toPs ds) = true
    simp only [PySem.W.alikeAll]
    rw [alike_okP h.1, alike_okPs h.2]
    rfl
end
def onceC (B : List Nat) (ds : List Desc) : List Crd := uniq (ds.map (crd B))
def thing (B : List Nat) (k : Nat) (ds : List Desc) : Nat × List Crd := (B[k]?.getD 0, srt ltC (onceC B ds))
def thingD (t : Nat × List Crd) : D := .tup [.int (t.1 : Int), .lst (t.2.map cardV)]
def things (B : List Nat) (L : List (List Desc)) : List (Nat × List Crd) := (List.range L.length).map fun k => thing B k (L[k]?.getD [])
def nextB (B : List Nat) (L : List (List Desc)) : List Nat := nmbD [] ((things B L).map thingD)

section
variable {α : Type} [DecidableEq α]
def blocksOf (xs : List α) : List Nat := xs.map fun x => (uniq xs).idxOf x
section
variable {u : α → D} (hu : ∀ a b, eqD (u a) (u b) = decide (a = b))
include hu
end
end
def IsBl (B : List Nat) : Prop := blocksOf B = B

structure SplitsOk (L : List (List Desc)) (B : List Nat) (Bs : List (List Nat)) : Prop where
  fst : Bs[0]? = some B
  ln : ∀ b, b ∈ Bs → b.length = L.length ∧ IsBl b
  nx : ∀ (k : Nat) b c, Bs[k]? = some b → Bs[k + 1]? = some c → c = nextB b L ∧ c ≠ b
  lst : ∀ b, Bs.getLast? = some b → nextB b L = b
end P
namespace P
open PySem L2
section
variable {X : Fx} {K : PySem.W.Frag} {B : Addr → Prop} {H0 H H' : Hp} {Hf : Bg} {σ σ' : St} {ρ ρ' : Env} {τ τ' : List T} {o o' : Own} {v w : V} {d : D} {k : Nat} {ta tb te : TE} {fa fb fe : FE}
def gItem (n j : Nat) : Root × List Nat → Option (Root × List Nat) := fun z => if z.1 = .tm n then (match z.2 with
  | i :: q => if i = j then some (.tm n, q) else none
  | [] => none) else some z
theorem Ok.item (I : Ok K B H0 Hf σ ρ (⟨v, .ow (k + 2), .lst ds⟩ :: τ) H o) {j : Nat} (hj : ds[j]? = some d) : ∃ a vs w, v = .ref a ∧ H a = some (.lst vs) ∧ vs.length = ds.length ∧ vs[j]? = some w ∧ Ok K B H0 Hf σ ρ (⟨w, .ow (k + 1), d⟩ :: τ) H (ob o (gItem τ.length j)) := by
  have h := I.top
  have h : RO K H (Av B o) o (.tm τ.length) [] (k + 2) v (.lst ds) := h
  cases h with
  | flat hf _ => cases hf
  | lst ha hh hs =>
    rename_i a vs
    have jl := (List.getElem?_eq_some_iff.mp hj).1
    have hl := hs.length
    obtain ⟨w, ev⟩ : ∃ w, vs[j]? = some w := ⟨vs[j]'(by omega), List.getElem?_eq_getElem _⟩
    have ro := hs.gets ev hj
    refine ⟨a, vs, w, rfl, hh, hl, ev, I.remap _ I.len (fun i k' d' h' => ?_) I.ms ⟨?_, TOk.re (fun j' q hj' => if_neg (by intro z; cases z; omega)) I.pop.tp⟩⟩
    · obtain ⟨v', e1, e2⟩ := I.sl i k' d' h'
      exact ⟨v', e1, RO.re (fun q => if_neg (by intro z; cases z)) e2⟩
    · have hg : ∀ q : List Nat, gItem τ.length j (Root.tm τ.length, [j] ++ q) = some (.tm τ.length, [] ++ q) := fun q => by
        show (if Root.tm τ.length = Root.tm τ.length then (if j = j then some (Root.tm τ.length, q) else none) else _) = _
        rw [if_pos rfl, if_pos rfl]
        rfl
      exact RO.re hg ro
noncomputable def eIxO (fa fb : FE) : FE := fun ρ => (fa ρ).bind fun a ρ1 => match a with
  | (.ow (k + 2), .lst ds) => (fb ρ1).bind fun b ρ2 => match b.2 with
    | .int n => match ixN ds.length n with
      | some j => (ds[j]?).map fun d => .val (.ow (k + 1), d) ρ2
      | none => none
    | _ => none
  | _ => none
theorem eIxO_ap (fa fb : FE) (ρ : Env) : eIxO fa fb ρ = (fa ρ).bind fun a ρ1 => match a with
  | (.ow (k + 2), .lst ds) => (fb ρ1).bind fun b ρ2 => match b.2 with
    | .int n => match ixN ds.length n with
      | some j => (ds[j]?).map fun d => .val (.ow (k + 1), d) ρ2
      | none => none
    | _ => none
  | _ => none := rfl

noncomputable def eCut (fe : FE) : FE := fun ρ => (fe ρ).bind fun a ρ1 => match a with
  | (.ow (_ + 1), .ins c gs) => some (.val (.ow 1, .ins c gs) ρ1)
  | _ => none
theorem eCut_ap (fe : FE) (ρ : Env) : eCut fe ρ = (fe ρ).bind fun a ρ1 => match a with
  | (.ow (_ + 1), .ins c gs) => some (.val (.ow 1, .ins c gs) ρ1)
  | _ => none := rfl
end
end P
namespace P
open PySem L2
def firstsGo (B : List Nat) : List Nat → List Nat → List Nat
  | acc, [] => acc
  | acc, k :: ks => firstsGo B (if B[k]? = some acc.length then acc ++ [k] else acc) ks
def firstsF (B : List Nat) : List Nat := firstsGo B [] (List.range B.length)
def firstD {α : Type} [DecidableEq α] (cs : List α) : List Nat := (List.range cs.length).filter fun j => match cs[j]? with
  | some c => decide (c ∉ cs.take j)
  | none => false

structure CrdOk (c : Crd) : Prop where
  py : IsFr c.1
  ws : ∀ w, w ∈ c.2 → IsFr w.2
  ln : c.2.length ≤ 8
end P
namespace P
open PySem L2
section
variable {α : Type} [DecidableEq α]
end

def carD (B : List Nat) (dsf ds : List Desc) (a : Nat) : Nat := (ds.map (crd B)).idxOf (crd B (dsf[(firstD (dsf.map (crd B)))[a]?.getD 0]?.getD ⟨0, (0, 1), [], 1⟩))
def carryF (B : List Nat) (L : List (List Desc)) (Q : List (Option Nat)) : List (Option Nat) := (List.range L.length).map fun i => (Q[B[i]?.getD 0]?.getD none).map fun a => carD B (L[(firstsF B)[B[i]?.getD 0]?.getD 0]?.getD []) (L[i]?.getD []) a
structure CarAt (B : List Nat) (L : List (List Desc)) (Q : List (Option Nat)) (i b f : Nat) (ds dsf : List Desc) : Prop where
  bb : B[i]? = some b
  ff : (firstsF B)[b]? = some f
  hi : L[i]? = some ds
  hf : L[f]? = some dsf
  go : (Q[b]? = some none ∧ (carryF B L Q)[i]? = some none ∧ ds = [] ∧ dsf = []) ∨
    ∃ a j0 d0 d, Q[b]? = some (some a) ∧ a < (firstD (dsf.map (crd B))).length ∧ (firstD (dsf.map (crd B)))[a]? = some j0 ∧ dsf[j0]? = some d0 ∧ (carryF B L Q)[i]? = some (some (carD B dsf ds a)) ∧ ds[carD B dsf ds a]? = some d ∧ crd B d = crd B d0 ∧ carD B dsf ds a = (ds.map (crd B)).idxOf (crd B d0) ∧ crd B d0 ∈ ds.map (crd B)
end P
namespace P
open PySem L2
section
variable {K : PySem.W.Frag} {B : Addr → Prop} {H0 F H H' : Hp} {Hf : Bg} {σ σ' : St} {ρ ρ' : Env} {τ τ' : List T} {o o' : Own} {v : V} {d : D} {k : Nat}
end
section
variable {X : Fx} {σ : St} {ρ : Env} {τ τ1 : List T} {H H0' : Hp} {o : Own} {t : TS} {fb : FS}
end
end P
namespace P
open PySem L2 PyProof.Rows
section
variable {X : Cx} {pins : List (Addr × Obj)}
variable {x1 x2 x3 : Str} {c1 c2 c3 : Value} {suite : List Stmt} {b₀ : Stmt} {px1 px2 px3 pt p1 : Pos} {kk : Nat} {ts : TS} {rest : List ExceptHandler} {th : TH}
end
def hNo3 (is1 is2 is3 : Str → Option Bool) (fs : FS) (rest : FH) : FH := fun x w ρ => match is1 x, is2 x, is3 x with
  | some b1, some b2, some b3 => if (b1 || (b2 || (b3 || false))) = true then fs ρ else rest x w ρ
  | _, _, _ => none
theorem hNo3_ap (is1 is2 is3 : Str → Option Bool) (fs : FS) (rest : FH) (x : Str) (w : Option (Str × D)) (ρ : Env) : hNo3 is1 is2 is3 fs rest x w ρ = match is1 x, is2 x, is3 x with
  | some b1, some b2, some b3 => if (b1 || (b2 || (b3 || false))) = true then fs ρ else rest x w ρ
  | _, _, _ => none := rfl
section
variable {X : Fx} {th : TH} {fh : FH} {ts : TS} {fs : FS} {c1 c2 c3 : Value} {is1 is2 is3 : Str → Option Bool}
end
end P
namespace P
open PySem L2
def rangeD2 (n : Nat) : List D := (List.range ((n + 1) / 2)).map fun i => .int ((2 * i : Nat) : Int)
noncomputable def iR3 (fa fb fc : FE) : FI := fun ρ => (fa ρ).bind fun a ρ1 => (fb ρ1).bind fun b ρ2 => (fc ρ2).bind fun c ρ3 => match a.2, b.2, c.2 with
  | .int m, .int n, .int k => chk (m = 0 ∧ k = 2 ∧ 0 ≤ n ∧ n < 2 ^ 30) (some (.val (rangeD2 n.toNat) ρ3)) | _, _, _ => none
theorem iR3_ap (fa fb fc : FE) (ρ : Env) : iR3 fa fb fc ρ = (fa ρ).bind fun a ρ1 => (fb ρ1).bind fun b ρ2 => (fc ρ2).bind fun c ρ3 => match a.2, b.2, c.2 with
  | .int m, .int n, .int k => chk (m = 0 ∧ k = 2 ∧ 0 ≤ n ∧ n < 2 ^ 30) (some (.val (rangeD2 n.toNat) ρ3)) | _, _, _ => none := rfl
section
variable {X : Fx} {K : PySem.W.Frag} {σ : St} {ρ : Env} {τ : List T} {H : Hp} {o : Own} {ta tb tc : TE} {fa fb fc : FE}
end
end P
namespace P
open PySem L2

end P
namespace P
open PySem L2
def blank : Str := " "
theorem tl_app (a b : Str) : (a ++ b).cps.toList = a.cps.toList ++ b.cps.toList := by rw [Str.cps_append, Array.toList_append]
theorem word_sgn {z : Str} (h : allIn LETT z = true) {c : Nat} (hc : c ∈ z.cps.toList) : 97 ≤ c ∧ c ≤ 122 := by
  have q := of_decide_eq_true (List.all_eq_true.mp h c hc)
  have e : LETT.cps.toList = (List.range 26).map (97 + ·) := by decide +kernel
  rw [e] at q
  obtain ⟨i, hi, rfl⟩ := List.mem_map.mp q
  have := List.mem_range.mp hi
  omega
theorem dec_sgn {i : Int} {c : Nat} (hc : c ∈ (decI i).cps.toList) : c = 45 ∨ (48 ≤ c ∧ c ≤ 57) := by
  have f : ∀ n, c ∈ TL.numL n → 48 ≤ c ∧ c ≤ 57 := fun n h => TL.numL_digits n c h
  cases i with
  | ofNat n => rw [show (decI (Int.ofNat n)).cps.toList = TL.numL n from tl_decn n] at hc; exact .inr (f n hc)
  | negSucc m =>
    rw [show (decI (Int.negSucc m)).cps.toList = 45 :: TL.numL (m + 1) from tl_decneg m] at hc
    rcases List.mem_cons.mp hc with h | h
    · exact .inl h
    · exact .inr (f _ h)
theorem numT_sgn {p : Int × Int} {c : Nat} (hc : c ∈ (numT p).cps.toList) : c = 45 ∨ c = 47 ∨ (48 ≤ c ∧ c ≤ 57) := by
  unfold numT at hc
  split at hc
  · rcases dec_sgn hc with h | h
    · exact .inl h
    · exact .inr (.inr h)
  · rw [tl_app, tl_app, tl_app] at hc
    have e : ("/" : Str).cps.toList = [47] := by decide +kernel
    rw [e] at hc
    rcases List.mem_append.mp hc with hc | hc
    · rcases List.mem_append.mp hc with hc | hc
      · rcases List.mem_append.mp hc with hc | hc
        · exact absurd hc (by show c ∉ ([] : List Nat); simp)
        · rcases dec_sgn hc with h | h
          · exact .inl h
          · exact .inr (.inr h)
      · exact .inr (.inl (List.mem_singleton.mp hc))
    · rcases dec_sgn hc with h | h
      · exact .inl h
      · exact .inr (.inr h)
theorem numT_len {p : Int × Int} (h : Fit6 p) : (numT p).length ≤ 84 := by
  have l1 := dec_len (k := 40) (by decide) h.2.1
  have l2 := dec_len (k := 40) (by decide) h.2.2
  unfold numT
  split
  · omega
  · rw [str_cat, str_cat, str_cat, empty_len, slash_len]
    omega
structure TokW (z : Str) : Prop where
  ln : z.length ≤ 84
  fr : ∀ c, c ∈ z.cps.toList → c ≠ 32 ∧ c ≠ 10
theorem TokW.wd {z : Str} (h : Wd z) : TokW z := ⟨by have := h.2.1; omega, fun c hc => by have := word_sgn h.2.2 hc; omega⟩
theorem TokW.num {p : Int × Int} (h : Fit6 p) : TokW (numT p) := ⟨numT_len h, fun c hc => by have := numT_sgn hc; omega⟩
end P
namespace P
open PySem PySem.Spec PyProof.Rows L2
section
variable {M : Model} {A : Around} {E : Value → Shared → Prop} {s : Shared} {Z : Obj → Prop} {base : Heap} {env : PySem.Env} {outer l : List PySem.Env} {L e : Addr}
end
section
variable {X : Cx}
end
end P
namespace P
open PySem L2
abbrev Er := Str × Option (Str × D)
noncomputable def lcOneX (vs : List Nat) (fg : FG) (ft : FT) (fe : FE) (k : Nat) (ρ : Env) (d : D) : Option (Except Er (Option D)) := match fg (.ow 0, d) ρ with
  | none => none
  | some ρ2 => chk (wipeE ρ2 vs = ρ) (match ft ρ2 with
    | some (.val b ρ3) => chk (ρ3 = ρ2) (if b = true then (match fe ρ2 with
      | some (.val a ρ4) => chk (ρ4 = ρ2) (if okItem k a = true then some (.ok (some a.2)) else none)
      | some (.exc x w) => some (.error (x, w))
      | none => none) else some (.ok none))
    | _ => none)
noncomputable def lcGoX (vs : List Nat) (fg : FG) (ft : FT) (fe : FE) (k : Nat) (ρ : Env) : List D → Option (Except Er (List D))
  | [] => some (.ok [])
  | d :: ds => match lcOneX vs fg ft fe k ρ d with
    | none => none
    | some (.error e) => some (.error e)
    | some (.ok none) => lcGoX vs fg ft fe k ρ ds
    | some (.ok (some a)) => match lcGoX vs fg ft fe k ρ ds with
      | none => none
      | some (.error e) => some (.error e)
      | some (.ok as) => some (.ok (a :: as))
noncomputable def eLcX (k : Nat) (vs : List Nat) (fi : FI) (fg : FG) (ft : FT) (fe : FE) : FE := fun ρ => match fi ρ with
  | none => none
  | some (.exc x w) => some (.exc x w)
  | some (.val ds ρ1) => chk (ds.length ≤ sizeLine) (match lcGoX vs fg ft fe k (wipeE ρ1 vs) ds with
    | none => none
    | some (.error e) => some (.exc e.1 e.2)
    | some (.ok es) => some (.val (.ow (k + 1), .lst es) (wipeE ρ1 vs)))
theorem lcOneX_ap (vs : List Nat) (fg : FG) (ft : FT) (fe : FE) (k : Nat) (ρ : Env) (d : D) : lcOneX vs fg ft fe k ρ d = match fg (.ow 0, d) ρ with
  | none => none
  | some ρ2 => chk (wipeE ρ2 vs = ρ) (match ft ρ2 with
    | some (.val b ρ3) => chk (ρ3 = ρ2) (if b = true then (match fe ρ2 with
      | some (.val a ρ4) => chk (ρ4 = ρ2) (if okItem k a = true then some (.ok (some a.2)) else none)
      | some (.exc x w) => some (.error (x, w))
      | none => none) else some (.ok none))
    | _ => none) := rfl
theorem eLcX_ap (k : Nat) (vs : List Nat) (fi : FI) (fg : FG) (ft : FT) (fe : FE) (ρ : Env) : eLcX k vs fi fg ft fe ρ = match fi ρ with
  | none => none
  | some (.exc x w) => some (.exc x w)
  | some (.val ds ρ1) => chk (ds.length ≤ sizeLine) (match lcGoX vs fg ft fe k (wipeE ρ1 vs) ds with
    | none => none
    | some (.error e) => some (.exc e.1 e.2)
    | some (.ok es) => some (.val (.ow (k + 1), .lst es) (wipeE ρ1 vs))) := rfl
section
variable {vs : List Nat} {fg : FG} {ft : FT} {fe : FE} {k : Nat} {ρ : Env}
end
section
variable {X : Fx} {σ : St} {ρ : Env} {τ : List T} {te : TE} {fe : FE} {tt : TT} {ft : FT} {k : Nat}
end
section
variable {X : Cx} {e : Expr} {es : List Expr} {t : TA} {x : Str} {p p2 pos pos2 : Pos} {k j kk : Nat} {ps : List Str} {run : Run} {E : XK} {K : PySem.W.Frag}
end
section
variable {X : Cx} {e o : Expr} {es : List Expr} {ta : TE} {t : TA} {apos pos : Pos} {k lv : Nat} {E : XK} {m : Str}
end
end P
namespace P
open PySem L2

section
variable {X : Fx} {K : PySem.W.Frag} {B B' : Addr → Prop} {H0 H H' : Hp} {Hf : Bg} {σ σ' : St} {ρ ρ' : Env} {τ τ' : List T} {o o' : Own} {v : V} {d : D} {te : TE} {fe : FE} {k : Nat} {t : TS} {f : FS}
theorem ob_idS (o : Own) : ob o some = o := by
  funext a
  unfold ob
  cases o a <;> rfl
theorem Ok.join' (I : Ok K B H0 Hf σ ρ τ H o) {k : Nat} {o3 : Own} (J : Ok K (Av B o) H ⟨H, [], fun _ => .non⟩ [] [] [⟨v, .ow k, d⟩] H' o3) : ∃ o4, (∀ a z, o a = some z → o4 a = some z) ∧ Ok K B H0 Hf σ ρ (⟨v, .ow k, d⟩ :: τ) H' o4 := by
  have hno : ∀ a z, o3 a = some z → o a = none := fun a z h => I.newNone (J.ow a z h).1
  let o4 : Own := fun a => match o3 a with
    | some (.tm 0, q) => some (.tm τ.length, q)
    | some _ => none
    | none => o a
  have h3 : ∀ a z, o a = some z → o4 a = some z := fun a z h => by
    show (match o3 a with
      | some (.tm 0, q) => some (Root.tm τ.length, q)
      | some _ => none
      | none => o a) = some z
    cases e : o3 a with
    | none => exact h
    | some y => rw [hno a y e] at h; cases h
  have h4 : ∀ a z, o4 a = some z → (∃ y, o3 a = some y) ∨ o a = some z := fun a z h => by
    have h : (match o3 a with
      | some (.tm 0, q) => some (Root.tm τ.length, q)
      | some _ => none
      | none => o a) = some z := h
    cases e : o3 a with
    | none => rw [e] at h; exact .inr h
    | some y => exact .inl ⟨y, rfl⟩
  have st : Same (del H (Av B o)) (del H' (Av B o4)) := fun b u hb => by
    obtain ⟨n, e⟩ := del_some.mp hb
    refine del_some.mpr ⟨fun z => ?_, J.sm b u e⟩
    rcases z with z | ⟨y, z⟩
    · exact n (.inl z)
    · rcases h4 b y z with ⟨w, e3⟩ | e3
      · rw [(J.ow b w e3).1] at e; cases e
      · exact n (.inr ⟨y, e3⟩)
  have tr : ∀ r p, Tr K H H' (Av B o) (Av B o4) o o4 r p r p := fun r p => ⟨st, fun a u h _ => J.sm a u h, fun a q h => ⟨h3 a _ h, fun u e => J.sm a u e⟩⟩
  refine ⟨o4, h3, I.len, I.bs, I.sm.trans J.sm, I.fl.tr (I.fl.1.trans J.sm) (fun a u h _ => J.sm a u h) st, fun a p h => ?_, fun i k d h => ?_, ?_, ?_, ?_⟩
  · rcases h4 a p h with ⟨y, e⟩ | e
    · refine ⟨?_, (J.ow a y e).2⟩
      cases e0 : H0 a with
      | none => rfl
      | some u =>
        have := (J.ow a y e).1
        rw [I.sm _ _ e0] at this
        cases this
    · exact ⟨(I.ow a p e).1, (I.ow a p e).2.mono J.sm⟩
  · obtain ⟨v, e1, e2⟩ := I.sl i k d h
    refine ⟨v, e1, ?_⟩
    have z := RO.tr (q := []) (tr (.sl i) []) (by simp) e2
    simpa using z
  · exact I.ms
  · have T : Tr K H' H' (Av (Av B o) o3) (Av B o4) o3 o4 (.tm 0) [] (.tm τ.length) [] := ⟨del_sub fun a h => by
      rcases h with h | ⟨y, h⟩
      · exact .inl (.inl h)
      · rcases h4 a y h with ⟨w, e⟩ | e
        · exact .inr ⟨w, e⟩
        · exact .inl (.inr ⟨y, e⟩), fun a u h _ => h, fun a q h => ⟨by
      show (match o3 a with
        | some (.tm 0, q) => some (Root.tm τ.length, q)
        | some _ => none
        | none => o a) = _
      rw [h]
      rfl, fun u e => e⟩⟩
    have z : RO K H' (Av B o4) o4 (.tm τ.length) [] k v d := by
      have z := RO.tr (q := []) T (by simp) (show RO K H' (Av (Av B o) o3) o3 (.tm 0) [] k v d from J.tp.1)
      simpa using z
    exact z
  · have key : ∀ {τ : List T}, TOk K H B o τ → TOk K H' B o4 τ := fun {τ} => by
      induction τ with
      | nil => intro _; trivial
      | cons t τ ih =>
        intro h
        refine ⟨?_, ih h.2⟩
        obtain ⟨v, k, d⟩ := t
        have h := h.1
        cases k with
        | ow k =>
          have z : RO K H' (Av B o4) o4 (.tm τ.length) [] k v d := by
            have z := RO.tr (q := []) (tr (.tm τ.length) []) (by simp) (show RO K H (Av B o) o (.tm τ.length) [] k v d from h)
            simpa using z
          exact z
        | bw => exact Rep.mono J.sm h
        | pl w q => exact PathTo.mono J.sm h
    exact key I.tp
theorem Ok.covJ' (I : Ok K B H0 Hf σ ρ τ H o) {σ2 : St} {ρ2 : Env} {me : Nat → V} (J : Ok K (fun _ => False) H ⟨H, [], me⟩ σ2 ρ2 [⟨v, .ow k, d⟩] H' o') (hc : cov k d = true) : ∃ o4, (∀ a z, o a = some z → o4 a = some z) ∧ Ok K B H0 Hf σ ρ (⟨v, .ow k, d⟩ :: τ) H' o4 := by
  have hmu : ∀ a, Av (Av B o) o' a → Mu H' a := fun a ha => by
    rcases ha with ha | ⟨y, ha⟩
    · exact (I.mu ha).mono J.sm
    · exact (J.ow a y ha).2
  exact I.join' (v := v) (d := d) (k := k) (o3 := o') (H' := H') ⟨rfl, fun a ha => I.mu ha, J.sm, ⟨J.sm, fun p hp => nomatch hp⟩, J.ow, (fun i k d h => nomatch h), (fun _ _ h _ => by cases h), RO.cov (keep_mu hmu) J.tp.1 hc, trivial⟩
theorem Ok.setNoS (I : Ok K B H0 Hf σ ρ τ H o) {j : Nat} (h : ρ[j]? = some .no) (w : V) : Ok K B H0 Hf (σ.set j (some w)) ρ τ H o := by
  have ne : ∀ {i : Nat} {x : Sl}, ρ[i]? = some x → x ≠ .no → j ≠ i := fun {i x} e hx e2 => by
    subst e2
    rw [h] at e
    cases e
    exact hx rfl
  refine ⟨by rw [List.length_set]; exact I.len, I.bs, I.sm, I.fl, I.ow, fun i k d hl => ?_, fun i x e hf => ?_, I.tp⟩
  · obtain ⟨v, e1, e2⟩ := I.sl i k d hl
    refine ⟨v, ?_, e2⟩
    rw [List.getElem?_set_ne]
    · exact e1
    · unfold look at hl
      cases e : ρ[i]? with
      | none => rw [e] at hl; cases hl
      | some s => exact ne e (fun z => by rw [e, z] at hl; cases hl)
  · rw [List.getElem?_set_ne (ne e (fun z => by rw [z] at hf; cases hf))]
    exact I.ms i x e hf
theorem Ok.wrF (I : Ok K B H0 Hf σ ρ τ H o) (hf : Hf.hp = H0) (nb : noBw τ) {j : Nat} (hj : look ρ j = none) {F : Addr} (ha : o F = some (.sl j, [])) (ws : List V) : Ok K B H0 Hf σ ρ τ (upd H F (.lst ws)) o := by
  have hu : isMut (.lst ws) = true := rfl
  obtain ⟨b1, b2⟩ := I.wrBase ha hu
  have hg : (some : Root × List Nat → Option (Root × List Nat)) (.sl j, []) = some (.sl j, []) := rfl
  have tr : ∀ (r : Root) (p : List Nat), (∀ s, (r, p ++ s) ≠ (Root.sl j, ([] : List Nat))) → Tr K H (upd H F (.lst ws)) (Av B o) (Av B o) o o r p r p := fun r p hp => by
    have T := I.wrTr (g := some) (p := p) (p' := p) (r := r) (r' := r) ha hu hg hp (fun s => rfl)
    rw [ob_idS] at T
    exact T
  have T0 := tr (.sl j) [0] (fun s e => by injection e with _ e; cases e)
  have hk := TOk.wr I ha hu hg (τ := τ) nb (fun n hn => ⟨(fun z => nomatch z), fun s => rfl⟩) I.tp
  rw [ob_idS] at hk
  refine ⟨I.len, I.bs, b1, I.fl.tr (hf ▸ b1) T0.ki T0.st, fun a p h => b2 some a p (by rw [ob_idS]; exact h), fun i k d h => ?_, I.ms, hk⟩
  obtain ⟨w, e1, e2⟩ := I.sl i k d h
  refine ⟨w, e1, ?_⟩
  have z := RO.tr (q := []) (tr (.sl i) [] (fun s e => by
    injection e with e _
    injection e with e
    rw [e] at h
    rw [hj] at h
    cases h)) (by simp) e2
  simpa using z
theorem Ok.fin (I : Ok K B H0 Hf σ ρ (τ' ++ τ) H o) {i j : Nat} (hij : i ≠ j) (hjl : j < ρ.length) {F : Addr} (hσ : σ[j]? = some (some (.ref F))) (ha : o F = some (.sl j, [])) {ws : List V} {es : List D} (hF : H F = some (.lst ws)) (g : Root × List Nat → Option (Root × List Nat))
    (hl : ws.length = es.length) (hx : ∀ m w e, ws[m]? = some w → es[m]? = some e → ∃ r p, RO K H (Av B o) o r p 1 w e ∧ ∀ q, g (r, p ++ q) = some (.sl j, [m] ++ q))
    (hg0 : g (.sl j, []) = some (.sl j, [])) (hgs : ∀ l q, l ≠ i → l ≠ j → g (.sl l, q) = some (.sl l, q)) (hgt : ∀ n q, n < τ.length → g (.tm n, q) = some (.tm n, q)) :
    Ok K B H0 Hf σ ((ρ.set i .no).set j (.ow 2 (.lst es))) τ H (ob o g) := by
  refine I.remap g (by rw [List.length_set, List.length_set]; exact I.len) (fun l k' d' h => ?_) (fun l x h hf => ?_) (TOk.re (fun n q hn => hgt n q hn) I.tp.drop)
  · rcases look_ow h with ⟨rfl, ⟨rfl, rfl⟩, _⟩ | ⟨n, h⟩
    · refine ⟨_, hσ, .lst (by unfold ob; rw [ha]; exact hg0) hF (ROs.of hl fun m w e h1 h2 => ?_)⟩
      obtain ⟨r, p, h3, h4⟩ := hx m w e h1 h2
      rw [Nat.zero_add]
      exact RO.re (fun q => h4 q) h3
    · obtain ⟨n2, h⟩ := look_no h
      obtain ⟨w, e1, e2⟩ := I.sl l k' d' h
      exact ⟨w, e1, RO.re (fun q => hgs l _ (fun e => n2 e.symm) (fun e => n e.symm)) e2⟩
  · rcases set_get h with ⟨_, e, _⟩ | ⟨n, h⟩
    · rw [← e] at hf; cases hf
    · rcases set_get h with ⟨_, e, _⟩ | ⟨n2, h⟩
      · rw [← e] at hf; cases hf
      · exact I.ms l x h hf
def intAt (r : R Kx) : Option Int := match r with
  | some (.val (_, .int n) _) => some n | _ => none
def truAt (r : R Bool) : Option Bool := match r with
  | some (.val b _) => some b | _ => none
theorem int_lend {n : Int} (I : OkX X σ ρ τ H o) (he : ∀ B H0 Hf, SE ⟨X.K, B, H0, Hf, X.E⟩ te fe) (e : intAt (fe (lendE ρ)) = some n) {P : VK} (q : ∀ H', Same H H' → P (.int n) H') : te σ H P := by
  unfold intAt at e
  split at e
  · rename_i kv m ρ' e2
    cases e
    refine he (fun _ => False) H ⟨H, [], valAt σ⟩ (lendE ρ) _ e2 σ [] H _ I.lend P fun v H' o' J => ?_
    have rp := tmp_rep J.top
    cases rp
    exact q H' J.sm
  · cases e
theorem tru_lend {b : Bool} {tt : TT} {ft : FT} (I : OkX X σ ρ τ H o) (he : ∀ B H0 Hf, ST ⟨X.K, B, H0, Hf, X.E⟩ tt ft) (e : truAt (ft (lendE ρ)) = some b) {P : Bool → Hp → Prop} (q : ∀ H', Same H H' → P b H') : tt σ H P := by
  unfold truAt at e
  split at e
  · rename_i c ρ' e2
    cases e
    exact he (fun _ => False) H ⟨H, [], valAt σ⟩ (lendE ρ) _ e2 σ [] H _ I.lend P fun H' o' J => q H' J.sm
  · cases e
def swapN (m n a : Nat) : Nat := if a = m then n else if a = n then m else a
theorem swapN_swapN (m n a : Nat) : swapN m n (swapN m n a) = a := by
  unfold swapN
  by_cases h : a = m
  · subst h
    rw [if_pos rfl]
    by_cases h2 : n = a
    · rw [if_pos h2, h2]
    · rw [if_neg h2, if_pos rfl]
  · rw [if_neg h]
    by_cases h2 : a = n
    · rw [if_pos h2, if_pos rfl, h2]
    · rw [if_neg h2, if_neg h, if_neg h2]
theorem swap_get {α : Type} {xs : List α} {m n a : Nat} {x y z : α} (hm : xs[m]? = some x) (hn : xs[n]? = some y) (h : ((xs.set m y).set n x)[a]? = some z) : xs[swapN m n a]? = some z := by
  unfold swapN
  rcases set_get h with ⟨rfl, rfl, _⟩ | ⟨ne, h⟩
  · by_cases h2 : n = m
    · rw [if_pos h2, h2]; exact hm
    · rw [if_neg h2, if_pos rfl]; exact hm
  · rcases set_get h with ⟨rfl, rfl, _⟩ | ⟨ne2, h⟩
    · rw [if_pos rfl]; exact hn
    · rw [if_neg (fun e => ne2 e.symm), if_neg (fun e => ne e.symm)]; exact h
def gSwp (i j m n : Nat) : Root × List Nat → Option (Root × List Nat) := fun z => match z with
  | (.sl l, q) => if l = i then (match q with | a :: s => some (.sl j, swapN m n a :: s) | [] => none) else if l = j then (match q with | [] => some (.sl j, []) | _ => none) else some (.sl l, q)
  | z => some z
def gPut (i j m n : Nat) : Root × List Nat → Option (Root × List Nat) := fun z => match z with
  | (.sl l, q) => if l = i then (match q with | a :: s => if a = m then none else some (.sl j, a :: s) | [] => none) else if l = j then (match q with | [] => some (.sl j, []) | _ => none) else some (.sl l, q)
  | (.tm l, q) => if l = n then some (.sl j, m :: q) else some (.tm l, q)
def putAt (i j : Nat) (ds : List D) (ρ : Env) (fx fe : FE) : Option Fl := match fe (lendE ρ) with
  | some (.val (.ow 1, d) _) => if cov 1 d = true then (match intAt (fx (lendE ρ)) with
    | some a => (match ixN ds.length a with
      | some m => some (.nxt ((ρ.set i .no).set j (.ow 2 (.lst (ds.set m d)))))
      | none => none)
    | none => none) else none
  | _ => none
def swapAt (i j : Nat) (ds : List D) (ρ : Env) (a b b' a' : Option Int) : Option Fl := match a, b with
  | some a, some b => if a' = some a ∧ b' = some b then (match ixN ds.length a, ixN ds.length b with
    | some m, some n => (match ds[m]?, ds[n]? with
      | some dm, some dn => some (.nxt ((ρ.set i .no).set j (.ow 2 (.lst ((ds.set m dn).set n dm)))))
      | _, _ => none)
    | _, _ => none) else none
  | _, _ => none
def sSwp (i j : Nat) (f1 : FT) (x1 y1 x2 y2 : FE) (f2 : FT) (x3 e3 x4 e4 : FE) : FS := fun ρ => match look ρ i, ρ[j]? with
  | some (2, .lst ds), some .no => (match truAt (f1 (lendE ρ)) with
    | some true => swapAt i j ds ρ (intAt (x1 (lendE ρ))) (intAt (y1 (lendE ρ))) (intAt (x2 (lendE ρ))) (intAt (y2 (lendE ρ)))
    | some false => (match truAt (f2 (lendE ρ)) with
      | some true => putAt i j ds ρ x3 e3
      | some false => putAt i j ds ρ x4 e4
      | none => none)
    | none => none)
  | _, _ => none
theorem put_ok {i j : Nat} {ds : List D} {fx fe : FE} {tx te : TE} {fl : Fl} {F A : Addr} {vs : List V} (hx : ∀ B H0 Hf, SE ⟨X.K, B, H0, Hf, X.E⟩ tx fx) (he : ∀ B H0 Hf, SE ⟨X.K, B, H0, Hf, X.E⟩ te fe) (h : putAt i j ds ρ fx fe = some fl) (h0f : X.Hf.hp = X.H0) (nb : noBw τ)
    (I : OkX X σ ρ τ H o) (hij : i ≠ j) (li : look ρ i = some (2, .lst ds)) (lj : ρ[j]? = some .no) (σi : σ[i]? = some (some (.ref A))) (σj : σ[j]? = some (some (.ref F))) (oF : o F = some (.sl j, [])) (hF : H F = some (.lst vs)) (hA : H A = some (.lst vs)) {D : Ends} (q : En X τ D fl) :
    tAsg te (gSub (tVar j) tx rSetL) D σ H := by
  unfold putAt at h
  split at h
  · rename_i d ρ' e1
    split at h
    · rename_i hc
      split at h
      · rename_i a ea
        split at h
        · rename_i m em
          cases h
          refine he (fun _ => False) H ⟨H, [], valAt σ⟩ (lendE ρ) _ e1 σ [] H _ I.lend _ fun v H2 o2 J => ?_
          obtain ⟨o4, ext, I4⟩ := I.covJ' (v := v) (k := 1) (d := d) J hc
          refine ⟨_, σj, ?_⟩
          refine int_lend (X := X) I4.pop hx ea fun H3 s3 => ?_
          have I5 := I4.grow s3
          have sm2 : Same H H2 := J.sm
          have hF5 : H3 F = some (.lst vs) := s3 _ _ (sm2 _ _ hF)
          have hA5 : H3 A = some (.lst vs) := s3 _ _ (sm2 _ _ hA)
          have oF4 := ext _ _ oF
          have lj0 : look ρ j = none := by unfold look; rw [lj]
          obtain ⟨w, e3, e4⟩ := I5.pop.sl i 2 _ li
          rw [σi] at e3
          cases e3
          obtain ⟨A', vs', eA, _, hA', hs⟩ := own_lst e4
          cases eA
          rw [hA5] at hA'
          cases hA'
          have lv := hs.length
          refine ⟨F, vs, a, m, rfl, rfl, hF5, by rw [lv]; exact em, ?_⟩
          have nb2 : noBw (⟨v, .ow 1, d⟩ :: τ) := fun t ht => by
            rcases List.mem_cons.mp ht with rfl | ht
            · exact ⟨1, rfl⟩
            · exact nb t ht
          have I6 := I5.wrF h0f nb2 lj0 oF4 (vs.set m v)
          obtain ⟨w, e3, e4⟩ := I6.pop.sl i 2 _ li
          rw [σi] at e3
          cases e3
          have nAF : A ≠ F := fun e => by
            obtain ⟨w, e5, e6⟩ := I5.pop.sl i 2 _ li
            rw [σi] at e5
            cases e5
            obtain ⟨A', _, eA, oA, _, _⟩ := own_lst e6
            cases eA
            rw [e, oF4] at oA
            injection oA with oA
            injection oA with oA _
            injection oA with oA
            exact hij oA.symm
          obtain ⟨A', vs', eA, _, hA', hs⟩ := own_lst e4
          cases eA
          rw [upd_ne nAF, hA5] at hA'
          cases hA'
          have I7 := Ok.fin (τ' := [⟨v, .ow 1, d⟩]) (es := ds.set m d) I6 hij (List.getElem?_eq_some_iff.mp lj).1 σj oF4 upd_same (gPut i j m τ.length) (by rw [List.length_set, List.length_set, lv]) (fun l w e h1 h2 => ?_) ?_ (fun l q' h1 h2 => ?_) (fun n q' hn => ?_)
          · exact q _ _ _ I7
          · rcases set_get h1 with ⟨rfl, rfl, _⟩ | ⟨ne, h1⟩
            · rcases set_get h2 with ⟨_, rfl, _⟩ | ⟨ne, _⟩
              · exact ⟨.tm τ.length, [], I6.top, fun q' => by
                  show (if τ.length = τ.length then _ else _) = _
                  rw [if_pos rfl]
                  rfl⟩
              · exact absurd rfl ne
            · rcases set_get h2 with ⟨e, _, _⟩ | ⟨_, h2⟩
              · exact absurd e ne
              · exact ⟨.sl i, [] ++ [l], hs.gets h1 h2, fun q' => by
                  show (if i = i then (if l = m then none else some (Root.sl j, l :: q')) else _) = _
                  rw [if_pos rfl, if_neg (fun e => ne e.symm)]
                  rfl⟩
          · show (if j = i then _ else if j = j then _ else _) = _
            rw [if_neg (fun e => hij e.symm), if_pos rfl]
          · show (if l = i then _ else if l = j then _ else _) = _
            rw [if_neg h1, if_neg h2]
          · show (if n = τ.length then _ else _) = _
            rw [if_neg (by omega)]
        · cases h
      · cases h
    · cases h
  · cases h
theorem swap_ok {i j : Nat} {ds : List D} {x1 y1 x2 y2 : FE} {tx1 ty1 tx2 ty2 : TE} {fl : Fl} {F A : Addr} {vs : List V} (hx1 : ∀ B H0 Hf, SE ⟨X.K, B, H0, Hf, X.E⟩ tx1 x1) (hy1 : ∀ B H0 Hf, SE ⟨X.K, B, H0, Hf, X.E⟩ ty1 y1) (hx2 : ∀ B H0 Hf, SE ⟨X.K, B, H0, Hf, X.E⟩ tx2 x2) (hy2 : ∀ B H0 Hf, SE ⟨X.K, B, H0, Hf, X.E⟩ ty2 y2)
    (h : swapAt i j ds ρ (intAt (x1 (lendE ρ))) (intAt (y1 (lendE ρ))) (intAt (x2 (lendE ρ))) (intAt (y2 (lendE ρ))) = some fl) (h0f : X.Hf.hp = X.H0) (nb : noBw τ)
    (I : OkX X σ ρ τ H o) (hij : i ≠ j) (li : look ρ i = some (2, .lst ds)) (lj : ρ[j]? = some .no) (σi : σ[i]? = some (some (.ref A))) (σj : σ[j]? = some (some (.ref F))) (oF : o F = some (.sl j, [])) (hF : H F = some (.lst vs)) (hA : H A = some (.lst vs)) {D : Ends} (q : En X τ D fl) :
    tSeq (tAsg (tOp (rIx X.K) (tVar i) ty1) (gSub (tVar j) tx1 rSetL)) (tAsg (tOp (rIx X.K) (tVar i) ty2) (gSub (tVar j) tx2 rSetL)) D σ H := by
  unfold swapAt at h
  split at h
  · rename_i a b ea eb
    split at h
    · rename_i hab
      obtain ⟨ea', eb'⟩ := hab
      split at h
      · rename_i m n em en
        split at h
        · rename_i dm dn edm edn
          cases h
          have lj0 : look ρ j = none := by unfold look; rw [lj]
          have nAF : A ≠ F := fun e => by
            obtain ⟨w, e5, e6⟩ := I.sl i 2 _ li
            rw [σi] at e5
            cases e5
            obtain ⟨A', _, eA, oA, _, _⟩ := own_lst e6
            cases eA
            rw [e, oF] at oA
            injection oA with oA
            injection oA with oA _
            injection oA with oA
            exact hij oA.symm
          have lv : vs.length = ds.length := by
            obtain ⟨w, e5, e6⟩ := I.sl i 2 _ li
            rw [σi] at e5
            cases e5
            obtain ⟨A', vs', eA, _, hA', hs⟩ := own_lst e6
            cases eA
            rw [hA] at hA'
            cases hA'
            exact hs.length
          have gm : vs[m]? = some (vs[m]'(by rw [lv]; exact (List.getElem?_eq_some_iff.mp edm).1)) := List.getElem?_eq_getElem _
          have gn : vs[n]? = some (vs[n]'(by rw [lv]; exact (List.getElem?_eq_some_iff.mp edn).1)) := List.getElem?_eq_getElem _
          obtain ⟨vm, evm⟩ : ∃ vm, vs[m]? = some vm := ⟨_, gm⟩
          obtain ⟨vn, evn⟩ : ∃ vn, vs[n]? = some vn := ⟨_, gn⟩
          have at_ : ∀ {c : Int} {l : Nat} {w : V}, ixN ds.length c = some l → vs[l]? = some w → atI vs c = some w := fun {c l w} h1 h2 => by
            unfold atI
            rw [lv, h1]
            exact h2
          refine ⟨_, σi, ?_⟩
          refine int_lend I hy1 eb fun H1 s1 => ?_
          refine .inl ⟨A, vs, b, vn, rfl, rfl, SqL.of (s1 _ _ hA), at_ en evn, ?_⟩
          refine ⟨_, σj, ?_⟩
          have I1 := I.grow s1
          refine int_lend I1 hx1 ea fun H2 s2 => ?_
          have I2 := I1.grow s2
          refine ⟨F, vs, a, m, rfl, rfl, s2 _ _ (s1 _ _ hF), by rw [lv]; exact em, ?_⟩
          have I3 := I2.wrF h0f nb lj0 oF (vs.set m vn)
          have hA3 : upd H2 F (.lst (vs.set m vn)) A = some (.lst vs) := by rw [upd_ne nAF]; exact s2 _ _ (s1 _ _ hA)
          refine ⟨_, σi, ?_⟩
          refine int_lend I3 hy2 ea' fun H4 s4 => ?_
          refine .inl ⟨A, vs, a, vm, rfl, rfl, SqL.of (s4 _ _ hA3), at_ em evm, ?_⟩
          refine ⟨_, σj, ?_⟩
          have I4 := I3.grow s4
          refine int_lend I4 hx2 eb' fun H5 s5 => ?_
          have I5 := I4.grow s5
          have hF5 : H5 F = some (.lst (vs.set m vn)) := s5 _ _ (s4 _ _ upd_same)
          have hA5 : H5 A = some (.lst vs) := s5 _ _ (s4 _ _ hA3)
          refine ⟨F, _, b, n, rfl, rfl, hF5, by rw [List.length_set, lv]; exact en, ?_⟩
          have I6 := I5.wrF h0f nb lj0 oF ((vs.set m vn).set n vm)
          obtain ⟨w, e3, e4⟩ := I6.sl i 2 _ li
          rw [σi] at e3
          cases e3
          obtain ⟨A', vs', eA, _, hA', hs⟩ := own_lst e4
          cases eA
          rw [upd_ne nAF, hA5] at hA'
          cases hA'
          have I7 := Ok.fin (τ' := []) (es := (ds.set m dn).set n dm) I6 hij (List.getElem?_eq_some_iff.mp lj).1 σj oF upd_same (gSwp i j m n) (by rw [List.length_set, List.length_set, List.length_set, List.length_set, lv]) (fun l w e h1 h2 => ?_) ?_ (fun l q' h1 h2 => ?_) (fun n q' hn => rfl)
          · exact q _ _ _ I7
          · have h1' := swap_get evm evn h1
            have h2' := swap_get edm edn h2
            exact ⟨.sl i, [] ++ [swapN m n l], hs.gets h1' h2', fun q' => by
              show (if i = i then some (Root.sl j, swapN m n (swapN m n l) :: q') else _) = _
              rw [if_pos rfl, swapN_swapN]
              rfl⟩
          · show (if j = i then _ else if j = j then _ else _) = _
            rw [if_neg (fun e => hij e.symm), if_pos rfl]
          · show (if l = i then _ else if l = j then _ else _) = _
            rw [if_neg h1, if_neg h2]
        · cases h
      · cases h
    · cases h
  · cases h
theorem ss_swp {i j : Nat} {tt1 tt2 : TT} {f1 f2 : FT} {x1 y1 x2 y2 x3 e3 x4 e4 : FE} {tx1 ty1 tx2 ty2 tx3 te3 tx4 te4 : TE} (ht1 : ∀ B H0 Hf, ST ⟨X.K, B, H0, Hf, X.E⟩ tt1 f1)
    (hx1 : ∀ B H0 Hf, SE ⟨X.K, B, H0, Hf, X.E⟩ tx1 x1) (hy1 : ∀ B H0 Hf, SE ⟨X.K, B, H0, Hf, X.E⟩ ty1 y1) (hx2 : ∀ B H0 Hf, SE ⟨X.K, B, H0, Hf, X.E⟩ tx2 x2) (hy2 : ∀ B H0 Hf, SE ⟨X.K, B, H0, Hf, X.E⟩ ty2 y2)
    (ht2 : ∀ B H0 Hf, ST ⟨X.K, B, H0, Hf, X.E⟩ tt2 f2) (hx3 : ∀ B H0 Hf, SE ⟨X.K, B, H0, Hf, X.E⟩ tx3 x3) (he3 : ∀ B H0 Hf, SE ⟨X.K, B, H0, Hf, X.E⟩ te3 e3) (hx4 : ∀ B H0 Hf, SE ⟨X.K, B, H0, Hf, X.E⟩ tx4 x4) (he4 : ∀ B H0 Hf, SE ⟨X.K, B, H0, Hf, X.E⟩ te4 e4) :
    SS X (tSeq (tAsg (tCB (rListA X.K) (tCons (tVar i) tNil)) (gName j)) (tIfS tt1 (tSeq (tAsg (tOp (rIx X.K) (tVar i) ty1) (gSub (tVar j) tx1 rSetL)) (tAsg (tOp (rIx X.K) (tVar i) ty2) (gSub (tVar j) tx2 rSetL))) (tIfS tt2 (tAsg te3 (gSub (tVar j) tx3 rSetL)) (tAsg te4 (gSub (tVar j) tx4 rSetL)))))
      (sSwp i j f1 x1 y1 x2 y2 f2 x3 e3 x4 e4) := fun ρ fl h σ τ H o h0f nb I D q => by
  unfold sSwp at h
  split at h
  · rename_i ds li lj
    have hij : i ≠ j := fun e => by
      rw [e] at li
      unfold look at li
      rw [lj] at li
      cases li
    obtain ⟨w, σi, ro⟩ := I.sl i 2 _ li
    obtain ⟨A, vs, rfl, oA, hA, hs⟩ := own_lst ro
    refine ⟨_, σi, A, vs, rfl, .inl (SqL.of hA), fun F hF0 => ?_⟩
    have jl : j < σ.length := by rw [I.len]; exact (List.getElem?_eq_some_iff.mp lj).1
    have I1 := (I.new (.sl j, []) hF0 (u := .lst vs) rfl).setNoS lj (.ref F)
    have σi1 : (σ.set j (some (.ref F)))[i]? = some (some (.ref A)) := by rw [List.getElem?_set_ne (fun e => hij e.symm)]; exact σi
    have σj1 : (σ.set j (some (.ref F)))[j]? = some (some (.ref F)) := List.getElem?_set_self jl
    have oF1 : oNew o F (.sl j, []) F = some (.sl j, []) := if_pos rfl
    have hF1 : upd H F (.lst vs) F = some (.lst vs) := upd_same
    have hA1 : upd H F (.lst vs) A = some (.lst vs) := by rw [upd_ne (ne_of_none hA hF0)]; exact hA
    show tIfS _ _ _ D (σ.set j (some (.ref F))) (upd H F (.lst vs))
    cases e1 : truAt (f1 (lendE ρ)) with
    | none => rw [e1] at h; cases h
    | some b1 =>
      rw [e1] at h
      refine tru_lend I1 ht1 e1 fun H2 s2 => ?_
      have I2 := I1.grow s2
      cases b1 with
      | true =>
        rw [if_pos rfl]
        exact swap_ok hx1 hy1 hx2 hy2 h h0f nb I2 hij li lj σi1 σj1 oF1 (s2 _ _ hF1) (s2 _ _ hA1) q
      | false =>
        rw [if_neg Bool.false_ne_true]
        dsimp only at h
        cases e2 : truAt (f2 (lendE ρ)) with
        | none => rw [e2] at h; cases h
        | some b2 =>
          rw [e2] at h
          refine tru_lend I2 ht2 e2 fun H3 s3 => ?_
          have I3 := I2.grow s3
          cases b2 with
          | true =>
            rw [if_pos rfl]
            exact put_ok hx3 he3 h h0f nb I3 hij li lj σi1 σj1 oF1 (s3 _ _ (s2 _ _ hF1)) (s3 _ _ (s2 _ _ hA1)) q
          | false =>
            rw [if_neg Bool.false_ne_true]
            exact put_ok hx4 he4 h h0f nb I3 hij li lj σi1 σj1 oF1 (s3 _ _ (s2 _ _ hF1)) (s3 _ _ (s2 _ _ hA1)) q
  · cases h
end
end P
namespace P
open PySem L2

section
variable {X : Fx} {K : PySem.W.Frag} {B : Addr → Prop} {H0 H : Hp} {Hf : Bg} {σ : St} {ρ : Env} {τ : List T} {o : Own} {A : Addr → Prop} {v : V} {d : D} {te : TE} {fe : FE} {k : Nat}
mutual
theorem RO.up {r : Root} : ∀ {p : List Nat} {k : Nat} {v : V} {d : D}, RO K H A o r p k v d → P.cov k d = true → RO K H A o r p (k + 1) v d
  | _, _, _, _, .st h, c => .flat (by rw [← cov_zero]; exact c) (h.mono (del_same _ _))
  | _, _, _, _, .flat f h, _ => .flat f h
  | _, _, _, _, .lst ha hh hs, c => .lst ha hh (ROs.up hs c)
  | _, _, _, _, .tup hh hs, c => .tup hh (ROs.up hs c)
  | _, _, _, _, .ins ha hn hh hs hk, c => .ins ha hn hh (ROs.up hs (by rw [← covF_eq]; exact c)) hk
  | _, _, _, _, .dic ha hh hs hk, c => .dic ha hh (ROs.up hs (by rw [← covK_eq]; exact c)) hk
theorem ROs.up {r : Root} : ∀ {p : List Nat} {i k : Nat} {vs : List V} {ds : List D}, ROs K H A o r p i k vs ds → covs k ds = true → ROs K H A o r p i (k + 1) vs ds
  | _, _, _, _, _, .nil, _ => .nil
  | _, _, _, _, _, .cons h hs, c => by
    have c' : (P.cov _ _ && covs _ _) = true := c
    rw [Bool.and_eq_true] at c'
    exact .cons (RO.up h c'.1) (ROs.up hs c'.2)
end
def eUp (fe : FE) : FE := fun ρ => match fe ρ with
  | some (.val (.ow k, d) ρ') => if cov k d = true then some (.val (.ow (k + 1), d) ρ') else none
  | _ => none
theorem eUp_ap (fe : FE) (ρ : Env) : eUp fe ρ = match fe ρ with
  | some (.val (.ow k, d) ρ') => if cov k d = true then some (.val (.ow (k + 1), d) ρ') else none
  | _ => none := rfl
theorem sSwp_ap (i j : Nat) (f1 : FT) (x1 y1 x2 y2 : FE) (f2 : FT) (x3 e3 x4 e4 : FE) (ρ : Env) : sSwp i j f1 x1 y1 x2 y2 f2 x3 e3 x4 e4 ρ = match look ρ i, ρ[j]? with
  | some (2, .lst ds), some .no => (match truAt (f1 (lendE ρ)) with
    | some true => swapAt i j ds ρ (intAt (x1 (lendE ρ))) (intAt (y1 (lendE ρ))) (intAt (x2 (lendE ρ))) (intAt (y2 (lendE ρ)))
    | some false => (match truAt (f2 (lendE ρ)) with
      | some true => putAt i j ds ρ x3 e3
      | some false => putAt i j ds ρ x4 e4
      | none => none)
    | none => none)
  | _, _ => none := rfl
end
end P
namespace P.My
open PySem L2
theorem sok_0 : PyData.strOk ("add" : Str) = true := by decide +kernel
theorem sok_1 : PyData.strOk ("no fraction" : Str) = true := by decide +kernel
theorem sok_2 : PyData.strOk ("swap" : Str) = true := by decide +kernel
theorem sok_3 : PyData.strOk ("times" : Str) = true := by decide +kernel
noncomputable def b__law_cell : FS := (sRet (eOp gIx (eOp gAdd (eSl (eVar 0) (oSome (eVar 1)) (oSome (eOp gAdd (eVar 1) (eC (.int 1))))) (eLst 0 (aCons (eC (.int 0)) aNil))) (eC (.int 0))))
noncomputable def m__law_cell : Run := runD 2 0 b__law_cell
abbrev s__law_cell : Stmt := top 15
theorem sc__law_cell : FnScope ["_law_script", "_law_k"] ["_law_script", "_law_k"] (defScope s__law_cell) := ⟨rfl, rfl, rfl, by decide +kernel, rfl, by decide +kernel, by decide +kernel⟩
theorem ok__law_cell {P : Program} {w : World} {K : PySem.W.Frag} {mg : Str → Option Value} {base : Heap} {f : Addr} {fd : FuncData} (Fn : Fun K "_law_cell" "_law_cell" s__law_cell f fd) :
    FnOk P w K mg base (L2.CX P w) 1 f fd ["_law_script", "_law_k"] (spR K m__law_cell) := by
  refine def_ok (m := 2) (n := 0) (fs := b__law_cell) Fn sc__law_cell rfl rfl (fun cdv A outer s H E hr => ⟨_, (pss_one (ps_ret (pe_ix (ix_seqA (K := K) rfl) (pe_op op_addA (pe_slice (sl_A (K := K) rfl) (pv 0) (po_some (pv 1)) (po_some (pe_op op_addA (pv 1) pe_int))) (pe_lst (pa_cons pe_int pa_nil))) pe_int (fun _ _ => rfl)))), ?_⟩)
  try dsimp only [L2.cxOf, L2.Cx.nox, L2.Cx.wish]
  intro X hK hE
  subst hK hE
  exact (ss_ret (se_op op_ix (se_op o_add (se_sl se_var (so_some se_var) (so_some (se_op o_add se_var se_int))) (se_lst (sa_cons se_int sa_nil))) se_int))
noncomputable def b__law_stream_1 : FS := (sSeq (sAsg (eOp (g2 gMod0) (eOp gAdd (eOp gAdd (eOp gAdd (eOp gMul (eVar 4) (eC (.int 48271))) (eOp (g2 gMod0) (eCall m__law_cell (aCons (eVar 0) (aCons (eOp gAdd (eVar 1) (eVar 5)) aNil))) (eC (.int 2147483647)))) (eOp gMul (eVar 5) (eVar 5))) (eC (.int 1))) (eC (.int 2147483647))) (gF 4))
    (sApp (pVar 3) (eVar 4)))
noncomputable def b__law_stream : FS := (sSeq (sAsg (eLst 0 aNil) (gN 3))
    (sSeq (sAsg (eC (.int 7)) (gF 4))
    (sSeq (sFor (iR1 (eVar 2)) (gF 5) b__law_stream_1)
    (sRet (eMv 3)))))
noncomputable def m__law_stream : Run := runD 3 3 b__law_stream
abbrev s__law_stream : Stmt := top 16
theorem sc__law_stream : FnScope ["_law_script", "_law_start", "_law_many", "_law_found", "_law_number", "_law_k"] ["_law_script", "_law_start", "_law_many"] (defScope s__law_stream) := ⟨rfl, rfl, rfl, by decide +kernel, rfl, by decide +kernel, by decide +kernel⟩
theorem ok__law_stream {P : Program} {w : World} {K : PySem.W.Frag} {mg : Str → Option Value} {base : Heap} {f : Addr} {fd : FuncData} (Fn : Fun K "_law_stream" "_law_stream" s__law_stream f fd) (m_range : mg "range" = none) (G__law_cell : Gd P w K mg base "_law_cell" 1 ["_law_script", "_law_k"] m__law_cell) :
    FnOk P w K mg base (L2.CX P w) 2 f fd ["_law_script", "_law_start", "_law_many"] (spR K m__law_stream) := by
  refine def_ok (m := 3) (n := 3) (fs := b__law_stream) Fn sc__law_stream rfl rfl (fun cdv A outer s H E hr => ⟨_, (pss_cons (ps_set (i := 3) sc__law_stream.nd rfl (Or.inl rfl) (pe_lst pa_nil))
    (pss_cons (ps_set (i := 4) sc__law_stream.nd rfl (Or.inl rfl) pe_int)
    (pss_cons (ps_for (passes_of rfl) rfl (pi_range1 rfl m_range (pa_cons (pv 2) pa_nil)) (pg_name (i := 5) sc__law_stream.nd rfl (Or.inl rfl)) (pss_cons (ps_set (i := 4) sc__law_stream.nd rfl (Or.inl rfl) (pe_op op_modA (pe_op op_addA (pe_op op_addA (pe_op op_addA (pe_op op_mulA (pv 4) pe_int) (pe_op op_modA (pe_gd (E := E) (takes_of rfl rfl rfl rfl) G__law_cell hr (by decide) rfl (pa_cons (pv 0) (pa_cons (pe_op op_addA (pv 1) (pv 5)) pa_nil))) pe_int)) (pe_op op_mulA (pv 5) (pv 5))) pe_int) pe_int))
    (pss_one (ps_expr (pe_bm PySem.F.plainAttrs_list PySem.F.slot_list_append PySem.F.type_list_append mt_append (pv 3) (pa_cons (pv 4) pa_nil))))))
    (pss_one (ps_ret (pv 3)))))), ?_⟩)
  try dsimp only [L2.cxOf, L2.Cx.nox, L2.Cx.wish]
  intro X hK hE
  subst hK hE
  exact (ss_seq (ss_asg (js := [3]) (se_lst sa_nil) (sg_name (by decide)))
    (ss_seq (ss_asg (js := [4]) se_int (sg_nameF (by decide)))
    (ss_seq (ss_for (js := [5]) (si_r1 se_var) (sg_nameF (by decide)) (ss_seq (ss_asg (js := [4]) (se_op o_mod (se_op o_add (se_op o_add (se_op o_add (se_op o_mul se_var se_int) (se_op o_mod (se_call (sa_cons se_var (sa_cons (se_op o_add se_var se_var) sa_nil))) se_int)) (se_op o_mul se_var se_var)) se_int) se_int) (sg_nameF (by decide)))
    (ss_app sp_var se_var)))
    (ss_ret se_mv))))
noncomputable def b__law_gcd_1 : FT := (bOf (eOp (g2 gGt0) (eVar 2) (eC (.int 0))))
noncomputable def b__law_gcd_2 : FS := (sPar 2 3 (aCons (eOp (g2 gMod0) (eVar 3) (eVar 2)) (aCons (eVar 2) aNil)))
noncomputable def b__law_gcd : FS := (sSeq (sAsg (eCB gSorted (aCons (eLst 0 (aCons (eCB (gC gAbs) (aCons (eVar 0) aNil)) (aCons (eCB (gC gAbs) (aCons (eVar 1) aNil)) aNil))) aNil)) (gT 2 (gsCons (gF 2) (gsCons (gN 3) gsNil))))
    (sSeq (sWhile b__law_gcd_1 b__law_gcd_2)
    (sRet (eMv 3))))
noncomputable def m__law_gcd : Run := runD 2 2 b__law_gcd
abbrev s__law_gcd : Stmt := top 17
theorem sc__law_gcd : FnScope ["_law_one", "_law_other", "_law_low", "_law_high"] ["_law_one", "_law_other"] (defScope s__law_gcd) := ⟨rfl, rfl, rfl, by decide +kernel, rfl, by decide +kernel, by decide +kernel⟩
theorem ok__law_gcd {P : Program} {w : World} {K : PySem.W.Frag} {mg : Str → Option Value} {base : Heap} {f : Addr} {fd : FuncData} (Fn : Fun K "_law_gcd" "_law_gcd" s__law_gcd f fd) (m_abs : mg "abs" = none) (m_sorted : mg "sorted" = none) :
    FnOk P w K mg base (L2.CX P w) 1 f fd ["_law_one", "_law_other"] (spR K m__law_gcd) := by
  refine def_ok (m := 2) (n := 2) (fs := b__law_gcd) Fn sc__law_gcd rfl rfl (fun cdv A outer s H E hr => ⟨_, (pss_cons (ps_asg (pe_callB (call_sortedA (K := K) rfl) (by rfl) m_sorted (by decide +kernel) (pa_cons (pe_lst (pa_cons (pe_callB call_absA (by rfl) m_abs (by decide +kernel) (pa_cons (pv 0) pa_nil)) (pa_cons (pe_callB call_absA (by rfl) m_abs (by decide +kernel) (pa_cons (pv 1) pa_nil)) pa_nil))) pa_nil)) (pg_seq (by rfl) (pgs_cons (pg_name (i := 2) sc__law_gcd.nd rfl (Or.inl rfl)) (pgs_cons (pg_name (i := 3) sc__law_gcd.nd rfl (Or.inl rfl)) pgs_nil))))
    (pss_cons (ps_while (passes_of rfl) (pt_cmpR op_gtA (pv 2) pe_int (nomark _)) (pss_one (ps_par (by rfl) sc__law_gcd.nd (i := 2) (j := 3) rfl rfl (by decide) rfl rfl (pa_cons (pe_op op_modA (pv 3) (pv 2)) (pa_cons (pv 2) pa_nil)) (by rfl))))
    (pss_one (ps_ret (pv 3))))), ?_⟩)
  try dsimp only [L2.cxOf, L2.Cx.nox, L2.Cx.wish]
  intro X hK hE
  subst hK hE
  exact (ss_seq (ss_asg (js := [2, 3]) (se_cb c_sorted (sa_cons (se_lst (sa_cons (se_cb c_abs (sa_cons se_var sa_nil)) (sa_cons (se_cb c_abs (sa_cons se_var sa_nil)) sa_nil))) sa_nil)) (sg_seq (sgs_cons (sg_nameF (by decide)) (sgs_cons (sg_name (by decide)) sgs_nil))))
    (ss_seq (ss_while (st_test (se_op o_gt se_var se_int)) (ss_par (sa_cons (se_op o_mod se_var se_var) (sa_cons se_var sa_nil))))
    (ss_ret se_mv)))
noncomputable def b__law_ratio : FS := (sSeq (sAsg (eCall m__law_gcd (aCons (eVar 0) (aCons (eVar 1) aNil))) (gF 2))
    (sRet (eTup 0 (aCons (eOp (g2 gDiv0) (eVar 0) (eVar 2)) (aCons (eOp (g2 gDiv0) (eVar 1) (eVar 2)) aNil)))))
noncomputable def m__law_ratio : Run := runD 2 1 b__law_ratio
abbrev s__law_ratio : Stmt := top 18
theorem sc__law_ratio : FnScope ["_law_top", "_law_bottom", "_law_common"] ["_law_top", "_law_bottom"] (defScope s__law_ratio) := ⟨rfl, rfl, rfl, by decide +kernel, rfl, by decide +kernel, by decide +kernel⟩
theorem ok__law_ratio {P : Program} {w : World} {K : PySem.W.Frag} {mg : Str → Option Value} {base : Heap} {f : Addr} {fd : FuncData} (Fn : Fun K "_law_ratio" "_law_ratio" s__law_ratio f fd) (G__law_gcd : Gd P w K mg base "_law_gcd" 1 ["_law_one", "_law_other"] m__law_gcd) :
    FnOk P w K mg base (L2.CX P w) 2 f fd ["_law_top", "_law_bottom"] (spR K m__law_ratio) := by
  refine def_ok (m := 2) (n := 1) (fs := b__law_ratio) Fn sc__law_ratio rfl rfl (fun cdv A outer s H E hr => ⟨_, (pss_cons (ps_set (i := 2) sc__law_ratio.nd rfl (Or.inl rfl) (pe_gd (E := E) (takes_of rfl rfl rfl rfl) G__law_gcd hr (by decide) rfl (pa_cons (pv 0) (pa_cons (pv 1) pa_nil))))
    (pss_one (ps_ret (pe_tup (pa_cons (pe_op op_divA (pv 0) (pv 2)) (pa_cons (pe_op op_divA (pv 1) (pv 2)) pa_nil)))))), ?_⟩)
  try dsimp only [L2.cxOf, L2.Cx.nox, L2.Cx.wish]
  intro X hK hE
  subst hK hE
  exact (ss_seq (ss_asg (js := [2]) (se_call (sa_cons se_var (sa_cons se_var sa_nil))) (sg_nameF (by decide)))
    (ss_ret (se_tup (sa_cons (se_op o_div se_var se_var) (sa_cons (se_op o_div se_var se_var) sa_nil)))))
noncomputable def b__law_fraction : FS := (sSeq (sIf (bOf (eOp (g2 gEq0) (eOp (g2 gMod0) (eVar 0) (eC (.int 3))) (eC (.int 0)))) (sRet (eTup 0 (aCons (eC (.int 0)) (aCons (eC (.int 1)) aNil)))) sNext)
    (sRet (eCall m__law_ratio (aCons (eOp (g2 gSub0) (eOp (g2 gMod0) (eOp (g2 gDiv0) (eVar 0) (eC (.int 3))) (eC (.int 19))) (eC (.int 9))) (aCons (eOp gAdd (eC (.int 1)) (eOp (g2 gMod0) (eOp (g2 gDiv0) (eVar 0) (eC (.int 57))) (eC (.int 6)))) aNil)))))
noncomputable def m__law_fraction : Run := runD 1 0 b__law_fraction
abbrev s__law_fraction : Stmt := top 19
theorem sc__law_fraction : FnScope ["_law_number"] ["_law_number"] (defScope s__law_fraction) := ⟨rfl, rfl, rfl, by decide +kernel, rfl, by decide +kernel, by decide +kernel⟩
theorem ok__law_fraction {P : Program} {w : World} {K : PySem.W.Frag} {mg : Str → Option Value} {base : Heap} {f : Addr} {fd : FuncData} (Fn : Fun K "_law_fraction" "_law_fraction" s__law_fraction f fd) (G__law_ratio : Gd P w K mg base "_law_ratio" 2 ["_law_top", "_law_bottom"] m__law_ratio) :
    FnOk P w K mg base (L2.CX P w) 3 f fd ["_law_number"] (spR K m__law_fraction) := by
  refine def_ok (m := 1) (n := 0) (fs := b__law_fraction) Fn sc__law_fraction rfl rfl (fun cdv A outer s H E hr => ⟨_, (pss_cons (ps_if (pt_cmpR (op_eqA (K := K) rfl hr.units) (pe_op op_modA (pv 0) pe_int) pe_int (nomark _)) (pss_one (ps_ret (pe_tup (pa_cons pe_int (pa_cons pe_int pa_nil))))) pss_nil)
    (pss_one (ps_ret (pe_gd (E := E) (takes_of rfl rfl rfl rfl) G__law_ratio hr (by decide) rfl (pa_cons (pe_op op_subA (pe_op op_modA (pe_op op_divA (pv 0) pe_int) pe_int) pe_int) (pa_cons (pe_op op_addA pe_int (pe_op op_modA (pe_op op_divA (pv 0) pe_int) pe_int)) pa_nil)))))), ?_⟩)
  try dsimp only [L2.cxOf, L2.Cx.nox, L2.Cx.wish]
  intro X hK hE
  subst hK hE
  exact (ss_seq (ss_if (st_test (se_op o_eq (se_op o_mod se_var se_int) se_int)) (ss_ret (se_tup (sa_cons se_int (sa_cons se_int sa_nil)))) ss_next)
    (ss_ret (se_call (sa_cons (se_op o_sub (se_op o_mod (se_op o_div se_var se_int) se_int) se_int) (sa_cons (se_op o_add se_int (se_op o_mod (se_op o_div se_var se_int) se_int)) sa_nil)))))
noncomputable def b__law_rows_1 : FE := (eCall m__law_fraction (aCons (eOp gIx (eVar 4) (eOp gAdd (eOp gMul (eVar 6) (eVar 3)) (eVar 7))) aNil))
noncomputable def b__law_rows_2 : FE := (eLc 0 [7] (iR1 (eVar 3)) (gN 7) bYes b__law_rows_1)
noncomputable def b__law_rows : FS := (sSeq (sAsg (eOp (g2 gMod0) (eCall m__law_cell (aCons (eVar 0) (aCons (eC (.int 0)) aNil))) (eC (.int 1000000))) (gF 1))
    (sSeq (sAsg (eOp (g2 gMod0) (eVar 1) (eC (.int 5))) (gF 2))
    (sSeq (sAsg (eOp gAdd (eC (.int 1)) (eOp (g2 gMod0) (eOp (g2 gDiv0) (eVar 1) (eC (.int 5))) (eC (.int 5)))) (gF 3))
    (sSeq (sAsg (eCall m__law_stream (aCons (eVar 0) (aCons (eC (.int 2)) (aCons (eOp gMul (eVar 2) (eVar 3)) aNil)))) (gF 4))
    (sSeq (sAsg (eLc 1 [6] (iR1 (eVar 2)) (gN 6) bYes b__law_rows_2) (gN 5))
    (sSeq (sIf (bAnd (bOf (eOp (g2 gEq0) (eOp (g2 gMod0) (eOp (g2 gDiv0) (eVar 1) (eC (.int 25))) (eC (.int 4))) (eC (.int 1)))) (bOf (eOp (g2 gGt0) (eVar 2) (eC (.int 0))))) (sSet (pIx (pVar 5) (eNeg (eC (.int 1)))) (eC (.int 0)) (eCall m__law_ratio (aCons (eOp (g2 gSub0) (eOp (g2 gMod0) (eCall m__law_cell (aCons (eVar 0) (aCons (eC (.int 2)) aNil))) (eOp (g2 gPow0) (eC (.int 10)) (eC (.int 30)))) (eOp (g2 gPow0) (eC (.int 10)) (eC (.int 29)))) (aCons (eOp gAdd (eC (.int 1)) (eOp (g2 gMod0) (eCall m__law_cell (aCons (eVar 0) (aCons (eC (.int 3)) aNil))) (eOp (g2 gPow0) (eC (.int 10)) (eC (.int 20))))) aNil)))) sNext)
    (sRet (eMv 5))))))))
noncomputable def m__law_rows : Run := runD 1 7 b__law_rows
abbrev s__law_rows : Stmt := top 20
theorem sc__law_rows : FnScope ["_law_script", "_law_first", "_law_many", "_law_wide", "_law_numbers", "_law_rows_here", "_law_k", "_law_j"] ["_law_script"] (defScope s__law_rows) := ⟨rfl, rfl, rfl, by decide +kernel, rfl, by decide +kernel, by decide +kernel⟩
theorem ok__law_rows {P : Program} {w : World} {K : PySem.W.Frag} {mg : Str → Option Value} {base : Heap} {f : Addr} {fd : FuncData} (Fn : Fun K "_law_rows" "_law_rows" s__law_rows f fd) (m_range : mg "range" = none) (G__law_cell : Gd P w K mg base "_law_cell" 1 ["_law_script", "_law_k"] m__law_cell) (G__law_stream : Gd P w K mg base "_law_stream" 2 ["_law_script", "_law_start", "_law_many"] m__law_stream) (G__law_fraction : Gd P w K mg base "_law_fraction" 3 ["_law_number"] m__law_fraction) (G__law_ratio : Gd P w K mg base "_law_ratio" 2 ["_law_top", "_law_bottom"] m__law_ratio) :
    FnOk P w K mg base (L2.CX P w) 4 f fd ["_law_script"] (spR K m__law_rows) := by
  refine def_ok (m := 1) (n := 7) (fs := b__law_rows) Fn sc__law_rows rfl rfl (fun cdv A outer s H E hr => ⟨_, (pss_cons (ps_set (i := 1) sc__law_rows.nd rfl (Or.inl rfl) (pe_op op_modA (pe_gd (E := E) (takes_of rfl rfl rfl rfl) G__law_cell hr (by decide) rfl (pa_cons (pv 0) (pa_cons pe_int pa_nil))) pe_int))
    (pss_cons (ps_set (i := 2) sc__law_rows.nd rfl (Or.inl rfl) (pe_op op_modA (pv 1) pe_int))
    (pss_cons (ps_set (i := 3) sc__law_rows.nd rfl (Or.inr rfl) (pe_op op_addA pe_int (pe_op op_modA (pe_op op_divA (pv 1) pe_int) pe_int)))
    (pss_cons (ps_set (i := 4) sc__law_rows.nd rfl (Or.inr rfl) (pe_gd (E := E) (takes_of rfl rfl rfl rfl) G__law_stream hr (by decide) rfl (pa_cons (pv 0) (pa_cons pe_int (pa_cons (pe_op op_mulA (pv 2) (pv 3)) pa_nil)))))
    (pss_cons (ps_setLc (i := 5) (own := [("_law_k", 6)]) rfl sc__law_rows.nd rfl rfl (sw_true rfl rfl rfl (by decide +kernel)) (pi_range1 rfl m_range (pa_cons (pv 2) pa_nil)) (blkOk_by (N := ["_law_script", "_law_first", "_law_many", "_law_wide", "_law_numbers", "_law_rows_here", "_law_k", "_law_j"]) (sc := defScope s__law_rows) (by decide +kernel)) (fun _ _ _ _ _ => (pg_name (i := 6) sc__law_rows.nd rfl (Or.inr rfl))) (fun _ _ _ _ _ => pts_nil) (fun _ _ _ _ _ => (pe_lc (own := [("_law_j", 7)]) rfl sc__law_rows.nd (pi_range1 rfl m_range (pa_cons (pv 3) pa_nil)) (blkOk_in (N := ["_law_script", "_law_first", "_law_many", "_law_wide", "_law_numbers", "_law_rows_here", "_law_k", "_law_j"]) rfl (rfl : _ = defScope s__law_rows) (by decide +kernel)) (fun _ _ _ _ _ => (pg_name (i := 7) sc__law_rows.nd rfl (Or.inl rfl))) (fun _ _ _ _ _ => pts_nil) (fun _ _ _ _ _ => (pe_gdB (K := K) rfl G__law_fraction hr (by decide) rfl (pa_cons (pe_ix (ix_seqA (K := K) rfl) (pv 4) (pe_op op_addA (pe_op op_mulA (pv 6) (pv 3)) (pv 7)) (fun _ _ => rfl)) pa_nil))))))
    (pss_cons (ps_if (PW.pt (pw_and (pt_cmpR (op_eqA (K := K) rfl hr.units) (pe_op op_modA (pe_op op_divA (pv 1) pe_int) pe_int) pe_int (nomark _)) (pw_and1 (pt_cmpR op_gtA (pv 2) pe_int (nomark _))))) (pss_one (ps_asg (pe_gd (E := E) (takes_of rfl rfl rfl rfl) G__law_ratio hr (by decide) rfl (pa_cons (pe_op op_subA (pe_op op_modA (pe_gd (E := E) (takes_of rfl rfl rfl rfl) G__law_cell hr (by decide) rfl (pa_cons (pv 0) (pa_cons pe_int pa_nil))) (pe_op op_powA pe_int pe_int)) (pe_op op_powA pe_int pe_int)) (pa_cons (pe_op op_addA pe_int (pe_op op_modA (pe_gd (E := E) (takes_of rfl rfl rfl rfl) G__law_cell hr (by decide) rfl (pa_cons (pv 0) (pa_cons pe_int pa_nil))) (pe_op op_powA pe_int pe_int))) pa_nil))) (pg_sub (pe_ix (ix_seqA (K := K) rfl) (pv 5) (pe_un un_neg pe_int) (fun _ _ => rfl)) pe_int set_list))) pss_nil)
    (pss_one (ps_ret (pv 5))))))))), ?_⟩)
  try dsimp only [L2.cxOf, L2.Cx.nox, L2.Cx.wish]
  intro X hK hE
  subst hK hE
  exact (ss_seq (ss_asg (js := [1]) (se_op o_mod (se_call (sa_cons se_var (sa_cons se_int sa_nil))) se_int) (sg_nameF (by decide)))
    (ss_seq (ss_asg (js := [2]) (se_op o_mod se_var se_int) (sg_nameF (by decide)))
    (ss_seq (ss_asg (js := [3]) (se_op o_add se_int (se_op o_mod (se_op o_div se_var se_int) se_int)) (sg_nameF (by decide)))
    (ss_seq (ss_asg (js := [4]) (se_call (sa_cons se_var (sa_cons se_int (sa_cons (se_op o_mul se_var se_var) sa_nil)))) (sg_nameF (by decide)))
    (ss_seq (ss_asg (js := [5]) (se_lc (vs := [6]) (si_r1 se_var) (fun _ => (sg_name (by decide))) (fun _ => st_yes) (fun _ => (se_lc (vs := [7]) (si_r1 se_var) (fun _ => (sg_name (by decide))) (fun _ => st_yes) (fun _ => (se_call (sa_cons (se_op op_ix se_var (se_op o_add (se_op o_mul se_var se_var) se_var)) sa_nil)))))) (sg_name (by decide)))
    (ss_seq (ss_if (st_and (st_test (se_op o_eq (se_op o_mod (se_op o_div se_var se_int) se_int) se_int)) (st_test (se_op o_gt se_var se_int))) (ss_set (sp_ix sp_var (se_neg se_int)) se_int (se_call (sa_cons (se_op o_sub (se_op o_mod (se_call (sa_cons se_var (sa_cons se_int sa_nil))) (se_op o_pow se_int se_int)) (se_op o_pow se_int se_int)) (sa_cons (se_op o_add se_int (se_op o_mod (se_call (sa_cons se_var (sa_cons se_int sa_nil))) (se_op o_pow se_int se_int))) sa_nil)))) ss_next)
    (ss_ret se_mv)))))))
noncomputable def b__law_step : FS := (sSeq (sAsg (eOp (g2 gMod0) (eVar 0) (eVar 2)) (gF 3))
    (sSeq (sAsg (eOp (g2 gMod0) (eOp (g2 gDiv0) (eVar 0) (eVar 2)) (eVar 2)) (gF 4))
    (sSeq (sAsg (eCall m__law_ratio (aCons (eOp (g2 gSub0) (eOp (g2 gMod0) (eOp (g2 gDiv0) (eVar 1) (eC (.int 3))) (eC (.int 19))) (eC (.int 9))) (aCons (eOp gAdd (eC (.int 1)) (eOp (g2 gMod0) (eOp (g2 gDiv0) (eVar 1) (eC (.int 57))) (eC (.int 6)))) aNil))) (gF 5))
    (sSeq (sIf (bAnd (bOf (eOp (g2 gEq0) (eOp (g2 gMod0) (eVar 1) (eC (.int 3))) (eC (.int 1)))) (bOf (eOp (g2 gNe0) (eVar 5) (eTup 0 (aCons (eC (.int 0)) (aCons (eC (.int 1)) aNil)))))) (sRet (eTup 0 (aCons (eC (.str "times")) (aCons (eVar 3) (aCons (eVar 5) aNil))))) sNext)
    (sSeq (sIf (bAnd (bOf (eOp (g2 gNe0) (eOp (g2 gMod0) (eVar 1) (eC (.int 3))) (eC (.int 0)))) (bOf (eOp (g2 gNe0) (eVar 3) (eVar 4)))) (sRet (eTup 0 (aCons (eC (.str "add")) (aCons (eVar 3) (aCons (eVar 4) (aCons (eVar 5) aNil)))))) sNext)
    (sRet (eTup 0 (aCons (eC (.str "swap")) (aCons (eVar 3) (aCons (eVar 4) aNil))))))))))
noncomputable def m__law_step : Run := runD 3 3 b__law_step
abbrev s__law_step : Stmt := top 21
theorem sc__law_step : FnScope ["_law_number", "_law_other", "_law_many", "_law_one", "_law_two", "_law_share"] ["_law_number", "_law_other", "_law_many"] (defScope s__law_step) := ⟨rfl, rfl, rfl, by decide +kernel, rfl, by decide +kernel, by decide +kernel⟩
theorem ok__law_step {P : Program} {w : World} {K : PySem.W.Frag} {mg : Str → Option Value} {base : Heap} {f : Addr} {fd : FuncData} (Fn : Fun K "_law_step" "_law_step" s__law_step f fd) (G__law_ratio : Gd P w K mg base "_law_ratio" 2 ["_law_top", "_law_bottom"] m__law_ratio) :
    FnOk P w K mg base (L2.CX P w) 3 f fd ["_law_number", "_law_other", "_law_many"] (spR K m__law_step) := by
  refine def_ok (m := 3) (n := 3) (fs := b__law_step) Fn sc__law_step rfl rfl (fun cdv A outer s H E hr => ⟨_, (pss_cons (ps_set (i := 3) sc__law_step.nd rfl (Or.inl rfl) (pe_op op_modA (pv 0) (pv 2)))
    (pss_cons (ps_set (i := 4) sc__law_step.nd rfl (Or.inl rfl) (pe_op op_modA (pe_op op_divA (pv 0) (pv 2)) (pv 2)))
    (pss_cons (ps_set (i := 5) sc__law_step.nd rfl (Or.inl rfl) (pe_gd (E := E) (takes_of rfl rfl rfl rfl) G__law_ratio hr (by decide) rfl (pa_cons (pe_op op_subA (pe_op op_modA (pe_op op_divA (pv 1) pe_int) pe_int) pe_int) (pa_cons (pe_op op_addA pe_int (pe_op op_modA (pe_op op_divA (pv 1) pe_int) pe_int)) pa_nil))))
    (pss_cons (ps_if (PW.pt (pw_and (pt_cmpR (op_eqA (K := K) rfl hr.units) (pe_op op_modA (pv 1) pe_int) pe_int (nomark _)) (pw_and1 (pt_cmpR (op_neA (K := K) rfl hr.units) (pv 5) (pe_tup (pa_cons pe_int (pa_cons pe_int pa_nil))) (nomark _))))) (pss_one (ps_ret (pe_tup (pa_cons pe_str (pa_cons (pv 3) (pa_cons (pv 5) pa_nil)))))) pss_nil)
    (pss_cons (ps_if (PW.pt (pw_and (pt_cmpR (op_neA (K := K) rfl hr.units) (pe_op op_modA (pv 1) pe_int) pe_int (nomark _)) (pw_and1 (pt_cmpR (op_neA (K := K) rfl hr.units) (pv 3) (pv 4) (nomark _))))) (pss_one (ps_ret (pe_tup (pa_cons pe_str (pa_cons (pv 3) (pa_cons (pv 4) (pa_cons (pv 5) pa_nil))))))) pss_nil)
    (pss_one (ps_ret (pe_tup (pa_cons pe_str (pa_cons (pv 3) (pa_cons (pv 4) pa_nil))))))))))), ?_⟩)
  try dsimp only [L2.cxOf, L2.Cx.nox, L2.Cx.wish]
  intro X hK hE
  subst hK hE
  exact (ss_seq (ss_asg (js := [3]) (se_op o_mod se_var se_var) (sg_nameF (by decide)))
    (ss_seq (ss_asg (js := [4]) (se_op o_mod (se_op o_div se_var se_var) se_var) (sg_nameF (by decide)))
    (ss_seq (ss_asg (js := [5]) (se_call (sa_cons (se_op o_sub (se_op o_mod (se_op o_div se_var se_int) se_int) se_int) (sa_cons (se_op o_add se_int (se_op o_mod (se_op o_div se_var se_int) se_int)) sa_nil))) (sg_nameF (by decide)))
    (ss_seq (ss_if (st_and (st_test (se_op o_eq (se_op o_mod se_var se_int) se_int)) (st_test (se_op o_ne se_var (se_tup (sa_cons se_int (sa_cons se_int sa_nil)))))) (ss_ret (se_tup (sa_cons se_str (sa_cons se_var (sa_cons se_var sa_nil))))) ss_next)
    (ss_seq (ss_if (st_and (st_test (se_op o_ne (se_op o_mod se_var se_int) se_int)) (st_test (se_op o_ne se_var se_var))) (ss_ret (se_tup (sa_cons se_str (sa_cons se_var (sa_cons se_var (sa_cons se_var sa_nil)))))) ss_next)
    (ss_ret (se_tup (sa_cons se_str (sa_cons se_var (sa_cons se_var sa_nil))))))))))
noncomputable def b__law_steps_1 : FE := (eCall m__law_step (aCons (eOp gIx (eVar 3) (eOp gMul (eC (.int 2)) (eVar 4))) (aCons (eOp gIx (eVar 3) (eOp gAdd (eOp gMul (eC (.int 2)) (eVar 4)) (eC (.int 1)))) (aCons (eCB (gC gLen) (aCons (eVar 1) aNil)) aNil))))
noncomputable def b__law_steps : FS := (sSeq (sAsg (eOp (g2 gMod0) (eCall m__law_cell (aCons (eVar 0) (aCons (eC (.int 1)) aNil))) (eC (.int 10))) (gF 2))
    (sSeq (sIf (bOf (eOp (g2 gEq0) (eCB (gC gLen) (aCons (eVar 1) aNil)) (eC (.int 0)))) (sAsg (eC (.int 0)) (gF 2)) sNext)
    (sSeq (sAsg (eCall m__law_stream (aCons (eVar 0) (aCons (eOp gAdd (eC (.int 1)) (eOp gMul (eCB (gC gLen) (aCons (eVar 1) aNil)) (eC (.int 5)))) (aCons (eOp gMul (eC (.int 2)) (eVar 2)) aNil)))) (gF 3))
    (sRet (eLc 0 [4] (iR1 (eVar 2)) (gN 4) bYes b__law_steps_1)))))
noncomputable def m__law_steps : Run := runD 2 3 b__law_steps
abbrev s__law_steps : Stmt := top 22
theorem sc__law_steps : FnScope ["_law_script", "_law_rows_here", "_law_many", "_law_numbers", "_law_k"] ["_law_script", "_law_rows_here"] (defScope s__law_steps) := ⟨rfl, rfl, rfl, by decide +kernel, rfl, by decide +kernel, by decide +kernel⟩
theorem ok__law_steps {P : Program} {w : World} {K : PySem.W.Frag} {mg : Str → Option Value} {base : Heap} {f : Addr} {fd : FuncData} (Fn : Fun K "_law_steps" "_law_steps" s__law_steps f fd) (m_len : mg "len" = none) (m_range : mg "range" = none) (G__law_cell : Gd P w K mg base "_law_cell" 1 ["_law_script", "_law_k"] m__law_cell) (G__law_stream : Gd P w K mg base "_law_stream" 2 ["_law_script", "_law_start", "_law_many"] m__law_stream) (G__law_step : Gd P w K mg base "_law_step" 3 ["_law_number", "_law_other", "_law_many"] m__law_step) :
    FnOk P w K mg base (L2.CX P w) 4 f fd ["_law_script", "_law_rows_here"] (spR K m__law_steps) := by
  refine def_ok (m := 2) (n := 3) (fs := b__law_steps) Fn sc__law_steps rfl rfl (fun cdv A outer s H E hr => ⟨_, (pss_cons (ps_set (i := 2) sc__law_steps.nd rfl (Or.inl rfl) (pe_op op_modA (pe_gd (E := E) (takes_of rfl rfl rfl rfl) G__law_cell hr (by decide) rfl (pa_cons (pv 0) (pa_cons pe_int pa_nil))) pe_int))
    (pss_cons (ps_if (pt_cmpR (op_eqA (K := K) rfl hr.units) (pe_callB (call_lenA (K := K) rfl) (by rfl) m_len (by decide +kernel) (pa_cons (pv 1) pa_nil)) pe_int (nomark _)) (pss_one (ps_set (i := 2) sc__law_steps.nd rfl (Or.inl rfl) pe_int)) pss_nil)
    (pss_cons (ps_set (i := 3) sc__law_steps.nd rfl (Or.inr rfl) (pe_gd (E := E) (takes_of rfl rfl rfl rfl) G__law_stream hr (by decide) rfl (pa_cons (pv 0) (pa_cons (pe_op op_addA pe_int (pe_op op_mulA (pe_callB (call_lenA (K := K) rfl) (by rfl) m_len (by decide +kernel) (pa_cons (pv 1) pa_nil)) pe_int)) (pa_cons (pe_op op_mulA pe_int (pv 2)) pa_nil)))))
    (pss_one (ps_ret (pe_lc (own := [("_law_k", 4)]) rfl sc__law_steps.nd (pi_range1 rfl m_range (pa_cons (pv 2) pa_nil)) (blkOk_by (N := ["_law_script", "_law_rows_here", "_law_many", "_law_numbers", "_law_k"]) (sc := defScope s__law_steps) (by decide +kernel)) (fun _ _ _ _ _ => (pg_name (i := 4) sc__law_steps.nd rfl (Or.inl rfl))) (fun _ _ _ _ _ => pts_nil) (fun _ _ _ _ _ => (pe_gdB (K := K) rfl G__law_step hr (by decide) rfl (pa_cons (pe_ix (ix_seqA (K := K) rfl) (pv 3) (pe_op op_mulA pe_int (pv 4)) (fun _ _ => rfl)) (pa_cons (pe_ix (ix_seqA (K := K) rfl) (pv 3) (pe_op op_addA (pe_op op_mulA pe_int (pv 4)) pe_int) (fun _ _ => rfl)) (pa_cons (pe_callB (call_lenA (K := K) rfl) (by rfl) m_len (by decide +kernel) (pa_cons (pv 1) pa_nil)) pa_nil))))))))))), ?_⟩)
  try dsimp only [L2.cxOf, L2.Cx.nox, L2.Cx.wish]
  intro X hK hE
  subst hK hE
  exact (ss_seq (ss_asg (js := [2]) (se_op o_mod (se_call (sa_cons se_var (sa_cons se_int sa_nil))) se_int) (sg_nameF (by decide)))
    (ss_seq (ss_if (st_test (se_op o_eq (se_cb c_len (sa_cons se_var sa_nil)) se_int)) (ss_asg (js := [2]) se_int (sg_nameF (by decide))) ss_next)
    (ss_seq (ss_asg (js := [3]) (se_call (sa_cons se_var (sa_cons (se_op o_add se_int (se_op o_mul (se_cb c_len (sa_cons se_var sa_nil)) se_int)) (sa_cons (se_op o_mul se_int se_var) sa_nil)))) (sg_nameF (by decide)))
    (ss_ret (se_lc (vs := [4]) (si_r1 se_var) (fun _ => (sg_name (by decide))) (fun _ => st_yes) (fun _ => (se_call (sa_cons (se_op op_ix se_var (se_op o_mul se_int se_var)) (sa_cons (se_op op_ix se_var (se_op o_add (se_op o_mul se_int se_var) se_int)) (sa_cons (se_cb c_len (sa_cons se_var sa_nil)) sa_nil))))))))))
noncomputable def b__law_sum : FS := (sRet (eCall m__law_ratio (aCons (eOp gAdd (eOp gMul (eOp gMul (eOp gIx (eVar 0) (eC (.int 0))) (eOp gIx (eVar 1) (eC (.int 1)))) (eOp gIx (eVar 2) (eC (.int 1)))) (eOp gMul (eOp gMul (eOp gIx (eVar 1) (eC (.int 0))) (eOp gIx (eVar 2) (eC (.int 0)))) (eOp gIx (eVar 0) (eC (.int 1))))) (aCons (eOp gMul (eOp gMul (eOp gIx (eVar 0) (eC (.int 1))) (eOp gIx (eVar 1) (eC (.int 1)))) (eOp gIx (eVar 2) (eC (.int 1)))) aNil))))
noncomputable def m__law_sum : Run := runD 3 0 b__law_sum
abbrev s__law_sum : Stmt := top 26
theorem sc__law_sum : FnScope ["_law_one", "_law_share", "_law_more"] ["_law_one", "_law_share", "_law_more"] (defScope s__law_sum) := ⟨rfl, rfl, rfl, by decide +kernel, rfl, by decide +kernel, by decide +kernel⟩
theorem ok__law_sum {P : Program} {w : World} {K : PySem.W.Frag} {mg : Str → Option Value} {base : Heap} {f : Addr} {fd : FuncData} (Fn : Fun K "_law_sum" "_law_sum" s__law_sum f fd) (G__law_ratio : Gd P w K mg base "_law_ratio" 2 ["_law_top", "_law_bottom"] m__law_ratio) :
    FnOk P w K mg base (L2.CX P w) 3 f fd ["_law_one", "_law_share", "_law_more"] (spR K m__law_sum) := by
  refine def_ok (m := 3) (n := 0) (fs := b__law_sum) Fn sc__law_sum rfl rfl (fun cdv A outer s H E hr => ⟨_, (pss_one (ps_ret (pe_gd (E := E) (takes_of rfl rfl rfl rfl) G__law_ratio hr (by decide) rfl (pa_cons (pe_op op_addA (pe_op op_mulA (pe_op op_mulA (pe_ix (ix_seqA (K := K) rfl) (pv 0) pe_int (fun _ _ => rfl)) (pe_ix (ix_seqA (K := K) rfl) (pv 1) pe_int (fun _ _ => rfl))) (pe_ix (ix_seqA (K := K) rfl) (pv 2) pe_int (fun _ _ => rfl))) (pe_op op_mulA (pe_op op_mulA (pe_ix (ix_seqA (K := K) rfl) (pv 1) pe_int (fun _ _ => rfl)) (pe_ix (ix_seqA (K := K) rfl) (pv 2) pe_int (fun _ _ => rfl))) (pe_ix (ix_seqA (K := K) rfl) (pv 0) pe_int (fun _ _ => rfl)))) (pa_cons (pe_op op_mulA (pe_op op_mulA (pe_ix (ix_seqA (K := K) rfl) (pv 0) pe_int (fun _ _ => rfl)) (pe_ix (ix_seqA (K := K) rfl) (pv 1) pe_int (fun _ _ => rfl))) (pe_ix (ix_seqA (K := K) rfl) (pv 2) pe_int (fun _ _ => rfl))) pa_nil))))), ?_⟩)
  try dsimp only [L2.cxOf, L2.Cx.nox, L2.Cx.wish]
  intro X hK hE
  subst hK hE
  exact (ss_ret (se_call (sa_cons (se_op o_add (se_op o_mul (se_op o_mul (se_op op_ix se_var se_int) (se_op op_ix se_var se_int)) (se_op op_ix se_var se_int)) (se_op o_mul (se_op o_mul (se_op op_ix se_var se_int) (se_op op_ix se_var se_int)) (se_op op_ix se_var se_int))) (sa_cons (se_op o_mul (se_op o_mul (se_op op_ix se_var se_int) (se_op op_ix se_var se_int)) (se_op op_ix se_var se_int)) sa_nil))))
noncomputable def b__law_step_done_1 : FE := (eCall m__law_ratio (aCons (eOp gMul (eOp gIx (eOp gIx (eVar 1) (eC (.int 2))) (eC (.int 0))) (eVar 3)) (aCons (eOp gMul (eOp gIx (eOp gIx (eVar 1) (eC (.int 2))) (eC (.int 1))) (eVar 4)) aNil)))
noncomputable def b__law_step_done_2 : FE := (eCall m__law_sum (aCons (eVar 5) (aCons (eOp gIx (eVar 1) (eC (.int 3))) (aCons (eVar 6) aNil))))
noncomputable def b__law_step_done : FS := (sSeq (sAsg (eCB gList (aCons (eVar 0) aNil)) (gN 2))
    (sSeq (sIf (bOf (eOp (g2 gEq0) (eOp gIx (eVar 1) (eC (.int 0))) (eC (.str "swap")))) (sSeq (sSet (pVar 2) (eOp gIx (eVar 1) (eC (.int 1))) (eOp gIx (eVar 0) (eOp gIx (eVar 1) (eC (.int 2)))))
    (sSet (pVar 2) (eOp gIx (eVar 1) (eC (.int 2))) (eOp gIx (eVar 0) (eOp gIx (eVar 1) (eC (.int 1)))))) (sIf (bOf (eOp (g2 gEq0) (eOp gIx (eVar 1) (eC (.int 0))) (eC (.str "times")))) (sSet (pVar 2) (eOp gIx (eVar 1) (eC (.int 1))) (eLc 0 [3, 4] (iSeq (eOp gIx (eVar 0) (eOp gIx (eVar 1) (eC (.int 1))))) (gT 2 (gsCons (gN 3) (gsCons (gN 4) gsNil))) bYes b__law_step_done_1)) (sSet (pVar 2) (eOp gIx (eVar 1) (eC (.int 1))) (eLc 0 [5, 6] (iZ (eOp gIx (eVar 0) (eOp gIx (eVar 1) (eC (.int 1)))) (eOp gIx (eVar 0) (eOp gIx (eVar 1) (eC (.int 2))))) (gT 2 (gsCons (gN 5) (gsCons (gN 6) gsNil))) bYes b__law_step_done_2))))
    (sRet (eMv 2))))
noncomputable def m__law_step_done : Run := runD 2 5 b__law_step_done
abbrev s__law_step_done : Stmt := top 27
theorem sc__law_step_done : FnScope ["_law_rows_here", "_law_step_here", "_law_found", "_law_top", "_law_bottom", "_law_one", "_law_more"] ["_law_rows_here", "_law_step_here"] (defScope s__law_step_done) := ⟨rfl, rfl, rfl, by decide +kernel, rfl, by decide +kernel, by decide +kernel⟩
theorem ok__law_step_done {P : Program} {w : World} {K : PySem.W.Frag} {mg : Str → Option Value} {base : Heap} {f : Addr} {fd : FuncData} (Fn : Fun K "_law_step_done" "_law_step_done" s__law_step_done f fd) (m_list : mg "list" = none) (m_zip : mg "zip" = none) (G__law_ratio : Gd P w K mg base "_law_ratio" 2 ["_law_top", "_law_bottom"] m__law_ratio) (G__law_sum : Gd P w K mg base "_law_sum" 3 ["_law_one", "_law_share", "_law_more"] m__law_sum) :
    FnOk P w K mg base (L2.CX P w) 4 f fd ["_law_rows_here", "_law_step_here"] (spR K m__law_step_done) := by
  refine def_ok (m := 2) (n := 5) (fs := b__law_step_done) Fn sc__law_step_done rfl rfl (fun cdv A outer s H E hr => ⟨_, (pss_cons (ps_set (i := 2) sc__law_step_done.nd rfl (Or.inl rfl) (pe_callTy (call_listA (K := K) rfl) (by rfl) m_list (by decide +kernel) (pa_cons (pv 0) pa_nil)))
    (pss_cons (ps_if (pt_cmpR (op_eqA (K := K) rfl hr.units) (pe_ix (ix_seqA (K := K) rfl) (pv 1) pe_int (fun _ _ => rfl)) pe_str (nomark _)) (pss_cons (ps_asg (pe_ix (ix_seqA (K := K) rfl) (pv 0) (pe_ix (ix_seqA (K := K) rfl) (pv 1) pe_int (fun _ _ => rfl)) (fun _ _ => rfl)) (pg_sub (pv 2) (pe_ix (ix_seqA (K := K) rfl) (pv 1) pe_int (fun _ _ => rfl)) set_list))
    (pss_one (ps_asg (pe_ix (ix_seqA (K := K) rfl) (pv 0) (pe_ix (ix_seqA (K := K) rfl) (pv 1) pe_int (fun _ _ => rfl)) (fun _ _ => rfl)) (pg_sub (pv 2) (pe_ix (ix_seqA (K := K) rfl) (pv 1) pe_int (fun _ _ => rfl)) set_list)))) (pss_one (ps_if (pt_cmpR (op_eqA (K := K) rfl hr.units) (pe_ix (ix_seqA (K := K) rfl) (pv 1) pe_int (fun _ _ => rfl)) pe_str (nomark _)) (pss_one (ps_asg (pe_lc (own := [("_law_top", 3), ("_law_bottom", 4)]) rfl sc__law_step_done.nd (pi_any (K := K) rfl (pe_ix (ix_seqA (K := K) rfl) (pv 0) (pe_ix (ix_seqA (K := K) rfl) (pv 1) pe_int (fun _ _ => rfl)) (fun _ _ => rfl))) (blkOk_by (N := ["_law_rows_here", "_law_step_here", "_law_found", "_law_top", "_law_bottom", "_law_one", "_law_more"]) (sc := defScope s__law_step_done) (by decide +kernel)) (fun _ _ _ _ _ => (pg_seqB (K := K) (n := 2) rfl rfl (pgs_cons (pg_name (i := 3) sc__law_step_done.nd rfl (Or.inl rfl)) (pgs_cons (pg_name (i := 4) sc__law_step_done.nd rfl (Or.inl rfl)) pgs_nil)))) (fun _ _ _ _ _ => pts_nil) (fun _ _ _ _ _ => (pe_gdB (K := K) rfl G__law_ratio hr (by decide) rfl (pa_cons (pe_op op_mulA (pe_ix (ix_seqA (K := K) rfl) (pe_ix (ix_seqA (K := K) rfl) (pv 1) pe_int (fun _ _ => rfl)) pe_int (fun _ _ => rfl)) (pv 3)) (pa_cons (pe_op op_mulA (pe_ix (ix_seqA (K := K) rfl) (pe_ix (ix_seqA (K := K) rfl) (pv 1) pe_int (fun _ _ => rfl)) pe_int (fun _ _ => rfl)) (pv 4)) pa_nil))))) (pg_sub (pv 2) (pe_ix (ix_seqA (K := K) rfl) (pv 1) pe_int (fun _ _ => rfl)) set_list))) (pss_one (ps_asg (pe_lc (own := [("_law_one", 5), ("_law_more", 6)]) rfl sc__law_step_done.nd (pi_zipA (K := K) rfl (by rfl) m_zip (pa_cons (pe_ix (ix_seqA (K := K) rfl) (pv 0) (pe_ix (ix_seqA (K := K) rfl) (pv 1) pe_int (fun _ _ => rfl)) (fun _ _ => rfl)) (pa_cons (pe_ix (ix_seqA (K := K) rfl) (pv 0) (pe_ix (ix_seqA (K := K) rfl) (pv 1) pe_int (fun _ _ => rfl)) (fun _ _ => rfl)) pa_nil))) (blkOk_by (N := ["_law_rows_here", "_law_step_here", "_law_found", "_law_top", "_law_bottom", "_law_one", "_law_more"]) (sc := defScope s__law_step_done) (by decide +kernel)) (fun _ _ _ _ _ => (pg_seqB (K := K) (n := 2) rfl rfl (pgs_cons (pg_name (i := 5) sc__law_step_done.nd rfl (Or.inl rfl)) (pgs_cons (pg_name (i := 6) sc__law_step_done.nd rfl (Or.inl rfl)) pgs_nil)))) (fun _ _ _ _ _ => pts_nil) (fun _ _ _ _ _ => (pe_gdB (K := K) rfl G__law_sum hr (by decide) rfl (pa_cons (pv 5) (pa_cons (pe_ix (ix_seqA (K := K) rfl) (pv 1) pe_int (fun _ _ => rfl)) (pa_cons (pv 6) pa_nil)))))) (pg_sub (pv 2) (pe_ix (ix_seqA (K := K) rfl) (pv 1) pe_int (fun _ _ => rfl)) set_list))))))
    (pss_one (ps_ret (pv 2))))), ?_⟩)
  try dsimp only [L2.cxOf, L2.Cx.nox, L2.Cx.wish]
  intro X hK hE
  subst hK hE
  exact (ss_seq (ss_asg (js := [2]) (se_cb c_list (sa_cons se_var sa_nil)) (sg_name (by decide)))
    (ss_seq (ss_if (st_test (se_op o_eq (se_op op_ix se_var se_int) se_str)) (ss_seq (ss_set sp_var (se_op op_ix se_var se_int) (se_op op_ix se_var (se_op op_ix se_var se_int)))
    (ss_set sp_var (se_op op_ix se_var se_int) (se_op op_ix se_var (se_op op_ix se_var se_int)))) (ss_if (st_test (se_op o_eq (se_op op_ix se_var se_int) se_str)) (ss_set sp_var (se_op op_ix se_var se_int) (se_lc (vs := [3, 4]) (si_any (se_op op_ix se_var (se_op op_ix se_var se_int))) (fun _ => (sg_seq (sgs_cons (sg_name (by decide)) (sgs_cons (sg_name (by decide)) sgs_nil)))) (fun _ => st_yes) (fun _ => (se_call (sa_cons (se_op o_mul (se_op op_ix (se_op op_ix se_var se_int) se_int) se_var) (sa_cons (se_op o_mul (se_op op_ix (se_op op_ix se_var se_int) se_int) se_var) sa_nil)))))) (ss_set sp_var (se_op op_ix se_var se_int) (se_lc (vs := [5, 6]) (si_zip (se_op op_ix se_var (se_op op_ix se_var se_int)) (se_op op_ix se_var (se_op op_ix se_var se_int))) (fun _ => (sg_seq (sgs_cons (sg_name (by decide)) (sgs_cons (sg_name (by decide)) sgs_nil)))) (fun _ => st_yes) (fun _ => (se_call (sa_cons se_var (sa_cons (se_op op_ix se_var se_int) (sa_cons se_var sa_nil)))))))))
    (ss_ret se_mv)))
noncomputable def b_is_whole : FS := (sRet (eAnd (eCB (gC gIsi) (aCons (eVar 0) (aCons (eC (.ty "int")) aNil))) (eNot (eCB (gC gIsi) (aCons (eVar 0) (aCons (eC (.ty "bool")) aNil))))))
noncomputable def m_is_whole : Run := runD 1 0 b_is_whole
abbrev s_is_whole : Stmt := top 4
theorem sc_is_whole : FnScope ["thing"] ["thing"] (defScope s_is_whole) := ⟨rfl, rfl, rfl, by decide +kernel, rfl, by decide +kernel, by decide +kernel⟩
theorem ok_is_whole {P : Program} {w : World} {K : PySem.W.Frag} {mg : Str → Option Value} {base : Heap} {f : Addr} {fd : FuncData} (Fn : Fun K "is_whole" "is_whole" s_is_whole f fd) (m_int : mg "int" = none) (m_isinstance : mg "isinstance" = none) (m_bool : mg "bool" = none) :
    FnOk P w K mg base (L2.CX P w) 1 f fd ["thing"] (spR K m_is_whole) := by
  refine def_ok (m := 1) (n := 0) (fs := b_is_whole) Fn sc_is_whole rfl rfl (fun cdv A outer s H E hr => ⟨_, (pss_one (ps_ret (pe_and (pe_callB (call_isiA (K := K) rfl) (by rfl) m_isinstance (by decide +kernel) (pa_cons (pv 0) (pa_cons (pe_bltn (v := .ty "int") (u := .type "int") (by rfl) m_int (by decide +kernel) rfl) pa_nil))) (pe_one (pe_not (pe_callB (call_isiA (K := K) rfl) (by rfl) m_isinstance (by decide +kernel) (pa_cons (pv 0) (pa_cons (pe_bltn (v := .ty "bool") (u := .type "bool") (by rfl) m_bool (by decide +kernel) rfl) pa_nil)))))))), ?_⟩)
  try dsimp only [L2.cxOf, L2.Cx.nox, L2.Cx.wish]
  intro X hK hE
  subst hK hE
  exact (ss_ret (se_and (se_cb c_isi (sa_cons se_var (sa_cons se_ty sa_nil))) (se_not (se_cb c_isi (sa_cons se_var (sa_cons se_ty sa_nil))))))
noncomputable def b_divisor_1 : FT := (bOf (eOp (g2 gNe0) (eVar 1) (eC (.int 0))))
noncomputable def b_divisor_2 : FS := (sPar 0 1 (aCons (eVar 1) (aCons (eOp (g2 gMod0) (eVar 0) (eVar 1)) aNil)))
noncomputable def b_divisor : FS := (sSeq (sWhile b_divisor_1 b_divisor_2)
    (sRet (eCB (gC gAbs) (aCons (eVar 0) aNil))))
noncomputable def m_divisor : Run := runD 2 0 b_divisor
abbrev s_divisor : Stmt := top 5
theorem sc_divisor : FnScope ["one", "other"] ["one", "other"] (defScope s_divisor) := ⟨rfl, rfl, rfl, by decide +kernel, rfl, by decide +kernel, by decide +kernel⟩
theorem ok_divisor {P : Program} {w : World} {K : PySem.W.Frag} {mg : Str → Option Value} {base : Heap} {f : Addr} {fd : FuncData} (Fn : Fun K "divisor" "divisor" s_divisor f fd) (m_abs : mg "abs" = none) :
    FnOk P w K mg base (L2.CX P w) 1 f fd ["one", "other"] (spR K m_divisor) := by
  refine def_ok (m := 2) (n := 0) (fs := b_divisor) Fn sc_divisor rfl rfl (fun cdv A outer s H E hr => ⟨_, (pss_cons (ps_while (passes_of rfl) (pt_cmpR (op_neA (K := K) rfl hr.units) (pv 1) pe_int (nomark _)) (pss_one (ps_par (by rfl) sc_divisor.nd (i := 0) (j := 1) rfl rfl (by decide) rfl rfl (pa_cons (pv 1) (pa_cons (pe_op op_modA (pv 0) (pv 1)) pa_nil)) (by rfl))))
    (pss_one (ps_ret (pe_callB call_absA (by rfl) m_abs (by decide +kernel) (pa_cons (pv 0) pa_nil))))), ?_⟩)
  try dsimp only [L2.cxOf, L2.Cx.nox, L2.Cx.wish]
  intro X hK hE
  subst hK hE
  exact (ss_seq (ss_while (st_test (se_op o_ne se_var se_int)) (ss_par (sa_cons se_var (sa_cons (se_op o_mod se_var se_var) sa_nil))))
    (ss_ret (se_cb c_abs (sa_cons se_var sa_nil))))
noncomputable def b_ratio : FS := (sSeq (sIf (bOr (bNot (bOf (eCall m_is_whole (aCons (eVar 0) aNil)))) (bOr (bNot (bOf (eCall m_is_whole (aCons (eVar 1) aNil)))) (bOf (eOp (g2 gEq0) (eVar 1) (eC (.int 0)))))) (sRaise "NoNumber") sNext)
    (sSeq (sAsg (eCall m_divisor (aCons (eVar 0) (aCons (eVar 1) aNil))) (gF 2))
    (sSeq (sIf (bOf (eOp (g2 gLt0) (eVar 1) (eC (.int 0)))) (sAsg (eOp (g2 gSub0) (eC (.int 0)) (eVar 2)) (gF 2)) sNext)
    (sRet (eTup 0 (aCons (eOp (g2 gDiv0) (eVar 0) (eVar 2)) (aCons (eOp (g2 gDiv0) (eVar 1) (eVar 2)) aNil)))))))
noncomputable def m_ratio : Run := runD 2 1 b_ratio
abbrev s_ratio : Stmt := top 7
theorem sc_ratio : FnScope ["top", "bottom", "common"] ["top", "bottom"] (defScope s_ratio) := ⟨rfl, rfl, rfl, by decide +kernel, rfl, by decide +kernel, by decide +kernel⟩
theorem ok_ratio {P : Program} {w : World} {K : PySem.W.Frag} {mg : Str → Option Value} {base : Heap} {f : Addr} {fd : FuncData} (Fn : Fun K "ratio" "ratio" s_ratio f fd) (R_NoNumber : ErrC K mg "NoNumber") (G_is_whole : Gd P w K mg base "is_whole" 1 ["thing"] m_is_whole) (G_divisor : Gd P w K mg base "divisor" 1 ["one", "other"] m_divisor) :
    FnOk P w K mg base (L2.CX P w) 2 f fd ["top", "bottom"] (spR K m_ratio) := by
  refine def_ok (m := 2) (n := 1) (fs := b_ratio) Fn sc_ratio rfl rfl (fun cdv A outer s H E hr => ⟨_, (pss_cons (ps_if (PW.pt (pw_or (pt_not (pt_val (pe_gd (E := E) (takes_of rfl rfl rfl rfl) G_is_whole hr (by decide) rfl (pa_cons (pv 0) pa_nil)))) (pw_or (pt_not (pt_val (pe_gd (E := E) (takes_of rfl rfl rfl rfl) G_is_whole hr (by decide) rfl (pa_cons (pv 1) pa_nil)))) (pw_or1 (pt_cmpR (op_eqA (K := K) rfl hr.units) (pv 1) pe_int (nomark _)))))) (pss_one (ps_raiseN rfl R_NoNumber (takes_of rfl rfl rfl rfl) rfl)) pss_nil)
    (pss_cons (ps_set (i := 2) sc_ratio.nd rfl (Or.inl rfl) (pe_gd (E := E) (takes_of rfl rfl rfl rfl) G_divisor hr (by decide) rfl (pa_cons (pv 0) (pa_cons (pv 1) pa_nil))))
    (pss_cons (ps_if (pt_cmpR op_ltA (pv 1) pe_int (nomark _)) (pss_one (ps_set (i := 2) sc_ratio.nd rfl (Or.inl rfl) (pe_op op_subA pe_int (pv 2)))) pss_nil)
    (pss_one (ps_ret (pe_tup (pa_cons (pe_op op_divA (pv 0) (pv 2)) (pa_cons (pe_op op_divA (pv 1) (pv 2)) pa_nil)))))))), ?_⟩)
  try dsimp only [L2.cxOf, L2.Cx.nox, L2.Cx.wish]
  intro X hK hE
  subst hK hE
  exact (ss_seq (ss_if (st_or (st_not (st_of (se_call (sa_cons se_var sa_nil)))) (st_or (st_not (st_of (se_call (sa_cons se_var sa_nil)))) (st_test (se_op o_eq se_var se_int)))) ss_raise ss_next)
    (ss_seq (ss_asg (js := [2]) (se_call (sa_cons se_var (sa_cons se_var sa_nil))) (sg_nameF (by decide)))
    (ss_seq (ss_if (st_test (se_op o_lt se_var se_int)) (ss_asg (js := [2]) (se_op o_sub se_int se_var) (sg_nameF (by decide))) ss_next)
    (ss_ret (se_tup (sa_cons (se_op o_div se_var se_var) (sa_cons (se_op o_div se_var se_var) sa_nil)))))))
noncomputable def b_times : FS := (sRet (eCall m_ratio (aCons (eOp gMul (eOp gIx (eVar 0) (eC (.int 0))) (eOp gIx (eVar 1) (eC (.int 0)))) (aCons (eOp gMul (eOp gIx (eVar 0) (eC (.int 1))) (eOp gIx (eVar 1) (eC (.int 1)))) aNil))))
noncomputable def m_times : Run := runD 2 0 b_times
abbrev s_times : Stmt := top 9
theorem sc_times : FnScope ["one", "other"] ["one", "other"] (defScope s_times) := ⟨rfl, rfl, rfl, by decide +kernel, rfl, by decide +kernel, by decide +kernel⟩
theorem ok_times {P : Program} {w : World} {K : PySem.W.Frag} {mg : Str → Option Value} {base : Heap} {f : Addr} {fd : FuncData} (Fn : Fun K "times" "times" s_times f fd) (G_ratio : Gd P w K mg base "ratio" 2 ["top", "bottom"] m_ratio) :
    FnOk P w K mg base (L2.CX P w) 3 f fd ["one", "other"] (spR K m_times) := by
  refine def_ok (m := 2) (n := 0) (fs := b_times) Fn sc_times rfl rfl (fun cdv A outer s H E hr => ⟨_, (pss_one (ps_ret (pe_gd (E := E) (takes_of rfl rfl rfl rfl) G_ratio hr (by decide) rfl (pa_cons (pe_op op_mulA (pe_ix (ix_seqA (K := K) rfl) (pv 0) pe_int (fun _ _ => rfl)) (pe_ix (ix_seqA (K := K) rfl) (pv 1) pe_int (fun _ _ => rfl))) (pa_cons (pe_op op_mulA (pe_ix (ix_seqA (K := K) rfl) (pv 0) pe_int (fun _ _ => rfl)) (pe_ix (ix_seqA (K := K) rfl) (pv 1) pe_int (fun _ _ => rfl))) pa_nil))))), ?_⟩)
  try dsimp only [L2.cxOf, L2.Cx.nox, L2.Cx.wish]
  intro X hK hE
  subst hK hE
  exact (ss_ret (se_call (sa_cons (se_op o_mul (se_op op_ix se_var se_int) (se_op op_ix se_var se_int)) (sa_cons (se_op o_mul (se_op op_ix se_var se_int) (se_op op_ix se_var se_int)) sa_nil))))
noncomputable def b_plus : FS := (sRet (eCall m_ratio (aCons (eOp gAdd (eOp gMul (eOp gIx (eVar 0) (eC (.int 0))) (eOp gIx (eVar 1) (eC (.int 1)))) (eOp gMul (eOp gIx (eVar 1) (eC (.int 0))) (eOp gIx (eVar 0) (eC (.int 1))))) (aCons (eOp gMul (eOp gIx (eVar 0) (eC (.int 1))) (eOp gIx (eVar 1) (eC (.int 1)))) aNil))))
noncomputable def m_plus : Run := runD 2 0 b_plus
abbrev s_plus : Stmt := top 8
theorem sc_plus : FnScope ["one", "other"] ["one", "other"] (defScope s_plus) := ⟨rfl, rfl, rfl, by decide +kernel, rfl, by decide +kernel, by decide +kernel⟩
theorem ok_plus {P : Program} {w : World} {K : PySem.W.Frag} {mg : Str → Option Value} {base : Heap} {f : Addr} {fd : FuncData} (Fn : Fun K "plus" "plus" s_plus f fd) (G_ratio : Gd P w K mg base "ratio" 2 ["top", "bottom"] m_ratio) :
    FnOk P w K mg base (L2.CX P w) 3 f fd ["one", "other"] (spR K m_plus) := by
  refine def_ok (m := 2) (n := 0) (fs := b_plus) Fn sc_plus rfl rfl (fun cdv A outer s H E hr => ⟨_, (pss_one (ps_ret (pe_gd (E := E) (takes_of rfl rfl rfl rfl) G_ratio hr (by decide) rfl (pa_cons (pe_op op_addA (pe_op op_mulA (pe_ix (ix_seqA (K := K) rfl) (pv 0) pe_int (fun _ _ => rfl)) (pe_ix (ix_seqA (K := K) rfl) (pv 1) pe_int (fun _ _ => rfl))) (pe_op op_mulA (pe_ix (ix_seqA (K := K) rfl) (pv 1) pe_int (fun _ _ => rfl)) (pe_ix (ix_seqA (K := K) rfl) (pv 0) pe_int (fun _ _ => rfl)))) (pa_cons (pe_op op_mulA (pe_ix (ix_seqA (K := K) rfl) (pv 0) pe_int (fun _ _ => rfl)) (pe_ix (ix_seqA (K := K) rfl) (pv 1) pe_int (fun _ _ => rfl))) pa_nil))))), ?_⟩)
  try dsimp only [L2.cxOf, L2.Cx.nox, L2.Cx.wish]
  intro X hK hE
  subst hK hE
  exact (ss_ret (se_call (sa_cons (se_op o_add (se_op o_mul (se_op op_ix se_var se_int) (se_op op_ix se_var se_int)) (se_op o_mul (se_op op_ix se_var se_int) (se_op op_ix se_var se_int))) (sa_cons (se_op o_mul (se_op op_ix se_var se_int) (se_op op_ix se_var se_int)) sa_nil))))
noncomputable def b_added_1 : FS := (sIf (bOf (eOp (g2 gEq0) (eOp gIx (eVar 5) (eC (.int 0))) (eC (.int 0)))) (sApp (pVar 3) (eVar 4)) (sApp (pVar 3) (eCall m_plus (aCons (eVar 4) (aCons (eCall m_times (aCons (eVar 2) (aCons (eVar 5) aNil))) aNil)))))
noncomputable def b_added : FS := (sSeq (sAsg (eLst 0 aNil) (gN 3))
    (sSeq (sFor (iZ (eVar 0) (eVar 1)) (gT 2 (gsCons (gF 4) (gsCons (gF 5) gsNil))) b_added_1)
    (sRet (eMv 3))))
noncomputable def m_added : Run := runD 3 3 b_added
abbrev s_added : Stmt := top 11
theorem sc_added : FnScope ["row", "other", "share", "found", "one", "more"] ["row", "other", "share"] (defScope s_added) := ⟨rfl, rfl, rfl, by decide +kernel, rfl, by decide +kernel, by decide +kernel⟩
theorem ok_added {P : Program} {w : World} {K : PySem.W.Frag} {mg : Str → Option Value} {base : Heap} {f : Addr} {fd : FuncData} (Fn : Fun K "added" "added" s_added f fd) (m_zip : mg "zip" = none) (G_plus : Gd P w K mg base "plus" 3 ["one", "other"] m_plus) (G_times : Gd P w K mg base "times" 3 ["one", "other"] m_times) :
    FnOk P w K mg base (L2.CX P w) 4 f fd ["row", "other", "share"] (spR K m_added) := by
  refine def_ok (m := 3) (n := 3) (fs := b_added) Fn sc_added rfl rfl (fun cdv A outer s H E hr => ⟨_, (pss_cons (ps_set (i := 3) sc_added.nd rfl (Or.inl rfl) (pe_lst pa_nil))
    (pss_cons (ps_for (passes_of rfl) rfl (pi_zipA (K := K) rfl (by rfl) m_zip (pa_cons (pv 0) (pa_cons (pv 1) pa_nil))) (pg_seq (by rfl) (pgs_cons (pg_name (i := 4) sc_added.nd rfl (Or.inl rfl)) (pgs_cons (pg_name (i := 5) sc_added.nd rfl (Or.inl rfl)) pgs_nil))) (pss_one (ps_if (pt_cmpR (op_eqA (K := K) rfl hr.units) (pe_ix (ix_seqA (K := K) rfl) (pv 5) pe_int (fun _ _ => rfl)) pe_int (nomark _)) (pss_one (ps_expr (pe_bm PySem.F.plainAttrs_list PySem.F.slot_list_append PySem.F.type_list_append mt_append (pv 3) (pa_cons (pv 4) pa_nil)))) (pss_one (ps_expr (pe_bm PySem.F.plainAttrs_list PySem.F.slot_list_append PySem.F.type_list_append mt_append (pv 3) (pa_cons (pe_gd (E := E) (takes_of rfl rfl rfl rfl) G_plus hr (by decide) rfl (pa_cons (pv 4) (pa_cons (pe_gd (E := E) (takes_of rfl rfl rfl rfl) G_times hr (by decide) rfl (pa_cons (pv 2) (pa_cons (pv 5) pa_nil))) pa_nil))) pa_nil)))))))
    (pss_one (ps_ret (pv 3))))), ?_⟩)
  try dsimp only [L2.cxOf, L2.Cx.nox, L2.Cx.wish]
  intro X hK hE
  subst hK hE
  exact (ss_seq (ss_asg (js := [3]) (se_lst sa_nil) (sg_name (by decide)))
    (ss_seq (ss_for (js := [4, 5]) (si_zip se_var se_var) (sg_seq (sgs_cons (sg_nameF (by decide)) (sgs_cons (sg_nameF (by decide)) sgs_nil))) (ss_if (st_test (se_op o_eq (se_op op_ix se_var se_int) se_int)) (ss_app sp_var se_var) (ss_app sp_var (se_call (sa_cons se_var (sa_cons (se_call (sa_cons se_var (sa_cons se_var sa_nil))) sa_nil))))))
    (ss_ret se_mv)))
noncomputable def b_stepped_1 : FE := (eCall m_times (aCons (eOp gIx (eVar 1) (eC (.int 2))) (aCons (eVar 3) aNil)))
noncomputable def b_stepped : FS := (sSeq (sSwp 0 2 (bOf (eOp (g2 gEq0) (eOp gIx (eVar 1) (eC (.int 0))) (eC (.str "swap")))) (eOp gIx (eVar 1) (eC (.int 1))) (eOp gIx (eVar 1) (eC (.int 2))) (eOp gIx (eVar 1) (eC (.int 2))) (eOp gIx (eVar 1) (eC (.int 1))) (bOf (eOp (g2 gEq0) (eOp gIx (eVar 1) (eC (.int 0))) (eC (.str "times")))) (eOp gIx (eVar 1) (eC (.int 1))) (eLc 0 [3] (iSeq (eOp gIx (eVar 0) (eOp gIx (eVar 1) (eC (.int 1))))) (gN 3) bYes b_stepped_1) (eOp gIx (eVar 1) (eC (.int 1))) (eCall m_added (aCons (eOp gIx (eVar 0) (eOp gIx (eVar 1) (eC (.int 1)))) (aCons (eOp gIx (eVar 0) (eOp gIx (eVar 1) (eC (.int 2)))) (aCons (eOp gIx (eVar 1) (eC (.int 3))) aNil)))))
    (sRet (eMv 2)))
noncomputable def m_stepped : RunM := runM 2 2 b_stepped
abbrev s_stepped : Stmt := top 12
theorem sc_stepped : FnScope ["rows", "step", "found", "one"] ["rows", "step"] (defScope s_stepped) := ⟨rfl, rfl, rfl, by decide +kernel, rfl, by decide +kernel, by decide +kernel⟩
theorem ok_stepped {P : Program} {w : World} {K : PySem.W.Frag} {mg : Str → Option Value} {base : Heap} {f : Addr} {fd : FuncData} (Fn : Fun K "stepped" "stepped" s_stepped f fd) (m_list : mg "list" = none) (G_times : Gd P w K mg base "times" 3 ["one", "other"] m_times) (G_added : Gd P w K mg base "added" 4 ["row", "other", "share"] m_added) :
    FnOk P w K mg base (L2.CX P w) 5 f fd ["rows", "step"] (spM K m_stepped) := by
  refine def_okM (m := 2) (n := 2) (fs := b_stepped) Fn sc_stepped rfl rfl (fun cdv A outer s H E hr => ⟨_, (pss_cons (ps_set (i := 2) sc_stepped.nd rfl (Or.inl rfl) (pe_callTy (call_listA (K := K) rfl) (by rfl) m_list (by decide +kernel) (pa_cons (pv 0) pa_nil)))
    (pss_cons (ps_if (pt_cmpR (op_eqA (K := K) rfl hr.units) (pe_ix (ix_seqA (K := K) rfl) (pv 1) pe_int (fun _ _ => rfl)) pe_str (nomark _)) (pss_cons (ps_asg (pe_ix (ix_seqA (K := K) rfl) (pv 0) (pe_ix (ix_seqA (K := K) rfl) (pv 1) pe_int (fun _ _ => rfl)) (fun _ _ => rfl)) (pg_sub (pv 2) (pe_ix (ix_seqA (K := K) rfl) (pv 1) pe_int (fun _ _ => rfl)) set_list)) (pss_one (ps_asg (pe_ix (ix_seqA (K := K) rfl) (pv 0) (pe_ix (ix_seqA (K := K) rfl) (pv 1) pe_int (fun _ _ => rfl)) (fun _ _ => rfl)) (pg_sub (pv 2) (pe_ix (ix_seqA (K := K) rfl) (pv 1) pe_int (fun _ _ => rfl)) set_list)))) (pss_one (ps_if (pt_cmpR (op_eqA (K := K) rfl hr.units) (pe_ix (ix_seqA (K := K) rfl) (pv 1) pe_int (fun _ _ => rfl)) pe_str (nomark _)) (pss_one (ps_asg (pe_lc (own := [("one", 3)]) rfl sc_stepped.nd (pi_any (K := K) rfl (pe_ix (ix_seqA (K := K) rfl) (pv 0) (pe_ix (ix_seqA (K := K) rfl) (pv 1) pe_int (fun _ _ => rfl)) (fun _ _ => rfl))) (blkOk_by (N := ["rows", "step", "found", "one"]) (sc := defScope s_stepped) (by decide +kernel)) (fun _ _ _ _ _ => (pg_name (i := 3) sc_stepped.nd rfl (Or.inl rfl))) (fun _ _ _ _ _ => pts_nil) (fun _ _ _ _ _ => (pe_gdB (K := K) rfl G_times hr (by decide) rfl (pa_cons (pe_ix (ix_seqA (K := K) rfl) (pv 1) pe_int (fun _ _ => rfl)) (pa_cons (pv 3) pa_nil))))) (pg_sub (pv 2) (pe_ix (ix_seqA (K := K) rfl) (pv 1) pe_int (fun _ _ => rfl)) set_list))) (pss_one (ps_asg (pe_gd (E := E) (takes_of rfl rfl rfl rfl) G_added hr (by decide) rfl (pa_cons (pe_ix (ix_seqA (K := K) rfl) (pv 0) (pe_ix (ix_seqA (K := K) rfl) (pv 1) pe_int (fun _ _ => rfl)) (fun _ _ => rfl)) (pa_cons (pe_ix (ix_seqA (K := K) rfl) (pv 0) (pe_ix (ix_seqA (K := K) rfl) (pv 1) pe_int (fun _ _ => rfl)) (fun _ _ => rfl)) (pa_cons (pe_ix (ix_seqA (K := K) rfl) (pv 1) pe_int (fun _ _ => rfl)) pa_nil)))) (pg_sub (pv 2) (pe_ix (ix_seqA (K := K) rfl) (pv 1) pe_int (fun _ _ => rfl)) set_list))))))
    (pss_one (ps_ret (pv 2))))), ?_⟩)
  try dsimp only [L2.cxOf, L2.Cx.nox, L2.Cx.wish]
  intro X hK hE
  subst hK hE
  exact (ss_assoc (ss_seq (ss_swp (i := 0) (j := 2) (fun _ _ _ => (st_test (se_op o_eq (se_op op_ix se_var se_int) se_str))) (fun _ _ _ => (se_op op_ix se_var se_int)) (fun _ _ _ => (se_op op_ix se_var se_int)) (fun _ _ _ => (se_op op_ix se_var se_int)) (fun _ _ _ => (se_op op_ix se_var se_int)) (fun _ _ _ => (st_test (se_op o_eq (se_op op_ix se_var se_int) se_str))) (fun _ _ _ => (se_op op_ix se_var se_int)) (fun _ _ _ => (se_lc (vs := [3]) (si_any (se_op op_ix se_var (se_op op_ix se_var se_int))) (fun _ => (sg_name (by decide))) (fun _ => st_yes) (fun _ => (se_call (sa_cons (se_op op_ix se_var se_int) (sa_cons se_var sa_nil)))))) (fun _ _ _ => (se_op op_ix se_var se_int)) (fun _ _ _ => (se_call (sa_cons (se_op op_ix se_var (se_op op_ix se_var se_int)) (sa_cons (se_op op_ix se_var (se_op op_ix se_var se_int)) (sa_cons (se_op op_ix se_var se_int) sa_nil))))))
    (ss_ret se_mv)))
noncomputable def b_walked_1 : FE := (eCB gList (aCons (eVar 4) aNil))
noncomputable def b_walked_2 : FS := (sAsg (eCallM m_stepped (aCons (eMv 2) (aCons (eVar 3) aNil))) (gN 2))
noncomputable def b_walked : FS := (sSeq (sAsg (eLc 1 [4] (iSeq (eVar 0)) (gN 4) bYes b_walked_1) (gN 2))
    (sSeq (sFor (iSeq (eVar 1)) (gF 3) b_walked_2)
    (sRet (eMv 2))))
noncomputable def m_walked : Run := runD 2 3 b_walked
abbrev s_walked : Stmt := top 13
theorem sc_walked : FnScope ["rows", "steps", "found", "step", "row"] ["rows", "steps"] (defScope s_walked) := ⟨rfl, rfl, rfl, by decide +kernel, rfl, by decide +kernel, by decide +kernel⟩
theorem ok_walked {P : Program} {w : World} {K : PySem.W.Frag} {mg : Str → Option Value} {base : Heap} {f : Addr} {fd : FuncData} (Fn : Fun K "walked" "walked" s_walked f fd) (m_list : mg "list" = none) (G_stepped : GdM P w K mg base "stepped" 5 ["rows", "step"] m_stepped) :
    FnOk P w K mg base (L2.CX P w) 6 f fd ["rows", "steps"] (spR K m_walked) := by
  refine def_ok (m := 2) (n := 3) (fs := b_walked) Fn sc_walked rfl rfl (fun cdv A outer s H E hr => ⟨_, (pss_cons (ps_setLc (i := 2) (own := [("row", 4)]) rfl sc_walked.nd rfl rfl (sw_true rfl rfl rfl (by decide +kernel)) (pi_any (K := K) rfl (pv 0)) (blkOk_by (N := ["rows", "steps", "found", "step", "row"]) (sc := defScope s_walked) (by decide +kernel)) (fun _ _ _ _ _ => (pg_name (i := 4) sc_walked.nd rfl (Or.inl rfl))) (fun _ _ _ _ _ => pts_nil) (fun _ _ _ _ _ => (pe_callTy (call_listA (K := K) rfl) (by rfl) m_list (by decide +kernel) (pa_cons (pv 4) pa_nil))))
    (pss_cons (ps_for (passes_of rfl) rfl (pi_any (K := K) rfl (pv 1)) (pg_name (i := 3) sc_walked.nd rfl (Or.inl rfl)) (pss_one (ps_set (i := 2) sc_walked.nd rfl (Or.inl rfl) (pe_gdM (E := E) (takes_of rfl rfl rfl rfl) G_stepped hr (by decide) rfl (pa_cons (pv 2) (pa_cons (pv 3) pa_nil))))))
    (pss_one (ps_ret (pv 2))))), ?_⟩)
  try dsimp only [L2.cxOf, L2.Cx.nox, L2.Cx.wish]
  intro X hK hE
  subst hK hE
  exact (ss_seq (ss_asg (js := [2]) (se_lc (vs := [4]) (si_any se_var) (fun _ => (sg_name (by decide))) (fun _ => st_yes) (fun _ => (se_cb c_list (sa_cons se_var sa_nil)))) (sg_name (by decide)))
    (ss_seq (ss_for (js := [3]) (si_any se_var) (sg_nameF (by decide)) (ss_asgM (js := [2]) (sn_callM (sa_cons se_mv (sa_cons se_var sa_nil))) (sg_name (by decide))))
    (ss_ret se_mv)))
noncomputable def b__law_whole : FS := (sRet (eAnd (eCB (gC gIsi) (aCons (eVar 0) (aCons (eC (.ty "int")) aNil))) (eNot (eCB (gC gIsi) (aCons (eVar 0) (aCons (eC (.ty "bool")) aNil))))))
noncomputable def m__law_whole : Run := runD 1 0 b__law_whole
abbrev s__law_whole : Stmt := top 23
theorem sc__law_whole : FnScope ["_law_found"] ["_law_found"] (defScope s__law_whole) := ⟨rfl, rfl, rfl, by decide +kernel, rfl, by decide +kernel, by decide +kernel⟩
theorem ok__law_whole {P : Program} {w : World} {K : PySem.W.Frag} {mg : Str → Option Value} {base : Heap} {f : Addr} {fd : FuncData} (Fn : Fun K "_law_whole" "_law_whole" s__law_whole f fd) (m_int : mg "int" = none) (m_isinstance : mg "isinstance" = none) (m_bool : mg "bool" = none) :
    FnOk P w K mg base (L2.CX P w) 1 f fd ["_law_found"] (spR K m__law_whole) := by
  refine def_ok (m := 1) (n := 0) (fs := b__law_whole) Fn sc__law_whole rfl rfl (fun cdv A outer s H E hr => ⟨_, (pss_one (ps_ret (pe_and (pe_callB (call_isiA (K := K) rfl) (by rfl) m_isinstance (by decide +kernel) (pa_cons (pv 0) (pa_cons (pe_bltn (v := .ty "int") (u := .type "int") (by rfl) m_int (by decide +kernel) rfl) pa_nil))) (pe_one (pe_not (pe_callB (call_isiA (K := K) rfl) (by rfl) m_isinstance (by decide +kernel) (pa_cons (pv 0) (pa_cons (pe_bltn (v := .ty "bool") (u := .type "bool") (by rfl) m_bool (by decide +kernel) rfl) pa_nil)))))))), ?_⟩)
  try dsimp only [L2.cxOf, L2.Cx.nox, L2.Cx.wish]
  intro X hK hE
  subst hK hE
  exact (ss_ret (se_and (se_cb c_isi (sa_cons se_var (sa_cons se_ty sa_nil))) (se_not (se_cb c_isi (sa_cons se_var (sa_cons se_ty sa_nil))))))
noncomputable def b__law_is_fraction : FS := (sSeq (sIf (bOr (bNot (bOf (eCB (gC gIsi) (aCons (eVar 0) (aCons (eC (.ty "tuple")) aNil))))) (bOf (eOp (g2 gNe0) (eCB (gC gLen) (aCons (eVar 0) aNil)) (eC (.int 2))))) (sRet (eC (.bl false))) sNext)
    (sSeq (sIf (bOr (bNot (bOf (eCall m__law_whole (aCons (eOp gIx (eVar 0) (eC (.int 0))) aNil)))) (bNot (bOf (eCall m__law_whole (aCons (eOp gIx (eVar 0) (eC (.int 1))) aNil))))) (sRet (eC (.bl false))) sNext)
    (sRet (eAnd (eOp (g2 gGt0) (eOp gIx (eVar 0) (eC (.int 1))) (eC (.int 0))) (eOp (g2 gEq0) (eCall m__law_gcd (aCons (eOp gIx (eVar 0) (eC (.int 0))) (aCons (eOp gIx (eVar 0) (eC (.int 1))) aNil))) (eC (.int 1)))))))
noncomputable def m__law_is_fraction : Run := runD 1 0 b__law_is_fraction
abbrev s__law_is_fraction : Stmt := top 24
theorem sc__law_is_fraction : FnScope ["_law_found"] ["_law_found"] (defScope s__law_is_fraction) := ⟨rfl, rfl, rfl, by decide +kernel, rfl, by decide +kernel, by decide +kernel⟩
theorem ok__law_is_fraction {P : Program} {w : World} {K : PySem.W.Frag} {mg : Str → Option Value} {base : Heap} {f : Addr} {fd : FuncData} (Fn : Fun K "_law_is_fraction" "_law_is_fraction" s__law_is_fraction f fd) (m_tuple : mg "tuple" = none) (m_isinstance : mg "isinstance" = none) (m_len : mg "len" = none) (G__law_whole : Gd P w K mg base "_law_whole" 1 ["_law_found"] m__law_whole) (G__law_gcd : Gd P w K mg base "_law_gcd" 1 ["_law_one", "_law_other"] m__law_gcd) :
    FnOk P w K mg base (L2.CX P w) 2 f fd ["_law_found"] (spR K m__law_is_fraction) := by
  refine def_ok (m := 1) (n := 0) (fs := b__law_is_fraction) Fn sc__law_is_fraction rfl rfl (fun cdv A outer s H E hr => ⟨_, (pss_cons (ps_if (PW.pt (pw_or (pt_not (pt_val (pe_callB (call_isiA (K := K) rfl) (by rfl) m_isinstance (by decide +kernel) (pa_cons (pv 0) (pa_cons (pe_bltn (v := .ty "tuple") (u := .type "tuple") (by rfl) m_tuple (by decide +kernel) rfl) pa_nil))))) (pw_or1 (pt_cmpR (op_neA (K := K) rfl hr.units) (pe_callB (call_lenA (K := K) rfl) (by rfl) m_len (by decide +kernel) (pa_cons (pv 0) pa_nil)) pe_int (nomark _))))) (pss_one (ps_ret pe_bl)) pss_nil)
    (pss_cons (ps_if (PW.pt (pw_or (pt_not (pt_val (pe_gd (E := E) (takes_of rfl rfl rfl rfl) G__law_whole hr (by decide) rfl (pa_cons (pe_ix (ix_seqA (K := K) rfl) (pv 0) pe_int (fun _ _ => rfl)) pa_nil)))) (pw_or1 (pt_not (pt_val (pe_gd (E := E) (takes_of rfl rfl rfl rfl) G__law_whole hr (by decide) rfl (pa_cons (pe_ix (ix_seqA (K := K) rfl) (pv 0) pe_int (fun _ _ => rfl)) pa_nil))))))) (pss_one (ps_ret pe_bl)) pss_nil)
    (pss_one (ps_ret (pe_and (pe_cmpR op_gtA (pe_ix (ix_seqA (K := K) rfl) (pv 0) pe_int (fun _ _ => rfl)) pe_int (nomark _)) (pe_one (pe_cmpR (op_eqA (K := K) rfl hr.units) (pe_gd (E := E) (takes_of rfl rfl rfl rfl) G__law_gcd hr (by decide) rfl (pa_cons (pe_ix (ix_seqA (K := K) rfl) (pv 0) pe_int (fun _ _ => rfl)) (pa_cons (pe_ix (ix_seqA (K := K) rfl) (pv 0) pe_int (fun _ _ => rfl)) pa_nil))) pe_int (nomark _)))))))), ?_⟩)
  try dsimp only [L2.cxOf, L2.Cx.nox, L2.Cx.wish]
  intro X hK hE
  subst hK hE
  exact (ss_seq (ss_if (st_or (st_not (st_of (se_cb c_isi (sa_cons se_var (sa_cons se_ty sa_nil))))) (st_test (se_op o_ne (se_cb c_len (sa_cons se_var sa_nil)) se_int))) (ss_ret se_bl) ss_next)
    (ss_seq (ss_if (st_or (st_not (st_of (se_call (sa_cons (se_op op_ix se_var se_int) sa_nil)))) (st_not (st_of (se_call (sa_cons (se_op op_ix se_var se_int) sa_nil))))) (ss_ret se_bl) ss_next)
    (ss_ret (se_and (se_op o_gt (se_op op_ix se_var se_int) se_int) (se_op o_eq (se_call (sa_cons (se_op op_ix se_var se_int) (sa_cons (se_op op_ix se_var se_int) sa_nil))) se_int)))))
noncomputable def b__law_fractions_1 : FE := (eCall m__law_is_fraction (aCons (eVar 2) aNil))
noncomputable def b__law_fractions : FS := (sSeq (sIf (bOr (bNot (bOf (eCB (gC gIsi) (aCons (eVar 0) (aCons (eC (.ty "list")) aNil))))) (bOf (eOp (g2 gNe0) (eCB (gC gLen) (aCons (eVar 0) aNil)) (eVar 1)))) (sRet (eC (.bl false))) sNext)
    (sRet (eCB (gC gAll) (aCons (eLc 0 [2] (iSeq (eVar 0)) (gN 2) bYes b__law_fractions_1) aNil))))
noncomputable def m__law_fractions : Run := runD 2 1 b__law_fractions
abbrev s__law_fractions : Stmt := top 25
theorem sc__law_fractions : FnScope ["_law_found", "_law_many", "_law_one"] ["_law_found", "_law_many"] (defScope s__law_fractions) := ⟨rfl, rfl, rfl, by decide +kernel, rfl, by decide +kernel, by decide +kernel⟩
theorem ok__law_fractions {P : Program} {w : World} {K : PySem.W.Frag} {mg : Str → Option Value} {base : Heap} {f : Addr} {fd : FuncData} (Fn : Fun K "_law_fractions" "_law_fractions" s__law_fractions f fd) (m_list : mg "list" = none) (m_isinstance : mg "isinstance" = none) (m_len : mg "len" = none) (m_all : mg "all" = none) (G__law_is_fraction : Gd P w K mg base "_law_is_fraction" 2 ["_law_found"] m__law_is_fraction) :
    FnOk P w K mg base (L2.CX P w) 3 f fd ["_law_found", "_law_many"] (spR K m__law_fractions) := by
  refine def_ok (m := 2) (n := 1) (fs := b__law_fractions) Fn sc__law_fractions rfl rfl (fun cdv A outer s H E hr => ⟨_, (pss_cons (ps_if (PW.pt (pw_or (pt_not (pt_val (pe_callB (call_isiA (K := K) rfl) (by rfl) m_isinstance (by decide +kernel) (pa_cons (pv 0) (pa_cons (pe_bltn (v := .ty "list") (u := .type "list") (by rfl) m_list (by decide +kernel) rfl) pa_nil))))) (pw_or1 (pt_cmpR (op_neA (K := K) rfl hr.units) (pe_callB (call_lenA (K := K) rfl) (by rfl) m_len (by decide +kernel) (pa_cons (pv 0) pa_nil)) (pv 1) (nomark _))))) (pss_one (ps_ret pe_bl)) pss_nil)
    (pss_one (ps_ret (pe_callB (call_allA (K := K) rfl rfl) (by rfl) m_all (by decide +kernel) (pa_cons (pe_lc (own := [("_law_one", 2)]) rfl sc__law_fractions.nd (pi_any (K := K) rfl (pv 0)) (blkOk_by (N := ["_law_found", "_law_many", "_law_one"]) (sc := defScope s__law_fractions) (by decide +kernel)) (fun _ _ _ _ _ => (pg_name (i := 2) sc__law_fractions.nd rfl (Or.inl rfl))) (fun _ _ _ _ _ => pts_nil) (fun _ _ _ _ _ => (pe_gdB (K := K) rfl G__law_is_fraction hr (by decide) rfl (pa_cons (pv 2) pa_nil)))) pa_nil))))), ?_⟩)
  try dsimp only [L2.cxOf, L2.Cx.nox, L2.Cx.wish]
  intro X hK hE
  subst hK hE
  exact (ss_seq (ss_if (st_or (st_not (st_of (se_cb c_isi (sa_cons se_var (sa_cons se_ty sa_nil))))) (st_test (se_op o_ne (se_cb c_len (sa_cons se_var sa_nil)) se_var))) (ss_ret se_bl) ss_next)
    (ss_ret (se_cb c_all (sa_cons (se_lc (vs := [2]) (si_any se_var) (fun _ => (sg_name (by decide))) (fun _ => st_yes) (fun _ => (se_call (sa_cons se_var sa_nil)))) sa_nil))))
noncomputable def b__law_alike_1 : FS := (sIf (bOr (bNot (bOf (eCall m__law_fractions (aCons (eVar 2) (aCons (eCB (gC gLen) (aCons (eVar 3) aNil)) aNil))))) (bOf (eOp (g2 gNe0) (eVar 2) (eVar 3)))) (sRet (eC (.bl false))) sNext)
noncomputable def b__law_alike : FS := (sSeq (sIf (bOr (bNot (bOf (eCB (gC gIsi) (aCons (eVar 0) (aCons (eC (.ty "list")) aNil))))) (bOf (eOp (g2 gNe0) (eCB (gC gLen) (aCons (eVar 0) aNil)) (eCB (gC gLen) (aCons (eVar 1) aNil))))) (sRet (eC (.bl false))) sNext)
    (sSeq (sFor (iZ (eVar 0) (eVar 1)) (gT 2 (gsCons (gF 2) (gsCons (gF 3) gsNil))) b__law_alike_1)
    (sRet (eC (.bl true)))))
noncomputable def m__law_alike : Run := runD 2 2 b__law_alike
abbrev s__law_alike : Stmt := top 28
theorem sc__law_alike : FnScope ["_law_found", "_law_due", "_law_row", "_law_other"] ["_law_found", "_law_due"] (defScope s__law_alike) := ⟨rfl, rfl, rfl, by decide +kernel, rfl, by decide +kernel, by decide +kernel⟩
theorem ok__law_alike {P : Program} {w : World} {K : PySem.W.Frag} {mg : Str → Option Value} {base : Heap} {f : Addr} {fd : FuncData} (Fn : Fun K "_law_alike" "_law_alike" s__law_alike f fd) (m_list : mg "list" = none) (m_isinstance : mg "isinstance" = none) (m_len : mg "len" = none) (m_zip : mg "zip" = none) (G__law_fractions : Gd P w K mg base "_law_fractions" 3 ["_law_found", "_law_many"] m__law_fractions) :
    FnOk P w K mg base (L2.CX P w) 4 f fd ["_law_found", "_law_due"] (spR K m__law_alike) := by
  refine def_ok (m := 2) (n := 2) (fs := b__law_alike) Fn sc__law_alike rfl rfl (fun cdv A outer s H E hr => ⟨_, (pss_cons (ps_if (PW.pt (pw_or (pt_not (pt_val (pe_callB (call_isiA (K := K) rfl) (by rfl) m_isinstance (by decide +kernel) (pa_cons (pv 0) (pa_cons (pe_bltn (v := .ty "list") (u := .type "list") (by rfl) m_list (by decide +kernel) rfl) pa_nil))))) (pw_or1 (pt_cmpR (op_neA (K := K) rfl hr.units) (pe_callB (call_lenA (K := K) rfl) (by rfl) m_len (by decide +kernel) (pa_cons (pv 0) pa_nil)) (pe_callB (call_lenA (K := K) rfl) (by rfl) m_len (by decide +kernel) (pa_cons (pv 1) pa_nil)) (nomark _))))) (pss_one (ps_ret pe_bl)) pss_nil)
    (pss_cons (ps_for (passes_of rfl) rfl (pi_zipA (K := K) rfl (by rfl) m_zip (pa_cons (pv 0) (pa_cons (pv 1) pa_nil))) (pg_seq (by rfl) (pgs_cons (pg_name (i := 2) sc__law_alike.nd rfl (Or.inl rfl)) (pgs_cons (pg_name (i := 3) sc__law_alike.nd rfl (Or.inl rfl)) pgs_nil))) (pss_one (ps_if (PW.pt (pw_or (pt_not (pt_val (pe_gd (E := E) (takes_of rfl rfl rfl rfl) G__law_fractions hr (by decide) rfl (pa_cons (pv 2) (pa_cons (pe_callB (call_lenA (K := K) rfl) (by rfl) m_len (by decide +kernel) (pa_cons (pv 3) pa_nil)) pa_nil))))) (pw_or1 (pt_cmpR (op_neA (K := K) rfl hr.units) (pv 2) (pv 3) (nomark _))))) (pss_one (ps_ret pe_bl)) pss_nil)))
    (pss_one (ps_ret pe_bl)))), ?_⟩)
  try dsimp only [L2.cxOf, L2.Cx.nox, L2.Cx.wish]
  intro X hK hE
  subst hK hE
  exact (ss_seq (ss_if (st_or (st_not (st_of (se_cb c_isi (sa_cons se_var (sa_cons se_ty sa_nil))))) (st_test (se_op o_ne (se_cb c_len (sa_cons se_var sa_nil)) (se_cb c_len (sa_cons se_var sa_nil))))) (ss_ret se_bl) ss_next)
    (ss_seq (ss_for (js := [2, 3]) (si_zip se_var se_var) (sg_seq (sgs_cons (sg_nameF (by decide)) (sgs_cons (sg_nameF (by decide)) sgs_nil))) (ss_if (st_or (st_not (st_of (se_call (sa_cons se_var (sa_cons (se_cb c_len (sa_cons se_var sa_nil)) sa_nil))))) (st_test (se_op o_ne se_var se_var))) (ss_ret se_bl) ss_next))
    (ss_ret se_bl)))
noncomputable def b_law_1 : FE := (eCB gList (aCons (eVar 3) aNil))
noncomputable def b_law_2 : FS := (sAsg (eCall m__law_step_done (aCons (eVar 4) (aCons (eVar 5) aNil))) (gF 4))
noncomputable def b_law_3 : FE := (eCB gList (aCons (eVar 3) aNil))
noncomputable def b_law_4 : FS := (sApp (pVar 3) (eTup 0 (aCons (eC (.int 5)) (aCons (eC (.int 1)) aNil))))
noncomputable def b_law_5 : FS := (sClr (pVar 3))
noncomputable def b_law_6 : FE := (eCB gList (aCons (eVar 3) aNil))
noncomputable def b_law : FS := (sSeq (sAsg (eCall m__law_rows (aCons (eVar 0) aNil)) (gF 1))
    (sSeq (sAsg (eCall m__law_steps (aCons (eVar 0) (aCons (eVar 1) aNil))) (gF 2))
    (sSeq (sAsg (eLc 0 [3] (iSeq (eVar 1)) (gN 3) bYes b_law_1) (gF 4))
    (sSeq (sFor (iSeq (eVar 2)) (gF 5) b_law_2)
    (sSeq (sAsg (eLc 1 [3] (iSeq (eVar 1)) (gN 3) bYes b_law_3) (gN 6))
    (sSeq (sAsg (eCB gList (aCons (eVar 2) aNil)) (gN 7))
    (sSeq (sAsg (eCall m_walked (aCons (eVar 6) (aCons (eVar 7) aNil))) (gN 8))
    (sSeq (sIf (bOr (bNot (bOf (eCall m__law_alike (aCons (eVar 8) (aCons (eVar 4) aNil))))) (bOr (bOf (eOp (g2 gNe0) (eVar 6) (eVar 1))) (bOf (eOp (g2 gNe0) (eVar 7) (eVar 2))))) (sRet (eC (.bl false))) sNext)
    (sSeq (sForOwn 6 3 b_law_4)
    (sSeq (sApp (pVar 7) (eTup 0 (aCons (eC (.str "times")) (aCons (eC (.int 0)) (aCons (eTup 0 (aCons (eC (.int 2)) (aCons (eC (.int 1)) aNil))) aNil)))))
    (sSeq (sIf (bNot (bOf (eCall m__law_alike (aCons (eVar 8) (aCons (eVar 4) aNil))))) (sRet (eC (.bl false))) sNext)
    (sSeq (sForOwn 8 3 b_law_5)
    (sRet (eCall m__law_alike (aCons (eCall m_walked (aCons (eLc 0 [3] (iSeq (eVar 1)) (gN 3) bYes b_law_6) (aCons (eCB gList (aCons (eVar 2) aNil)) aNil))) (aCons (eVar 4) aNil))))))))))))))))
noncomputable def m_law : Run := runD 1 8 b_law
abbrev s_law : Stmt := top 29
theorem sc_law : FnScope ["_law_script", "_law_rows_here", "_law_steps_here", "_law_row", "_law_due", "_law_step_here", "_law_handed", "_law_told", "_law_found"] ["_law_script"] (defScope s_law) := ⟨rfl, rfl, rfl, by decide +kernel, rfl, by decide +kernel, by decide +kernel⟩
theorem ok_law {P : Program} {w : World} {K : PySem.W.Frag} {mg : Str → Option Value} {base : Heap} {f : Addr} {fd : FuncData} (Fn : Fun K "law" "law" s_law f fd) (m_list : mg "list" = none) (G__law_rows : Gd P w K mg base "_law_rows" 4 ["_law_script"] m__law_rows) (G__law_steps : Gd P w K mg base "_law_steps" 4 ["_law_script", "_law_rows_here"] m__law_steps) (G__law_step_done : Gd P w K mg base "_law_step_done" 4 ["_law_rows_here", "_law_step_here"] m__law_step_done) (G_walked : Gd P w K mg base "walked" 6 ["rows", "steps"] m_walked) (G__law_alike : Gd P w K mg base "_law_alike" 4 ["_law_found", "_law_due"] m__law_alike) :
    FnOk P w K mg base (L2.CX P w) 7 f fd ["_law_script"] (spR K m_law) := by
  refine def_ok (m := 1) (n := 8) (fs := b_law) Fn sc_law rfl rfl (fun cdv A outer s H E hr => ⟨_, (pss_cons (ps_set (i := 1) sc_law.nd rfl (Or.inl rfl) (pe_gd (E := E) (takes_of rfl rfl rfl rfl) G__law_rows hr (by decide) rfl (pa_cons (pv 0) pa_nil)))
    (pss_cons (ps_set (i := 2) sc_law.nd rfl (Or.inl rfl) (pe_gd (E := E) (takes_of rfl rfl rfl rfl) G__law_steps hr (by decide) rfl (pa_cons (pv 0) (pa_cons (pv 1) pa_nil))))
    (pss_cons (ps_setLc (i := 4) (own := [("_law_row", 3)]) rfl sc_law.nd rfl rfl (sw_true rfl rfl rfl (by decide +kernel)) (pi_any (K := K) rfl (pv 1)) (blkOk_by (N := ["_law_script", "_law_rows_here", "_law_steps_here", "_law_row", "_law_due", "_law_step_here", "_law_handed", "_law_told", "_law_found"]) (sc := defScope s_law) (by decide +kernel)) (fun _ _ _ _ _ => (pg_name (i := 3) sc_law.nd rfl (Or.inl rfl))) (fun _ _ _ _ _ => pts_nil) (fun _ _ _ _ _ => (pe_callTy (call_listA (K := K) rfl) (by rfl) m_list (by decide +kernel) (pa_cons (pv 3) pa_nil))))
    (pss_cons (ps_for (passes_of rfl) rfl (pi_any (K := K) rfl (pv 2)) (pg_name (i := 5) sc_law.nd rfl (Or.inl rfl)) (pss_one (ps_set (i := 4) sc_law.nd rfl (Or.inl rfl) (pe_gd (E := E) (takes_of rfl rfl rfl rfl) G__law_step_done hr (by decide) rfl (pa_cons (pv 4) (pa_cons (pv 5) pa_nil))))))
    (pss_cons (ps_setLc (i := 6) (own := [("_law_row", 3)]) rfl sc_law.nd rfl rfl (sw_true rfl rfl rfl (by decide +kernel)) (pi_any (K := K) rfl (pv 1)) (blkOk_by (N := ["_law_script", "_law_rows_here", "_law_steps_here", "_law_row", "_law_due", "_law_step_here", "_law_handed", "_law_told", "_law_found"]) (sc := defScope s_law) (by decide +kernel)) (fun _ _ _ _ _ => (pg_name (i := 3) sc_law.nd rfl (Or.inl rfl))) (fun _ _ _ _ _ => pts_nil) (fun _ _ _ _ _ => (pe_callTy (call_listA (K := K) rfl) (by rfl) m_list (by decide +kernel) (pa_cons (pv 3) pa_nil))))
    (pss_cons (ps_set (i := 7) sc_law.nd rfl (Or.inl rfl) (pe_callTy (call_listA (K := K) rfl) (by rfl) m_list (by decide +kernel) (pa_cons (pv 2) pa_nil)))
    (pss_cons (ps_set (i := 8) sc_law.nd rfl (Or.inl rfl) (pe_gd (E := E) (takes_of rfl rfl rfl rfl) G_walked hr (by decide) rfl (pa_cons (pv 6) (pa_cons (pv 7) pa_nil))))
    (pss_cons (ps_if (PW.pt (pw_or (pt_not (pt_val (pe_gd (E := E) (takes_of rfl rfl rfl rfl) G__law_alike hr (by decide) rfl (pa_cons (pv 8) (pa_cons (pv 4) pa_nil))))) (pw_or (pt_cmpR (op_neA (K := K) rfl hr.units) (pv 6) (pv 1) (nomark _)) (pw_or1 (pt_cmpR (op_neA (K := K) rfl hr.units) (pv 7) (pv 2) (nomark _)))))) (pss_one (ps_ret pe_bl)) pss_nil)
    (pss_cons (ps_for (passes_of rfl) rfl (pi_any (K := K) rfl (pv 6)) (pg_name (i := 3) sc_law.nd rfl (Or.inl rfl)) (pss_one (ps_expr (pe_bm PySem.F.plainAttrs_list PySem.F.slot_list_append PySem.F.type_list_append mt_append (pv 3) (pa_cons (pe_tup (pa_cons pe_int (pa_cons pe_int pa_nil))) pa_nil)))))
    (pss_cons (ps_expr (pe_bm PySem.F.plainAttrs_list PySem.F.slot_list_append PySem.F.type_list_append mt_append (pv 7) (pa_cons (pe_tup (pa_cons pe_str (pa_cons pe_int (pa_cons (pe_tup (pa_cons pe_int (pa_cons pe_int pa_nil))) pa_nil)))) pa_nil)))
    (pss_cons (ps_if (pt_not (pt_val (pe_gd (E := E) (takes_of rfl rfl rfl rfl) G__law_alike hr (by decide) rfl (pa_cons (pv 8) (pa_cons (pv 4) pa_nil))))) (pss_one (ps_ret pe_bl)) pss_nil)
    (pss_cons (ps_for (passes_of rfl) rfl (pi_any (K := K) rfl (pv 8)) (pg_name (i := 3) sc_law.nd rfl (Or.inl rfl)) (pss_one (ps_expr (pe_bm0 PySem.F.plainAttrs_list PySem.F.slot_list_clear PySem.F.type_list_clear mt_clear (pv 3)))))
    (pss_one (ps_ret (pe_gd (E := E) (takes_of rfl rfl rfl rfl) G__law_alike hr (by decide) rfl (pa_cons (pe_gd (E := E) (takes_of rfl rfl rfl rfl) G_walked hr (by decide) rfl (pa_cons (pe_lc (own := [("_law_row", 3)]) rfl sc_law.nd (pi_any (K := K) rfl (pv 1)) (blkOk_by (N := ["_law_script", "_law_rows_here", "_law_steps_here", "_law_row", "_law_due", "_law_step_here", "_law_handed", "_law_told", "_law_found"]) (sc := defScope s_law) (by decide +kernel)) (fun _ _ _ _ _ => (pg_name (i := 3) sc_law.nd rfl (Or.inl rfl))) (fun _ _ _ _ _ => pts_nil) (fun _ _ _ _ _ => (pe_callTy (call_listA (K := K) rfl) (by rfl) m_list (by decide +kernel) (pa_cons (pv 3) pa_nil)))) (pa_cons (pe_callTy (call_listA (K := K) rfl) (by rfl) m_list (by decide +kernel) (pa_cons (pv 2) pa_nil)) pa_nil))) (pa_cons (pv 4) pa_nil))))))))))))))))), ?_⟩)
  try dsimp only [L2.cxOf, L2.Cx.nox, L2.Cx.wish]
  intro X hK hE
  subst hK hE
  exact (ss_seq (ss_asg (js := [1]) (se_call (sa_cons se_var sa_nil)) (sg_nameF (by decide)))
    (ss_seq (ss_asg (js := [2]) (se_call (sa_cons se_var (sa_cons se_var sa_nil))) (sg_nameF (by decide)))
    (ss_seq (ss_asg (js := [4]) (se_lc (vs := [3]) (si_any se_var) (fun _ => (sg_name (by decide))) (fun _ => st_yes) (fun _ => (se_cb c_list (sa_cons se_var sa_nil)))) (sg_nameF (by decide)))
    (ss_seq (ss_for (js := [5]) (si_any se_var) (sg_nameF (by decide)) (ss_asg (js := [4]) (se_call (sa_cons se_var (sa_cons se_var sa_nil))) (sg_nameF (by decide))))
    (ss_seq (ss_asg (js := [6]) (se_lc (vs := [3]) (si_any se_var) (fun _ => (sg_name (by decide))) (fun _ => st_yes) (fun _ => (se_cb c_list (sa_cons se_var sa_nil)))) (sg_name (by decide)))
    (ss_seq (ss_asg (js := [7]) (se_cb c_list (sa_cons se_var sa_nil)) (sg_name (by decide)))
    (ss_seq (ss_asg (js := [8]) (se_call (sa_cons se_var (sa_cons se_var sa_nil))) (sg_name (by decide)))
    (ss_seq (ss_if (st_or (st_not (st_of (se_call (sa_cons se_var (sa_cons se_var sa_nil))))) (st_or (st_test (se_op o_ne se_var se_var)) (st_test (se_op o_ne se_var se_var)))) (ss_ret se_bl) ss_next)
    (ss_seq (ss_forOwn (fun _ _ _ => (ss_app sp_var (se_tup (sa_cons se_int (sa_cons se_int sa_nil))))))
    (ss_seq (ss_app sp_var (se_tup (sa_cons se_str (sa_cons se_int (sa_cons (se_tup (sa_cons se_int (sa_cons se_int sa_nil))) sa_nil)))))
    (ss_seq (ss_if (st_not (st_of (se_call (sa_cons se_var (sa_cons se_var sa_nil))))) (ss_ret se_bl) ss_next)
    (ss_seq (ss_forOwn (fun _ _ _ => (ss_clr sp_var)))
    (ss_ret (se_call (sa_cons (se_call (sa_cons (se_lc (vs := [3]) (si_any se_var) (fun _ => (sg_name (by decide))) (fun _ => st_yes) (fun _ => (se_cb c_list (sa_cons se_var sa_nil)))) (sa_cons (se_cb c_list (sa_cons se_var sa_nil)) sa_nil))) (sa_cons se_var sa_nil))))))))))))))))
local macro_rules | `(tactic| walk_at "sz") => `(tactic| first
  | assumption
  | omega
  | with_unfolding_all rfl
  | with_unfolding_all decide
  | with_unfolding_all exact mulOk_bd (by decide)
  | with_unfolding_all exact mulOk_r _ (by decide)
  | with_unfolding_all exact mulOk_l _ (by decide)
  | with_unfolding_all exact divOk_bd _ (by assumption) (by decide)
  | with_unfolding_all exact divOk_bd _ (by omega) (by decide)
  | with_unfolding_all exact divOk_bd _ (by decide) (by decide)
  | with_unfolding_all exact log_bd (by decide) (by decide))
local macro_rules | `(tactic| simp? only [$ts,*]) => do
  let a : Array Lean.Ident := (#[`run_0, `run_1, `run_2, `run_3, `run_4, `run_5, `run_6, `sSeq_ap, `sIf_ap, `sRet_ap, `sRetN_ap, `sDrop_ap, `sAsg_ap, `sNext_ap, `sBrk_ap, `sCnt_ap, `sNever_ap, `sRaise_ap, `sPar_ap, `sAug_ap, `sFor_ap, `bOf_ap, `bAnd_ap, `bOr_ap, `bNot_ap, `bYes_ap, `eVar_ap, `eFz_ap, `eMv_ap, `eC_ap, `eOp_ap, `eAnd_ap, `eOr_ap, `eNot_ap, `eNeg_ap, `eRgL_ap, `eSrtI_ap, `eIf_ap, `eTup_ap, `eLst_ap, `eCall_ap, `eCB_ap, `eSl_ap, `oNo_ap, `oSome_ap, `eRevL_ap, `eChain_ap, `aNil_ap, `aCons_ap, `g2_ap, `gOr_ap, `gC_ap, `gDivmod_ap, `gList_ap, `gTupL_ap, `gSorted_ap, `gIx_ap, `gCat_ap, `gRep_ap, `gN_ap, `gF_ap, `gT_ap, `gsNil_ap, `gsCons_ap, `iLst_ap, `iR1_ap, `iR2_ap, `iSeq_ap, `iZ_ap, `reduceIte, `sTryK_ap, `gPart_ap, `eM1_ap, `eLc_ap, `eJoined_ap, `jStr_ap, `jFmt_ap, `jNil_ap, `eDnew_ap, `eDic1_ap, `gFind_ap, `gJoin_ap, `gSplitS_ap, `gTupOf_ap, `pIx_ap, `pVar_ap, `sApp_ap, `sClr_ap, `sRev_ap, `sSet_ap, `bind_ap, `toF_ap, `in_sgn, `run_i1, `run_i2, `run_i3, `run_i4, `run_i5, `eFld_ap, `eMake_ap, `eMeth_ap, `sFldN_ap, `sBase_ap, `sBase1_ap, `pFld_ap, `eDget2_ap, `sDput_ap, `eLcD_ap, `eLcX_ap, `sRaiseF_ap, `eFldO_ap, `hNo3_ap, `iR3_ap, `sTry_ap, `hNil_ap, `hAs_ap, `hNo_ap, `bCall_ap, `bMeth_ap, `bIf_ap, `eLend_ap, `sRevR_ap, `eMxDef_ap, `eItmL_ap, `sExt_ap, `sFzB_ap, `eIx1_ap, `eIxP_ap, `eIxO_ap, `eCut_ap, `eIndex_ap, `iZ3_ap, `eCallM_ap, `eUp_ap, `sSwp_ap] : Array Lean.Name).map Lean.mkIdent
  let b : Array Lean.Ident := (#[`eq_self, `entryE, `endR, `loop_nil, `loop_cons, `look, `gSortD, `gAdd, `gMul, `gAdd0, `gAddS0, `gSub0, `gDiv0, `gMod0, `gMul0, `gPow0, `gLt0, `gLe0, `gGt0, `gGe0, `gEq0, `gNe0, `gIs0, `gNot0, `gIn0, `gLen, `lenD, `gAbs, `gInt, `gStr, `gSum, `gAny, `gAll, `gMax, `gMin, `gSl, `gRevL, `gIsi, `kPart, `withK, `stb', `okItem, `hasK, `itemsOk, `isNon, `listOf, `lstOf, `intsOf, `blsOf, `tyD, `lstD, `seqOf, `List.map_cons, `List.map_nil, `List.length_cons, `List.length_nil, `List.reduceReplicate, `List.nil_append, `List.cons_append, `List.getElem?_cons_zero, `List.getElem?_cons_succ, `List.getElem?_nil, `List.set_cons_zero, `List.set_cons_succ, `List.all_cons, `List.all_nil, `Bool.and_true, `Bool.true_and, `Bool.and_false, `Bool.false_and, `Bool.or_true, `Bool.true_or, `Bool.or_false, `Bool.false_or, `Bool.not_true, `Bool.not_false, `Bool.false_eq_true, `if_true, `if_false, `Option.map_some, `Option.map_none, `chk_pos, `decide_eq_true_eq, `flat, `flat.flats, `okP, `okP.okPs, `kit_NoneType_int, `kit_NoneType_bool, `kit_NoneType_str, `kit_NoneType_tuple, `kit_NoneType_list, `kit_NoneType_dict, `kit_bool_int, `kit_bool_bool, `kit_bool_str, `kit_bool_tuple, `kit_bool_list, `kit_bool_dict, `kit_int_int, `kit_int_bool, `kit_int_str, `kit_int_tuple, `kit_int_list, `kit_int_dict, `kit_str_int, `kit_str_bool, `kit_str_str, `kit_str_tuple, `kit_str_list, `kit_str_dict, `kit_list_int, `kit_list_bool, `kit_list_str, `kit_list_tuple, `kit_list_list, `kit_list_dict, `kit_tuple_int, `kit_tuple_bool, `kit_tuple_str, `kit_tuple_tuple, `kit_tuple_list, `kit_tuple_dict, `kit_dict_int, `kit_dict_bool, `kit_dict_str, `kit_dict_tuple, `kit_dict_list, `kit_dict_dict, `Nat.zero_add, `Nat.reduceAdd, `Nat.reduceLeDiff, `Nat.reduceLT, `Nat.reduceEqDiff, `Nat.reduceMul, `Nat.reduceSub, `Nat.reducePow, `Int.reduceAdd, `Int.reduceSub, `Int.reduceMul, `Int.reduceNeg, `Int.reducePow, `Int.reduceLT, `Int.reduceLE, `Int.reduceEq, `Int.reduceNe, `Int.reduceToNat, `beq_self_eq_true, `Option.some.injEq, `intsD, `Nat.reduceBEq, `decide_true, `decide_false, `ite_true, `ite_false, `atI_nat, `atI_lit, `atI_last, `ixN_nat, `ixN_lit, `cut_nn, `eqD_nn, `eqD_ii, `eqD_bb, `eqD_ss, `eqD_tt, `eqD_ll, `eqs_nn, `eqs_cc, `eqs_nc, `eqs_cn, `beq_str, `beq_int, `wipeE, `lcOne_ap, `lcOneX_ap, `setO, `ePart, `eFind, `eJoin, `eSplit, `scl, `sgn, `cast_lit, `ixD_l, `ixD_t, `ixD_r, `blsD_map, `intsD_map, `gMulS0, `setK, `entryI, `endI, `callR, `isMe, `nodeL, `getK, `_root_.P.putK, `isDic, `keyOf, `dimE, `keysF, `List.findIdx?_cons, `List.lookup_cons, `List.contains_cons, `List.contains_nil, `isLst, `setV, `List.lookup_nil, `seqD, `callB, `toB, `endNo, `flatX, `isS, `true_and, `and_true, `lendE, `lendS, `gInD, `movs, `entryM, `truAt, `intAt, `putAt, `swapAt, `sok_0, `sok_1, `sok_2, `sok_3] : Array Lean.Name).map Lean.mkIdent
  let x : Array (Lean.TSyntax `Lean.Parser.Tactic.simpLemma) ← a.mapM fun i => `(Lean.Parser.Tactic.simpLemma| ↓$i:ident)
  let y : Array (Lean.TSyntax `Lean.Parser.Tactic.simpLemma) ← b.mapM fun i => `(Lean.Parser.Tactic.simpLemma| $i:ident)
  let z := x ++ y
  `(tactic| simp (disch := walk_at "sz") only [$[$z:simpLemma],*, $ts,*])
theorem q_cell (ns : List Int) (k : Nat) (hl : ns.length ≤ 63) : m__law_cell [.rd ns, .int (k : Int)] = some (.ret 0 (.int (cellOf ns k))) := by
  unfold m__law_cell b__law_cell
  have e2 : cutD (ns.map D.int) (some (k : Int)) (some ((k : Int) + 1)) = ((ns.drop k).take 1).map D.int := cell_cut ns k hl
  have e3 : (((ns.drop k).take 1).map D.int ++ [D.int 0])[0]? = some (.int (cellOf ns k)) := (atI_nat _ 0).symm.trans (cell_at ns k)
  have l : ((((ns.drop k).take 1).map D.int).length + 1 ≤ sizeLine) := by
    rw [List.length_map, List.length_take]
    exact Nat.le_trans (show _ ≤ 2 by omega) (by decide)
  simp? only [e2, e3]
theorem q_streamS (ns : List Int) (hl : ns.length ≤ 63) (s n : Nat) (hs : s ≤ 1000) (hn : n ≤ 1000) : ∃ xs : List Int, m__law_stream [.rd ns, .int (s : Int), .int (n : Int)] = some (.ret 1 (.lst (xs.map D.int))) ∧ xs.length = n ∧ ∀ x, x ∈ xs → 0 ≤ x ∧ x < 2147483647 := by
  have hz : 2000 ≤ sizeLine := by decide
  have tn0 := tn n
  have r1 := rng_ok (n := n) (by omega)
  have key : ∃ ρ', sFor (iR1 (eVar 2)) (gF 5) b__law_stream_1 [.ow 0 (.rd ns), .ow 0 (.int (s : Int)), .ow 0 (.int (n : Int)), .ow 1 (.lst []), .ow 0 (.int 7), .no] = some (.nxt ρ') ∧ ∃ (xs : List Int) (u w : Sl), ρ' = [.ow 0 (.rd ns), .ow 0 (.int (s : Int)), .ow 0 (.int (n : Int)), .ow 1 (.lst (xs.map D.int)), u, w] ∧ xs.length = n ∧ ∀ x, x ∈ xs → 0 ≤ x ∧ x < 2147483647 := by
    obtain ⟨ρ', e, xs, num, w, rfl, h1, h2, h3, h4⟩ := for_inv (fi := iR1 (eVar 2)) (fg := gF 5) (fb := b__law_stream_1) (ds := rangeD 0 n) (fun i ρ => ∃ (xs : List Int) (num : Int) (w : Sl), ρ = [.ow 0 (.rd ns), .ow 0 (.int (s : Int)), .ow 0 (.int (n : Int)), .ow 1 (.lst (xs.map D.int)), .ow 0 (.int num), w] ∧ xs.length = i ∧ (∀ x, x ∈ xs → 0 ≤ x ∧ x < 2147483647) ∧ 0 ≤ num ∧ num < 2147483647)
      (ρ := [.ow 0 (.rd ns), .ow 0 (.int (s : Int)), .ow 0 (.int (n : Int)), .ow 1 (.lst []), .ow 0 (.int 7), .no]) (by simp? only [tn0]) ⟨[], 7, .no, rfl, rfl, (fun x h => nomatch h), by decide, by decide⟩ (fun j d ρ hd hJ => by
        obtain ⟨xs, num, w, rfl, hxl, hx, h0, h1⟩ := hJ
        obtain ⟨hj, rfl⟩ := rangeD_get hd
        rw [Int.zero_add]
        have := (⟨by omega⟩ : Bd num 31)
        have := (⟨by omega⟩ : Bd (j : Int) 31)
        have ce := q_cell ns (s + j) hl
        have e1 : (s : Int) + (j : Int) = ((s + j : Nat) : Int) := rfl
        obtain ⟨c, ec⟩ : ∃ c, c = cellOf ns (s + j) := ⟨_, rfl⟩
        rw [← ec] at ce
        obtain ⟨y, ey⟩ : ∃ y, y = (num * 48271 + c.fmod 2147483647 + (j : Int) * (j : Int) + 1).fmod 2147483647 := ⟨_, rfl⟩
        have p := fmod_pos (num * 48271 + c.fmod 2147483647 + (j : Int) * (j : Int) + 1) (b := 2147483647) (by omega)
        rw [← ey] at p
        have lx : (xs.map D.int).length < sizeLine := by rw [List.length_map]; omega
        refine ⟨_, _, rfl, .inl ?_, xs ++ [y], y, .ow 0 (.int (j : Int)), rfl, by rw [List.length_append, hxl]; rfl, fun x hx' => by
          rcases List.mem_append.mp hx' with h | h
          · exact hx x h
          · rw [List.mem_singleton.mp h]; exact p, p⟩
        rw [List.map_append, List.map_cons, List.map_nil]
        obtain ⟨X, eX⟩ : ∃ X, X = xs.map D.int := ⟨_, rfl⟩
        rw [← eX] at lx ⊢
        unfold b__law_stream_1
        simp? only [e1, ce, ← ey])
    rw [rangeD_length] at h1
    exact ⟨_, e, xs, _, w, rfl, h1, h2⟩
  obtain ⟨ρ', e, xs, u, w, rfl, h1, h2⟩ := key
  refine ⟨xs, ?_, h1, h2⟩
  have fin : b__law_stream (entryE [.rd ns, .int (s : Int), .int (n : Int)] 3) = some (.ret 1 (.lst (xs.map D.int))) := by
    obtain ⟨X, eX⟩ : ∃ X, X = xs.map D.int := ⟨_, rfl⟩
    rw [← eX] at e ⊢
    unfold b__law_stream
    refine seq_nxt (by (simp? only []) <;> rfl) ?_
    refine seq_nxt (by (simp? only []) <;> rfl) ?_
    refine seq_nxt e ?_
    simp? only []
  exact end_ret fin
theorem q_lgcd (a b : Int) : m__law_gcd [.int a, .int b] = some (.ret 0 (.int (Int.gcd a b))) := by
  have h := sWhile_ind (ft := b__law_gcd_1) (fb := b__law_gcd_2) (fun m ρ => ∃ x y : Nat, ρ = [.ow 0 (.int a), .ow 0 (.int b), .ow 0 (.int (x : Int)), .ow 0 (.int (y : Int))] ∧ Nat.gcd x y = Int.gcd a b ∧ m = x) (fun ρ => ∃ x : Nat, ρ = [.ow 0 (.int a), .ow 0 (.int b), .ow 0 (.int 0), .ow 0 (.int (x : Int))] ∧ x = Int.gcd a b) (fun m ρ hJ => by
    obtain ⟨x, y, rfl, hg, rfl⟩ := hJ
    by_cases hx : m = 0
    · subst hx
      refine .inl ⟨?_, y, rfl, by rw [← hg, Nat.gcd_zero_left]⟩
      unfold b__law_gcd_1
      simp? only [Int.natCast_zero, Int.lt_irrefl]
    · refine .inr ⟨[.ow 0 (.int a), .ow 0 (.int b), .ow 0 (.int ((y % m : Nat) : Int)), .ow 0 (.int (m : Int))], y % m, ?_, ?_, Nat.mod_lt _ (by omega), y % m, m, rfl, by rw [← hg, Nat.gcd_rec m y], rfl⟩
      · unfold b__law_gcd_1
        have : (0 : Int) < m := by omega
        simp? only [this]
      · unfold b__law_gcd_2
        have : (m : Int) ≠ 0 := by omega
        simp? only [Int.fmod_eq_emod_of_nonneg _ (Int.natCast_nonneg m)]
        rfl) (m := min a.natAbs b.natAbs) (ρ := [.ow 0 (.int a), .ow 0 (.int b), .ow 0 (.int (min a.natAbs b.natAbs : Nat)), .ow 0 (.int (max a.natAbs b.natAbs : Nat))]) ⟨_, _, rfl, by
      rcases Nat.le_total a.natAbs b.natAbs with h | h
      · rw [Nat.min_eq_left h, Nat.max_eq_right h]; rfl
      · rw [Nat.min_eq_right h, Nat.max_eq_left h, Nat.gcd_comm]; rfl, rfl⟩
  obtain ⟨ρ', e, x, rfl, hx⟩ := h
  have es : sortI [((a.natAbs : Nat) : Int), ((b.natAbs : Nat) : Int)] = [((min a.natAbs b.natAbs : Nat) : Int), ((max a.natAbs b.natAbs : Nat) : Int)] := by
    have p := min_max_perm a.natAbs b.natAbs
    exact PySem.W.ksm_same ((sortI_perm _).trans p.1.symm) (sortI_sorted _) p.2
  unfold m__law_gcd b__law_gcd
  simp? only [es, e]
  rw [hx]
theorem q_law_ratio {t b : Int} (h : 0 < b) (hb : b.natAbs < 2 ^ 8999) : m__law_ratio [.int t, .int b] = some (.ret 0 (fr (lowest t b))) := by
  have g := Int.gcd_pos_of_ne_zero_right t (show b ≠ 0 by omega)
  have l := gcd_le_r (t := t) (show b ≠ 0 by omega)
  have d1 : DivOk t (Int.gcd t b : Nat) := ⟨by omega, noPy (by rw [Int.natAbs_natCast]; omega)⟩
  have d2 : DivOk b (Int.gcd t b : Nat) := ⟨by omega, noPy (by rw [Int.natAbs_natCast]; omega)⟩
  unfold m__law_ratio b__law_ratio
  simp? only [q_lgcd, Int.fdiv_eq_ediv_of_nonneg _ (Int.natCast_nonneg (Int.gcd t b))]
  rfl
theorem small_b {b : Int} (h0 : 0 < b) (h1 : b < 2 ^ 90) : b.natAbs < 2 ^ 8999 := by
  have n90 : (2 : Nat) ^ 90 = 1237940039285380274899124224 := by decide
  have i90 : (2 : Int) ^ 90 = 1237940039285380274899124224 := by decide
  exact lt_pow (show b.natAbs < 2 ^ 90 by omega) _ (by decide)
theorem q_fractionN (x : Int) : ∃ p : Int × Int, m__law_fraction [.int x] = some (.ret 0 (fr p)) ∧ IsFr p ∧ p.1.natAbs ≤ 9 ∧ p.2 ≤ 6 := by
  by_cases h : x.fmod 3 = 0
  · refine ⟨(0, 1), ?_, fr_zero, by decide, by decide⟩
    unfold m__law_fraction b__law_fraction
    simp? only [h]
  · have p1 := fmod_pos (x.fdiv 3) (b := 19) (by omega)
    have p2 := fmod_pos (x.fdiv 57) (b := 6) (by omega)
    obtain ⟨t, et⟩ : ∃ t, t = (x.fdiv 3).fmod 19 - 9 := ⟨_, rfl⟩
    obtain ⟨b, eb⟩ : ∃ b, b = 1 + (x.fdiv 57).fmod 6 := ⟨_, rfl⟩
    have b0 : 0 < b := by omega
    have q := q_law_ratio (t := t) b0 (small_b b0 (by omega))
    have f := lowest_fr (t := t) b0
    have le := lowest_le t b
    obtain ⟨l, el⟩ : ∃ l, l = lowest t b := ⟨_, rfl⟩
    rw [← el] at q f le
    have f0 := f.1
    refine ⟨l, ?_, f, by omega, by omega⟩
    unfold m__law_fraction b__law_fraction
    simp? only [h, ← et, ← eb, q]
theorem six60 : ∀ d : Int, 0 < d → d ≤ 6 → d ∣ 60 := fun d h1 h2 => by
  have : d = 1 ∨ d = 2 ∨ d = 3 ∨ d = 4 ∨ d = 5 ∨ d = 6 := by omega
  rcases this with rfl | rfl | rfl | rfl | rfl | rfl <;> decide
structure RowsK (n w : Nat) (D : Int) (rs : List Row) : Prop where
  m : Mat n w rs
  n4 : n ≤ 4
  w5 : 1 ≤ w ∧ w ≤ 5
  D0 : 0 < D
  D1 : D ≤ 10 ^ 20
  sm : ∀ i, i + 1 < n → ∀ x, x ∈ rowAt rs i → x.1.natAbs ≤ 9 ∧ x.2 ≤ 6
  bg : ∀ r, r ∈ rs → ∀ x, x ∈ r → x.2 ∣ 60 * D ∧ x.1.natAbs ≤ 10 ^ 30
theorem q_rowsK (ns : List Int) (hl : ns.length ≤ 63) : ∃ n w D rs, m__law_rows [.rd ns] = some (.ret 2 (rowsD rs)) ∧ RowsK n w D rs := by
  have hz : 2000 ≤ sizeLine := by decide
  have n30 : (10 : Nat) ^ 30 = 1000000000000000000000000000000 := by decide
  have i20 : (10 : Int) ^ 20 = 100000000000000000000 := by decide
  have e30 : (10 : Int) ^ (30 : Int).toNat = 1000000000000000000000000000000 := by decide
  have e29 : (10 : Int) ^ (29 : Int).toNat = 100000000000000000000000000000 := by decide
  have e20 : (10 : Int) ^ (20 : Int).toNat = 100000000000000000000 := by decide
  have pw30 : PowOk 10 30 := ⟨by decide, by decide, by decide⟩
  have pw29 : PowOk 10 29 := ⟨by decide, by decide, by decide⟩
  have pw20 : PowOk 10 20 := ⟨by decide, by decide, by decide⟩
  have c0 : m__law_cell [.rd ns, .int 0] = some (.ret 0 (.int (cellOf ns 0))) := q_cell ns 0 hl
  have c2 : m__law_cell [.rd ns, .int 2] = some (.ret 0 (.int (cellOf ns 2))) := q_cell ns 2 hl
  have c3 : m__law_cell [.rd ns, .int 3] = some (.ret 0 (.int (cellOf ns 3))) := q_cell ns 3 hl
  obtain ⟨c, ec⟩ : ∃ c, c = cellOf ns 0 := ⟨_, rfl⟩
  obtain ⟨u, eu⟩ : ∃ u, u = cellOf ns 2 := ⟨_, rfl⟩
  obtain ⟨v, ev⟩ : ∃ v, v = cellOf ns 3 := ⟨_, rfl⟩
  rw [← ec] at c0
  rw [← eu] at c2
  rw [← ev] at c3
  obtain ⟨a, ea⟩ : ∃ a, a = c.fmod 1000000 := ⟨_, rfl⟩
  have p5 := fmod_pos a (b := 5) (by omega)
  obtain ⟨n, en⟩ := Int.eq_ofNat_of_zero_le p5.1
  have p6 := fmod_pos (a.fdiv 5) (b := 5) (by omega)
  obtain ⟨w, ew⟩ := Int.eq_ofNat_of_zero_le (show 0 ≤ 1 + (a.fdiv 5).fmod 5 by omega)
  have n4 : n ≤ 4 := by omega
  have w5 : 1 ≤ w ∧ w ≤ 5 := by omega
  have nw : n * w ≤ 20 := Nat.mul_le_mul n4 w5.2
  obtain ⟨xs, ex, xl, hx⟩ := q_streamS ns hl 2 (n * w) (by omega) (by omega)
  have eN : ((n * w : Nat) : Int) = (n : Int) * (w : Int) := by push_cast; rfl
  rw [eN] at ex
  obtain ⟨X, eX⟩ : ∃ X, X = xs.map D.int := ⟨_, rfl⟩
  rw [← eX] at ex
  have ex : m__law_stream [.rd ns, .int 2, .int ((n : Int) * (w : Int))] = some (.ret 1 (.lst X)) := ex
  have := (⟨by omega⟩ : Bd (n : Int) 10)
  have := (⟨by omega⟩ : Bd (w : Int) 10)
  have tn0 := tn n
  have tw := tn w
  have r1 := rng_ok (n := n) (by omega)
  have r2 := rng_ok (n := w) (by omega)
  have rl1 := rng_ln (n := n) (by omega)
  have rl2 := rng_ln (n := w) (by omega)
  have one : ∀ k, k < n → ∃ r : Row, lcOne [6] (gN 6) bYes b__law_rows_2 1 [.ow 0 (.rd ns), .ow 0 (.int a), .ow 0 (.int (n : Int)), .ow 0 (.int (w : Int)), .ow 0 (.lst X), .no, .no, .no] (.int (k : Int)) = some (some (rowD r)) ∧ r.length = w ∧ ∀ x, x ∈ r → IsFr x ∧ x.1.natAbs ≤ 9 ∧ x.2 ≤ 6 := fun k hk => by
    obtain ⟨r, e, rl, hr⟩ := lcGo_ex (u := fun (i : Nat) => D.int (i : Int)) (v := fr) (Q := fun _ p => IsFr p ∧ p.1.natAbs ≤ 9 ∧ p.2 ≤ 6) (fg := gN 7) (ft := bYes) (fe := b__law_rows_1) (vs := [7]) (k := 0) (ρ := [.ow 0 (.rd ns), .ow 0 (.int a), .ow 0 (.int (n : Int)), .ow 0 (.int (w : Int)), .ow 0 (.lst X), .no, .ow 0 (.int (k : Int)), .no]) (xs := List.range w) (fun j hj => by
      have hj := List.mem_range.mp hj
      have kw : k * w + j < n * w := by
        have := Nat.mul_le_mul_right w (show k + 1 ≤ n by omega)
        rw [Nat.succ_mul] at this
        omega
      have ge : xs[k * w + j]? = some (xs[k * w + j]'(by omega)) := List.getElem?_eq_getElem _
      obtain ⟨y, ey⟩ : ∃ y, y = xs[k * w + j]'(by omega) := ⟨_, rfl⟩
      rw [← ey] at ge
      have gX : X[k * w + j]? = some (.int y) := by rw [eX, List.getElem?_map, ge]; rfl
      have i1 : (k : Int) * (w : Int) + (j : Int) = ((k * w + j : Nat) : Int) := by push_cast; rfl
      have := (⟨by omega⟩ : Bd (k : Int) 10)
      obtain ⟨p, e, h1, h2, h3⟩ := q_fractionN y
      refine ⟨p, ?_, h1, h2, h3⟩
      unfold b__law_rows_1
      simp? only [i1, gX, e])
    rw [← rangeD_map] at e
    rw [List.length_range] at rl
    refine ⟨r, ?_, rl, fun x hx => ?_⟩
    · obtain ⟨Y, eY⟩ : ∃ Y, Y = r.map fr := ⟨_, rfl⟩
      show _ = some (some (D.lst (r.map fr)))
      rw [← eY] at e ⊢
      unfold b__law_rows_2
      simp? only [tw, e]
    · obtain ⟨j, hj⟩ := List.getElem?_of_mem hx
      have jl := (List.getElem?_eq_some_iff.mp hj).1
      exact hr j j x (List.getElem?_range (by omega)) hj
  obtain ⟨rs, lc, rl, hr⟩ := lcGo_ex (u := fun (i : Nat) => D.int (i : Int)) (v := rowD) (Q := fun _ r => r.length = w ∧ ∀ x, x ∈ r → IsFr x ∧ x.1.natAbs ≤ 9 ∧ x.2 ≤ 6) (fg := gN 6) (ft := bYes) (fe := b__law_rows_2) (vs := [6]) (k := 1) (ρ := [.ow 0 (.rd ns), .ow 0 (.int a), .ow 0 (.int (n : Int)), .ow 0 (.int (w : Int)), .ow 0 (.lst X), .no, .no, .no]) (xs := List.range n) (fun k hk => one k (List.mem_range.mp hk))
  rw [← rangeD_map] at lc
  rw [List.length_range] at rl
  have hr : ∀ r, r ∈ rs → r.length = w ∧ ∀ x, x ∈ r → IsFr x ∧ x.1.natAbs ≤ 9 ∧ x.2 ≤ 6 := fun r hm => by
    obtain ⟨i, hi⟩ := List.getElem?_of_mem hm
    have il := (List.getElem?_eq_some_iff.mp hi).1
    exact hr i i r (List.getElem?_range (by omega)) hi
  have m0 : Mat n w rs := ⟨rl, fun r h => (hr r h).1, fun r h x hx => ((hr r h).2 x hx).1⟩
  have sm0 : ∀ r, r ∈ rs → ∀ D : Int, 0 < D → ∀ x, x ∈ r → x.2 ∣ 60 * D ∧ x.1.natAbs ≤ 10 ^ 30 := fun r h D _ x hx => by
    obtain ⟨h1, h2, h3⟩ := (hr r h).2 x hx
    exact ⟨Int.dvd_trans (six60 _ h1.1 h3) (Int.dvd_mul_right ..), by omega⟩
  obtain ⟨G, eG⟩ : ∃ G, G = rs.map rowD := ⟨_, rfl⟩
  rw [← eG] at lc
  have start : ∀ (f : FS) (r : Option Fl), f [.ow 0 (.rd ns), .ow 0 (.int a), .ow 0 (.int (n : Int)), .ow 0 (.int (w : Int)), .ow 0 (.lst X), .ow 2 (.lst G), .no, .no] = r → (sSeq (sAsg (eOp (g2 gMod0) (eCall m__law_cell (aCons (eVar 0) (aCons (eC (.int 0)) aNil))) (eC (.int 1000000))) (gF 1))
    (sSeq (sAsg (eOp (g2 gMod0) (eVar 1) (eC (.int 5))) (gF 2))
    (sSeq (sAsg (eOp gAdd (eC (.int 1)) (eOp (g2 gMod0) (eOp (g2 gDiv0) (eVar 1) (eC (.int 5))) (eC (.int 5)))) (gF 3))
    (sSeq (sAsg (eCall m__law_stream (aCons (eVar 0) (aCons (eC (.int 2)) (aCons (eOp gMul (eVar 2) (eVar 3)) aNil)))) (gF 4))
    (sSeq (sAsg (eLc 1 [6] (iR1 (eVar 2)) (gN 6) bYes b__law_rows_2) (gN 5)) f))))) (entryE [.rd ns] 7) = r := fun f r h => by
    refine seq_nxt (by (simp? only [c0, ← ea]) <;> rfl) ?_
    refine seq_nxt (by (simp? only [en]) <;> rfl) ?_
    refine seq_nxt (by (simp? only [ew]) <;> rfl) ?_
    refine seq_nxt (by (simp? only [ex]) <;> rfl) ?_
    refine seq_nxt (by simp? only [tn0, lc] <;> rfl) h
  by_cases hc : (a.fdiv 25).fmod 4 = 1 ∧ 0 < n
  · obtain ⟨h1, h2⟩ := hc
    have h1' : ((a.fdiv 25).fmod 4 = 1) = True := eq_true h1
    have h2' : ((0 : Int) < (n : Int)) = True := eq_true (by omega)
    have q1 := fmod_pos u (b := 1000000000000000000000000000000) (by omega)
    have q2 := fmod_pos v (b := 100000000000000000000) (by omega)
    obtain ⟨t, et⟩ : ∃ t, t = u.fmod 1000000000000000000000000000000 - 100000000000000000000000000000 := ⟨_, rfl⟩
    obtain ⟨b, eb⟩ : ∃ b, b = 1 + v.fmod 100000000000000000000 := ⟨_, rfl⟩
    have b0 : 0 < b := by omega
    have i90 : (2 : Int) ^ 90 = 1237940039285380274899124224 := by decide
    have q := q_law_ratio (t := t) b0 (small_b b0 (by omega))
    have f := lowest_fr (t := t) b0
    have le := lowest_le t b
    obtain ⟨z, ez⟩ : ∃ z, z = lowest t b := ⟨_, rfl⟩
    rw [← ez] at q f le
    have f0 := f.1
    have rm := row_mem (rs := rs) (i := n - 1) (by omega)
    have gl := row_get (rs := rs) (i := n - 1) (by omega)
    have gG : G[n - 1]? = some (rowD (rowAt rs (n - 1))) := by rw [eG]; exact rows_at (by omega)
    have wl := (hr _ rm).1
    have Gl : G.length = n := by rw [eG, List.length_map, rl]
    have ixl : ixN n (-1) = some (n - 1) := ixN_last h2
    obtain ⟨Y, eY⟩ : ∃ Y, Y = (rowAt rs (n - 1)).map fr := ⟨_, rfl⟩
    have gG : G[n - 1]? = some (.lst Y) := by rw [gG, eY]
    have Yl : 0 < Y.length := by rw [eY, List.length_map]; omega
    refine ⟨n, w, z.2, rs.set (n - 1) ((rowAt rs (n - 1)).set 0 z), ?_, ⟨m0.set (by rw [List.length_set]; exact wl) (fun x hx => ?_), n4, w5, f0, by omega, fun i hi x hx => ?_, fun r hm x hx => ?_⟩⟩
    · have fin : b__law_rows (entryE [.rd ns] 7) = some (.ret 2 (.lst (G.set (n - 1) (.lst (Y.set 0 (fr z)))))) := by
        unfold b__law_rows
        refine start _ _ ?_
        refine seq_nxt (ρ1 := [.ow 0 (.rd ns), .ow 0 (.int a), .ow 0 (.int (n : Int)), .ow 0 (.int (w : Int)), .ow 0 (.lst X), .ow 2 (.lst (G.set (n - 1) (.lst (Y.set 0 (fr z))))), .no, .no]) (by simp? only [h1', h2', c2, c3, e30, e29, e20, ← et, ← eb, q, Gl, ixl, gG, Yl]) ?_
        simp? only []
      show m__law_rows [.rd ns] = some (.ret 2 (.lst ((rs.set (n - 1) ((rowAt rs (n - 1)).set 0 z)).map rowD)))
      have e : (rs.set (n - 1) ((rowAt rs (n - 1)).set 0 z)).map rowD = G.set (n - 1) (.lst (Y.set 0 (fr z))) := by
        rw [List.map_set, eG, eY]
        show (rs.map rowD).set (n - 1) (.lst (((rowAt rs (n - 1)).set 0 z).map fr)) = _
        rw [List.map_set]
      rw [e]
      exact end_ret fin
    · rcases mem_set hx with hx | rfl
      · exact ((hr _ rm).2 x hx).1
      · exact f
    · rw [rowAt_set (by omega), if_neg (by omega)] at hx
      exact ((hr _ (row_mem (by omega))).2 x hx).2
    · rcases mem_set hm with hm | rfl
      · exact sm0 r hm z.2 f0 x hx
      · rcases mem_set hx with hx | rfl
        · exact sm0 _ rm z.2 f0 x hx
        · exact ⟨Int.dvd_mul_left .., by omega⟩
  · refine ⟨n, w, 1, rs, ?_, ⟨m0, n4, w5, by decide, by decide, fun i hi x hx => ((hr _ (row_mem (by omega))).2 x hx).2, fun r hm x hx => sm0 r hm 1 (by decide) x hx⟩⟩
    have fin : b__law_rows (entryE [.rd ns] 7) = some (.ret 2 (.lst G)) := by
      unfold b__law_rows
      refine start _ _ ?_
      by_cases h1 : (a.fdiv 25).fmod 4 = 1
      · have h1' : ((a.fdiv 25).fmod 4 = 1) = True := eq_true h1
        have h2' : ((0 : Int) < (n : Int)) = False := eq_false (fun h => hc ⟨h1, by omega⟩)
        simp? only [h1', h2']
      · have h1' : ((a.fdiv 25).fmod 4 = 1) = False := eq_false h1
        simp? only [h1']
    show m__law_rows [.rd ns] = some (.ret 2 (.lst (rs.map rowD)))
    rw [← eG]
    exact end_ret fin
def StpS (n : Nat) : Stp → Prop
  | .swap a b => a < n ∧ b < n
  | .times a q => a < n ∧ IsFr q ∧ q.1.natAbs ≤ 9 ∧ q.2 ≤ 6
  | .add a b q => a < n ∧ b < n ∧ IsFr q ∧ q.1.natAbs ≤ 9 ∧ q.2 ≤ 6
theorem q_law_step {x y : Int} {n : Nat} (x0 : 0 ≤ x) (n0 : 0 < n) (n4 : n ≤ 4) : ∃ s, m__law_step [.int x, .int y, .int (n : Int)] = some (.ret 0 (stpD s)) ∧ StpS n s := by
  have p1 := fmod_pos (y.fdiv 3) (b := 19) (by omega)
  have p2 := fmod_pos (y.fdiv 57) (b := 6) (by omega)
  obtain ⟨t, et⟩ : ∃ t, t = (y.fdiv 3).fmod 19 - 9 := ⟨_, rfl⟩
  obtain ⟨b, eb⟩ : ∃ b, b = 1 + (y.fdiv 57).fmod 6 := ⟨_, rfl⟩
  have b0 : 0 < b := by omega
  have q := q_law_ratio (t := t) b0 (small_b b0 (by omega))
  have f := lowest_fr (t := t) b0
  have le := lowest_le t b
  obtain ⟨l, el⟩ : ∃ l, l = lowest t b := ⟨_, rfl⟩
  rw [← el] at q f le
  have f0 := f.1
  have l9 : l.1.natAbs ≤ 9 := by omega
  have l6 : l.2 ≤ 6 := by omega
  have a1 := fmod_pos x (b := (n : Int)) (by omega)
  have a2 := fmod_pos (x.fdiv (n : Int)) (b := (n : Int)) (by omega)
  obtain ⟨a, ea⟩ := Int.eq_ofNat_of_zero_le a1.1
  obtain ⟨c, ec⟩ := Int.eq_ofNat_of_zero_le a2.1
  have d1 : DivOk x (n : Int) := ⟨by omega, noPy (by rw [Int.natAbs_natCast]; exact Nat.lt_of_le_of_lt n4 (Nat.lt_of_lt_of_le (show 4 < 2 ^ 3 by decide) (Nat.pow_le_pow_right (by decide) (by decide))))⟩
  have nz : ¬ (n : Int) = 0 := by omega
  have e1 : eqD (fr l) (.tup [.int 0, .int 1]) = decide (l = (0, 1)) := eqD_frs l (0, 1)
  have lf : fr l = .tup [.int l.1, .int l.2] := rfl
  have key : ∃ s, b__law_step (entryE [.int x, .int y, .int (n : Int)] 3) = some (.ret 0 (stpD s)) ∧ StpS n s := by
    have go : ∀ (f : FS) (P : Stp → Prop), (∃ s, f [.ow 0 (.int x), .ow 0 (.int y), .ow 0 (.int (n : Int)), .ow 0 (.int (a : Int)), .ow 0 (.int (c : Int)), .ow 0 (fr l)] = some (.ret 0 (stpD s)) ∧ P s) → ∃ s, (sSeq (sAsg (eOp (g2 gMod0) (eVar 0) (eVar 2)) (gF 3))
      (sSeq (sAsg (eOp (g2 gMod0) (eOp (g2 gDiv0) (eVar 0) (eVar 2)) (eVar 2)) (gF 4))
      (sSeq (sAsg (eCall m__law_ratio (aCons (eOp (g2 gSub0) (eOp (g2 gMod0) (eOp (g2 gDiv0) (eVar 1) (eC (.int 3))) (eC (.int 19))) (eC (.int 9))) (aCons (eOp gAdd (eC (.int 1)) (eOp (g2 gMod0) (eOp (g2 gDiv0) (eVar 1) (eC (.int 57))) (eC (.int 6)))) aNil))) (gF 5)) f)) (entryE [.int x, .int y, .int (n : Int)] 3)) = some (.ret 0 (stpD s)) ∧ P s := fun f P h => by
      obtain ⟨s, h, hp⟩ := h
      refine ⟨s, ?_, hp⟩
      refine seq_nxt (by (simp? only [nz, ea]) <;> rfl) ?_
      refine seq_nxt (by (simp? only [nz, ec]) <;> rfl) ?_
      refine seq_nxt (by (simp? only [← et, ← eb, q]) <;> rfl) ?_
      exact h
    unfold b__law_step
    refine go _ _ ?_
    by_cases h1 : y.fmod 3 = 1 ∧ l ≠ (0, 1)
    · obtain ⟨h1, h2⟩ := h1
      rw [decide_eq_false h2] at e1
      have h1' : (y.fmod 3 = 1) = True := eq_true h1
      refine ⟨.times a l, ?_, by omega, f, l9, l6⟩
      show (_ : Option Fl) = some (.ret 0 (.tup [.str "times", .int (a : Int), fr l]))
      simp? only [h1', e1]
    · have first : ∀ (f : FS) (r : Option Fl), f [.ow 0 (.int x), .ow 0 (.int y), .ow 0 (.int (n : Int)), .ow 0 (.int (a : Int)), .ow 0 (.int (c : Int)), .ow 0 (fr l)] = r → sSeq (sIf (bAnd (bOf (eOp (g2 gEq0) (eOp (g2 gMod0) (eVar 1) (eC (.int 3))) (eC (.int 1)))) (bOf (eOp (g2 gNe0) (eVar 5) (eTup 0 (aCons (eC (.int 0)) (aCons (eC (.int 1)) aNil)))))) (sRet (eTup 0 (aCons (eC (.str "times")) (aCons (eVar 3) (aCons (eVar 5) aNil))))) sNext) f [.ow 0 (.int x), .ow 0 (.int y), .ow 0 (.int (n : Int)), .ow 0 (.int (a : Int)), .ow 0 (.int (c : Int)), .ow 0 (fr l)] = r := fun f r h => by
        refine seq_nxt ?_ h
        by_cases h2 : y.fmod 3 = 1
        · have h2' : (y.fmod 3 = 1) = True := eq_true h2
          have l0 : l = (0, 1) := Classical.byContradiction fun z => h1 ⟨h2, z⟩
          rw [decide_eq_true l0] at e1
          simp? only [h2', e1]
        · have h2' : (y.fmod 3 = 1) = False := eq_false h2
          simp? only [h2']
      by_cases h3 : y.fmod 3 ≠ 0 ∧ a ≠ c
      · obtain ⟨h3, h4⟩ := h3
        have h3' : (y.fmod 3 = 0) = False := eq_false h3
        have h4' : ((a : Int) = (c : Int)) = False := eq_false (by omega)
        refine ⟨.add a c l, ?_, by omega, by omega, f, l9, l6⟩
        show (_ : Option Fl) = some (.ret 0 (.tup [.str "add", .int (a : Int), .int (c : Int), fr l]))
        refine first _ _ ?_
        simp? only [h3', h4']
      · refine ⟨.swap a c, ?_, by omega, by omega⟩
        show (_ : Option Fl) = some (.ret 0 (.tup [.str "swap", .int (a : Int), .int (c : Int)]))
        refine first _ _ ?_
        by_cases h5 : y.fmod 3 = 0
        · have h5' : (y.fmod 3 = 0) = True := eq_true h5
          simp? only [h5']
        · have h5' : (y.fmod 3 = 0) = False := eq_false h5
          have h6 : a = c := Classical.byContradiction fun z => h3 ⟨h5, z⟩
          have h6' : ((a : Int) = (c : Int)) = True := eq_true (by omega)
          simp? only [h5', h6']
  obtain ⟨s, k, hs⟩ := key
  exact ⟨s, end_ret k, hs⟩
theorem q_law_steps (ns : List Int) (hl : ns.length ≤ 63) {n : Nat} (n4 : n ≤ 4) {G : List D} (Gn : (G.length : Int) = (n : Int)) : ∃ ss : List Stp, m__law_steps [.rd ns, .lst G] = some (.ret 1 (.lst (ss.map stpD))) ∧ ss.length ≤ 9 ∧ ∀ s, s ∈ ss → StpS n s := by
  have hz : 2000 ≤ sizeLine := by decide
  have c1 : m__law_cell [.rd ns, .int 1] = some (.ret 0 (.int (cellOf ns 1))) := q_cell ns 1 hl
  obtain ⟨v, ev⟩ : ∃ v, v = cellOf ns 1 := ⟨_, rfl⟩
  rw [← ev] at c1
  obtain ⟨m, hm, m0, two⟩ : ∃ m : Nat, m ≤ 9 ∧ (n = 0 → m = 0) ∧ ∀ (f : FS) (r : Option Fl), f [.ow 0 (.rd ns), .ow 0 (.lst G), .ow 0 (.int (m : Int)), .no, .no] = r → (sSeq (sAsg (eOp (g2 gMod0) (eCall m__law_cell (aCons (eVar 0) (aCons (eC (.int 1)) aNil))) (eC (.int 10))) (gF 2))
    (sSeq (sIf (bOf (eOp (g2 gEq0) (eCB (gC gLen) (aCons (eVar 1) aNil)) (eC (.int 0)))) (sAsg (eC (.int 0)) (gF 2)) sNext) f)) (entryE [.rd ns, .lst G] 3) = r := by
    have p := fmod_pos v (b := 10) (by omega)
    obtain ⟨m, em⟩ := Int.eq_ofNat_of_zero_le p.1
    by_cases n0 : n = 0
    · have h' : ((n : Int) = 0) = True := eq_true (by omega)
      refine ⟨0, by omega, fun _ => rfl, fun f r h => ?_⟩
      refine seq_nxt (by (simp? only [c1, em]) <;> rfl) ?_
      refine seq_nxt (ρ1 := [.ow 0 (.rd ns), .ow 0 (.lst G), .ow 0 (.int ((0 : Nat) : Int)), .no, .no]) ?_ h
      simp? only [Gn, h']
      try rfl
    · have h' : ((n : Int) = 0) = False := eq_false (by omega)
      refine ⟨m, by omega, fun z => absurd z n0, fun f r h => ?_⟩
      refine seq_nxt (by (simp? only [c1, em]) <;> rfl) ?_
      refine seq_nxt (ρ1 := [.ow 0 (.rd ns), .ow 0 (.lst G), .ow 0 (.int (m : Int)), .no, .no]) ?_ h
      simp? only [Gn, h']
      try rfl
  obtain ⟨xs, ex, xl, hx⟩ := q_streamS ns hl (1 + n * 5) (2 * m) (by omega) (by omega)
  have i1 : (1 : Int) + (n : Int) * 5 = ((1 + n * 5 : Nat) : Int) := by push_cast; rfl
  have i2 : (2 : Int) * (m : Int) = ((2 * m : Nat) : Int) := by push_cast; rfl
  have := (⟨by omega⟩ : Bd (n : Int) 10)
  have := (⟨by omega⟩ : Bd (m : Int) 10)
  have tm0 := tn m
  have r2 := rng_ok (n := m) (by omega)
  have rl := rng_ln (n := m) (by omega)
  obtain ⟨X, eX⟩ : ∃ X, X = xs.map D.int := ⟨_, rfl⟩
  rw [← eX] at ex
  have gX : ∀ (j : Nat) (y : Int), xs[j]? = some y → X[j]? = some (D.int y) := fun j y h => by rw [eX, List.getElem?_map, h]; rfl
  obtain ⟨ss, lc, sl, hs⟩ := lcGo_ex (u := fun (i : Nat) => D.int (i : Int)) (v := stpD) (Q := fun _ s => StpS n s) (fg := gN 4) (ft := bYes) (fe := b__law_steps_1) (vs := [4]) (k := 0) (ρ := [.ow 0 (.rd ns), .ow 0 (.lst G), .ow 0 (.int (m : Int)), .ow 0 (.lst X), .no]) (xs := List.range m) (fun j hj => by
    have hj := List.mem_range.mp hj
    have ga : xs[2 * j]? = some (xs[2 * j]'(by omega)) := List.getElem?_eq_getElem _
    have gb : xs[2 * j + 1]? = some (xs[2 * j + 1]'(by omega)) := List.getElem?_eq_getElem _
    obtain ⟨a, ea⟩ : ∃ a, a = xs[2 * j]'(by omega) := ⟨_, rfl⟩
    obtain ⟨b, eb⟩ : ∃ b, b = xs[2 * j + 1]'(by omega) := ⟨_, rfl⟩
    rw [← ea] at ga
    rw [← eb] at gb
    have a0 := (hx a (List.mem_of_getElem? ga)).1
    obtain ⟨s, es, hs⟩ := q_law_step (x := a) (y := b) (n := n) a0 (by
      rcases Nat.eq_zero_or_pos n with z | z
      · have := m0 z; omega
      · exact z) n4
    have g1 := gX _ _ ga
    have g2 := gX _ _ gb
    have := (⟨by omega⟩ : Bd (j : Int) 10)
    have j1 : (2 : Int) * (j : Int) = ((2 * j : Nat) : Int) := by push_cast; rfl
    have j2 : ((2 * j : Nat) : Int) + 1 = ((2 * j + 1 : Nat) : Int) := rfl
    refine ⟨s, ?_, hs⟩
    obtain ⟨z, ez⟩ : ∃ z, z = stpD s := ⟨_, rfl⟩
    rw [← ez] at es ⊢
    unfold b__law_steps_1
    simp? only [j1, j2, g1, g2, Gn, es])
  rw [← rangeD_map] at lc
  rw [List.length_range] at sl
  refine ⟨ss, ?_, by omega, fun s hm => ?_⟩
  · obtain ⟨Z, eZ⟩ : ∃ Z, Z = ss.map stpD := ⟨_, rfl⟩
    rw [← eZ] at lc ⊢
    have key : b__law_steps (entryE [.rd ns, .lst G] 3) = some (.ret 1 (.lst Z)) := by
      unfold b__law_steps
      refine two _ _ ?_
      refine seq_nxt (by (simp? only [Gn, i1, i2, ex]) <;> rfl) ?_
      simp? only [tm0, lc]
    exact end_ret key
  · obtain ⟨i, hi⟩ := List.getElem?_of_mem hm
    have il := (List.getElem?_eq_some_iff.mp hi).1
    exact hs i i s (List.getElem?_range (by omega)) hi
theorem q_law_sumX {S : Nat} {x q y : Int × Int} (hx : IsFr x ∧ Sz S x) (hq : IsFr q ∧ Sz S q) (hy : IsFr y ∧ Sz S y) (sS : S + S + S ≤ 8999) : m__law_sum [fr x, fr q, fr y] = some (.ret 0 (fr (addX q x y))) := by
  obtain ⟨fx, x1, x2⟩ := hx
  obtain ⟨fq, q1, q2⟩ := hq
  obtain ⟨fy, y1, y2⟩ := hy
  have x0 := fx.1
  have q0 := fq.1
  have y0 := fy.1
  have w1 := wide_lt x1 q2
  have w2 := wide_lt q1 y1
  have w3 := wide_lt x2 q2
  have w4 := wide_lt w3 y2
  have m1 : MulOk x.1 q.2 := mulOk_sz x1 q2 (by omega)
  have m2 : MulOk (x.1 * q.2) y.2 := mulOk_sz w1 y2 (by omega)
  have m3 : MulOk q.1 y.1 := mulOk_sz q1 y1 (by omega)
  have m4 : MulOk (q.1 * y.1) x.2 := mulOk_sz w2 x2 (by omega)
  have m5 : MulOk x.2 q.2 := mulOk_sz x2 q2 (by omega)
  have m6 : MulOk (x.2 * q.2) y.2 := mulOk_sz w3 y2 (by omega)
  have b0 : 0 < x.2 * q.2 * y.2 := Int.mul_pos (Int.mul_pos x0 q0) y0
  obtain ⟨t, et⟩ : ∃ t, t = x.1 * q.2 * y.2 + q.1 * y.1 * x.2 := ⟨_, rfl⟩
  obtain ⟨b, eb⟩ : ∃ b, b = x.2 * q.2 * y.2 := ⟨_, rfl⟩
  rw [← eb] at w4 b0
  have r := q_law_ratio (t := t) (b := b) b0 (lt_pow w4 _ (by omega))
  have e : lowest t b = addX q x y := by
    refine (lowest_fr b0).ext (fr_addX fq fx fy) ?_
    rw [rv_low t b0, rv_addX fq fx fy, et, eb]
    have c1 := castI_ne (show x.2 ≠ 0 by omega)
    have c2 := castI_ne (show y.2 ≠ 0 by omega)
    have c3 := castI_ne (show q.2 ≠ 0 by omega)
    unfold rv
    push_cast
    generalize (x.1 : Rat) = A at *
    generalize (x.2 : Rat) = B at *
    generalize (y.1 : Rat) = C at *
    generalize (y.2 : Rat) = E at *
    generalize (q.1 : Rat) = F at *
    generalize (q.2 : Rat) = G at *
    grind
  rw [e] at r
  obtain ⟨z, ez⟩ : ∃ z, z = addX q x y := ⟨_, rfl⟩
  rw [← ez] at r ⊢
  unfold m__law_sum b__law_sum
  simp? only [← et, ← eb, r]
theorem mulF_low {q x : Int × Int} (hq : IsFr q) (hx : IsFr x) : lowest (q.1 * x.1) (q.2 * x.2) = mulF q x := by
  have b0 : 0 < q.2 * x.2 := Int.mul_pos hq.1 hx.1
  refine (lowest_fr b0).ext (fr_mulF hq.1 hx.1) ?_
  rw [rv_low _ b0, rv_mulF hq.1 hx.1]
  have c1 := castI_ne (show x.2 ≠ 0 by have := hx.1; omega)
  have c3 := castI_ne (show q.2 ≠ 0 by have := hq.1; omega)
  unfold rv
  push_cast
  generalize (x.1 : Rat) = A at *
  generalize (x.2 : Rat) = B at *
  generalize (q.1 : Rat) = F at *
  generalize (q.2 : Rat) = G at *
  grind
theorem q_step_done {n w S : Nat} {rs : List Row} (m : Mat n w rs) (hn : n ≤ 1000) (hw : w ≤ 1000) (ms : MSz S rs) {s : Stp} (ok : StpOk n s) (sz : StpSz S s) (sS : S + S + S ≤ 8999) : m__law_step_done [rowsD rs, stpD s] = some (.ret 1 (rowsD (stpF s rs))) := by
  have hz : 2000 ≤ sizeLine := by decide
  have s1 : (Str.ofString "times" = Str.ofString "swap") = False := eq_false (by decide +kernel)
  have s2 : (Str.ofString "add" = Str.ofString "swap") = False := eq_false (by decide +kernel)
  have s3 : (Str.ofString "add" = Str.ofString "times") = False := eq_false (by decide +kernel)
  have ln := m.ln
  obtain ⟨G, eG⟩ : ∃ G, G = rs.map rowD := ⟨_, rfl⟩
  have gG : ∀ i, i < n → G[i]? = some (rowD (rowAt rs i)) := fun i hi => by rw [eG]; exact rows_at (by omega)
  have Gl : G.length = n := by rw [eG, List.length_map, ln]
  have fin : ∀ a r, (rs.set a r).map rowD = G.set a (rowD r) := fun a r => by rw [eG, List.map_set]
  show m__law_step_done [.lst (rs.map rowD), stpD s] = some (.ret 1 (.lst ((stpF s rs).map rowD)))
  rw [← eG]
  cases s with
  | swap a b =>
    obtain ⟨ha, hb⟩ := ok
    have g1 := gG a ha
    have g2 := gG b hb
    have e : (stpF (.swap a b) rs).map rowD = (G.set a (rowD (rowAt rs b))).set b (rowD (rowAt rs a)) := by
      show ((rs.set a (rowAt rs b)).set b (rowAt rs a)).map rowD = _
      rw [List.map_set, fin]
    obtain ⟨X, eX⟩ : ∃ X, X = (rowAt rs a).map fr := ⟨_, rfl⟩
    obtain ⟨Y, eY⟩ : ∃ Y, Y = (rowAt rs b).map fr := ⟨_, rfl⟩
    have g1 : G[a]? = some (.lst X) := by rw [g1, eX]
    have g2 : G[b]? = some (.lst Y) := by rw [g2, eY]
    rw [e]
    show m__law_step_done [.lst G, .tup [.str "swap", .int (a : Int), .int (b : Int)]] = some (.ret 1 (.lst ((G.set a (.lst ((rowAt rs b).map fr))).set b (.lst ((rowAt rs a).map fr)))))
    rw [← eX, ← eY]
    have la : a < G.length := by omega
    have lb : b < G.length := by omega
    have lb2 : b < (G.set a (.lst Y)).length := by rw [List.length_set]; exact lb
    have key : b__law_step_done (entryE [.lst G, .tup [.str "swap", .int (a : Int), .int (b : Int)]] 5) = some (.ret 1 (.lst ((G.set a (.lst Y)).set b (.lst X)))) := by
      unfold b__law_step_done
      simp? only [g1, g2, la, lb, lb2]
    exact end_ret key
  | times a q =>
    obtain ⟨ha, hq⟩ := ok
    have sq : Sz S q := sz
    have g1 := gG a ha
    have rm := row_mem (show a < rs.length by omega)
    have rl := m.wd _ rm
    have rfx := m.fr _ rm
    have rsz := ms _ rm
    have e : (stpF (.times a q) rs).map rowD = G.set a (rowD ((rowAt rs a).map (mulF q))) := by
      show (rs.set a ((rowAt rs a).map (mulF q))).map rowD = _
      rw [fin]
    obtain ⟨X, eX⟩ : ∃ X, X = (rowAt rs a).map fr := ⟨_, rfl⟩
    have g1 : G[a]? = some (.lst X) := by rw [g1, eX]
    obtain ⟨Y, eY⟩ : ∃ Y, Y = ((rowAt rs a).map (mulF q)).map fr := ⟨_, rfl⟩
    have Xl : X.length ≤ sizeLine := by rw [eX, List.length_map, rl]; omega
    have lc : lcGo [3, 4] (gT 2 (gsCons (gN 3) (gsCons (gN 4) gsNil))) bYes b__law_step_done_1 0 [.ow 0 (.lst G), .ow 0 (.tup [.str "times", .int (a : Int), fr q]), .ow 1 (.lst G), .no, .no, .no, .no] X = some Y := by
      rw [eX, eY, List.map_map]
      refine lcGo_map fun x hx => ?_
      have fx := rfx x hx
      obtain ⟨x1, x2⟩ := rsz x hx
      obtain ⟨q1, q2⟩ := sq
      have m1 : MulOk q.1 x.1 := mulOk_sz q1 x1 (by omega)
      have m2 : MulOk q.2 x.2 := mulOk_sz q2 x2 (by omega)
      have b0 : 0 < q.2 * x.2 := Int.mul_pos hq.1 fx.1
      have t := q_law_ratio (t := q.1 * x.1) b0 (lt_pow (wide_lt q2 x2) _ (by omega))
      rw [mulF_low hq fx] at t
      show _ = some (some (fr (mulF q x)))
      obtain ⟨y, ey⟩ : ∃ y, y = mulF q x := ⟨_, rfl⟩
      rw [← ey] at t ⊢
      unfold b__law_step_done_1
      simp? only [t]
    rw [e]
    show m__law_step_done [.lst G, .tup [.str "times", .int (a : Int), fr q]] = some (.ret 1 (.lst (G.set a (.lst (((rowAt rs a).map (mulF q)).map fr)))))
    rw [← eY]
    have la : a < G.length := by omega
    have key : b__law_step_done (entryE [.lst G, .tup [.str "times", .int (a : Int), fr q]] 5) = some (.ret 1 (.lst (G.set a (.lst Y)))) := by
      unfold b__law_step_done
      simp? only [g1, la, Xl, lc, s1]
    exact end_ret key
  | add a b q =>
    obtain ⟨ha, hb, hq⟩ := ok
    have sq : Sz S q := sz
    have g1 := gG a ha
    have g2 := gG b hb
    have rm := row_mem (show a < rs.length by omega)
    have rm2 := row_mem (show b < rs.length by omega)
    have rl := m.wd _ rm
    have rl2 := m.wd _ rm2
    have e : (stpF (.add a b q) rs).map rowD = G.set a (rowD (addRow (rowAt rs a) (rowAt rs b) q)) := by
      show (rs.set a (addRow (rowAt rs a) (rowAt rs b) q)).map rowD = _
      rw [fin]
    obtain ⟨X, eX⟩ : ∃ X, X = (rowAt rs a).map fr := ⟨_, rfl⟩
    obtain ⟨Y, eY⟩ : ∃ Y, Y = (rowAt rs b).map fr := ⟨_, rfl⟩
    obtain ⟨Z, eZ⟩ : ∃ Z, Z = (addRow (rowAt rs a) (rowAt rs b) q).map fr := ⟨_, rfl⟩
    have g1 : G[a]? = some (.lst X) := by rw [g1, eX]
    have g2 : G[b]? = some (.lst Y) := by rw [g2, eY]
    have ez : zipD X Y = ((rowAt rs a).zip (rowAt rs b)).map fun u => D.tup [fr u.1, fr u.2] := by
      rw [eX, eY]
      unfold zipD
      rw [List.zip_map, List.map_map]
      rfl
    have zl : (zipD X Y).length ≤ sizeLine := by rw [ez, List.length_map, List.length_zip]; omega
    have lc : lcGo [5, 6] (gT 2 (gsCons (gN 5) (gsCons (gN 6) gsNil))) bYes b__law_step_done_2 0 [.ow 0 (.lst G), .ow 0 (.tup [.str "add", .int (a : Int), .int (b : Int), fr q]), .ow 1 (.lst G), .no, .no, .no, .no] (zipD X Y) = some Z := by
      have eZ2 : Z = ((rowAt rs a).zip (rowAt rs b)).map fun u => fr (addX q u.1 u.2) := by
        rw [eZ]
        unfold addRow
        rw [← List.map_uncurry_zip_eq_zipWith, List.map_map]
        rfl
      rw [ez, eZ2]
      refine lcGo_map fun u hu => ?_
      obtain ⟨x, y⟩ := u
      have hm := List.of_mem_zip hu
      have t := q_law_sumX ⟨m.fr _ rm x hm.1, ms _ rm x hm.1⟩ ⟨hq, sq⟩ ⟨m.fr _ rm2 y hm.2, ms _ rm2 y hm.2⟩ sS
      show _ = some (some (fr (addX q x y)))
      obtain ⟨z, ez⟩ : ∃ z, z = addX q x y := ⟨_, rfl⟩
      rw [← ez] at t ⊢
      unfold b__law_step_done_2
      simp? only [t]
    rw [e]
    show m__law_step_done [.lst G, .tup [.str "add", .int (a : Int), .int (b : Int), fr q]] = some (.ret 1 (.lst (G.set a (.lst ((addRow (rowAt rs a) (rowAt rs b) q).map fr)))))
    rw [← eZ]
    have la : a < G.length := by omega
    have key : b__law_step_done (entryE [.lst G, .tup [.str "add", .int (a : Int), .int (b : Int), fr q]] 5) = some (.ret 1 (.lst (G.set a (.lst Z)))) := by
      unfold b__law_step_done
      simp? only [g1, g2, la, zl, lc, s2, s3]
    exact end_ret key
theorem q_is_whole (d : D) (h : tyD d ≠ none) : m_is_whole [d] = some (.ret 0 (.bl (isI d))) := by
  unfold m_is_whole b_is_whole
  cases d <;> first | (exact absurd rfl h) | simp? only [isI]
theorem q_is_wholeI (i : Int) : m_is_whole [.int i] = some (.ret 0 (.bl true)) := q_is_whole (.int i) (fun h => nomatch h)
theorem q_divisor (a b : Int) : m_divisor [.int a, .int b] = some (.ret 0 (.int (Int.gcd a b))) := by
  have h := sWhile_ind (ft := b_divisor_1) (fb := b_divisor_2) (fun m ρ => ∃ x y : Int, ρ = [.ow 0 (.int x), .ow 0 (.int y)] ∧ Int.gcd x y = Int.gcd a b ∧ m = y.natAbs) (fun ρ => ∃ x : Int, ρ = [.ow 0 (.int x), .ow 0 (.int 0)] ∧ x.natAbs = Int.gcd a b) (fun m ρ hJ => by
    obtain ⟨x, y, rfl, hg, rfl⟩ := hJ
    by_cases hy : y = 0
    · subst hy
      refine .inl ⟨?_, x, rfl, by rw [← hg, Int.gcd_zero]⟩
      unfold b_divisor_1
      simp? only []
    · refine .inr ⟨[.ow 0 (.int y), .ow 0 (.int (x.fmod y))], (x.fmod y).natAbs, ?_, ?_, fmod_lt x hy, y, x.fmod y, rfl, by rw [gcd_fmod, hg], rfl⟩
      · unfold b_divisor_1
        simp? only [hy]
      · unfold b_divisor_2
        simp? only [hy]) (m := b.natAbs) (ρ := [.ow 0 (.int a), .ow 0 (.int b)]) ⟨a, b, rfl, rfl, rfl⟩
  obtain ⟨ρ', e, x, rfl, hx⟩ := h
  unfold m_divisor b_divisor
  simp? only [e]
  rw [hx]
theorem q_ratio {t b : Int} (h : b ≠ 0) (hb : b.natAbs < 2 ^ 8999) : m_ratio [.int t, .int b] = some (.ret 0 (fr (ratioF t b))) := by
  have g := Int.gcd_pos_of_ne_zero_right t h
  have l := gcd_le_r (t := t) h
  unfold m_ratio b_ratio ratioF
  by_cases hn : b < 0
  · have d1 : DivOk t (0 - (Int.gcd t b : Nat)) := ⟨by omega, noPy (by omega)⟩
    have d2 : DivOk b (0 - (Int.gcd t b : Nat)) := ⟨by omega, noPy (by omega)⟩
    simp? only [q_is_wholeI, q_divisor, h, hn]
  · have d1 : DivOk t (Int.gcd t b : Nat) := ⟨by omega, noPy (by rw [Int.natAbs_natCast]; omega)⟩
    have d2 : DivOk b (Int.gcd t b : Nat) := ⟨by omega, noPy (by rw [Int.natAbs_natCast]; omega)⟩
    simp? only [q_is_wholeI, q_divisor, h, hn]
theorem q_times {p q : Int × Int} {n m : Nat} (p0 : 0 < p.2) (q0 : 0 < q.2) (h : Sz n p) (h' : Sz m q) (hn : n + m ≤ 8999) : m_times [fr p, fr q] = some (.ret 0 (fr (mulF p q))) := by
  obtain ⟨a, b⟩ := p
  obtain ⟨c, d⟩ := q
  have hb : 0 < b := p0
  have hd : 0 < d := q0
  have h1 : a.natAbs < 2 ^ n := h.1
  have h2 : b.natAbs < 2 ^ n := h.2
  have h3 : c.natAbs < 2 ^ m := h'.1
  have h4 : d.natAbs < 2 ^ m := h'.2
  have m1 : MulOk a c := by
    have := (⟨h1⟩ : Bd a n)
    have := (⟨h3⟩ : Bd c m)
    exact mulOk_bd (by omega)
  have m2 : MulOk b d := by
    have := (⟨h2⟩ : Bd b n)
    have := (⟨h4⟩ : Bd d m)
    exact mulOk_bd (by omega)
  have e := q_ratio (t := a * c) (b := b * d) (mul_ne hb hd) (lt_pow (wide_lt h2 h4) _ hn)
  unfold m_times b_times
  simp? only [e]
  rfl
theorem q_plus {p q : Int × Int} (hp : IsFr p) (hq : IsFr q) (h1 : p.1.natAbs < 2 ^ 4000) (h2 : p.2.natAbs < 2 ^ 4000) (h3 : q.1.natAbs < 2 ^ 4000) (h4 : q.2.natAbs < 2 ^ 4000) : m_plus [fr p, fr q] = some (.ret 0 (fr (addF p q))) := by
  obtain ⟨a, b⟩ := p
  obtain ⟨c, d⟩ := q
  have hb : 0 < b := hp.1
  have hd : 0 < d := hq.1
  have := (⟨h1⟩ : Bd a 4000)
  have := (⟨h2⟩ : Bd b 4000)
  have := (⟨h3⟩ : Bd c 4000)
  have := (⟨h4⟩ : Bd d 4000)
  have e := q_ratio (t := a * d + c * b) (b := b * d) (mul_ne hb hd) (lt_pow (wide_lt h2 h4) _ (by decide))
  unfold m_plus b_plus
  simp? only [e]
  rfl
theorem q_added {S : Nat} {r s : Row} {q : Int × Int} (hl : r.length = s.length) (hz : r.length ≤ 1000) (hr : ∀ x, x ∈ r → IsFr x ∧ Sz S x) (hs : ∀ x, x ∈ s → IsFr x ∧ Sz S x) (hq : IsFr q) (sq : Sz S q) (sS : S + S ≤ 4000) : m_added [rowD r, rowD s, fr q] = some (.ret 1 (rowD (addRow r s q))) := by
  have hz1 : 2000 ≤ sizeLine := by decide
  obtain ⟨A, eA⟩ : ∃ A, A = r.map fr := ⟨_, rfl⟩
  obtain ⟨B, eB⟩ : ∃ B, B = s.map fr := ⟨_, rfl⟩
  have ez : zipD A B = (r.zip s).map fun u => D.tup [fr u.1, fr u.2] := by
    rw [eA, eB]
    unfold zipD
    rw [List.zip_map, List.map_map]
    rfl
  have zl : (zipD A B).length ≤ sizeLine := by rw [ez, List.length_map, List.length_zip]; omega
  have key : b_added (entryE [.lst A, .lst B, fr q] 3) = some (.ret 1 (rowD (addRow r s q))) := by
    obtain ⟨ρ', e, x4, x5, rfl⟩ := for_inv (fi := iZ (eVar 0) (eVar 1)) (fg := gT 2 (gsCons (gF 4) (gsCons (gF 5) gsNil))) (fb := b_added_1) (ds := zipD A B) (fun t ρ => ∃ x4 x5, ρ = [.ow 0 (.lst A), .ow 0 (.lst B), .ow 0 (fr q), .ow 1 (.lst (((r.zip s).take t).map fun u => fr (addX q u.1 u.2))), x4, x5])
      (ρ := [.ow 0 (.lst A), .ow 0 (.lst B), .ow 0 (fr q), .ow 1 (.lst []), .no, .no]) (by simp? only []) ⟨.no, .no, rfl⟩ (fun t dd ρ hd hJ => by
        obtain ⟨x4, x5, rfl⟩ := hJ
        rw [ez, List.getElem?_map] at hd
        cases eu : (r.zip s)[t]? with
        | none => rw [eu] at hd; cases hd
        | some u =>
          rw [eu] at hd
          cases hd
          obtain ⟨x, y⟩ := u
          have hm := List.of_mem_zip (List.mem_of_getElem? eu)
          obtain ⟨xf, xs⟩ := hr x hm.1
          obtain ⟨yf, ys⟩ := hs y hm.2
          have t1 := q_times (p := q) (q := y) hq.1 yf.1 sq ys (by omega)
          have mf := fr_mulF (p := q) (q := y) hq.1 yf.1
          have mz := (sq.mul ys hq.1 yf.1).le sS
          have p1 := q_plus xf mf (lt_pow xs.1 _ (by omega)) (lt_pow xs.2 _ (by omega)) mz.1 mz.2
          have tk : (r.zip s).take (t + 1) = (r.zip s).take t ++ [(x, y)] := by rw [List.take_add_one, eu]; rfl
          have wl : (((r.zip s).take t).map fun u => fr (addX q u.1 u.2)).length < sizeLine := by rw [List.length_map, List.length_take, List.length_zip]; omega
          refine ⟨_, [.ow 0 (.lst A), .ow 0 (.lst B), .ow 0 (fr q), .ow 1 (.lst (((r.zip s).take (t + 1)).map fun u => fr (addX q u.1 u.2))), .ow 0 (fr x), .ow 0 (fr y)], rfl, .inl ?_, _, _, rfl⟩
          rw [tk, List.map_append]
          obtain ⟨W, eW⟩ : ∃ W, W = ((r.zip s).take t).map fun u => fr (addX q u.1 u.2) := ⟨_, rfl⟩
          rw [← eW] at wl ⊢
          show b_added_1 [_, _, _, _, _, _] = some (.nxt [_, _, _, .ow 1 (.lst (W ++ [fr (addX q x y)])), _, _])
          unfold addX
          obtain ⟨m, em⟩ : ∃ m, m = mulF q y := ⟨_, rfl⟩
          rw [← em] at t1 p1 ⊢
          obtain ⟨v, ev⟩ : ∃ v, v = addF x m := ⟨_, rfl⟩
          rw [← ev] at p1 ⊢
          unfold b_added_1
          by_cases h : y.1 = 0
          · rw [if_pos h]
            simp? only [h]
          · rw [if_neg h]
            simp? only [h, t1, p1])
    rw [ez, List.length_map, List.take_length] at e
    have fin : (addRow r s q).map fr = (r.zip s).map fun u => fr (addX q u.1 u.2) := by
      unfold addRow
      rw [← List.map_uncurry_zip_eq_zipWith, List.map_map]
      rfl
    show (_ : Option Fl) = some (.ret 1 (.lst ((addRow r s q).map fr)))
    rw [fin]
    unfold b_added
    refine seq_nxt (by (simp? only []) <;> rfl) ?_
    refine seq_nxt e ?_
    simp? only []
  show m_added [.lst (r.map fr), .lst (s.map fr), _] = _
  rw [← eA, ← eB]
  exact end_ret key
theorem q_stepped {n w S : Nat} {rs : List Row} (m : Mat n w rs) (hn : n ≤ 1000) (hw : w ≤ 1000) (ms : MSz S rs) {s : Stp} (ok : StpOk n s) (sz : StpSz S s) (sS : S + S ≤ 4000) : m_stepped [(2, rowsD rs), (0, stpD s)] = some (.ret 2 (rowsD (stpF s rs))) := by
  have hz : 2000 ≤ sizeLine := by decide
  have s1 : (Str.ofString "times" = Str.ofString "swap") = False := eq_false (by decide +kernel)
  have s2 : (Str.ofString "add" = Str.ofString "swap") = False := eq_false (by decide +kernel)
  have s3 : (Str.ofString "add" = Str.ofString "times") = False := eq_false (by decide +kernel)
  have ln := m.ln
  obtain ⟨G, eG⟩ : ∃ G, G = rs.map rowD := ⟨_, rfl⟩
  have gG : ∀ i, i < n → G[i]? = some (rowD (rowAt rs i)) := fun i hi => by rw [eG]; exact rows_at (by omega)
  have Gl : G.length = n := by rw [eG, List.length_map, ln]
  have fin : ∀ a r, (rs.set a r).map rowD = G.set a (rowD r) := fun a r => by rw [eG, List.map_set]
  show m_stepped [(2, .lst (rs.map rowD)), (0, stpD s)] = some (.ret 2 (.lst ((stpF s rs).map rowD)))
  rw [← eG]
  cases s with
  | swap a b =>
    obtain ⟨ha, hb⟩ := ok
    have g1 := gG a ha
    have g2 := gG b hb
    have e : (stpF (.swap a b) rs).map rowD = (G.set a (rowD (rowAt rs b))).set b (rowD (rowAt rs a)) := by
      show ((rs.set a (rowAt rs b)).set b (rowAt rs a)).map rowD = _
      rw [List.map_set, fin]
    obtain ⟨X, eX⟩ : ∃ X, X = (rowAt rs a).map fr := ⟨_, rfl⟩
    obtain ⟨Y, eY⟩ : ∃ Y, Y = (rowAt rs b).map fr := ⟨_, rfl⟩
    have g1 : G[a]? = some (.lst X) := by rw [g1, eX]
    have g2 : G[b]? = some (.lst Y) := by rw [g2, eY]
    rw [e]
    show m_stepped [(2, .lst G), (0, .tup [.str "swap", .int (a : Int), .int (b : Int)])] = some (.ret 2 (.lst ((G.set a (.lst ((rowAt rs b).map fr))).set b (.lst ((rowAt rs a).map fr)))))
    rw [← eX, ← eY]
    have la : a < G.length := by omega
    have lb : b < G.length := by omega
    have lb2 : b < (G.set a (.lst Y)).length := by rw [List.length_set]; exact lb
    have key : b_stepped (entryM [(2, .lst G), (0, .tup [.str "swap", .int (a : Int), .int (b : Int)])] 2) = some (.ret 2 (.lst ((G.set a (.lst Y)).set b (.lst X)))) := by
      unfold b_stepped
      simp? only [g1, g2, la, lb, lb2]
    exact end_ret key
  | times a q =>
    obtain ⟨ha, hq⟩ := ok
    have sq : Sz S q := sz
    have g1 := gG a ha
    have rm := row_mem (show a < rs.length by omega)
    have rl := m.wd _ rm
    have rfx := m.fr _ rm
    have rsz := ms _ rm
    have e : (stpF (.times a q) rs).map rowD = G.set a (rowD ((rowAt rs a).map (mulF q))) := by
      show (rs.set a ((rowAt rs a).map (mulF q))).map rowD = _
      rw [fin]
    obtain ⟨X, eX⟩ : ∃ X, X = (rowAt rs a).map fr := ⟨_, rfl⟩
    have g1 : G[a]? = some (.lst X) := by rw [g1, eX]
    obtain ⟨Y, eY⟩ : ∃ Y, Y = ((rowAt rs a).map (mulF q)).map fr := ⟨_, rfl⟩
    have Xl : X.length ≤ sizeLine := by rw [eX, List.length_map, rl]; omega
    obtain ⟨T, eT⟩ : ∃ T, T = D.tup [.str "times", .int (a : Int), fr q] := ⟨_, rfl⟩
    have lc : lcGo [3] (gN 3) bYes b_stepped_1 0 [.me 0 (.lst G), .me 0 (.tup [.str "times", .int (a : Int), fr q]), .no, .no] X = some Y := by
      rw [eX, eY, List.map_map]
      refine lcGo_map fun x hx => ?_
      have t := q_times (p := q) (q := x) hq.1 (rfx x hx).1 sq (rsz x hx) (by omega)
      show _ = some (some (fr (mulF q x)))
      obtain ⟨y, ey⟩ : ∃ y, y = mulF q x := ⟨_, rfl⟩
      rw [← ey] at t ⊢
      unfold b_stepped_1
      simp? only [t]
    rw [e]
    show m_stepped [(2, .lst G), (0, .tup [.str "times", .int (a : Int), fr q])] = some (.ret 2 (.lst (G.set a (.lst (((rowAt rs a).map (mulF q)).map fr)))))
    rw [← eY]
    have la : a < G.length := by omega
    have key : b_stepped (entryM [(2, .lst G), (0, .tup [.str "times", .int (a : Int), fr q])] 2) = some (.ret 2 (.lst (G.set a (.lst Y)))) := by
      unfold b_stepped
      have cY : cov 1 (.lst Y) = true := by rw [eY]; exact covs_frs 0 _
      simp? only [g1, la, Xl, lc, s1, cY]
    exact end_ret key
  | add a b q =>
    obtain ⟨ha, hb, hq⟩ := ok
    have sq : Sz S q := sz
    have g1 := gG a ha
    have g2 := gG b hb
    have ra := row_mem (show a < rs.length by omega)
    have rb := row_mem (show b < rs.length by omega)
    have la := m.wd _ ra
    have lb := m.wd _ rb
    have t := q_added (r := rowAt rs a) (s := rowAt rs b) (q := q) (S := S) (by rw [la, lb]) (by omega) (fun x hx => ⟨m.fr _ ra x hx, ms _ ra x hx⟩) (fun x hx => ⟨m.fr _ rb x hx, ms _ rb x hx⟩) hq sq sS
    have e : (stpF (.add a b q) rs).map rowD = G.set a (rowD (addRow (rowAt rs a) (rowAt rs b) q)) := by
      show (rs.set a (addRow (rowAt rs a) (rowAt rs b) q)).map rowD = _
      rw [fin]
    obtain ⟨X, eX⟩ : ∃ X, X = (rowAt rs a).map fr := ⟨_, rfl⟩
    obtain ⟨Y, eY⟩ : ∃ Y, Y = (rowAt rs b).map fr := ⟨_, rfl⟩
    obtain ⟨Z, eZ⟩ : ∃ Z, Z = (addRow (rowAt rs a) (rowAt rs b) q).map fr := ⟨_, rfl⟩
    have t : m_added [.lst X, .lst Y, fr q] = some (.ret 1 (.lst Z)) := by rw [eX, eY, eZ]; exact t
    have g1 : G[a]? = some (.lst X) := by rw [g1, eX]
    have g2 : G[b]? = some (.lst Y) := by rw [g2, eY]
    rw [e]
    show m_stepped [(2, .lst G), (0, .tup [.str "add", .int (a : Int), .int (b : Int), fr q])] = some (.ret 2 (.lst (G.set a (.lst ((addRow (rowAt rs a) (rowAt rs b) q).map fr)))))
    rw [← eZ]
    have la : a < G.length := by omega
    have key : b_stepped (entryM [(2, .lst G), (0, .tup [.str "add", .int (a : Int), .int (b : Int), fr q])] 2) = some (.ret 2 (.lst (G.set a (.lst Z)))) := by
      unfold b_stepped
      have cZ : cov 1 (.lst Z) = true := by rw [eZ]; exact covs_frs 0 _
      simp? only [g1, g2, la, t, s2, s3, cZ]
    exact end_ret key
theorem q_walked {n w S : Nat} {rs : List Row} (m : Mat n w rs) (hn : n ≤ 1000) (hw : w ≤ 1000) {ss : List Stp} (W : Walk n S rs ss) (sS : S + S ≤ 4000) : m_walked [rowsD rs, .lst (ss.map stpD)] = some (.ret 2 (rowsD (walkF rs ss))) := by
  have hz : 2000 ≤ sizeLine := by decide
  have ln := m.ln
  obtain ⟨G, eG⟩ : ∃ G, G = rs.map rowD := ⟨_, rfl⟩
  have Gl : G.length ≤ sizeLine := by rw [eG, List.length_map, ln]; omega
  obtain ⟨T, eT⟩ : ∃ T, T = ss.map stpD := ⟨_, rfl⟩
  have lc : lcGo [4] (gN 4) bYes b_walked_1 1 [.ow 0 (.lst G), .ow 0 (.lst T), .no, .no, .no] G = some G := by
    rw [eG]
    refine lcGo_map fun r hr => ?_
    unfold b_walked_1
    obtain ⟨X, eX⟩ : ∃ X, X = r.map fr := ⟨_, rfl⟩
    show lcOne _ _ _ _ _ _ (D.lst (r.map fr)) = some (some (D.lst (r.map fr)))
    rw [← eX]
    simp? only []
  have key : b_walked (entryE [.lst G, .lst T] 3) = some (.ret 2 (rowsD (walkF rs ss))) := by
    unfold b_walked
    refine seq_nxt (ρ1 := [.ow 0 (.lst G), .ow 0 (.lst T), .ow 2 (.lst G), .no, .no]) (by simp? only [lc, Gl]) ?_
    refine seq_forM (u := stpD) (xs := ss) (fun j ρ => ∃ x, ρ = [.ow 0 (.lst G), .ow 0 (.lst T), .ow 2 (rowsD (walkF rs (ss.take j))), x, .no]) (by rw [← eT]; simp? only []) ⟨.no, by rw [eG]; rfl⟩ (fun j s ρ hs hJ => ?_) (fun ρ' hJ => ?_)
    · obtain ⟨x, rfl⟩ := hJ
      obtain ⟨h1, h2, h3, h4⟩ := W.at_ m hs
      have t := q_stepped h4 hn hw h1 h2 h3 sS
      refine ⟨_, [.ow 0 (.lst G), .ow 0 (.lst T), .ow 2 (rowsD (walkF rs (ss.take (j + 1)))), .ow 0 (stpD s), .no], rfl, .inl ?_, _, rfl⟩
      have e : walkF rs (ss.take (j + 1)) = stpF s (walkF rs (ss.take j)) := by
        rw [List.take_add_one, hs, walkF_app]
        rfl
      rw [e]
      obtain ⟨X, eX⟩ : ∃ X, X = (walkF rs (ss.take j)).map rowD := ⟨_, rfl⟩
      obtain ⟨Y, eY⟩ : ∃ Y, Y = (stpF s (walkF rs (ss.take j))).map rowD := ⟨_, rfl⟩
      obtain ⟨z, ez⟩ : ∃ z, z = stpD s := ⟨_, rfl⟩
      have t : m_stepped [(2, .lst X), (0, z)] = some (.ret 2 (.lst Y)) := by rw [eX, eY, ez]; exact t
      show b_walked_2 [_, _, .ow 2 (.lst ((walkF rs (ss.take j)).map rowD)), .ow 0 (stpD s), _] = some (.nxt [_, _, .ow 2 (.lst ((stpF s (walkF rs (ss.take j))).map rowD)), _, _])
      rw [← eX, ← eY, ← ez]
      unfold b_walked_2
      simp? only [t]
    · obtain ⟨x, rfl⟩ := hJ
      rw [List.take_length]
      obtain ⟨Y, eY⟩ : ∃ Y, Y = (walkF rs ss).map rowD := ⟨_, rfl⟩
      show sRet _ [_, _, .ow 2 (.lst ((walkF rs ss).map rowD)), _, _] = some (.ret 2 (.lst ((walkF rs ss).map rowD)))
      rw [← eY]
      simp? only []
  show m_walked [.lst (rs.map rowD), .lst (ss.map stpD)] = _
  rw [← eG, ← eT]
  exact end_ret key
theorem q_whole (d : D) (h : tyD d ≠ none) : m__law_whole [d] = some (.ret 0 (.bl (isI d))) := by
  unfold m__law_whole b__law_whole
  cases d <;> first | (exact absurd rfl h) | simp? only [isI]
theorem q_wholeI (i : Int) : m__law_whole [.int i] = some (.ret 0 (.bl true)) := q_whole (.int i) (fun h => nomatch h)
theorem q_isF {p : Int × Int} (h : IsFr p) : m__law_is_fraction [fr p] = some (.ret 0 (.bl true)) := by
  obtain ⟨a, b⟩ := p
  have b0 : 0 < b := h.1
  have g : Int.gcd a b = 1 := h.2
  have e := q_lgcd a b
  rw [g] at e
  have e : m__law_gcd [.int a, .int b] = some (.ret 0 (.int 1)) := e
  have w1 := q_wholeI a
  have w2 := q_wholeI b
  unfold m__law_is_fraction b__law_is_fraction
  simp? only [b0, e, w1, w2]
theorem q_fractions {f : List (Int × Int)} (h : ∀ p, p ∈ f → IsFr p) {n : Nat} (hn : f.length = n) (hl : n ≤ 1000) : m__law_fractions [.lst (f.map fr), .int (n : Int)] = some (.ret 0 (.bl true)) := by
  have hz : 2000 ≤ sizeLine := by decide
  have lc : ∀ s0 s1 : Sl, lcGo [2] (gN 2) bYes b__law_fractions_1 0 [s0, s1, .no] (f.map fr) = some (f.map fun _ => D.bl true) := fun s0 s1 => lcGo_map fun p hp => by
    have e := q_isF (h p hp)
    unfold b__law_fractions_1
    simp? only [e]
  have fl : ((f.map fr).length : Int) = (n : Int) := by rw [List.length_map]; omega
  have fz : (f.map fr).length ≤ sizeLine := by rw [List.length_map]; omega
  have e : (f.map fun _ => D.bl true) = (List.replicate f.length true).map D.bl := by rw [List.map_const', List.map_replicate]
  have al : (List.replicate f.length true).all id = true := by simp
  have bz : ((List.replicate f.length true).map D.bl).length ≤ sizeLine := by rw [List.length_map, List.length_replicate]; omega
  unfold m__law_fractions b__law_fractions
  simp? only [fl, lc, e, al]
theorem q_alike {n w : Nat} {rs : List Row} (m : Mat n w rs) (hn : n ≤ 1000) (hw : w ≤ 1000) : m__law_alike [rowsD rs, rowsD rs] = some (.ret 0 (.bl true)) := by
  have hz : 2000 ≤ sizeLine := by decide
  have ln := m.ln
  obtain ⟨G, eG⟩ : ∃ G, G = rs.map rowD := ⟨_, rfl⟩
  have Gl : G.length = n := by rw [eG, List.length_map, ln]
  have ez : zipD G G = (rs.zip rs).map fun u => D.tup [rowD u.1, rowD u.2] := by
    rw [eG]
    unfold zipD
    rw [List.zip_map, List.map_map]
    rfl
  have zl : (zipD G G).length ≤ sizeLine := by rw [ez, List.length_map, List.length_zip]; omega
  have key : b__law_alike (entryE [.lst G, .lst G] 2) = some (.ret 0 (.bl true)) := by
    unfold b__law_alike
    refine seq_nxt (by (simp? only []) <;> rfl) ?_
    refine seq_forM (u := fun u : Row × Row => D.tup [rowD u.1, rowD u.2]) (xs := rs.zip rs) (fun j ρ => ∃ x2 x3, ρ = [.ow 0 (.lst G), .ow 0 (.lst G), x2, x3]) (by rw [← ez]; simp? only []) ⟨.no, .no, rfl⟩ (fun j u ρ hu hJ => ?_) (fun ρ' hJ => ?_)
    · obtain ⟨x2, x3, rfl⟩ := hJ
      obtain ⟨r, s⟩ := u
      have e : r = s := by
        rw [List.getElem?_zip_eq_some] at hu
        obtain ⟨h1, h2⟩ := hu
        rw [h1] at h2
        exact Option.some.inj h2
      subst e
      have hm := (List.of_mem_zip (List.mem_of_getElem? hu)).1
      have q := q_fractions (f := r) (m.fr r hm) (m.wd r hm) hw
      have q1 := eqs_frs r
      have o1 : ∀ k, okP.okPs (k + 2) (r.map fr) = true := fun k => okPs_frs k r
      have rl : ((r.map fr).length : Int) = (w : Int) := by rw [List.length_map, m.wd r hm]
      obtain ⟨X, eX⟩ : ∃ X, X = r.map fr := ⟨_, rfl⟩
      have q : m__law_fractions [.lst X, .int (w : Int)] = some (.ret 0 (.bl true)) := by rw [eX]; exact q
      rw [← eX] at q1 o1 rl
      refine ⟨_, [.ow 0 (.lst G), .ow 0 (.lst G), .ow 0 (rowD r), .ow 0 (rowD r)], rfl, .inl ?_, _, _, rfl⟩
      show b__law_alike_1 [_, _, .ow 0 (.lst (r.map fr)), .ow 0 (.lst (r.map fr))] = some (.nxt [_, _, .ow 0 (.lst (r.map fr)), .ow 0 (.lst (r.map fr))])
      rw [← eX]
      unfold b__law_alike_1
      simp? only [rl, q, q1, o1]
    · obtain ⟨x2, x3, rfl⟩ := hJ
      simp? only []
  show m__law_alike [.lst (rs.map rowD), .lst (rs.map rowD)] = _
  rw [← eG]
  exact end_ret key
structure Bfr (M : Int) (V : Nat) (x : Int × Int) : Prop where
  f : IsFr x
  d : x.2 ∣ M
  v : x.1.natAbs ≤ V * x.2.natAbs
theorem lowest_bd {t b : Int} {V : Nat} (b0 : 0 < b) (h : t.natAbs ≤ V * b.natAbs) : (lowest t b).1.natAbs ≤ V * (lowest t b).2.natAbs := by
  obtain ⟨h1, h2⟩ := lowest_mul t b
  have g := Int.gcd_pos_of_ne_zero_right t (show b ≠ 0 by omega)
  generalize lowest t b = p at h1 h2 ⊢
  generalize Int.gcd t b = c at g h1 h2
  subst h1 h2
  rw [Int.natAbs_mul, Int.natAbs_mul, Int.natAbs_natCast, ← Nat.mul_assoc] at h
  exact Nat.le_of_mul_le_mul_right h g
theorem six_60 {d : Int} (h1 : 0 < d) (h2 : d ≤ 6) : d ∣ 60 := by
  have : d = 1 ∨ d = 2 ∨ d = 3 ∨ d = 4 ∨ d = 5 ∨ d = 6 := by omega
  rcases this with rfl | rfl | rfl | rfl | rfl | rfl <;> decide
theorem Bfr.mul {M : Int} {V : Nat} {q x : Int × Int} (h : Bfr M V x) (fq : IsFr q) (q9 : q.1.natAbs ≤ 9) (q6 : q.2 ≤ 6) : Bfr (60 * M) (10 * V) (mulF q x) := by
  have q0 := fq.1
  have x0 := h.f.1
  have f := fr_mulF fq.1 h.f.1
  refine ⟨f, ?_, ?_⟩
  · refine IntBy.dvd f ?_
    rw [rv_mulF fq.1 h.f.1]
    exact (IntBy.of q0 (six_60 q0 q6)).mul (IntBy.of x0 h.d)
  · rw [← mulF_low fq h.f]
    have b0 : 0 < q.2 * x.2 := Int.mul_pos q0 x0
    refine lowest_bd b0 ?_
    rw [Int.natAbs_mul, Int.natAbs_mul]
    have h1 : q.1.natAbs * x.1.natAbs ≤ 9 * (V * x.2.natAbs) := Nat.mul_le_mul q9 h.v
    have q1 : 1 ≤ q.2.natAbs := by omega
    have h2 : 10 * V * (1 * x.2.natAbs) ≤ 10 * V * (q.2.natAbs * x.2.natAbs) := Nat.mul_le_mul_left _ (Nat.mul_le_mul_right _ q1)
    have h3 : 9 * (V * x.2.natAbs) ≤ 10 * V * (1 * x.2.natAbs) := by
      rw [Nat.one_mul, Nat.mul_assoc]
      exact Nat.mul_le_mul_right _ (by omega)
    omega
theorem Bfr.le {M : Int} {V : Nat} {x : Int × Int} (h : Bfr M V x) : Bfr (60 * M) (10 * V) x :=
  ⟨h.f, Int.dvd_trans h.d ⟨60, by rw [Int.mul_comm]⟩, Nat.le_trans h.v (Nat.mul_le_mul_right _ (by omega))⟩
theorem addX_low {x q y : Int × Int} (fx : IsFr x) (fq : IsFr q) (fy : IsFr y) : lowest (x.1 * q.2 * y.2 + q.1 * y.1 * x.2) (x.2 * q.2 * y.2) = addX q x y := by
  have x0 := fx.1
  have q0 := fq.1
  have y0 := fy.1
  have b0 : 0 < x.2 * q.2 * y.2 := Int.mul_pos (Int.mul_pos x0 q0) y0
  refine (lowest_fr b0).ext (fr_addX fq fx fy) ?_
  rw [rv_low _ b0, rv_addX fq fx fy]
  have c1 := castI_ne (show x.2 ≠ 0 by omega)
  have c2 := castI_ne (show y.2 ≠ 0 by omega)
  have c3 := castI_ne (show q.2 ≠ 0 by omega)
  unfold rv
  push_cast
  generalize (x.1 : Rat) = A at *
  generalize (x.2 : Rat) = B at *
  generalize (y.1 : Rat) = C at *
  generalize (y.2 : Rat) = E at *
  generalize (q.1 : Rat) = F at *
  generalize (q.2 : Rat) = G at *
  grind
theorem add_bd {a b c A B C V : Nat} (h1 : a ≤ V * A) (h2 : c ≤ V * C) (h3 : b ≤ 9) (h4 : 1 ≤ B) : a * B * C + b * c * A ≤ 10 * V * (A * B * C) := by
  have e1 : a * B * C ≤ V * A * B * C := Nat.mul_le_mul_right _ (Nat.mul_le_mul_right _ h1)
  have e2 : b * c * A ≤ 9 * (V * C) * A := Nat.mul_le_mul_right _ (Nat.mul_le_mul h3 h2)
  have e3 : 9 * (V * C) * A = 9 * (V * A * 1 * C) := by
    rw [Nat.mul_one]
    simp only [Nat.mul_assoc, Nat.mul_left_comm, Nat.mul_comm]
  have e4 : V * A * 1 * C ≤ V * A * B * C := Nat.mul_le_mul_right _ (Nat.mul_le_mul_left _ h4)
  have e5 : 10 * V * (A * B * C) = 10 * (V * A * B * C) := by simp only [Nat.mul_assoc]
  omega
theorem Bfr.add {M : Int} {V : Nat} {q x y : Int × Int} (h : Bfr M V x) (k : Bfr M V y) (fq : IsFr q) (q9 : q.1.natAbs ≤ 9) (q6 : q.2 ≤ 6) : Bfr (60 * M) (10 * V) (addX q x y) := by
  have q0 := fq.1
  have x0 := h.f.1
  have y0 := k.f.1
  have f := fr_addX fq h.f k.f
  refine ⟨f, ?_, ?_⟩
  · refine IntBy.dvd f ?_
    rw [rv_addX fq h.f k.f]
    exact (IntBy.of x0 (Int.dvd_trans h.d ⟨60, by rw [Int.mul_comm]⟩)).add ((IntBy.of q0 (six_60 q0 q6)).mul (IntBy.of y0 k.d))
  · rw [← addX_low h.f fq k.f]
    have b0 : 0 < x.2 * q.2 * y.2 := Int.mul_pos (Int.mul_pos x0 q0) y0
    refine lowest_bd b0 ?_
    have q1 : 1 ≤ q.2.natAbs := by omega
    have t := add_bd h.v k.v q9 q1
    have n1 := Int.natAbs_add_le (x.1 * q.2 * y.2) (q.1 * y.1 * x.2)
    simp only [Int.natAbs_mul] at n1 ⊢
    omega
def BfrR (M : Int) (V : Nat) (rs : List Row) : Prop := ∀ r, r ∈ rs → ∀ x, x ∈ r → Bfr M V x
theorem StpS.ok {n : Nat} {s : Stp} (h : StpS n s) : StpOk n s := by
  cases s with
  | swap a b => exact h
  | times a q => exact ⟨h.1, h.2.1⟩
  | add a b q => exact ⟨h.1, h.2.1, h.2.2.1⟩
theorem BfrR.step {n w : Nat} {M : Int} {V : Nat} {rs : List Row} (m : Mat n w rs) (h : BfrR M V rs) {s : Stp} (hs : StpS n s) : BfrR (60 * M) (10 * V) (stpF s rs) := by
  have ln := m.ln
  have lft : BfrR (60 * M) (10 * V) rs := fun r hr x hx => (h r hr x hx).le
  have st : ∀ {a : Nat} {r : Row} {rs : List Row}, BfrR (60 * M) (10 * V) rs → (∀ x, x ∈ r → Bfr (60 * M) (10 * V) x) → BfrR (60 * M) (10 * V) (rs.set a r) := fun {a r rs} h1 h2 r' hr' x hx => by
    rcases mem_set hr' with hr' | rfl
    · exact h1 r' hr' x hx
    · exact h2 x hx
  cases s with
  | swap a b =>
    have ra := row_mem (rs := rs) (i := a) (by have := hs.1; omega)
    have rb := row_mem (rs := rs) (i := b) (by have := hs.2; omega)
    exact st (st lft fun x hx => lft _ rb x hx) fun x hx => lft _ ra x hx
  | times a q =>
    obtain ⟨ha, fq, q9, q6⟩ := hs
    have ra := row_mem (rs := rs) (i := a) (by omega)
    refine st lft fun x hx => ?_
    obtain ⟨y, hy, rfl⟩ := List.mem_map.mp hx
    exact (h _ ra y hy).mul fq q9 q6
  | add a b q =>
    obtain ⟨ha, hb, fq, q9, q6⟩ := hs
    have ra := row_mem (rs := rs) (i := a) (by omega)
    have rb := row_mem (rs := rs) (i := b) (by omega)
    refine st lft fun x hx => ?_
    unfold addRow at hx
    rw [← List.map_uncurry_zip_eq_zipWith] at hx
    obtain ⟨u, hu, rfl⟩ := List.mem_map.mp hx
    obtain ⟨y, z⟩ := u
    have hm := List.of_mem_zip hu
    exact (h _ ra y hm.1).add (h _ rb z hm.2) fq q9 q6
theorem Bfr.sz {M : Int} {V S : Nat} {x : Int × Int} (h : Bfr M V x) (M0 : 0 < M) (hS : (V + 1) * M.natAbs < 2 ^ S) : Sz S x := by
  have x0 := h.f.1
  have le := Int.le_of_dvd M0 h.d
  have l2 : x.2.natAbs ≤ M.natAbs := by omega
  have l3 : V * x.2.natAbs ≤ V * M.natAbs := Nat.mul_le_mul_left _ l2
  have v := h.v
  rw [Nat.succ_mul] at hS
  exact ⟨by omega, by omega⟩
theorem walk_small {n w : Nat} : ∀ {ss : List Stp} {rs : List Row} {M : Int} {V S : Nat}, Mat n w rs → BfrR M V rs → 0 < M → (V * 10 ^ ss.length + 1) * (M.natAbs * 60 ^ ss.length) < 2 ^ S → 10 ≤ S → (∀ s, s ∈ ss → StpS n s) → Walk n S rs ss
  | [], _, _, _, _, _, _, _, _, _, _ => trivial
  | s :: ss, rs, M, V, S, m, h, M0, hS, s10, hs => by
    have hs0 := hs s (List.mem_cons_self ..)
    have p10 : 1 ≤ 10 ^ (ss.length + 1) := Nat.one_le_pow _ _ (by omega)
    have p60 : 1 ≤ 60 ^ (ss.length + 1) := Nat.one_le_pow _ _ (by omega)
    rw [List.length_cons] at hS
    have small : (V + 1) * M.natAbs < 2 ^ S := by
      refine Nat.lt_of_le_of_lt (Nat.mul_le_mul ?_ ?_) hS
      · have : V * 1 ≤ V * 10 ^ (ss.length + 1) := Nat.mul_le_mul_left _ p10
        omega
      · have : M.natAbs * 1 ≤ M.natAbs * 60 ^ (ss.length + 1) := Nat.mul_le_mul_left _ p60
        omega
    refine ⟨fun r hr x hx => (h r hr x hx).sz M0 small, hs0.ok, ?_, ?_⟩
    · have p : 1024 ≤ 2 ^ S := by
        have : 2 ^ 10 ≤ 2 ^ S := Nat.pow_le_pow_right (by omega) s10
        omega
      cases s with
      | swap a b => exact trivial
      | times a q =>
        obtain ⟨_, fq, q9, q6⟩ := hs0
        have := fq.1
        exact ⟨by omega, by omega⟩
      | add a b q =>
        obtain ⟨_, _, fq, q9, q6⟩ := hs0
        have := fq.1
        exact ⟨by omega, by omega⟩
    · refine walk_small (m.step hs0.ok).1 (h.step m hs0) (by omega) ?_ s10 fun z hz => hs z (List.mem_cons_of_mem _ hz)
      have e1 : 10 * V * 10 ^ ss.length = V * 10 ^ (ss.length + 1) := by rw [Nat.pow_succ, Nat.mul_comm 10 V, Nat.mul_assoc, Nat.mul_comm 10]
      have e2 : (60 * M).natAbs * 60 ^ ss.length = M.natAbs * 60 ^ (ss.length + 1) := by
        rw [Int.natAbs_mul, Nat.pow_succ, Nat.mul_comm (Int.natAbs 60), Nat.mul_assoc, Nat.mul_comm (Int.natAbs 60)]
        rfl
      rw [e1, e2]
      exact hS
theorem eqD_stp : ∀ s : Stp, eqD (stpD s) (stpD s) = true
  | .swap a b => by
    show (eqD (.str "swap") (.str "swap") && (eqD (.int a) (.int a) && (eqD (.int b) (.int b) && true))) = true
    rw [eqD_ss, eqD_ii, eqD_ii, decide_eq_true rfl, decide_eq_true rfl, decide_eq_true rfl]
    rfl
  | .times a q => by
    show (eqD (.str "times") (.str "times") && (eqD (.int a) (.int a) && (eqD (fr q) (fr q) && true))) = true
    rw [eqD_ss, eqD_ii, eqD_frs, decide_eq_true rfl, decide_eq_true rfl, decide_eq_true rfl]
    rfl
  | .add a b q => by
    show (eqD (.str "add") (.str "add") && (eqD (.int a) (.int a) && (eqD (.int b) (.int b) && (eqD (fr q) (fr q) && true)))) = true
    rw [eqD_ss, eqD_ii, eqD_ii, eqD_frs, decide_eq_true rfl, decide_eq_true rfl, decide_eq_true rfl, decide_eq_true rfl]
    rfl
theorem eqs_stp : ∀ ss : List Stp, eqD.eqs (ss.map stpD) (ss.map stpD) = true
  | [] => rfl
  | s :: ss => by
    show (eqD (stpD s) (stpD s) && eqD.eqs (ss.map stpD) (ss.map stpD)) = true
    rw [eqD_stp, eqs_stp ss]
    rfl
theorem okPs_stp (n : Nat) (ss : List Stp) : okP.okPs (n + 3) (ss.map stpD) = true := okPs_map (fun s => by
  have k1 : PyData.strOk (Str.ofString "swap") = true := by decide +kernel
  have k2 : PyData.strOk (Str.ofString "times") = true := by decide +kernel
  have k3 : PyData.strOk (Str.ofString "add") = true := by decide +kernel
  cases s with
  | swap a b =>
    show (PyData.strOk (Str.ofString "swap") && (okP (n + 2) (.int a) && (okP (n + 2) (.int b) && true))) = true
    rw [k1]; rfl
  | times a q =>
    show (PyData.strOk (Str.ofString "times") && (okP (n + 2) (.int a) && (okP (n + 2) (fr q) && true))) = true
    rw [k2]; rfl
  | add a b q =>
    show (PyData.strOk (Str.ofString "add") && (okP (n + 2) (.int a) && (okP (n + 2) (.int b) && (okP (n + 2) (fr q) && true)))) = true
    rw [k3]; rfl) ss
theorem flats_stp : ∀ ss : List Stp, flats (ss.map stpD) = true
  | [] => rfl
  | s :: ss => by
    show (flat (stpD s) && flats (ss.map stpD)) = true
    rw [flats_stp ss]
    cases s <;> rfl
theorem law_true (ns : List Int) (hl : ns.length ≤ 63) : m_law [.rd ns] = some (.ret 0 (.bl true)) := by
  have hz : 2000 ≤ sizeLine := by decide
  obtain ⟨n, w, Bn, rs, e0, K⟩ := q_rowsK ns hl
  have m := K.m
  have ln := m.ln
  have n4 := K.n4
  have w5 := K.w5
  have D0 := K.D0
  have D1 := K.D1
  have Gn : ((rs.map rowD).length : Int) = (n : Int) := by rw [List.length_map, ln]
  obtain ⟨ss, e1, sl, hs⟩ := q_law_steps ns hl n4 Gn
  have W : Walk n 300 rs ss := by
    refine walk_small m (M := 60 * Bn) (V := 10 ^ 30) (fun r hr x hx => ?_) (by omega) ?_ (by omega) hs
    · obtain ⟨b1, b2⟩ := K.bg r hr x hx
      have f := m.fr r hr x hx
      have f0 := f.1
      refine ⟨f, b1, Nat.le_trans b2 ?_⟩
      have : 10 ^ 30 * 1 ≤ 10 ^ 30 * x.2.natAbs := Nat.mul_le_mul_left _ (by omega)
      omega
    · have i20 : (10 : Int) ^ 20 = 100000000000000000000 := by decide
      have a1 : 10 ^ ss.length ≤ 10 ^ 9 := Nat.pow_le_pow_right (by omega) sl
      have a2 : 60 ^ ss.length ≤ 60 ^ 9 := Nat.pow_le_pow_right (by omega) sl
      have a3 : (60 * Bn).natAbs ≤ 60 * 100000000000000000000 := by omega
      refine Nat.lt_of_le_of_lt (Nat.mul_le_mul (Nat.succ_le_succ (Nat.mul_le_mul_left _ a1)) (Nat.mul_le_mul a3 a2)) ?_
      decide
  have wd := q_walked m (by omega) (by omega) W (by omega)
  have mE := W.mat m
  have al := q_alike mE (by omega) (by omega)
  obtain ⟨E, eE⟩ : ∃ E, E = walkF rs ss := ⟨_, rfl⟩
  rw [← eE] at wd mE al
  obtain ⟨G, eG⟩ : ∃ G, G = rs.map rowD := ⟨_, rfl⟩
  obtain ⟨GE, eGE⟩ : ∃ G, G = E.map rowD := ⟨_, rfl⟩
  obtain ⟨SS, eSS⟩ : ∃ S, S = ss.map stpD := ⟨_, rfl⟩
  have e0 : m__law_rows [.rd ns] = some (.ret 2 (.lst G)) := by rw [eG]; exact e0
  have e1 : m__law_steps [.rd ns, .lst G] = some (.ret 1 (.lst SS)) := by rw [eG, eSS]; exact e1
  have wd : m_walked [.lst G, .lst SS] = some (.ret 2 (.lst GE)) := by rw [eG, eGE, eSS]; exact wd
  have al : m__law_alike [.lst GE, .lst GE] = some (.ret 0 (.bl true)) := by rw [eGE]; exact al
  have cvE : cov 2 (.lst GE) = true := by rw [eGE]; exact covs_rows 0 E
  have fS : flats SS = true := by rw [eSS]; exact flats_stp ss
  have Gl : G.length ≤ sizeLine := by rw [eG, List.length_map]; omega
  have Gl2 : G.length < sizeLine := by rw [eG, List.length_map]; omega
  have Sl1 : SS.length ≤ sizeLine := by rw [eSS, List.length_map]; omega
  have Sl2 : SS.length < sizeLine := by rw [eSS, List.length_map]; omega
  have q1 : eqD.eqs G G = true := by rw [eG]; exact eqs_rows1 rs
  have q2 : eqD.eqs SS SS = true := by rw [eSS]; exact eqs_stp ss
  have oG : ∀ k, okP.okPs (k + 3) G = true := fun k => by rw [eG]; exact okPs_rows k rs
  have oS : ∀ k, okP.okPs (k + 3) SS = true := fun k => by rw [eSS]; exact okPs_stp k ss
  have lc : ∀ (k : Nat) (fe : FE) (s4 s5 s6 s7 s8 : Sl), (∀ X : List D, lcOne [3] (gN 3) bYes fe k [.ow 0 (.rd ns), .ow 0 (.lst G), .ow 0 (.lst SS), .no, s4, s5, s6, s7, s8] (.lst X) = some (some (.lst X))) → lcGo [3] (gN 3) bYes fe k [.ow 0 (.rd ns), .ow 0 (.lst G), .ow 0 (.lst SS), .no, s4, s5, s6, s7, s8] G = some G := fun k fe s4 s5 s6 s7 s8 h => by
    rw [eG]
    rw [eG] at h
    exact lcGo_map fun r hr => h (r.map fr)
  have lc1 := fun s4 s5 s6 s7 s8 => lc 0 b_law_1 s4 s5 s6 s7 s8 fun X => by
    unfold b_law_1
    simp? only []
  have lc3 := fun s4 s5 s6 s7 s8 => lc 1 b_law_3 s4 s5 s6 s7 s8 fun X => by
    unfold b_law_3
    simp? only []
  have lc6 := fun s4 s5 s6 s7 s8 => lc 0 b_law_6 s4 s5 s6 s7 s8 fun X => by
    unfold b_law_6
    simp? only []
  have cB : ∀ b : Bool, cov 0 (D.bl b) = true := fun _ => rfl
  have key : b_law (entryE [.rd ns] 8) = some (.ret 0 (.bl true)) := by
    unfold b_law
    refine seq_nxt (by (simp? only [e0]) <;> rfl) ?_
    refine seq_nxt (by (simp? only [e1]) <;> rfl) ?_
    refine seq_nxt (by (simp? only [lc1, Gl]) <;> rfl) ?_
    refine seq_forM (u := stpD) (xs := ss) (fun j ρ => ∃ x5, ρ = [.ow 0 (.rd ns), .ow 0 (.lst G), .ow 0 (.lst SS), .no, .ow 0 (rowsD (walkF rs (ss.take j))), x5, .no, .no, .no]) (by rw [← eSS]; simp? only []) ⟨.no, by rw [eG]; rfl⟩ (fun j s ρ hj hJ => ?_) (fun ρ' hJ => ?_)
    · obtain ⟨x5, rfl⟩ := hJ
      obtain ⟨h1, h2, h3, h4⟩ := W.at_ m hj
      have sd := q_step_done h4 (by omega) (by omega) h1 h2 h3 (by omega)
      have e : walkF rs (ss.take (j + 1)) = stpF s (walkF rs (ss.take j)) := by
        rw [List.take_add_one, hj, walkF_app]
        rfl
      rw [e]
      obtain ⟨X, eX⟩ : ∃ X, X = (walkF rs (ss.take j)).map rowD := ⟨_, rfl⟩
      obtain ⟨Y, eY⟩ : ∃ Y, Y = (stpF s (walkF rs (ss.take j))).map rowD := ⟨_, rfl⟩
      obtain ⟨z, ez⟩ : ∃ z, z = stpD s := ⟨_, rfl⟩
      have sd : m__law_step_done [.lst X, z] = some (.ret 1 (.lst Y)) := by rw [eX, eY, ez]; exact sd
      refine ⟨_, [.ow 0 (.rd ns), .ow 0 (.lst G), .ow 0 (.lst SS), .no, .ow 0 (rowsD (stpF s (walkF rs (ss.take j)))), .ow 0 (stpD s), .no, .no, .no], rfl, .inl ?_, _, rfl⟩
      show b_law_2 [_, _, _, _, .ow 0 (.lst ((walkF rs (ss.take j)).map rowD)), .ow 0 (stpD s), _, _, _] = some (.nxt [_, _, _, _, .ow 0 (.lst ((stpF s (walkF rs (ss.take j))).map rowD)), .ow 0 (stpD s), _, _, _])
      rw [← eX, ← eY, ← ez]
      unfold b_law_2
      simp? only [sd]
    · obtain ⟨x5, rfl⟩ := hJ
      rw [List.take_length, ← eE]
      show (sSeq _ _) [_, _, _, _, .ow 0 (.lst (E.map rowD)), _, _, _, _] = _
      rw [← eGE]
      refine seq_nxt (ρ1 := [.ow 0 (.rd ns), .ow 0 (.lst G), .ow 0 (.lst SS), .no, .ow 0 (.lst GE), x5, .ow 2 (.lst G), .no, .no]) (by simp? only [Gl, lc3]) ?_
      refine seq_nxt (ρ1 := [.ow 0 (.rd ns), .ow 0 (.lst G), .ow 0 (.lst SS), .no, .ow 0 (.lst GE), x5, .ow 2 (.lst G), .ow 1 (.lst SS), .no]) (by simp? only []) ?_
      refine seq_nxt (ρ1 := [.ow 0 (.rd ns), .ow 0 (.lst G), .ow 0 (.lst SS), .no, .ow 0 (.lst GE), x5, .ow 2 (.lst G), .ow 1 (.lst SS), .ow 2 (.lst GE)]) (by simp? only [wd, cvE]) ?_
      refine seq_nxt (by (simp? only [al, q1, q2, oG, oS, cB]) <;> rfl) ?_
      have app : ∃ ρ', sForOwn 6 3 b_law_4 [.ow 0 (.rd ns), .ow 0 (.lst G), .ow 0 (.lst SS), .no, .ow 0 (.lst GE), x5, .ow 2 (.lst G), .ow 1 (.lst SS), .ow 2 (.lst GE)] = some (.nxt (ρ'.set 6 (resetS (.ow 2 (.lst G)) 2 (.lst (G.mapIdx fun j d => match rs[j]? with | some r => rowD (r ++ [(5, 1)]) | none => d))))) ∧ ρ' = [.ow 0 (.rd ns), .ow 0 (.lst G), .ow 0 (.lst SS), .no, .ow 0 (.lst GE), x5, .fx, .ow 1 (.lst SS), .ow 2 (.lst GE)] := by
        refine sForOwn_map (i := 6) (x := 3) (k := 1) (s := .ow 2 (.lst G)) (fun j d => match rs[j]? with | some r => rowD (r ++ [(5, 1)]) | none => d) (fun ρ => ρ = [.ow 0 (.rd ns), .ow 0 (.lst G), .ow 0 (.lst SS), .no, .ow 0 (.lst GE), x5, .fx, .ow 1 (.lst SS), .ow 2 (.lst GE)]) rfl rfl (by decide) (by exact Nat.le_of_ble_eq_true rfl) rfl (fun j d ρ hd hJ => ?_)
        subst hJ
        rw [eG, List.getElem?_map] at hd
        cases er : rs[j]? with
        | none => rw [er] at hd; cases hd
        | some r =>
          rw [er] at hd
          cases hd
          have rw_ := m.wd r (List.mem_of_getElem? er)
          refine ⟨[.ow 0 (.rd ns), .ow 0 (.lst G), .ow 0 (.lst SS), .me 1 (rowD (r ++ [(5, 1)])), .ow 0 (.lst GE), x5, .fx, .ow 1 (.lst SS), .ow 2 (.lst GE)], ?_, rfl, rfl, rfl⟩
          show b_law_4 [_, _, _, .me 1 (.lst (r.map fr)), _, _, _, _, _] = some (.nxt [_, _, _, .me 1 (.lst ((r ++ [(5, 1)]).map fr)), _, _, _, _, _])
          rw [List.map_append]
          have xl : (r.map fr).length < sizeLine := by rw [List.length_map]; omega
          obtain ⟨X, eX⟩ : ∃ X, X = r.map fr := ⟨_, rfl⟩
          rw [← eX] at xl ⊢
          unfold b_law_4
          simp? only []
          try rfl
      obtain ⟨ρ', ea, rfl⟩ := app
      refine seq_nxt ea ?_
      obtain ⟨Z, eZ⟩ : ∃ Z, Z = G.mapIdx fun j d => match rs[j]? with | some r => rowD (r ++ [(5, 1)]) | none => d := ⟨_, rfl⟩
      rw [← eZ]
      show (sSeq _ _) [.ow 0 (.rd ns), .ow 0 (.lst G), .ow 0 (.lst SS), .no, .ow 0 (.lst GE), x5, .ow 2 (.lst Z), .ow 1 (.lst SS), .ow 2 (.lst GE)] = _
      obtain ⟨T, eT⟩ : ∃ T, T = SS ++ [D.tup [.str "times", .int 0, .tup [.int 2, .int 1]]] := ⟨_, rfl⟩
      refine seq_nxt (ρ1 := [.ow 0 (.rd ns), .ow 0 (.lst G), .ow 0 (.lst SS), .no, .ow 0 (.lst GE), x5, .ow 2 (.lst Z), .ow 1 (.lst T), .ow 2 (.lst GE)]) (by rw [eT]; simp? only []) ?_
      refine seq_nxt (by (simp? only [al, cB]) <;> rfl) ?_
      have clr : ∃ ρ', sForOwn 8 3 b_law_5 [.ow 0 (.rd ns), .ow 0 (.lst G), .ow 0 (.lst SS), .no, .ow 0 (.lst GE), x5, .ow 2 (.lst Z), .ow 1 (.lst T), .ow 2 (.lst GE)] = some (.nxt (ρ'.set 8 (resetS (.ow 2 (.lst GE)) 2 (.lst (GE.mapIdx fun _ _ => D.lst []))))) ∧ ρ' = [.ow 0 (.rd ns), .ow 0 (.lst G), .ow 0 (.lst SS), .no, .ow 0 (.lst GE), x5, .ow 2 (.lst Z), .ow 1 (.lst T), .fx] := by
        refine sForOwn_map (i := 8) (x := 3) (k := 1) (s := .ow 2 (.lst GE)) (fun _ _ => D.lst []) (fun ρ => ρ = [.ow 0 (.rd ns), .ow 0 (.lst G), .ow 0 (.lst SS), .no, .ow 0 (.lst GE), x5, .ow 2 (.lst Z), .ow 1 (.lst T), .fx]) rfl rfl (by decide) (by exact Nat.le_of_ble_eq_true rfl) rfl (fun j d ρ hd hJ => ?_)
        subst hJ
        rw [eGE, List.getElem?_map] at hd
        cases er : E[j]? with
        | none => rw [er] at hd; cases hd
        | some r =>
          rw [er] at hd
          cases hd
          exact ⟨[.ow 0 (.rd ns), .ow 0 (.lst G), .ow 0 (.lst SS), .me 1 (.lst []), .ow 0 (.lst GE), x5, .ow 2 (.lst Z), .ow 1 (.lst T), .fx], rfl, rfl, rfl, rfl⟩
      obtain ⟨ρ', ea, rfl⟩ := clr
      refine seq_nxt ea ?_
      obtain ⟨Y, eY⟩ : ∃ Y, Y = GE.mapIdx fun _ _ => D.lst [] := ⟨_, rfl⟩
      rw [← eY]
      show sRet _ [.ow 0 (.rd ns), .ow 0 (.lst G), .ow 0 (.lst SS), .no, .ow 0 (.lst GE), x5, .ow 2 (.lst Z), .ow 1 (.lst T), .ow 2 (.lst Y)] = _
      simp? only [Gl, lc6, wd, al]
  exact end_ret key
theorem all_mk {l : PySem.W.OpenLaw} {w : World} {K : PySem.W.Frag} {h : Heap} {mg : Str → Option Value} {fa : Addr} (X : K.In h) (G : h.Ns mainGlobals mg) (hfa : mg "law" = some (.ref fa))
    {f1 : Addr} {od1 an1 : Option Addr} {sl1 : Array (Option Value)} {oc1 kV1 dc1 pm1 cd1 ct1 : Value} (a1 : PySem.W.nsIn K mainGlobals "_law_cell" = some (some (.ref f1))) (l1 : K.lookup f1 = some ⟨oc1, od1, .func (PySem.W.fnOf "_law_cell" "_law_cell" (defArgs s__law_cell) (defBody s__law_cell) (defScope s__law_cell) .none kV1 dc1 pm1 an1 cd1 ct1), sl1⟩) (c1 : PySem.W.codeIn K cd1 "_law_cell" = true) (k1 : PySem.W.keepIn K (.ref f1) = true)
    {f2 : Addr} {od2 an2 : Option Addr} {sl2 : Array (Option Value)} {oc2 kV2 dc2 pm2 cd2 ct2 : Value} (a2 : PySem.W.nsIn K mainGlobals "_law_stream" = some (some (.ref f2))) (l2 : K.lookup f2 = some ⟨oc2, od2, .func (PySem.W.fnOf "_law_stream" "_law_stream" (defArgs s__law_stream) (defBody s__law_stream) (defScope s__law_stream) .none kV2 dc2 pm2 an2 cd2 ct2), sl2⟩) (c2 : PySem.W.codeIn K cd2 "_law_stream" = true) (k2 : PySem.W.keepIn K (.ref f2) = true)
    {f3 : Addr} {od3 an3 : Option Addr} {sl3 : Array (Option Value)} {oc3 kV3 dc3 pm3 cd3 ct3 : Value} (a3 : PySem.W.nsIn K mainGlobals "_law_gcd" = some (some (.ref f3))) (l3 : K.lookup f3 = some ⟨oc3, od3, .func (PySem.W.fnOf "_law_gcd" "_law_gcd" (defArgs s__law_gcd) (defBody s__law_gcd) (defScope s__law_gcd) .none kV3 dc3 pm3 an3 cd3 ct3), sl3⟩) (c3 : PySem.W.codeIn K cd3 "_law_gcd" = true) (k3 : PySem.W.keepIn K (.ref f3) = true)
    {f4 : Addr} {od4 an4 : Option Addr} {sl4 : Array (Option Value)} {oc4 kV4 dc4 pm4 cd4 ct4 : Value} (a4 : PySem.W.nsIn K mainGlobals "_law_ratio" = some (some (.ref f4))) (l4 : K.lookup f4 = some ⟨oc4, od4, .func (PySem.W.fnOf "_law_ratio" "_law_ratio" (defArgs s__law_ratio) (defBody s__law_ratio) (defScope s__law_ratio) .none kV4 dc4 pm4 an4 cd4 ct4), sl4⟩) (c4 : PySem.W.codeIn K cd4 "_law_ratio" = true) (k4 : PySem.W.keepIn K (.ref f4) = true)
    {f5 : Addr} {od5 an5 : Option Addr} {sl5 : Array (Option Value)} {oc5 kV5 dc5 pm5 cd5 ct5 : Value} (a5 : PySem.W.nsIn K mainGlobals "_law_fraction" = some (some (.ref f5))) (l5 : K.lookup f5 = some ⟨oc5, od5, .func (PySem.W.fnOf "_law_fraction" "_law_fraction" (defArgs s__law_fraction) (defBody s__law_fraction) (defScope s__law_fraction) .none kV5 dc5 pm5 an5 cd5 ct5), sl5⟩) (c5 : PySem.W.codeIn K cd5 "_law_fraction" = true) (k5 : PySem.W.keepIn K (.ref f5) = true)
    {f6 : Addr} {od6 an6 : Option Addr} {sl6 : Array (Option Value)} {oc6 kV6 dc6 pm6 cd6 ct6 : Value} (a6 : PySem.W.nsIn K mainGlobals "_law_rows" = some (some (.ref f6))) (l6 : K.lookup f6 = some ⟨oc6, od6, .func (PySem.W.fnOf "_law_rows" "_law_rows" (defArgs s__law_rows) (defBody s__law_rows) (defScope s__law_rows) .none kV6 dc6 pm6 an6 cd6 ct6), sl6⟩) (c6 : PySem.W.codeIn K cd6 "_law_rows" = true) (k6 : PySem.W.keepIn K (.ref f6) = true)
    {f7 : Addr} {od7 an7 : Option Addr} {sl7 : Array (Option Value)} {oc7 kV7 dc7 pm7 cd7 ct7 : Value} (a7 : PySem.W.nsIn K mainGlobals "_law_step" = some (some (.ref f7))) (l7 : K.lookup f7 = some ⟨oc7, od7, .func (PySem.W.fnOf "_law_step" "_law_step" (defArgs s__law_step) (defBody s__law_step) (defScope s__law_step) .none kV7 dc7 pm7 an7 cd7 ct7), sl7⟩) (c7 : PySem.W.codeIn K cd7 "_law_step" = true) (k7 : PySem.W.keepIn K (.ref f7) = true)
    {f8 : Addr} {od8 an8 : Option Addr} {sl8 : Array (Option Value)} {oc8 kV8 dc8 pm8 cd8 ct8 : Value} (a8 : PySem.W.nsIn K mainGlobals "_law_steps" = some (some (.ref f8))) (l8 : K.lookup f8 = some ⟨oc8, od8, .func (PySem.W.fnOf "_law_steps" "_law_steps" (defArgs s__law_steps) (defBody s__law_steps) (defScope s__law_steps) .none kV8 dc8 pm8 an8 cd8 ct8), sl8⟩) (c8 : PySem.W.codeIn K cd8 "_law_steps" = true) (k8 : PySem.W.keepIn K (.ref f8) = true)
    {f9 : Addr} {od9 an9 : Option Addr} {sl9 : Array (Option Value)} {oc9 kV9 dc9 pm9 cd9 ct9 : Value} (a9 : PySem.W.nsIn K mainGlobals "_law_sum" = some (some (.ref f9))) (l9 : K.lookup f9 = some ⟨oc9, od9, .func (PySem.W.fnOf "_law_sum" "_law_sum" (defArgs s__law_sum) (defBody s__law_sum) (defScope s__law_sum) .none kV9 dc9 pm9 an9 cd9 ct9), sl9⟩) (c9 : PySem.W.codeIn K cd9 "_law_sum" = true) (k9 : PySem.W.keepIn K (.ref f9) = true)
    {f10 : Addr} {od10 an10 : Option Addr} {sl10 : Array (Option Value)} {oc10 kV10 dc10 pm10 cd10 ct10 : Value} (a10 : PySem.W.nsIn K mainGlobals "_law_step_done" = some (some (.ref f10))) (l10 : K.lookup f10 = some ⟨oc10, od10, .func (PySem.W.fnOf "_law_step_done" "_law_step_done" (defArgs s__law_step_done) (defBody s__law_step_done) (defScope s__law_step_done) .none kV10 dc10 pm10 an10 cd10 ct10), sl10⟩) (c10 : PySem.W.codeIn K cd10 "_law_step_done" = true) (k10 : PySem.W.keepIn K (.ref f10) = true)
    {f11 : Addr} {od11 an11 : Option Addr} {sl11 : Array (Option Value)} {oc11 kV11 dc11 pm11 cd11 ct11 : Value} (a11 : PySem.W.nsIn K mainGlobals "is_whole" = some (some (.ref f11))) (l11 : K.lookup f11 = some ⟨oc11, od11, .func (PySem.W.fnOf "is_whole" "is_whole" (defArgs s_is_whole) (defBody s_is_whole) (defScope s_is_whole) .none kV11 dc11 pm11 an11 cd11 ct11), sl11⟩) (c11 : PySem.W.codeIn K cd11 "is_whole" = true) (k11 : PySem.W.keepIn K (.ref f11) = true)
    {f12 : Addr} {od12 an12 : Option Addr} {sl12 : Array (Option Value)} {oc12 kV12 dc12 pm12 cd12 ct12 : Value} (a12 : PySem.W.nsIn K mainGlobals "divisor" = some (some (.ref f12))) (l12 : K.lookup f12 = some ⟨oc12, od12, .func (PySem.W.fnOf "divisor" "divisor" (defArgs s_divisor) (defBody s_divisor) (defScope s_divisor) .none kV12 dc12 pm12 an12 cd12 ct12), sl12⟩) (c12 : PySem.W.codeIn K cd12 "divisor" = true) (k12 : PySem.W.keepIn K (.ref f12) = true)
    {f13 : Addr} {od13 an13 : Option Addr} {sl13 : Array (Option Value)} {oc13 kV13 dc13 pm13 cd13 ct13 : Value} (a13 : PySem.W.nsIn K mainGlobals "ratio" = some (some (.ref f13))) (l13 : K.lookup f13 = some ⟨oc13, od13, .func (PySem.W.fnOf "ratio" "ratio" (defArgs s_ratio) (defBody s_ratio) (defScope s_ratio) .none kV13 dc13 pm13 an13 cd13 ct13), sl13⟩) (c13 : PySem.W.codeIn K cd13 "ratio" = true) (k13 : PySem.W.keepIn K (.ref f13) = true)
    {f14 : Addr} {od14 an14 : Option Addr} {sl14 : Array (Option Value)} {oc14 kV14 dc14 pm14 cd14 ct14 : Value} (a14 : PySem.W.nsIn K mainGlobals "times" = some (some (.ref f14))) (l14 : K.lookup f14 = some ⟨oc14, od14, .func (PySem.W.fnOf "times" "times" (defArgs s_times) (defBody s_times) (defScope s_times) .none kV14 dc14 pm14 an14 cd14 ct14), sl14⟩) (c14 : PySem.W.codeIn K cd14 "times" = true) (k14 : PySem.W.keepIn K (.ref f14) = true)
    {f15 : Addr} {od15 an15 : Option Addr} {sl15 : Array (Option Value)} {oc15 kV15 dc15 pm15 cd15 ct15 : Value} (a15 : PySem.W.nsIn K mainGlobals "plus" = some (some (.ref f15))) (l15 : K.lookup f15 = some ⟨oc15, od15, .func (PySem.W.fnOf "plus" "plus" (defArgs s_plus) (defBody s_plus) (defScope s_plus) .none kV15 dc15 pm15 an15 cd15 ct15), sl15⟩) (c15 : PySem.W.codeIn K cd15 "plus" = true) (k15 : PySem.W.keepIn K (.ref f15) = true)
    {f16 : Addr} {od16 an16 : Option Addr} {sl16 : Array (Option Value)} {oc16 kV16 dc16 pm16 cd16 ct16 : Value} (a16 : PySem.W.nsIn K mainGlobals "added" = some (some (.ref f16))) (l16 : K.lookup f16 = some ⟨oc16, od16, .func (PySem.W.fnOf "added" "added" (defArgs s_added) (defBody s_added) (defScope s_added) .none kV16 dc16 pm16 an16 cd16 ct16), sl16⟩) (c16 : PySem.W.codeIn K cd16 "added" = true) (k16 : PySem.W.keepIn K (.ref f16) = true)
    {f17 : Addr} {od17 an17 : Option Addr} {sl17 : Array (Option Value)} {oc17 kV17 dc17 pm17 cd17 ct17 : Value} (a17 : PySem.W.nsIn K mainGlobals "stepped" = some (some (.ref f17))) (l17 : K.lookup f17 = some ⟨oc17, od17, .func (PySem.W.fnOf "stepped" "stepped" (defArgs s_stepped) (defBody s_stepped) (defScope s_stepped) .none kV17 dc17 pm17 an17 cd17 ct17), sl17⟩) (c17 : PySem.W.codeIn K cd17 "stepped" = true) (k17 : PySem.W.keepIn K (.ref f17) = true)
    {f18 : Addr} {od18 an18 : Option Addr} {sl18 : Array (Option Value)} {oc18 kV18 dc18 pm18 cd18 ct18 : Value} (a18 : PySem.W.nsIn K mainGlobals "walked" = some (some (.ref f18))) (l18 : K.lookup f18 = some ⟨oc18, od18, .func (PySem.W.fnOf "walked" "walked" (defArgs s_walked) (defBody s_walked) (defScope s_walked) .none kV18 dc18 pm18 an18 cd18 ct18), sl18⟩) (c18 : PySem.W.codeIn K cd18 "walked" = true) (k18 : PySem.W.keepIn K (.ref f18) = true)
    {f19 : Addr} {od19 an19 : Option Addr} {sl19 : Array (Option Value)} {oc19 kV19 dc19 pm19 cd19 ct19 : Value} (a19 : PySem.W.nsIn K mainGlobals "_law_whole" = some (some (.ref f19))) (l19 : K.lookup f19 = some ⟨oc19, od19, .func (PySem.W.fnOf "_law_whole" "_law_whole" (defArgs s__law_whole) (defBody s__law_whole) (defScope s__law_whole) .none kV19 dc19 pm19 an19 cd19 ct19), sl19⟩) (c19 : PySem.W.codeIn K cd19 "_law_whole" = true) (k19 : PySem.W.keepIn K (.ref f19) = true)
    {f20 : Addr} {od20 an20 : Option Addr} {sl20 : Array (Option Value)} {oc20 kV20 dc20 pm20 cd20 ct20 : Value} (a20 : PySem.W.nsIn K mainGlobals "_law_is_fraction" = some (some (.ref f20))) (l20 : K.lookup f20 = some ⟨oc20, od20, .func (PySem.W.fnOf "_law_is_fraction" "_law_is_fraction" (defArgs s__law_is_fraction) (defBody s__law_is_fraction) (defScope s__law_is_fraction) .none kV20 dc20 pm20 an20 cd20 ct20), sl20⟩) (c20 : PySem.W.codeIn K cd20 "_law_is_fraction" = true) (k20 : PySem.W.keepIn K (.ref f20) = true)
    {f21 : Addr} {od21 an21 : Option Addr} {sl21 : Array (Option Value)} {oc21 kV21 dc21 pm21 cd21 ct21 : Value} (a21 : PySem.W.nsIn K mainGlobals "_law_fractions" = some (some (.ref f21))) (l21 : K.lookup f21 = some ⟨oc21, od21, .func (PySem.W.fnOf "_law_fractions" "_law_fractions" (defArgs s__law_fractions) (defBody s__law_fractions) (defScope s__law_fractions) .none kV21 dc21 pm21 an21 cd21 ct21), sl21⟩) (c21 : PySem.W.codeIn K cd21 "_law_fractions" = true) (k21 : PySem.W.keepIn K (.ref f21) = true)
    {f22 : Addr} {od22 an22 : Option Addr} {sl22 : Array (Option Value)} {oc22 kV22 dc22 pm22 cd22 ct22 : Value} (a22 : PySem.W.nsIn K mainGlobals "_law_alike" = some (some (.ref f22))) (l22 : K.lookup f22 = some ⟨oc22, od22, .func (PySem.W.fnOf "_law_alike" "_law_alike" (defArgs s__law_alike) (defBody s__law_alike) (defScope s__law_alike) .none kV22 dc22 pm22 an22 cd22 ct22), sl22⟩) (c22 : PySem.W.codeIn K cd22 "_law_alike" = true) (k22 : PySem.W.keepIn K (.ref f22) = true)
    {f23 : Addr} {od23 an23 : Option Addr} {sl23 : Array (Option Value)} {oc23 kV23 dc23 pm23 cd23 ct23 : Value} (a23 : PySem.W.nsIn K mainGlobals "law" = some (some (.ref f23))) (l23 : K.lookup f23 = some ⟨oc23, od23, .func (PySem.W.fnOf "law" "law" (defArgs s_law) (defBody s_law) (defScope s_law) .none kV23 dc23 pm23 an23 cd23 ct23), sl23⟩) (c23 : PySem.W.codeIn K cd23 "law" = true) (k23 : PySem.W.keepIn K (.ref f23) = true)
    (z_range : PySem.W.nsIn K mainGlobals "range" = some none)
    (z_abs : PySem.W.nsIn K mainGlobals "abs" = some none)
    (z_sorted : PySem.W.nsIn K mainGlobals "sorted" = some none)
    (z_len : PySem.W.nsIn K mainGlobals "len" = some none)
    (z_list : PySem.W.nsIn K mainGlobals "list" = some none)
    (z_zip : PySem.W.nsIn K mainGlobals "zip" = some none)
    (z_int : PySem.W.nsIn K mainGlobals "int" = some none)
    (z_isinstance : PySem.W.nsIn K mainGlobals "isinstance" = some none)
    (z_bool : PySem.W.nsIn K mainGlobals "bool" = some none)
    (z_tuple : PySem.W.nsIn K mainGlobals "tuple" = some none)
    (z_all : PySem.W.nsIn K mainGlobals "all" = some none)
    {c_NoNumber : Addr}
    (ns_NoNumber : PySem.W.nsIn K mainGlobals "NoNumber" = some (some (.ref c_NoNumber)))
    (xe_NoNumber : PySem.W.excIn K c_NoNumber [.type "ValueError", .type "Exception", .type "BaseException", .type "object"] "ValueError.__new__" = true)
    (xk_NoNumber : PySem.W.keepIn K (.ref c_NoNumber) = true)
    (xs_NoNumber : PySem.W.subIn K (.ref c_NoNumber) (.type "BaseException") = some true)
    (xt_NoNumber : PySem.W.typeIn K (.ref c_NoNumber) = some (.type "type"))
    : ∃ fd : FuncData, (∀ (s : Shared) (v : Value), BindsTo s fd ⟨[v], []⟩ [("_law_script", v)]) ∧ ∀ base : Heap, K.In base → base.Ns mainGlobals mg → FnOk l.prog w K mg base (L2.CX l.prog w) 7 fa fd ["_law_script"] (spR K m_law) := by
  have e := hfa.symm.trans (PySem.W.mg_of X G a23)
  cases e
  have m_range := PySem.W.mg_none_of X G z_range
  have m_abs := PySem.W.mg_none_of X G z_abs
  have m_sorted := PySem.W.mg_none_of X G z_sorted
  have m_len := PySem.W.mg_none_of X G z_len
  have m_list := PySem.W.mg_none_of X G z_list
  have m_zip := PySem.W.mg_none_of X G z_zip
  have m_int := PySem.W.mg_none_of X G z_int
  have m_isinstance := PySem.W.mg_none_of X G z_isinstance
  have m_bool := PySem.W.mg_none_of X G z_bool
  have m_tuple := PySem.W.mg_none_of X G z_tuple
  have m_all := PySem.W.mg_none_of X G z_all
  have n_NoNumber := ns_NoNumber
  have mc_NoNumber := PySem.W.mg_of X G ns_NoNumber
  have R_NoNumber : ErrC K mg "NoNumber" := ⟨c_NoNumber, mc_NoNumber, ns_NoNumber, xe_NoNumber, xk_NoNumber, xs_NoNumber, xt_NoNumber⟩
  refine ⟨PySem.W.fnOf "law" "law" (defArgs s_law) (defBody s_law) (defScope s_law) .none kV23 dc23 pm23 an23 cd23 ct23, fun s v => .of_eq rfl, fun base _ _ => ?_⟩
  have F1 := fun_mk (st := s__law_cell) l1 c1 k1
  have G__law_cell : Gd l.prog w K mg base "_law_cell" 1 ["_law_script", "_law_k"] m__law_cell := ⟨_, _, ok__law_cell F1 , PySem.W.mg_of X G a1, k1, F1.binds (ps := ["_law_script", "_law_k"]) fun _ _ _ _ _ _ us hl => match us, hl with | [_, _], _ => rfl⟩
  have F2 := fun_mk (st := s__law_stream) l2 c2 k2
  have G__law_stream : Gd l.prog w K mg base "_law_stream" 2 ["_law_script", "_law_start", "_law_many"] m__law_stream := ⟨_, _, ok__law_stream F2 m_range G__law_cell, PySem.W.mg_of X G a2, k2, F2.binds (ps := ["_law_script", "_law_start", "_law_many"]) fun _ _ _ _ _ _ us hl => match us, hl with | [_, _, _], _ => rfl⟩
  have F3 := fun_mk (st := s__law_gcd) l3 c3 k3
  have G__law_gcd : Gd l.prog w K mg base "_law_gcd" 1 ["_law_one", "_law_other"] m__law_gcd := ⟨_, _, ok__law_gcd F3 m_abs m_sorted, PySem.W.mg_of X G a3, k3, F3.binds (ps := ["_law_one", "_law_other"]) fun _ _ _ _ _ _ us hl => match us, hl with | [_, _], _ => rfl⟩
  have F4 := fun_mk (st := s__law_ratio) l4 c4 k4
  have G__law_ratio : Gd l.prog w K mg base "_law_ratio" 2 ["_law_top", "_law_bottom"] m__law_ratio := ⟨_, _, ok__law_ratio F4 G__law_gcd, PySem.W.mg_of X G a4, k4, F4.binds (ps := ["_law_top", "_law_bottom"]) fun _ _ _ _ _ _ us hl => match us, hl with | [_, _], _ => rfl⟩
  have F5 := fun_mk (st := s__law_fraction) l5 c5 k5
  have G__law_fraction : Gd l.prog w K mg base "_law_fraction" 3 ["_law_number"] m__law_fraction := ⟨_, _, ok__law_fraction F5 G__law_ratio, PySem.W.mg_of X G a5, k5, F5.binds (ps := ["_law_number"]) fun _ _ _ _ _ _ us hl => match us, hl with | [_], _ => rfl⟩
  have F6 := fun_mk (st := s__law_rows) l6 c6 k6
  have G__law_rows : Gd l.prog w K mg base "_law_rows" 4 ["_law_script"] m__law_rows := ⟨_, _, ok__law_rows F6 m_range G__law_cell G__law_stream G__law_fraction G__law_ratio, PySem.W.mg_of X G a6, k6, F6.binds (ps := ["_law_script"]) fun _ _ _ _ _ _ us hl => match us, hl with | [_], _ => rfl⟩
  have F7 := fun_mk (st := s__law_step) l7 c7 k7
  have G__law_step : Gd l.prog w K mg base "_law_step" 3 ["_law_number", "_law_other", "_law_many"] m__law_step := ⟨_, _, ok__law_step F7 G__law_ratio, PySem.W.mg_of X G a7, k7, F7.binds (ps := ["_law_number", "_law_other", "_law_many"]) fun _ _ _ _ _ _ us hl => match us, hl with | [_, _, _], _ => rfl⟩
  have F8 := fun_mk (st := s__law_steps) l8 c8 k8
  have G__law_steps : Gd l.prog w K mg base "_law_steps" 4 ["_law_script", "_law_rows_here"] m__law_steps := ⟨_, _, ok__law_steps F8 m_len m_range G__law_cell G__law_stream G__law_step, PySem.W.mg_of X G a8, k8, F8.binds (ps := ["_law_script", "_law_rows_here"]) fun _ _ _ _ _ _ us hl => match us, hl with | [_, _], _ => rfl⟩
  have F9 := fun_mk (st := s__law_sum) l9 c9 k9
  have G__law_sum : Gd l.prog w K mg base "_law_sum" 3 ["_law_one", "_law_share", "_law_more"] m__law_sum := ⟨_, _, ok__law_sum F9 G__law_ratio, PySem.W.mg_of X G a9, k9, F9.binds (ps := ["_law_one", "_law_share", "_law_more"]) fun _ _ _ _ _ _ us hl => match us, hl with | [_, _, _], _ => rfl⟩
  have F10 := fun_mk (st := s__law_step_done) l10 c10 k10
  have G__law_step_done : Gd l.prog w K mg base "_law_step_done" 4 ["_law_rows_here", "_law_step_here"] m__law_step_done := ⟨_, _, ok__law_step_done F10 m_list m_zip G__law_ratio G__law_sum, PySem.W.mg_of X G a10, k10, F10.binds (ps := ["_law_rows_here", "_law_step_here"]) fun _ _ _ _ _ _ us hl => match us, hl with | [_, _], _ => rfl⟩
  have F11 := fun_mk (st := s_is_whole) l11 c11 k11
  have G_is_whole : Gd l.prog w K mg base "is_whole" 1 ["thing"] m_is_whole := ⟨_, _, ok_is_whole F11 m_int m_isinstance m_bool, PySem.W.mg_of X G a11, k11, F11.binds (ps := ["thing"]) fun _ _ _ _ _ _ us hl => match us, hl with | [_], _ => rfl⟩
  have F12 := fun_mk (st := s_divisor) l12 c12 k12
  have G_divisor : Gd l.prog w K mg base "divisor" 1 ["one", "other"] m_divisor := ⟨_, _, ok_divisor F12 m_abs, PySem.W.mg_of X G a12, k12, F12.binds (ps := ["one", "other"]) fun _ _ _ _ _ _ us hl => match us, hl with | [_, _], _ => rfl⟩
  have F13 := fun_mk (st := s_ratio) l13 c13 k13
  have G_ratio : Gd l.prog w K mg base "ratio" 2 ["top", "bottom"] m_ratio := ⟨_, _, ok_ratio F13 R_NoNumber G_is_whole G_divisor, PySem.W.mg_of X G a13, k13, F13.binds (ps := ["top", "bottom"]) fun _ _ _ _ _ _ us hl => match us, hl with | [_, _], _ => rfl⟩
  have F14 := fun_mk (st := s_times) l14 c14 k14
  have G_times : Gd l.prog w K mg base "times" 3 ["one", "other"] m_times := ⟨_, _, ok_times F14 G_ratio, PySem.W.mg_of X G a14, k14, F14.binds (ps := ["one", "other"]) fun _ _ _ _ _ _ us hl => match us, hl with | [_, _], _ => rfl⟩
  have F15 := fun_mk (st := s_plus) l15 c15 k15
  have G_plus : Gd l.prog w K mg base "plus" 3 ["one", "other"] m_plus := ⟨_, _, ok_plus F15 G_ratio, PySem.W.mg_of X G a15, k15, F15.binds (ps := ["one", "other"]) fun _ _ _ _ _ _ us hl => match us, hl with | [_, _], _ => rfl⟩
  have F16 := fun_mk (st := s_added) l16 c16 k16
  have G_added : Gd l.prog w K mg base "added" 4 ["row", "other", "share"] m_added := ⟨_, _, ok_added F16 m_zip G_plus G_times, PySem.W.mg_of X G a16, k16, F16.binds (ps := ["row", "other", "share"]) fun _ _ _ _ _ _ us hl => match us, hl with | [_, _, _], _ => rfl⟩
  have F17 := fun_mk (st := s_stepped) l17 c17 k17
  have G_stepped : GdM l.prog w K mg base "stepped" 5 ["rows", "step"] m_stepped := ⟨_, _, ok_stepped F17 m_list G_times G_added, PySem.W.mg_of X G a17, k17, F17.binds (ps := ["rows", "step"]) fun _ _ _ _ _ _ us hl => match us, hl with | [_, _], _ => rfl⟩
  have F18 := fun_mk (st := s_walked) l18 c18 k18
  have G_walked : Gd l.prog w K mg base "walked" 6 ["rows", "steps"] m_walked := ⟨_, _, ok_walked F18 m_list G_stepped, PySem.W.mg_of X G a18, k18, F18.binds (ps := ["rows", "steps"]) fun _ _ _ _ _ _ us hl => match us, hl with | [_, _], _ => rfl⟩
  have F19 := fun_mk (st := s__law_whole) l19 c19 k19
  have G__law_whole : Gd l.prog w K mg base "_law_whole" 1 ["_law_found"] m__law_whole := ⟨_, _, ok__law_whole F19 m_int m_isinstance m_bool, PySem.W.mg_of X G a19, k19, F19.binds (ps := ["_law_found"]) fun _ _ _ _ _ _ us hl => match us, hl with | [_], _ => rfl⟩
  have F20 := fun_mk (st := s__law_is_fraction) l20 c20 k20
  have G__law_is_fraction : Gd l.prog w K mg base "_law_is_fraction" 2 ["_law_found"] m__law_is_fraction := ⟨_, _, ok__law_is_fraction F20 m_tuple m_isinstance m_len G__law_whole G__law_gcd, PySem.W.mg_of X G a20, k20, F20.binds (ps := ["_law_found"]) fun _ _ _ _ _ _ us hl => match us, hl with | [_], _ => rfl⟩
  have F21 := fun_mk (st := s__law_fractions) l21 c21 k21
  have G__law_fractions : Gd l.prog w K mg base "_law_fractions" 3 ["_law_found", "_law_many"] m__law_fractions := ⟨_, _, ok__law_fractions F21 m_list m_isinstance m_len m_all G__law_is_fraction, PySem.W.mg_of X G a21, k21, F21.binds (ps := ["_law_found", "_law_many"]) fun _ _ _ _ _ _ us hl => match us, hl with | [_, _], _ => rfl⟩
  have F22 := fun_mk (st := s__law_alike) l22 c22 k22
  have G__law_alike : Gd l.prog w K mg base "_law_alike" 4 ["_law_found", "_law_due"] m__law_alike := ⟨_, _, ok__law_alike F22 m_list m_isinstance m_len m_zip G__law_fractions, PySem.W.mg_of X G a22, k22, F22.binds (ps := ["_law_found", "_law_due"]) fun _ _ _ _ _ _ us hl => match us, hl with | [_, _], _ => rfl⟩
  exact ok_law (fun_mk (st := s_law) l23 c23 k23) m_list G__law_rows G__law_steps G__law_step_done G_walked G__law_alike
theorem walk {l : PySem.W.OpenLaw} {q : Program} {loose : List Str} {XP : (Str → Option Value) → Heap → Prop} {YP : World → Heap → Prop} {d : DefRec} {K : Params → PySem.W.Frag} (hn : l.most = some 63) (hdf : d.params.defaults = [])
    (hY : ∀ (w : World) (h : Heap), YP w h → (K w.params).In h)
    (F : ∀ (w : World) (mg : Str → Option Value) (fa : Addr) (h : Heap), (K w.params).In h → h.Ns mainGlobals mg → mg d.name = some (.ref fa) →
      ∃ fd : FuncData, (∀ (s : Shared) (u : Value), BindsTo s fd ⟨[u], []⟩ [("_law_script", u)]) ∧ ∀ base : Heap, (K w.params).In base → base.Ns mainGlobals mg → FnOk l.prog w (K w.params) mg base (L2.CX l.prog w) 7 fa fd ["_law_script"] (spR (K w.params) m_law)) :
    PySem.W.WalkO q loose XP YP l.row.toRowW d [] (fun f vs => PySem.call f vs) :=
  L2.walk_of (n := 63) (k := 7) (x := "_law_script") (CX := fun w => L2.CX l.prog w) (sp := fun w => spR (K w.params) m_law) hn (by decide) hdf ⟨rfl, by decide, by decide⟩ hY F (fun w H a ns hl _ hS => law_sp hS (law_true ns hl)) fun w H s e s' ⟨_, _, _, _, _, _, _, _, _, _, _, _, z⟩ => z
end P.My
open PySem PySem.W PyProof.Rows
set_option maxRecDepth 100000 in
set_option maxHeartbeats 0 in
theorem PySem.Challenge.cw_chancehall_k14_rows_walked_holds : PySem.Challenge.rw_chancehall_k14_rows_walked.Holds := by
  w_on; o_law
  refine holds_open (q := PHd.hQ) (loose := PHd.hLoose) (Xt := PHd.hXt) (XP := XL PHd.hQ []) (N := PHd.hN)
    (Yf := PHd.hHook.obs) (Ya := PHd.hHook.val) (YP := PHd.hHook.says) PHd.hLeft PHd.hHook.of PHd.hHook.keeps
    (fun s e => xl_of s (Bool.and_eq_true_iff.mp e).1)
    XL.keeps (by rfl) (by rfl) (by rfl)
    (fun s e => recFacts_of (Bool.and_eq_true_iff.mp e).2) (by rfl)
    (by assumption) (by decide +kernel)
    ⟨rfl, rfl, rfl, rfl, rfl, by decide +kernel⟩ ?hw ?hc
  (case hw => w_witness2)
  unfold PHd.hHook
  k_fill
  refine P.My.walk (l := PySem.Challenge.rw_chancehall_k14_rows_walked) rfl rfl (fun w h Y => PySem.W.kIn_of Y) ?F
  case F =>
    intro w mg fa h KX G hmg
    refine' P.My.all_mk KX G hmg ?a1 ?l1 ?c1 ?k1 ?a2 ?l2 ?c2 ?k2 ?a3 ?l3 ?c3 ?k3 ?a4 ?l4 ?c4 ?k4 ?a5 ?l5 ?c5 ?k5 ?a6 ?l6 ?c6 ?k6 ?a7 ?l7 ?c7 ?k7 ?a8 ?l8 ?c8 ?k8 ?a9 ?l9 ?c9 ?k9 ?a10 ?l10 ?c10 ?k10 ?a11 ?l11 ?c11 ?k11 ?a12 ?l12 ?c12 ?k12 ?a13 ?l13 ?c13 ?k13 ?a14 ?l14 ?c14 ?k14 ?a15 ?l15 ?c15 ?k15 ?a16 ?l16 ?c16 ?k16 ?a17 ?l17 ?c17 ?k17 ?a18 ?l18 ?c18 ?k18 ?a19 ?l19 ?c19 ?k19 ?a20 ?l20 ?c20 ?k20 ?a21 ?l21 ?c21 ?k21 ?a22 ?l22 ?c22 ?k22 ?a23 ?l23 ?c23 ?k23 ?z_range ?z_abs ?z_sorted ?z_len ?z_list ?z_zip ?z_int ?z_isinstance ?z_bool ?z_tuple ?z_all ?ns_NoNumber ?xe_NoNumber ?xk_NoNumber ?xs_NoNumber ?xt_NoNumber
    (case a1 => k_is)
    (case l1 => k_is)
    (case c1 => k_is)
    (case k1 => k_is)
    (case a2 => k_is)
    (case l2 => k_is)
    (case c2 => k_is)
    (case k2 => k_is)
    (case a3 => k_is)
    (case l3 => k_is)
    (case c3 => k_is)
    (case k3 => k_is)
    (case a4 => k_is)
    (case l4 => k_is)
    (case c4 => k_is)
    (case k4 => k_is)
    (case a5 => k_is)
    (case l5 => k_is)
    (case c5 => k_is)
    (case k5 => k_is)
    (case a6 => k_is)
    (case l6 => k_is)
    (case c6 => k_is)
    (case k6 => k_is)
    (case a7 => k_is)
    (case l7 => k_is)
    (case c7 => k_is)
    (case k7 => k_is)
    (case a8 => k_is)
    (case l8 => k_is)
    (case c8 => k_is)
    (case k8 => k_is)
    (case a9 => k_is)
    (case l9 => k_is)
    (case c9 => k_is)
    (case k9 => k_is)
    (case a10 => k_is)
    (case l10 => k_is)
    (case c10 => k_is)
    (case k10 => k_is)
    (case a11 => k_is)
    (case l11 => k_is)
    (case c11 => k_is)
    (case k11 => k_is)
    (case a12 => k_is)
    (case l12 => k_is)
    (case c12 => k_is)
    (case k12 => k_is)
    (case a13 => k_is)
    (case l13 => k_is)
    (case c13 => k_is)
    (case k13 => k_is)
    (case a14 => k_is)
    (case l14 => k_is)
    (case c14 => k_is)
    (case k14 => k_is)
    (case a15 => k_is)
    (case l15 => k_is)
    (case c15 => k_is)
    (case k15 => k_is)
    (case a16 => k_is)
    (case l16 => k_is)
    (case c16 => k_is)
    (case k16 => k_is)
    (case a17 => k_is)
    (case l17 => k_is)
    (case c17 => k_is)
    (case k17 => k_is)
    (case a18 => k_is)
    (case l18 => k_is)
    (case c18 => k_is)
    (case k18 => k_is)
    (case a19 => k_is)
    (case l19 => k_is)
    (case c19 => k_is)
    (case k19 => k_is)
    (case a20 => k_is)
    (case l20 => k_is)
    (case c20 => k_is)
    (case k20 => k_is)
    (case a21 => k_is)
    (case l21 => k_is)
    (case c21 => k_is)
    (case k21 => k_is)
    (case a22 => k_is)
    (case l22 => k_is)
    (case c22 => k_is)
    (case k22 => k_is)
    (case a23 => k_is)
    (case l23 => k_is)
    (case c23 => k_is)
    (case k23 => k_is)
    (case z_range => k_is)
    (case z_abs => k_is)
    (case z_sorted => k_is)
    (case z_len => k_is)
    (case z_list => k_is)
    (case z_zip => k_is)
    (case z_int => k_is)
    (case z_isinstance => k_is)
    (case z_bool => k_is)
    (case z_tuple => k_is)
    (case z_all => k_is)
    (case ns_NoNumber => k_is)
    (case xe_NoNumber => k_exc)
    (case xk_NoNumber => k_is)
    (case xs_NoNumber => k_is)
    (case xt_NoNumber => k_is)