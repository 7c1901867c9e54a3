/- Part 3 of a proof of FnExactDecode: the machine of values and its rules, contracts of functions and plain laws. -/
import Derived.Test.YtbkepbngdcakaaaDecodeq1
import Derived.Test.YtbkepbngdcakaaaProg
import Derived.IntWalk
import Derived.KernelRfl
set_option linter.unusedSimpArgs false
set_option linter.unusedVariables false
namespace Go.V
open Go Go.RowKit Go.Proofs
@[push_cast] theorem sz2 : szOf Try.prog 2 = some (false, 1) := by simp only [szOf, Try.underlying2, info_of Try.type2]; rfl
@[push_cast] theorem ze2 : zeroOf Try.prog 2 = some [Go.Value.int Go.IntKind.i64 0] := by simp only [zeroOf, info_of Try.type2]; rfl
@[push_cast] theorem ik2 : ikOf Try.prog 2 = some .i64 := by simp only [ikOf, Try.underlying2]
@[push_cast] theorem kd2 : kdOf Try.prog 2 = .other := by simp only [kdOf, Try.underlying2]
@[push_cast] theorem un2 : (Try.prog.underlying 2).isSome = true := by simp only [Try.underlying2, Option.isSome_some]
@[push_cast] theorem sz3 : szOf Try.prog 3 = some (false, 1) := by simp only [szOf, Try.underlying3, info_of Try.type3]; rfl
@[push_cast] theorem ze3 : zeroOf Try.prog 3 = some [Go.Value.int Go.IntKind.i64 0] := by simp only [zeroOf, info_of Try.type3]; rfl
@[push_cast] theorem ik3 : ikOf Try.prog 3 = some .i64 := by simp only [ikOf, Try.underlying3]
@[push_cast] theorem kd3 : kdOf Try.prog 3 = .other := by simp only [kdOf, Try.underlying3]
@[push_cast] theorem un3 : (Try.prog.underlying 3).isSome = true := by simp only [Try.underlying3, Option.isSome_some]
@[push_cast] theorem sz4 : szOf Try.prog 4 = some (false, 1) := by simp only [szOf, Try.underlying4, info_of Try.type4]; rfl
@[push_cast] theorem ze4 : zeroOf Try.prog 4 = some [Go.Value.bool false] := by simp only [zeroOf, info_of Try.type4]; rfl
@[push_cast] theorem ib4 : isBool Try.prog 4 = true := by simp only [isBool, Try.underlying4]
@[push_cast] theorem sz5 : szOf Try.prog 5 = some (false, 1) := by simp only [szOf, Try.underlying5, info_of Try.type5]; rfl
@[push_cast] theorem ze5 : zeroOf Try.prog 5 = some [Go.Value.int Go.IntKind.u8 0] := by simp only [zeroOf, info_of Try.type5]; rfl
@[push_cast] theorem ik5 : ikOf Try.prog 5 = some .u8 := by simp only [ikOf, Try.underlying5]
@[push_cast] theorem kd5 : kdOf Try.prog 5 = .other := by simp only [kdOf, Try.underlying5]
@[push_cast] theorem un5 : (Try.prog.underlying 5).isSome = true := by simp only [Try.underlying5, Option.isSome_some]
@[push_cast] theorem sz6 : szOf Try.prog 6 = some (false, 1) := by simp only [szOf, Try.underlying6, info_of Try.type6]; rfl
@[push_cast] theorem ze6 : zeroOf Try.prog 6 = some [Go.Value.int Go.IntKind.u8 0] := by simp only [zeroOf, info_of Try.type6]; rfl
@[push_cast] theorem ik6 : ikOf Try.prog 6 = some .u8 := by simp only [ikOf, Try.underlying6]
@[push_cast] theorem kd6 : kdOf Try.prog 6 = .other := by simp only [kdOf, Try.underlying6]
@[push_cast] theorem un6 : (Try.prog.underlying 6).isSome = true := by simp only [Try.underlying6, Option.isSome_some]
@[push_cast] theorem sz7 : szOf Try.prog 7 = some (true, 4) := by simp only [szOf, Try.underlying7, info_of Try.type7]; rfl
@[push_cast] theorem ze7 : zeroOf Try.prog 7 = some [Go.Value.int Go.IntKind.i64 0, Go.Value.int Go.IntKind.i64 0, Go.Value.bool false, Go.Value.int Go.IntKind.u8 0] := by simp only [zeroOf, info_of Try.type7]; rfl
@[push_cast] theorem fl7 : fldsOf Try.prog 7 = some [(0, false, 1), (1, false, 1), (2, false, 1), (3, false, 1)] := by simp only [fldsOf, Try.underlying7, List.mapM_cons, List.mapM_nil, sz2, sz3, sz4, sz6]; rfl
@[push_cast] theorem sz8 : szOf Try.prog 8 = some (true, 4) := by simp only [szOf, Try.underlying8, info_of Try.type8]; rfl
@[push_cast] theorem ze8 : zeroOf Try.prog 8 = some [Go.Value.int Go.IntKind.i64 0, Go.Value.int Go.IntKind.i64 0, Go.Value.bool false, Go.Value.int Go.IntKind.u8 0] := by simp only [zeroOf, info_of Try.type8]; rfl
@[push_cast] theorem fl8 : fldsOf Try.prog 8 = some [(0, false, 1), (1, false, 1), (2, false, 1), (3, false, 1)] := by simp only [fldsOf, Try.underlying8, List.mapM_cons, List.mapM_nil, sz2, sz3, sz4, sz6]; rfl
@[push_cast] theorem sz9 : szOf Try.prog 9 = some (false, 1) := by simp only [szOf, Try.underlying9, info_of Try.type9]; rfl
@[push_cast] theorem ze9 : zeroOf Try.prog 9 = some [Go.Value.string { data := #[] }] := by simp only [zeroOf, info_of Try.type9]; rfl
@[push_cast] theorem kd9 : kdOf Try.prog 9 = .str := by simp only [kdOf, Try.underlying9]
@[push_cast] theorem ik9 : ikOf Try.prog 9 = none := by simp only [ikOf, Try.underlying9]
@[push_cast] theorem sz10 : szOf Try.prog 10 = some (false, 1) := by simp only [szOf, Try.underlying10, info_of Try.type10]; rfl
@[push_cast] theorem ze10 : zeroOf Try.prog 10 = some [Go.Value.string { data := #[] }] := by simp only [zeroOf, info_of Try.type10]; rfl
@[push_cast] theorem kd10 : kdOf Try.prog 10 = .str := by simp only [kdOf, Try.underlying10]
@[push_cast] theorem ik10 : ikOf Try.prog 10 = none := by simp only [ikOf, Try.underlying10]
@[push_cast] theorem sz11 : szOf Try.prog 11 = some (false, 1) := by simp only [szOf, Try.underlying11, info_of Try.type11]; rfl
@[push_cast] theorem ze11 : zeroOf Try.prog 11 = some [Go.Value.string { data := #[] }] := by simp only [zeroOf, info_of Try.type11]; rfl
@[push_cast] theorem kd11 : kdOf Try.prog 11 = .str := by simp only [kdOf, Try.underlying11]
@[push_cast] theorem ik11 : ikOf Try.prog 11 = none := by simp only [ikOf, Try.underlying11]
@[push_cast] theorem sz12 : szOf Try.prog 12 = some (false, 1) := by simp only [szOf, Try.underlying12, info_of Try.type12]; rfl
@[push_cast] theorem ze12 : zeroOf Try.prog 12 = some [Go.Value.int Go.IntKind.u64 0] := by simp only [zeroOf, info_of Try.type12]; rfl
@[push_cast] theorem ik12 : ikOf Try.prog 12 = some .u64 := by simp only [ikOf, Try.underlying12]
@[push_cast] theorem kd12 : kdOf Try.prog 12 = .other := by simp only [kdOf, Try.underlying12]
@[push_cast] theorem un12 : (Try.prog.underlying 12).isSome = true := by simp only [Try.underlying12, Option.isSome_some]
@[push_cast] theorem sz13 : szOf Try.prog 13 = some (true, 2) := by simp only [szOf, Try.underlying13, info_of Try.type13]; rfl
@[push_cast] theorem ze13 : zeroOf Try.prog 13 = some [Go.Value.string { data := #[] }, Go.Value.int Go.IntKind.u64 0] := by simp only [zeroOf, info_of Try.type13]; rfl
@[push_cast] theorem fl13 : fldsOf Try.prog 13 = some [(0, false, 1), (1, false, 1)] := by simp only [fldsOf, Try.underlying13, List.mapM_cons, List.mapM_nil, sz9, sz12]; rfl
@[push_cast] theorem sz14 : szOf Try.prog 14 = some (true, 2) := by simp only [szOf, Try.underlying14, info_of Try.type14]; rfl
@[push_cast] theorem ze14 : zeroOf Try.prog 14 = some [Go.Value.string { data := #[] }, Go.Value.int Go.IntKind.u64 0] := by simp only [zeroOf, info_of Try.type14]; rfl
@[push_cast] theorem fl14 : fldsOf Try.prog 14 = some [(0, false, 1), (1, false, 1)] := by simp only [fldsOf, Try.underlying14, List.mapM_cons, List.mapM_nil, sz9, sz12]; rfl
@[push_cast] theorem sz15 : szOf Try.prog 15 = some (false, 1) := by simp only [szOf, Try.underlying15, info_of Try.type15]; rfl
@[push_cast] theorem ze15 : zeroOf Try.prog 15 = some [Go.Value.pointer none] := by simp only [zeroOf, info_of Try.type15]; rfl
@[push_cast] theorem sz16 : szOf Try.prog 16 = some (false, 1) := by simp only [szOf, Try.underlying16, info_of Try.type16]; rfl
@[push_cast] theorem ze16 : zeroOf Try.prog 16 = some [Go.Value.pointer none] := by simp only [zeroOf, info_of Try.type16]; rfl
@[push_cast] theorem sz17 : szOf Try.prog 17 = some (false, 1) := by simp only [szOf, Try.underlying17, info_of Try.type17]; rfl
@[push_cast] theorem ze17 : zeroOf Try.prog 17 = some [Go.Value.pointer none] := by simp only [zeroOf, info_of Try.type17]; rfl
@[push_cast] theorem sz18 : szOf Try.prog 18 = some (true, 1) := by simp only [szOf, Try.underlying18, info_of Try.type18]; rfl
@[push_cast] theorem ze18 : zeroOf Try.prog 18 = some [Go.Value.pointer none] := by simp only [zeroOf, info_of Try.type18]; rfl
@[push_cast] theorem fl18 : fldsOf Try.prog 18 = some [(0, false, 1)] := by simp only [fldsOf, Try.underlying18, List.mapM_cons, List.mapM_nil, sz17]; rfl
@[push_cast] theorem sz19 : szOf Try.prog 19 = some (true, 1) := by simp only [szOf, Try.underlying19, info_of Try.type19]; rfl
@[push_cast] theorem ze19 : zeroOf Try.prog 19 = some [Go.Value.pointer none] := by simp only [zeroOf, info_of Try.type19]; rfl
@[push_cast] theorem fl19 : fldsOf Try.prog 19 = some [(0, false, 1)] := by simp only [fldsOf, Try.underlying19, List.mapM_cons, List.mapM_nil, sz17]; rfl
@[push_cast] theorem sz21 : szOf Try.prog 21 = some (false, 1) := by simp only [szOf, Try.underlying21, info_of Try.type21]; rfl
@[push_cast] theorem ze21 : zeroOf Try.prog 21 = some [Go.Value.int Go.IntKind.i32 0] := by simp only [zeroOf, info_of Try.type21]; rfl
@[push_cast] theorem ik21 : ikOf Try.prog 21 = some .i32 := by simp only [ikOf, Try.underlying21]
@[push_cast] theorem kd21 : kdOf Try.prog 21 = .other := by simp only [kdOf, Try.underlying21]
@[push_cast] theorem un21 : (Try.prog.underlying 21).isSome = true := by simp only [Try.underlying21, Option.isSome_some]
@[push_cast] theorem sz22 : szOf Try.prog 22 = some (false, 1) := by simp only [szOf, Try.underlying22, info_of Try.type22]; rfl
@[push_cast] theorem ze22 : zeroOf Try.prog 22 = some [Go.Value.slice none 0 0] := by simp only [zeroOf, info_of Try.type22]; rfl
@[push_cast] theorem el22 : elOf Try.prog 22 = some (5, 1, 1) := by simp only [elOf, Try.underlying22, info_of Try.type5]; rfl
@[push_cast] theorem kd22 : kdOf Try.prog 22 = .slice := by simp only [kdOf, Try.underlying22]
@[push_cast] theorem sz23 : szOf Try.prog 23 = some (true, 3) := by simp only [szOf, Try.underlying23, info_of Try.type23]; rfl
@[push_cast] theorem ze23 : zeroOf Try.prog 23 = some [Go.Value.int Go.IntKind.i64 0, Go.Value.int Go.IntKind.i64 0, Go.Value.slice none 0 0] := by simp only [zeroOf, info_of Try.type23]; rfl
@[push_cast] theorem fl23 : fldsOf Try.prog 23 = some [(0, false, 1), (1, false, 1), (2, false, 1)] := by simp only [fldsOf, Try.underlying23, List.mapM_cons, List.mapM_nil, sz3, sz22]; rfl
@[push_cast] theorem sz24 : szOf Try.prog 24 = some (true, 3) := by simp only [szOf, Try.underlying24, info_of Try.type24]; rfl
@[push_cast] theorem ze24 : zeroOf Try.prog 24 = some [Go.Value.int Go.IntKind.i64 0, Go.Value.int Go.IntKind.i64 0, Go.Value.slice none 0 0] := by simp only [zeroOf, info_of Try.type24]; rfl
@[push_cast] theorem fl24 : fldsOf Try.prog 24 = some [(0, false, 1), (1, false, 1), (2, false, 1)] := by simp only [fldsOf, Try.underlying24, List.mapM_cons, List.mapM_nil, sz3, sz22]; rfl
@[push_cast] theorem sz33 : szOf Try.prog 33 = some (false, 1) := by simp only [szOf, Try.underlying33, info_of Try.type33]; rfl
@[push_cast] theorem ze33 : zeroOf Try.prog 33 = some [Go.Value.slice none 0 0] := by simp only [zeroOf, info_of Try.type33]; rfl
@[push_cast] theorem el33 : elOf Try.prog 33 = some (3, 1, 8) := by simp only [elOf, Try.underlying33, info_of Try.type3]; rfl
@[push_cast] theorem kd33 : kdOf Try.prog 33 = .slice := by simp only [kdOf, Try.underlying33]
@[push_cast] theorem sz34 : szOf Try.prog 34 = some (false, 1) := by simp only [szOf, Try.underlying34, info_of Try.type34]; rfl
@[push_cast] theorem ze34 : zeroOf Try.prog 34 = some [Go.Value.slice none 0 0] := by simp only [zeroOf, info_of Try.type34]; rfl
@[push_cast] theorem el34 : elOf Try.prog 34 = some (33, 1, 24) := by simp only [elOf, Try.underlying34, info_of Try.type33]; rfl
@[push_cast] theorem kd34 : kdOf Try.prog 34 = .slice := by simp only [kdOf, Try.underlying34]
@[push_cast] theorem sz35 : szOf Try.prog 35 = some (true, 2) := by simp only [szOf, Try.underlying35, info_of Try.type35]; rfl
@[push_cast] theorem ze35 : zeroOf Try.prog 35 = some [Go.Value.slice none 0 0, Go.Value.slice none 0 0] := by simp only [zeroOf, info_of Try.type35]; rfl
@[push_cast] theorem fl35 : fldsOf Try.prog 35 = some [(0, false, 1), (1, false, 1)] := by simp only [fldsOf, Try.underlying35, List.mapM_cons, List.mapM_nil, sz33, sz34]; rfl
@[push_cast] theorem sz36 : szOf Try.prog 36 = some (true, 2) := by simp only [szOf, Try.underlying36, info_of Try.type36]; rfl
@[push_cast] theorem ze36 : zeroOf Try.prog 36 = some [Go.Value.slice none 0 0, Go.Value.slice none 0 0] := by simp only [zeroOf, info_of Try.type36]; rfl
@[push_cast] theorem fl36 : fldsOf Try.prog 36 = some [(0, false, 1), (1, false, 1)] := by simp only [fldsOf, Try.underlying36, List.mapM_cons, List.mapM_nil, sz33, sz34]; rfl
@[push_cast] theorem sz37 : szOf Try.prog 37 = some (false, 1) := by simp only [szOf, Try.underlying37, info_of Try.type37]; rfl
@[push_cast] theorem ze37 : zeroOf Try.prog 37 = some [Go.Value.slice none 0 0] := by simp only [zeroOf, info_of Try.type37]; rfl
@[push_cast] theorem el37 : elOf Try.prog 37 = some (46, 3, 24) := by simp only [elOf, Try.underlying37, info_of Try.type46]; rfl
@[push_cast] theorem kd37 : kdOf Try.prog 37 = .slice := by simp only [kdOf, Try.underlying37]
@[push_cast] theorem sz45 : szOf Try.prog 45 = some (true, 3) := by simp only [szOf, Try.underlying45, info_of Try.type45]; rfl
@[push_cast] theorem ze45 : zeroOf Try.prog 45 = some [Go.Value.int Go.IntKind.i64 0, Go.Value.int Go.IntKind.i64 0, Go.Value.int Go.IntKind.i64 0] := by simp only [zeroOf, info_of Try.type45]; rfl
@[push_cast] theorem fl45 : fldsOf Try.prog 45 = some [(0, false, 1), (1, false, 1), (2, false, 1)] := by simp only [fldsOf, Try.underlying45, List.mapM_cons, List.mapM_nil, sz3]; rfl
@[push_cast] theorem sz46 : szOf Try.prog 46 = some (true, 3) := by simp only [szOf, Try.underlying46, info_of Try.type46]; rfl
@[push_cast] theorem ze46 : zeroOf Try.prog 46 = some [Go.Value.int Go.IntKind.i64 0, Go.Value.int Go.IntKind.i64 0, Go.Value.int Go.IntKind.i64 0] := by simp only [zeroOf, info_of Try.type46]; rfl
@[push_cast] theorem fl46 : fldsOf Try.prog 46 = some [(0, false, 1), (1, false, 1), (2, false, 1)] := by simp only [fldsOf, Try.underlying46, List.mapM_cons, List.mapM_nil, sz3]; rfl
@[push_cast] theorem sz50 : szOf Try.prog 50 = some (false, 1) := by simp only [szOf, Try.underlying50, info_of Try.type50]; rfl
@[push_cast] theorem ze50 : zeroOf Try.prog 50 = some [Go.Value.slice none 0 0] := by simp only [zeroOf, info_of Try.type50]; rfl
@[push_cast] theorem el50 : elOf Try.prog 50 = some (65, 2, 48) := by simp only [elOf, Try.underlying50, info_of Try.type65]; rfl
@[push_cast] theorem kd50 : kdOf Try.prog 50 = .slice := by simp only [kdOf, Try.underlying50]
@[push_cast] theorem sz51 : szOf Try.prog 51 = some (true, 3) := by simp only [szOf, Try.underlying51, info_of Try.type51]; rfl
@[push_cast] theorem ze51 : zeroOf Try.prog 51 = some [Go.Value.slice none 0 0, Go.Value.int Go.IntKind.i64 0, Go.Value.slice none 0 0] := by simp only [zeroOf, info_of Try.type51]; rfl
@[push_cast] theorem fl51 : fldsOf Try.prog 51 = some [(0, false, 1), (1, false, 1), (2, false, 1)] := by simp only [fldsOf, Try.underlying51, List.mapM_cons, List.mapM_nil, sz3, sz33, sz50]; rfl
@[push_cast] theorem sz52 : szOf Try.prog 52 = some (true, 3) := by simp only [szOf, Try.underlying52, info_of Try.type52]; rfl
@[push_cast] theorem ze52 : zeroOf Try.prog 52 = some [Go.Value.slice none 0 0, Go.Value.int Go.IntKind.i64 0, Go.Value.slice none 0 0] := by simp only [zeroOf, info_of Try.type52]; rfl
@[push_cast] theorem fl52 : fldsOf Try.prog 52 = some [(0, false, 1), (1, false, 1), (2, false, 1)] := by simp only [fldsOf, Try.underlying52, List.mapM_cons, List.mapM_nil, sz3, sz33, sz50]; rfl
@[push_cast] theorem sz53 : szOf Try.prog 53 = some (false, 1) := by simp only [szOf, Try.underlying53, info_of Try.type53]; rfl
@[push_cast] theorem ze53 : zeroOf Try.prog 53 = some [Go.Value.slice none 0 0] := by simp only [zeroOf, info_of Try.type53]; rfl
@[push_cast] theorem el53 : elOf Try.prog 53 = some (129, 2, 16) := by simp only [elOf, Try.underlying53, info_of Try.type129]; rfl
@[push_cast] theorem kd53 : kdOf Try.prog 53 = .slice := by simp only [kdOf, Try.underlying53]
@[push_cast] theorem sz56 : szOf Try.prog 56 = some (false, 1) := by simp only [szOf, Try.underlying56, info_of Try.type56]; rfl
@[push_cast] theorem ze56 : zeroOf Try.prog 56 = some [Go.Value.slice none 0 0] := by simp only [zeroOf, info_of Try.type56]; rfl
@[push_cast] theorem el56 : elOf Try.prog 56 = some (4, 1, 1) := by simp only [elOf, Try.underlying56, info_of Try.type4]; rfl
@[push_cast] theorem kd56 : kdOf Try.prog 56 = .slice := by simp only [kdOf, Try.underlying56]
@[push_cast] theorem sz57 : szOf Try.prog 57 = some (true, 3) := by simp only [szOf, Try.underlying57, info_of Try.type57]; rfl
@[push_cast] theorem ze57 : zeroOf Try.prog 57 = some [Go.Value.slice none 0 0, Go.Value.slice none 0 0, Go.Value.slice none 0 0] := by simp only [zeroOf, info_of Try.type57]; rfl
@[push_cast] theorem fl57 : fldsOf Try.prog 57 = some [(0, false, 1), (1, false, 1), (2, false, 1)] := by simp only [fldsOf, Try.underlying57, List.mapM_cons, List.mapM_nil, sz33, sz56]; rfl
@[push_cast] theorem sz58 : szOf Try.prog 58 = some (true, 3) := by simp only [szOf, Try.underlying58, info_of Try.type58]; rfl
@[push_cast] theorem ze58 : zeroOf Try.prog 58 = some [Go.Value.slice none 0 0, Go.Value.slice none 0 0, Go.Value.slice none 0 0] := by simp only [zeroOf, info_of Try.type58]; rfl
@[push_cast] theorem fl58 : fldsOf Try.prog 58 = some [(0, false, 1), (1, false, 1), (2, false, 1)] := by simp only [fldsOf, Try.underlying58, List.mapM_cons, List.mapM_nil, sz33, sz56]; rfl
@[push_cast] theorem sz63 : szOf Try.prog 63 = some (false, 1) := by simp only [szOf, Try.underlying63, info_of Try.type63]; rfl
@[push_cast] theorem ze63 : zeroOf Try.prog 63 = some [Go.Value.slice none 0 0] := by simp only [zeroOf, info_of Try.type63]; rfl
@[push_cast] theorem el63 : elOf Try.prog 63 = some (205, 2, 16) := by simp only [elOf, Try.underlying63, info_of Try.type205]; rfl
@[push_cast] theorem kd63 : kdOf Try.prog 63 = .slice := by simp only [kdOf, Try.underlying63]
@[push_cast] theorem sz64 : szOf Try.prog 64 = some (true, 2) := by simp only [szOf, Try.underlying64, info_of Try.type64]; rfl
@[push_cast] theorem ze64 : zeroOf Try.prog 64 = some [Go.Value.slice none 0 0, Go.Value.slice none 0 0] := by simp only [zeroOf, info_of Try.type64]; rfl
@[push_cast] theorem fl64 : fldsOf Try.prog 64 = some [(0, false, 1), (1, false, 1)] := by simp only [fldsOf, Try.underlying64, List.mapM_cons, List.mapM_nil, sz33, sz63]; rfl
@[push_cast] theorem sz65 : szOf Try.prog 65 = some (true, 2) := by simp only [szOf, Try.underlying65, info_of Try.type65]; rfl
@[push_cast] theorem ze65 : zeroOf Try.prog 65 = some [Go.Value.slice none 0 0, Go.Value.slice none 0 0] := by simp only [zeroOf, info_of Try.type65]; rfl
@[push_cast] theorem fl65 : fldsOf Try.prog 65 = some [(0, false, 1), (1, false, 1)] := by simp only [fldsOf, Try.underlying65, List.mapM_cons, List.mapM_nil, sz33, sz63]; rfl
@[push_cast] theorem sz67 : szOf Try.prog 67 = some (false, 1) := by simp only [szOf, Try.underlying67, info_of Try.type67]; rfl
@[push_cast] theorem ze67 : zeroOf Try.prog 67 = some [Go.Value.slice none 0 0] := by simp only [zeroOf, info_of Try.type67]; rfl
@[push_cast] theorem el67 : elOf Try.prog 67 = some (172, 5, 40) := by simp only [elOf, Try.underlying67, info_of Try.type172]; rfl
@[push_cast] theorem kd67 : kdOf Try.prog 67 = .slice := by simp only [kdOf, Try.underlying67]
@[push_cast] theorem sz68 : szOf Try.prog 68 = some (true, 4) := by simp only [szOf, Try.underlying68, info_of Try.type68]; rfl
@[push_cast] theorem ze68 : zeroOf Try.prog 68 = some [Go.Value.int Go.IntKind.i64 0, Go.Value.int Go.IntKind.i64 0, Go.Value.int Go.IntKind.i64 0, Go.Value.int Go.IntKind.i64 0] := by simp only [zeroOf, info_of Try.type68]; rfl
@[push_cast] theorem fl68 : fldsOf Try.prog 68 = some [(0, false, 1), (1, false, 1), (2, false, 1), (3, false, 1)] := by simp only [fldsOf, Try.underlying68, List.mapM_cons, List.mapM_nil, sz3]; rfl
@[push_cast] theorem sz69 : szOf Try.prog 69 = some (true, 4) := by simp only [szOf, Try.underlying69, info_of Try.type69]; rfl
@[push_cast] theorem ze69 : zeroOf Try.prog 69 = some [Go.Value.int Go.IntKind.i64 0, Go.Value.int Go.IntKind.i64 0, Go.Value.int Go.IntKind.i64 0, Go.Value.int Go.IntKind.i64 0] := by simp only [zeroOf, info_of Try.type69]; rfl
@[push_cast] theorem fl69 : fldsOf Try.prog 69 = some [(0, false, 1), (1, false, 1), (2, false, 1), (3, false, 1)] := by simp only [fldsOf, Try.underlying69, List.mapM_cons, List.mapM_nil, sz3]; rfl
@[push_cast] theorem sz73 : szOf Try.prog 73 = some (false, 1) := by simp only [szOf, Try.underlying73, info_of Try.type73]; rfl
@[push_cast] theorem ze73 : zeroOf Try.prog 73 = some [Go.Value.slice none 0 0] := by simp only [zeroOf, info_of Try.type73]; rfl
@[push_cast] theorem el73 : elOf Try.prog 73 = some (170, 5, 40) := by simp only [elOf, Try.underlying73, info_of Try.type170]; rfl
@[push_cast] theorem kd73 : kdOf Try.prog 73 = .slice := by simp only [kdOf, Try.underlying73]
@[push_cast] theorem sz76 : szOf Try.prog 76 = some (true, 4) := by simp only [szOf, Try.underlying76, info_of Try.type76]; rfl
@[push_cast] theorem ze76 : zeroOf Try.prog 76 = some [Go.Value.int Go.IntKind.i64 0, Go.Value.int Go.IntKind.i64 0, Go.Value.int Go.IntKind.i64 0, Go.Value.int Go.IntKind.i64 0] := by simp only [zeroOf, info_of Try.type76]; rfl
@[push_cast] theorem fl76 : fldsOf Try.prog 76 = some [(0, false, 1), (1, false, 1), (2, false, 1), (3, false, 1)] := by simp only [fldsOf, Try.underlying76, List.mapM_cons, List.mapM_nil, sz3]; rfl
@[push_cast] theorem sz83 : szOf Try.prog 83 = some (false, 1) := by simp only [szOf, Try.underlying83, info_of Try.type83]; rfl
@[push_cast] theorem ze83 : zeroOf Try.prog 83 = some [Go.Value.slice none 0 0] := by simp only [zeroOf, info_of Try.type83]; rfl
@[push_cast] theorem el83 : elOf Try.prog 83 = some (238, 4, 32) := by simp only [elOf, Try.underlying83, info_of Try.type238]; rfl
@[push_cast] theorem kd83 : kdOf Try.prog 83 = .slice := by simp only [kdOf, Try.underlying83]
@[push_cast] theorem sz84 : szOf Try.prog 84 = some (true, 2) := by simp only [szOf, Try.underlying84, info_of Try.type84]; rfl
@[push_cast] theorem ze84 : zeroOf Try.prog 84 = some [Go.Value.int Go.IntKind.i64 0, Go.Value.slice none 0 0] := by simp only [zeroOf, info_of Try.type84]; rfl
@[push_cast] theorem fl84 : fldsOf Try.prog 84 = some [(0, false, 1), (1, false, 1)] := by simp only [fldsOf, Try.underlying84, List.mapM_cons, List.mapM_nil, sz3, sz83]; rfl
@[push_cast] theorem sz85 : szOf Try.prog 85 = some (true, 2) := by simp only [szOf, Try.underlying85, info_of Try.type85]; rfl
@[push_cast] theorem ze85 : zeroOf Try.prog 85 = some [Go.Value.int Go.IntKind.i64 0, Go.Value.slice none 0 0] := by simp only [zeroOf, info_of Try.type85]; rfl
@[push_cast] theorem fl85 : fldsOf Try.prog 85 = some [(0, false, 1), (1, false, 1)] := by simp only [fldsOf, Try.underlying85, List.mapM_cons, List.mapM_nil, sz3, sz83]; rfl
@[push_cast] theorem sz86 : szOf Try.prog 86 = some (false, 1) := by simp only [szOf, Try.underlying86, info_of Try.type86]; rfl
@[push_cast] theorem ze86 : zeroOf Try.prog 86 = some [Go.Value.slice none 0 0] := by simp only [zeroOf, info_of Try.type86]; rfl
@[push_cast] theorem el86 : elOf Try.prog 86 = some (120, 2, 40) := by simp only [elOf, Try.underlying86, info_of Try.type120]; rfl
@[push_cast] theorem kd86 : kdOf Try.prog 86 = .slice := by simp only [kdOf, Try.underlying86]
@[push_cast] theorem sz87 : szOf Try.prog 87 = some (false, 1) := by simp only [szOf, Try.underlying87, info_of Try.type87]; rfl
@[push_cast] theorem ze87 : zeroOf Try.prog 87 = some [Go.Value.slice none 0 0] := by simp only [zeroOf, info_of Try.type87]; rfl
@[push_cast] theorem el87 : elOf Try.prog 87 = some (258, 4, 32) := by simp only [elOf, Try.underlying87, info_of Try.type258]; rfl
@[push_cast] theorem kd87 : kdOf Try.prog 87 = .slice := by simp only [kdOf, Try.underlying87]
@[push_cast] theorem sz88 : szOf Try.prog 88 = some (true, 3) := by simp only [szOf, Try.underlying88, info_of Try.type88]; rfl
@[push_cast] theorem ze88 : zeroOf Try.prog 88 = some [Go.Value.int Go.IntKind.i64 0, Go.Value.int Go.IntKind.i64 0, Go.Value.slice none 0 0] := by simp only [zeroOf, info_of Try.type88]; rfl
@[push_cast] theorem fl88 : fldsOf Try.prog 88 = some [(0, false, 1), (1, false, 1), (2, false, 1)] := by simp only [fldsOf, Try.underlying88, List.mapM_cons, List.mapM_nil, sz3, sz87]; rfl
@[push_cast] theorem sz89 : szOf Try.prog 89 = some (true, 3) := by simp only [szOf, Try.underlying89, info_of Try.type89]; rfl
@[push_cast] theorem ze89 : zeroOf Try.prog 89 = some [Go.Value.int Go.IntKind.i64 0, Go.Value.int Go.IntKind.i64 0, Go.Value.slice none 0 0] := by simp only [zeroOf, info_of Try.type89]; rfl
@[push_cast] theorem fl89 : fldsOf Try.prog 89 = some [(0, false, 1), (1, false, 1), (2, false, 1)] := by simp only [fldsOf, Try.underlying89, List.mapM_cons, List.mapM_nil, sz3, sz87]; rfl
@[push_cast] theorem sz90 : szOf Try.prog 90 = some (true, 8) := by simp only [szOf, Try.underlying90, info_of Try.type90]; rfl
@[push_cast] theorem ze90 : zeroOf Try.prog 90 = some [Go.Value.int Go.IntKind.i64 0, Go.Value.slice none 0 0, Go.Value.slice none 0 0, Go.Value.int Go.IntKind.i64 0, Go.Value.int Go.IntKind.i64 0, Go.Value.slice none 0 0, Go.Value.slice none 0 0, Go.Value.slice none 0 0] := by simp only [zeroOf, info_of Try.type90]; rfl
@[push_cast] theorem fl90 : fldsOf Try.prog 90 = some [(0, true, 2), (2, false, 1), (3, true, 3), (6, true, 2)] := by simp only [fldsOf, Try.underlying90, List.mapM_cons, List.mapM_nil, sz36, sz85, sz86, sz89]; rfl
@[push_cast] theorem sz91 : szOf Try.prog 91 = some (true, 8) := by simp only [szOf, Try.underlying91, info_of Try.type91]; rfl
@[push_cast] theorem ze91 : zeroOf Try.prog 91 = some [Go.Value.int Go.IntKind.i64 0, Go.Value.slice none 0 0, Go.Value.slice none 0 0, Go.Value.int Go.IntKind.i64 0, Go.Value.int Go.IntKind.i64 0, Go.Value.slice none 0 0, Go.Value.slice none 0 0, Go.Value.slice none 0 0] := by simp only [zeroOf, info_of Try.type91]; rfl
@[push_cast] theorem fl91 : fldsOf Try.prog 91 = some [(0, true, 2), (2, false, 1), (3, true, 3), (6, true, 2)] := by simp only [fldsOf, Try.underlying91, List.mapM_cons, List.mapM_nil, sz36, sz85, sz86, sz89]; rfl
@[push_cast] theorem sz96 : szOf Try.prog 96 = some (false, 1) := by simp only [szOf, Try.underlying96, info_of Try.type96]; rfl
@[push_cast] theorem ze96 : zeroOf Try.prog 96 = some [Go.Value.slice none 0 0] := by simp only [zeroOf, info_of Try.type96]; rfl
@[push_cast] theorem el96 : elOf Try.prog 96 = some (240, 4, 32) := by simp only [elOf, Try.underlying96, info_of Try.type240]; rfl
@[push_cast] theorem kd96 : kdOf Try.prog 96 = .slice := by simp only [kdOf, Try.underlying96]
@[push_cast] theorem sz97 : szOf Try.prog 97 = some (true, 2) := by simp only [szOf, Try.underlying97, info_of Try.type97]; rfl
@[push_cast] theorem ze97 : zeroOf Try.prog 97 = some [Go.Value.int Go.IntKind.i64 0, Go.Value.slice none 0 0] := by simp only [zeroOf, info_of Try.type97]; rfl
@[push_cast] theorem fl97 : fldsOf Try.prog 97 = some [(0, false, 1), (1, false, 1)] := by simp only [fldsOf, Try.underlying97, List.mapM_cons, List.mapM_nil, sz3, sz96]; rfl
@[push_cast] theorem sz98 : szOf Try.prog 98 = some (true, 2) := by simp only [szOf, Try.underlying98, info_of Try.type98]; rfl
@[push_cast] theorem ze98 : zeroOf Try.prog 98 = some [Go.Value.int Go.IntKind.i64 0, Go.Value.slice none 0 0] := by simp only [zeroOf, info_of Try.type98]; rfl
@[push_cast] theorem fl98 : fldsOf Try.prog 98 = some [(0, false, 1), (1, false, 1)] := by simp only [fldsOf, Try.underlying98, List.mapM_cons, List.mapM_nil, sz3, sz96]; rfl
@[push_cast] theorem sz99 : szOf Try.prog 99 = some (false, 1) := by simp only [szOf, Try.underlying99, info_of Try.type99]; rfl
@[push_cast] theorem ze99 : zeroOf Try.prog 99 = some [Go.Value.slice none 0 0] := by simp only [zeroOf, info_of Try.type99]; rfl
@[push_cast] theorem el99 : elOf Try.prog 99 = some (183, 2, 40) := by simp only [elOf, Try.underlying99, info_of Try.type183]; rfl
@[push_cast] theorem kd99 : kdOf Try.prog 99 = .slice := by simp only [kdOf, Try.underlying99]
@[push_cast] theorem sz108 : szOf Try.prog 108 = some (false, 1) := by simp only [szOf, Try.underlying108, info_of Try.type108]; rfl
@[push_cast] theorem ze108 : zeroOf Try.prog 108 = some [Go.Value.slice none 0 0] := by simp only [zeroOf, info_of Try.type108]; rfl
@[push_cast] theorem el108 : elOf Try.prog 108 = some (191, 4, 32) := by simp only [elOf, Try.underlying108, info_of Try.type191]; rfl
@[push_cast] theorem kd108 : kdOf Try.prog 108 = .slice := by simp only [kdOf, Try.underlying108]
@[push_cast] theorem sz111 : szOf Try.prog 111 = some (false, 1) := by simp only [szOf, Try.underlying111, info_of Try.type111]; rfl
@[push_cast] theorem ze111 : zeroOf Try.prog 111 = some [Go.Value.slice none 0 0] := by simp only [zeroOf, info_of Try.type111]; rfl
@[push_cast] theorem el111 : elOf Try.prog 111 = some (122, 4, 32) := by simp only [elOf, Try.underlying111, info_of Try.type122]; rfl
@[push_cast] theorem kd111 : kdOf Try.prog 111 = .slice := by simp only [kdOf, Try.underlying111]
@[push_cast] theorem sz118 : szOf Try.prog 118 = some (false, 1) := by simp only [szOf, Try.underlying118, info_of Try.type118]; rfl
@[push_cast] theorem ze118 : zeroOf Try.prog 118 = some [Go.Value.slice none 0 0] := by simp only [zeroOf, info_of Try.type118]; rfl
@[push_cast] theorem el118 : elOf Try.prog 118 = some (124, 3, 24) := by simp only [elOf, Try.underlying118, info_of Try.type124]; rfl
@[push_cast] theorem kd118 : kdOf Try.prog 118 = .slice := by simp only [kdOf, Try.underlying118]
@[push_cast] theorem sz119 : szOf Try.prog 119 = some (true, 2) := by simp only [szOf, Try.underlying119, info_of Try.type119]; rfl
@[push_cast] theorem ze119 : zeroOf Try.prog 119 = some [Go.Value.string { data := #[] }, Go.Value.slice none 0 0] := by simp only [zeroOf, info_of Try.type119]; rfl
@[push_cast] theorem fl119 : fldsOf Try.prog 119 = some [(0, false, 1), (1, false, 1)] := by simp only [fldsOf, Try.underlying119, List.mapM_cons, List.mapM_nil, sz9, sz118]; rfl
@[push_cast] theorem sz120 : szOf Try.prog 120 = some (true, 2) := by simp only [szOf, Try.underlying120, info_of Try.type120]; rfl
@[push_cast] theorem ze120 : zeroOf Try.prog 120 = some [Go.Value.string { data := #[] }, Go.Value.slice none 0 0] := by simp only [zeroOf, info_of Try.type120]; rfl
@[push_cast] theorem fl120 : fldsOf Try.prog 120 = some [(0, false, 1), (1, false, 1)] := by simp only [fldsOf, Try.underlying120, List.mapM_cons, List.mapM_nil, sz9, sz118]; rfl
@[push_cast] theorem sz121 : szOf Try.prog 121 = some (true, 4) := by simp only [szOf, Try.underlying121, info_of Try.type121]; rfl
@[push_cast] theorem ze121 : zeroOf Try.prog 121 = some [Go.Value.int Go.IntKind.i64 0, Go.Value.int Go.IntKind.i64 0, Go.Value.int Go.IntKind.i64 0, Go.Value.int Go.IntKind.i64 0] := by simp only [zeroOf, info_of Try.type121]; rfl
@[push_cast] theorem fl121 : fldsOf Try.prog 121 = some [(0, false, 1), (1, false, 1), (2, false, 1), (3, false, 1)] := by simp only [fldsOf, Try.underlying121, List.mapM_cons, List.mapM_nil, sz3]; rfl
@[push_cast] theorem sz122 : szOf Try.prog 122 = some (true, 4) := by simp only [szOf, Try.underlying122, info_of Try.type122]; rfl
@[push_cast] theorem ze122 : zeroOf Try.prog 122 = some [Go.Value.int Go.IntKind.i64 0, Go.Value.int Go.IntKind.i64 0, Go.Value.int Go.IntKind.i64 0, Go.Value.int Go.IntKind.i64 0] := by simp only [zeroOf, info_of Try.type122]; rfl
@[push_cast] theorem fl122 : fldsOf Try.prog 122 = some [(0, false, 1), (1, false, 1), (2, false, 1), (3, false, 1)] := by simp only [fldsOf, Try.underlying122, List.mapM_cons, List.mapM_nil, sz3]; rfl
@[push_cast] theorem sz123 : szOf Try.prog 123 = some (true, 3) := by simp only [szOf, Try.underlying123, info_of Try.type123]; rfl
@[push_cast] theorem ze123 : zeroOf Try.prog 123 = some [Go.Value.int Go.IntKind.i64 0, Go.Value.int Go.IntKind.i64 0, Go.Value.int Go.IntKind.i64 0] := by simp only [zeroOf, info_of Try.type123]; rfl
@[push_cast] theorem fl123 : fldsOf Try.prog 123 = some [(0, false, 1), (1, false, 1), (2, false, 1)] := by simp only [fldsOf, Try.underlying123, List.mapM_cons, List.mapM_nil, sz3]; rfl
@[push_cast] theorem sz124 : szOf Try.prog 124 = some (true, 3) := by simp only [szOf, Try.underlying124, info_of Try.type124]; rfl
@[push_cast] theorem ze124 : zeroOf Try.prog 124 = some [Go.Value.int Go.IntKind.i64 0, Go.Value.int Go.IntKind.i64 0, Go.Value.int Go.IntKind.i64 0] := by simp only [zeroOf, info_of Try.type124]; rfl
@[push_cast] theorem fl124 : fldsOf Try.prog 124 = some [(0, false, 1), (1, false, 1), (2, false, 1)] := by simp only [fldsOf, Try.underlying124, List.mapM_cons, List.mapM_nil, sz3]; rfl
@[push_cast] theorem sz128 : szOf Try.prog 128 = some (true, 2) := by simp only [szOf, Try.underlying128, info_of Try.type128]; rfl
@[push_cast] theorem ze128 : zeroOf Try.prog 128 = some [Go.Value.int Go.IntKind.i64 0, Go.Value.int Go.IntKind.i64 0] := by simp only [zeroOf, info_of Try.type128]; rfl
@[push_cast] theorem fl128 : fldsOf Try.prog 128 = some [(0, false, 1), (1, false, 1)] := by simp only [fldsOf, Try.underlying128, List.mapM_cons, List.mapM_nil, sz3]; rfl
@[push_cast] theorem sz129 : szOf Try.prog 129 = some (true, 2) := by simp only [szOf, Try.underlying129, info_of Try.type129]; rfl
@[push_cast] theorem ze129 : zeroOf Try.prog 129 = some [Go.Value.int Go.IntKind.i64 0, Go.Value.int Go.IntKind.i64 0] := by simp only [zeroOf, info_of Try.type129]; rfl
@[push_cast] theorem fl129 : fldsOf Try.prog 129 = some [(0, false, 1), (1, false, 1)] := by simp only [fldsOf, Try.underlying129, List.mapM_cons, List.mapM_nil, sz3]; rfl
@[push_cast] theorem sz134 : szOf Try.prog 134 = some (false, 1) := by simp only [szOf, Try.underlying134, info_of Try.type134]; rfl
@[push_cast] theorem ze134 : zeroOf Try.prog 134 = some [Go.Value.slice none 0 0] := by simp only [zeroOf, info_of Try.type134]; rfl
@[push_cast] theorem el134 : elOf Try.prog 134 = some (278, 4, 32) := by simp only [elOf, Try.underlying134, info_of Try.type278]; rfl
@[push_cast] theorem kd134 : kdOf Try.prog 134 = .slice := by simp only [kdOf, Try.underlying134]
@[push_cast] theorem sz135 : szOf Try.prog 135 = some (true, 3) := by simp only [szOf, Try.underlying135, info_of Try.type135]; rfl
@[push_cast] theorem ze135 : zeroOf Try.prog 135 = some [Go.Value.int Go.IntKind.i64 0, Go.Value.int Go.IntKind.i64 0, Go.Value.slice none 0 0] := by simp only [zeroOf, info_of Try.type135]; rfl
@[push_cast] theorem fl135 : fldsOf Try.prog 135 = some [(0, false, 1), (1, false, 1), (2, false, 1)] := by simp only [fldsOf, Try.underlying135, List.mapM_cons, List.mapM_nil, sz3, sz134]; rfl
@[push_cast] theorem sz136 : szOf Try.prog 136 = some (true, 3) := by simp only [szOf, Try.underlying136, info_of Try.type136]; rfl
@[push_cast] theorem ze136 : zeroOf Try.prog 136 = some [Go.Value.int Go.IntKind.i64 0, Go.Value.int Go.IntKind.i64 0, Go.Value.slice none 0 0] := by simp only [zeroOf, info_of Try.type136]; rfl
@[push_cast] theorem fl136 : fldsOf Try.prog 136 = some [(0, false, 1), (1, false, 1), (2, false, 1)] := by simp only [fldsOf, Try.underlying136, List.mapM_cons, List.mapM_nil, sz3, sz134]; rfl
@[push_cast] theorem sz137 : szOf Try.prog 137 = some (true, 2) := by simp only [szOf, Try.underlying137, info_of Try.type137]; rfl
@[push_cast] theorem ze137 : zeroOf Try.prog 137 = some [Go.Value.slice none 0 0, Go.Value.slice none 0 0] := by simp only [zeroOf, info_of Try.type137]; rfl
@[push_cast] theorem fl137 : fldsOf Try.prog 137 = some [(0, false, 1), (1, false, 1)] := by simp only [fldsOf, Try.underlying137, List.mapM_cons, List.mapM_nil, sz33, sz34]; rfl
@[push_cast] theorem sz138 : szOf Try.prog 138 = some (true, 8) := by simp only [szOf, Try.underlying138, info_of Try.type138]; rfl
@[push_cast] theorem ze138 : zeroOf Try.prog 138 = some [Go.Value.int Go.IntKind.i64 0, Go.Value.slice none 0 0, Go.Value.slice none 0 0, Go.Value.int Go.IntKind.i64 0, Go.Value.int Go.IntKind.i64 0, Go.Value.slice none 0 0, Go.Value.slice none 0 0, Go.Value.slice none 0 0] := by simp only [zeroOf, info_of Try.type138]; rfl
@[push_cast] theorem fl138 : fldsOf Try.prog 138 = some [(0, true, 2), (2, false, 1), (3, true, 3), (6, true, 2)] := by simp only [fldsOf, Try.underlying138, List.mapM_cons, List.mapM_nil, sz98, sz99, sz136, sz137]; rfl
@[push_cast] theorem sz139 : szOf Try.prog 139 = some (true, 8) := by simp only [szOf, Try.underlying139, info_of Try.type139]; rfl
@[push_cast] theorem ze139 : zeroOf Try.prog 139 = some [Go.Value.int Go.IntKind.i64 0, Go.Value.slice none 0 0, Go.Value.slice none 0 0, Go.Value.int Go.IntKind.i64 0, Go.Value.int Go.IntKind.i64 0, Go.Value.slice none 0 0, Go.Value.slice none 0 0, Go.Value.slice none 0 0] := by simp only [zeroOf, info_of Try.type139]; rfl
@[push_cast] theorem fl139 : fldsOf Try.prog 139 = some [(0, true, 2), (2, false, 1), (3, true, 3), (6, true, 2)] := by simp only [fldsOf, Try.underlying139, List.mapM_cons, List.mapM_nil, sz98, sz99, sz136, sz137]; rfl
@[push_cast] theorem sz152 : szOf Try.prog 152 = some (false, 1) := by simp only [szOf, Try.underlying152, info_of Try.type152]; rfl
@[push_cast] theorem ze152 : zeroOf Try.prog 152 = some [Go.Value.pointer none] := by simp only [zeroOf, info_of Try.type152]; rfl
@[push_cast] theorem sz169 : szOf Try.prog 169 = some (true, 5) := by simp only [szOf, Try.underlying169, info_of Try.type169]; rfl
@[push_cast] theorem ze169 : zeroOf Try.prog 169 = some [Go.Value.int Go.IntKind.i64 0, Go.Value.int Go.IntKind.i64 0, Go.Value.int Go.IntKind.i64 0, Go.Value.int Go.IntKind.i64 0, Go.Value.int Go.IntKind.i64 0] := by simp only [zeroOf, info_of Try.type169]; rfl
@[push_cast] theorem fl169 : fldsOf Try.prog 169 = some [(0, false, 1), (1, false, 1), (2, false, 1), (3, false, 1), (4, false, 1)] := by simp only [fldsOf, Try.underlying169, List.mapM_cons, List.mapM_nil, sz3]; rfl
@[push_cast] theorem sz170 : szOf Try.prog 170 = some (true, 5) := by simp only [szOf, Try.underlying170, info_of Try.type170]; rfl
@[push_cast] theorem ze170 : zeroOf Try.prog 170 = some [Go.Value.int Go.IntKind.i64 0, Go.Value.int Go.IntKind.i64 0, Go.Value.int Go.IntKind.i64 0, Go.Value.int Go.IntKind.i64 0, Go.Value.int Go.IntKind.i64 0] := by simp only [zeroOf, info_of Try.type170]; rfl
@[push_cast] theorem fl170 : fldsOf Try.prog 170 = some [(0, false, 1), (1, false, 1), (2, false, 1), (3, false, 1), (4, false, 1)] := by simp only [fldsOf, Try.underlying170, List.mapM_cons, List.mapM_nil, sz3]; rfl
@[push_cast] theorem sz172 : szOf Try.prog 172 = some (true, 5) := by simp only [szOf, Try.underlying172, info_of Try.type172]; rfl
@[push_cast] theorem ze172 : zeroOf Try.prog 172 = some [Go.Value.int Go.IntKind.i64 0, Go.Value.int Go.IntKind.i64 0, Go.Value.int Go.IntKind.i64 0, Go.Value.int Go.IntKind.i64 0, Go.Value.int Go.IntKind.i64 0] := by simp only [zeroOf, info_of Try.type172]; rfl
@[push_cast] theorem fl172 : fldsOf Try.prog 172 = some [(0, false, 1), (1, false, 1), (2, false, 1), (3, false, 1), (4, false, 1)] := by simp only [fldsOf, Try.underlying172, List.mapM_cons, List.mapM_nil, sz3]; rfl
@[push_cast] theorem sz181 : szOf Try.prog 181 = some (false, 1) := by simp only [szOf, Try.underlying181, info_of Try.type181]; rfl
@[push_cast] theorem ze181 : zeroOf Try.prog 181 = some [Go.Value.slice none 0 0] := by simp only [zeroOf, info_of Try.type181]; rfl
@[push_cast] theorem el181 : elOf Try.prog 181 = some (271, 3, 24) := by simp only [elOf, Try.underlying181, info_of Try.type271]; rfl
@[push_cast] theorem kd181 : kdOf Try.prog 181 = .slice := by simp only [kdOf, Try.underlying181]
@[push_cast] theorem sz182 : szOf Try.prog 182 = some (true, 2) := by simp only [szOf, Try.underlying182, info_of Try.type182]; rfl
@[push_cast] theorem ze182 : zeroOf Try.prog 182 = some [Go.Value.string { data := #[] }, Go.Value.slice none 0 0] := by simp only [zeroOf, info_of Try.type182]; rfl
@[push_cast] theorem fl182 : fldsOf Try.prog 182 = some [(0, false, 1), (1, false, 1)] := by simp only [fldsOf, Try.underlying182, List.mapM_cons, List.mapM_nil, sz9, sz181]; rfl
@[push_cast] theorem sz183 : szOf Try.prog 183 = some (true, 2) := by simp only [szOf, Try.underlying183, info_of Try.type183]; rfl
@[push_cast] theorem ze183 : zeroOf Try.prog 183 = some [Go.Value.string { data := #[] }, Go.Value.slice none 0 0] := by simp only [zeroOf, info_of Try.type183]; rfl
@[push_cast] theorem fl183 : fldsOf Try.prog 183 = some [(0, false, 1), (1, false, 1)] := by simp only [fldsOf, Try.underlying183, List.mapM_cons, List.mapM_nil, sz9, sz181]; rfl
@[push_cast] theorem sz191 : szOf Try.prog 191 = some (true, 4) := by simp only [szOf, Try.underlying191, info_of Try.type191]; rfl
@[push_cast] theorem ze191 : zeroOf Try.prog 191 = some [Go.Value.int Go.IntKind.i64 0, Go.Value.int Go.IntKind.i64 0, Go.Value.int Go.IntKind.i64 0, Go.Value.int Go.IntKind.i64 0] := by simp only [zeroOf, info_of Try.type191]; rfl
@[push_cast] theorem fl191 : fldsOf Try.prog 191 = some [(0, false, 1), (1, false, 1), (2, false, 1), (3, false, 1)] := by simp only [fldsOf, Try.underlying191, List.mapM_cons, List.mapM_nil, sz3]; rfl
@[push_cast] theorem sz192 : szOf Try.prog 192 = some (true, 9) := by simp only [szOf, Try.underlying192, info_of Try.type192]; rfl
@[push_cast] theorem ze192 : zeroOf Try.prog 192 = some [Go.Value.int Go.IntKind.i64 0, Go.Value.slice none 0 0, Go.Value.slice none 0 0, Go.Value.slice none 0 0, Go.Value.slice none 0 0, Go.Value.slice none 0 0, Go.Value.slice none 0 0, Go.Value.slice none 0 0, Go.Value.int Go.IntKind.i64 0] := by simp only [zeroOf, info_of Try.type192]; rfl
@[push_cast] theorem fl192 : fldsOf Try.prog 192 = some [(0, true, 2), (2, false, 1), (3, false, 1), (4, false, 1), (5, false, 1), (6, false, 1), (7, false, 1), (8, false, 1)] := by simp only [fldsOf, Try.underlying192, List.mapM_cons, List.mapM_nil, sz3, sz33, sz56, sz85, sz86, sz111]; rfl
@[push_cast] theorem sz193 : szOf Try.prog 193 = some (true, 9) := by simp only [szOf, Try.underlying193, info_of Try.type193]; rfl
@[push_cast] theorem ze193 : zeroOf Try.prog 193 = some [Go.Value.int Go.IntKind.i64 0, Go.Value.slice none 0 0, Go.Value.slice none 0 0, Go.Value.slice none 0 0, Go.Value.slice none 0 0, Go.Value.slice none 0 0, Go.Value.slice none 0 0, Go.Value.slice none 0 0, Go.Value.int Go.IntKind.i64 0] := by simp only [zeroOf, info_of Try.type193]; rfl
@[push_cast] theorem fl193 : fldsOf Try.prog 193 = some [(0, true, 2), (2, false, 1), (3, false, 1), (4, false, 1), (5, false, 1), (6, false, 1), (7, false, 1), (8, false, 1)] := by simp only [fldsOf, Try.underlying193, List.mapM_cons, List.mapM_nil, sz3, sz33, sz56, sz85, sz86, sz111]; rfl
@[push_cast] theorem sz199 : szOf Try.prog 199 = some (false, 1) := by simp only [szOf, Try.underlying199, info_of Try.type199]; rfl
@[push_cast] theorem ze199 : zeroOf Try.prog 199 = some [Go.Value.pointer none] := by simp only [zeroOf, info_of Try.type199]; rfl
@[push_cast] theorem sz204 : szOf Try.prog 204 = some (true, 2) := by simp only [szOf, Try.underlying204, info_of Try.type204]; rfl
@[push_cast] theorem ze204 : zeroOf Try.prog 204 = some [Go.Value.int Go.IntKind.i64 0, Go.Value.int Go.IntKind.i64 0] := by simp only [zeroOf, info_of Try.type204]; rfl
@[push_cast] theorem fl204 : fldsOf Try.prog 204 = some [(0, false, 1), (1, false, 1)] := by simp only [fldsOf, Try.underlying204, List.mapM_cons, List.mapM_nil, sz3]; rfl
@[push_cast] theorem sz205 : szOf Try.prog 205 = some (true, 2) := by simp only [szOf, Try.underlying205, info_of Try.type205]; rfl
@[push_cast] theorem ze205 : zeroOf Try.prog 205 = some [Go.Value.int Go.IntKind.i64 0, Go.Value.int Go.IntKind.i64 0] := by simp only [zeroOf, info_of Try.type205]; rfl
@[push_cast] theorem fl205 : fldsOf Try.prog 205 = some [(0, false, 1), (1, false, 1)] := by simp only [fldsOf, Try.underlying205, List.mapM_cons, List.mapM_nil, sz3]; rfl
@[push_cast] theorem sz219 : szOf Try.prog 219 = some (true, 3) := by simp only [szOf, Try.underlying219, info_of Try.type219]; rfl
@[push_cast] theorem ze219 : zeroOf Try.prog 219 = some [Go.Value.slice none 0 0, Go.Value.int Go.IntKind.i64 0, Go.Value.int Go.IntKind.i64 0] := by simp only [zeroOf, info_of Try.type219]; rfl
@[push_cast] theorem fl219 : fldsOf Try.prog 219 = some [(0, false, 1), (1, false, 1), (2, false, 1)] := by simp only [fldsOf, Try.underlying219, List.mapM_cons, List.mapM_nil, sz3, sz22]; rfl
@[push_cast] theorem sz220 : szOf Try.prog 220 = some (true, 3) := by simp only [szOf, Try.underlying220, info_of Try.type220]; rfl
@[push_cast] theorem ze220 : zeroOf Try.prog 220 = some [Go.Value.slice none 0 0, Go.Value.int Go.IntKind.i64 0, Go.Value.int Go.IntKind.i64 0] := by simp only [zeroOf, info_of Try.type220]; rfl
@[push_cast] theorem fl220 : fldsOf Try.prog 220 = some [(0, false, 1), (1, false, 1), (2, false, 1)] := by simp only [fldsOf, Try.underlying220, List.mapM_cons, List.mapM_nil, sz3, sz22]; rfl
@[push_cast] theorem sz223 : szOf Try.prog 223 = some (false, 1) := by simp only [szOf, Try.underlying223, info_of Try.type223]; rfl
@[push_cast] theorem ze223 : zeroOf Try.prog 223 = some [Go.Value.pointer none] := by simp only [zeroOf, info_of Try.type223]; rfl
@[push_cast] theorem sz237 : szOf Try.prog 237 = some (true, 4) := by simp only [szOf, Try.underlying237, info_of Try.type237]; rfl
@[push_cast] theorem ze237 : zeroOf Try.prog 237 = some [Go.Value.int Go.IntKind.i64 0, Go.Value.int Go.IntKind.i64 0, Go.Value.int Go.IntKind.i64 0, Go.Value.int Go.IntKind.i64 0] := by simp only [zeroOf, info_of Try.type237]; rfl
@[push_cast] theorem fl237 : fldsOf Try.prog 237 = some [(0, false, 1), (1, false, 1), (2, false, 1), (3, false, 1)] := by simp only [fldsOf, Try.underlying237, List.mapM_cons, List.mapM_nil, sz3]; rfl
@[push_cast] theorem sz238 : szOf Try.prog 238 = some (true, 4) := by simp only [szOf, Try.underlying238, info_of Try.type238]; rfl
@[push_cast] theorem ze238 : zeroOf Try.prog 238 = some [Go.Value.int Go.IntKind.i64 0, Go.Value.int Go.IntKind.i64 0, Go.Value.int Go.IntKind.i64 0, Go.Value.int Go.IntKind.i64 0] := by simp only [zeroOf, info_of Try.type238]; rfl
@[push_cast] theorem fl238 : fldsOf Try.prog 238 = some [(0, false, 1), (1, false, 1), (2, false, 1), (3, false, 1)] := by simp only [fldsOf, Try.underlying238, List.mapM_cons, List.mapM_nil, sz3]; rfl
@[push_cast] theorem sz240 : szOf Try.prog 240 = some (true, 4) := by simp only [szOf, Try.underlying240, info_of Try.type240]; rfl
@[push_cast] theorem ze240 : zeroOf Try.prog 240 = some [Go.Value.int Go.IntKind.i64 0, Go.Value.int Go.IntKind.i64 0, Go.Value.int Go.IntKind.i64 0, Go.Value.int Go.IntKind.i64 0] := by simp only [zeroOf, info_of Try.type240]; rfl
@[push_cast] theorem fl240 : fldsOf Try.prog 240 = some [(0, false, 1), (1, false, 1), (2, false, 1), (3, false, 1)] := by simp only [fldsOf, Try.underlying240, List.mapM_cons, List.mapM_nil, sz3]; rfl
@[push_cast] theorem sz242 : szOf Try.prog 242 = some (false, 1) := by simp only [szOf, Try.underlying242, info_of Try.type242]; rfl
@[push_cast] theorem ze242 : zeroOf Try.prog 242 = some [Go.Value.slice none 0 0] := by simp only [zeroOf, info_of Try.type242]; rfl
@[push_cast] theorem el242 : elOf Try.prog 242 = some (284, 5, 40) := by simp only [elOf, Try.underlying242, info_of Try.type284]; rfl
@[push_cast] theorem kd242 : kdOf Try.prog 242 = .slice := by simp only [kdOf, Try.underlying242]
@[push_cast] theorem sz252 : szOf Try.prog 252 = some (false, 1) := by simp only [szOf, Try.underlying252, info_of Try.type252]; rfl
@[push_cast] theorem ze252 : zeroOf Try.prog 252 = some [Go.Value.pointer none] := by simp only [zeroOf, info_of Try.type252]; rfl
@[push_cast] theorem sz257 : szOf Try.prog 257 = some (true, 4) := by simp only [szOf, Try.underlying257, info_of Try.type257]; rfl
@[push_cast] theorem ze257 : zeroOf Try.prog 257 = some [Go.Value.int Go.IntKind.i64 0, Go.Value.int Go.IntKind.i64 0, Go.Value.int Go.IntKind.i64 0, Go.Value.int Go.IntKind.i64 0] := by simp only [zeroOf, info_of Try.type257]; rfl
@[push_cast] theorem fl257 : fldsOf Try.prog 257 = some [(0, false, 1), (1, false, 1), (2, false, 1), (3, false, 1)] := by simp only [fldsOf, Try.underlying257, List.mapM_cons, List.mapM_nil, sz3]; rfl
@[push_cast] theorem sz258 : szOf Try.prog 258 = some (true, 4) := by simp only [szOf, Try.underlying258, info_of Try.type258]; rfl
@[push_cast] theorem ze258 : zeroOf Try.prog 258 = some [Go.Value.int Go.IntKind.i64 0, Go.Value.int Go.IntKind.i64 0, Go.Value.int Go.IntKind.i64 0, Go.Value.int Go.IntKind.i64 0] := by simp only [zeroOf, info_of Try.type258]; rfl
@[push_cast] theorem fl258 : fldsOf Try.prog 258 = some [(0, false, 1), (1, false, 1), (2, false, 1), (3, false, 1)] := by simp only [fldsOf, Try.underlying258, List.mapM_cons, List.mapM_nil, sz3]; rfl
@[push_cast] theorem sz271 : szOf Try.prog 271 = some (true, 3) := by simp only [szOf, Try.underlying271, info_of Try.type271]; rfl
@[push_cast] theorem ze271 : zeroOf Try.prog 271 = some [Go.Value.int Go.IntKind.i64 0, Go.Value.int Go.IntKind.i64 0, Go.Value.int Go.IntKind.i64 0] := by simp only [zeroOf, info_of Try.type271]; rfl
@[push_cast] theorem fl271 : fldsOf Try.prog 271 = some [(0, false, 1), (1, false, 1), (2, false, 1)] := by simp only [fldsOf, Try.underlying271, List.mapM_cons, List.mapM_nil, sz3]; rfl
@[push_cast] theorem sz278 : szOf Try.prog 278 = some (true, 4) := by simp only [szOf, Try.underlying278, info_of Try.type278]; rfl
@[push_cast] theorem ze278 : zeroOf Try.prog 278 = some [Go.Value.int Go.IntKind.i64 0, Go.Value.int Go.IntKind.i64 0, Go.Value.int Go.IntKind.i64 0, Go.Value.int Go.IntKind.i64 0] := by simp only [zeroOf, info_of Try.type278]; rfl
@[push_cast] theorem fl278 : fldsOf Try.prog 278 = some [(0, false, 1), (1, false, 1), (2, false, 1), (3, false, 1)] := by simp only [fldsOf, Try.underlying278, List.mapM_cons, List.mapM_nil, sz3]; rfl
@[push_cast] theorem sz282 : szOf Try.prog 282 = some (false, 1) := by simp only [szOf, Try.underlying282, info_of Try.type282]; rfl
@[push_cast] theorem ze282 : zeroOf Try.prog 282 = some [Go.Value.int Go.IntKind.u64 0] := by simp only [zeroOf, info_of Try.type282]; rfl
@[push_cast] theorem ik282 : ikOf Try.prog 282 = some .u64 := by simp only [ikOf, Try.underlying282]
@[push_cast] theorem kd282 : kdOf Try.prog 282 = .other := by simp only [kdOf, Try.underlying282]
@[push_cast] theorem un282 : (Try.prog.underlying 282).isSome = true := by simp only [Try.underlying282, Option.isSome_some]
@[push_cast] theorem sz283 : szOf Try.prog 283 = some (true, 5) := by simp only [szOf, Try.underlying283, info_of Try.type283]; rfl
@[push_cast] theorem ze283 : zeroOf Try.prog 283 = some [Go.Value.int Go.IntKind.i64 0, Go.Value.int Go.IntKind.i64 0, Go.Value.int Go.IntKind.i64 0, Go.Value.int Go.IntKind.i64 0, Go.Value.int Go.IntKind.i64 0] := by simp only [zeroOf, info_of Try.type283]; rfl
@[push_cast] theorem fl283 : fldsOf Try.prog 283 = some [(0, false, 1), (1, false, 1), (2, false, 1), (3, false, 1), (4, false, 1)] := by simp only [fldsOf, Try.underlying283, List.mapM_cons, List.mapM_nil, sz3]; rfl
@[push_cast] theorem sz284 : szOf Try.prog 284 = some (true, 5) := by simp only [szOf, Try.underlying284, info_of Try.type284]; rfl
@[push_cast] theorem ze284 : zeroOf Try.prog 284 = some [Go.Value.int Go.IntKind.i64 0, Go.Value.int Go.IntKind.i64 0, Go.Value.int Go.IntKind.i64 0, Go.Value.int Go.IntKind.i64 0, Go.Value.int Go.IntKind.i64 0] := by simp only [zeroOf, info_of Try.type284]; rfl
@[push_cast] theorem fl284 : fldsOf Try.prog 284 = some [(0, false, 1), (1, false, 1), (2, false, 1), (3, false, 1), (4, false, 1)] := by simp only [fldsOf, Try.underlying284, List.mapM_cons, List.mapM_nil, sz3]; rfl
@[push_cast] theorem sz288 : szOf Try.prog 288 = some (false, 1) := by simp only [szOf, Try.underlying288, info_of Try.type288]; rfl
@[push_cast] theorem ze288 : zeroOf Try.prog 288 = some [Go.Value.slice none 0 0] := by simp only [zeroOf, info_of Try.type288]; rfl
@[push_cast] theorem el288 : elOf Try.prog 288 = some (9, 1, 16) := by simp only [elOf, Try.underlying288, info_of Try.type9]; rfl
@[push_cast] theorem kd288 : kdOf Try.prog 288 = .slice := by simp only [kdOf, Try.underlying288]
@[push_cast] theorem sz290 : szOf Try.prog 290 = some (true, 4) := by simp only [szOf, Try.underlying290, info_of Try.type290]; rfl
@[push_cast] theorem ze290 : zeroOf Try.prog 290 = some [Go.Value.pointer none, Go.Value.pointer none, Go.Value.pointer none, Go.Value.string { data := #[] }] := by simp only [zeroOf, info_of Try.type290]; rfl
@[push_cast] theorem fl290 : fldsOf Try.prog 290 = some [(0, false, 1), (1, false, 1), (2, false, 1), (3, false, 1)] := by simp only [fldsOf, Try.underlying290, List.mapM_cons, List.mapM_nil, sz9, sz17]; rfl
@[push_cast] theorem sz291 : szOf Try.prog 291 = some (true, 4) := by simp only [szOf, Try.underlying291, info_of Try.type291]; rfl
@[push_cast] theorem ze291 : zeroOf Try.prog 291 = some [Go.Value.pointer none, Go.Value.pointer none, Go.Value.pointer none, Go.Value.string { data := #[] }] := by simp only [zeroOf, info_of Try.type291]; rfl
@[push_cast] theorem fl291 : fldsOf Try.prog 291 = some [(0, false, 1), (1, false, 1), (2, false, 1), (3, false, 1)] := by simp only [fldsOf, Try.underlying291, List.mapM_cons, List.mapM_nil, sz9, sz17]; rfl
@[push_cast] theorem sz293 : szOf Try.prog 293 = some (true, 0) := by simp only [szOf, Try.underlying293, info_of Try.type293]; rfl
@[push_cast] theorem ze293 : zeroOf Try.prog 293 = some [] := by simp only [zeroOf, info_of Try.type293]; rfl
@[push_cast] theorem sz294 : szOf Try.prog 294 = some (true, 0) := by simp only [szOf, Try.underlying294, info_of Try.type294]; rfl
@[push_cast] theorem ze294 : zeroOf Try.prog 294 = some [] := by simp only [zeroOf, info_of Try.type294]; rfl
@[push_cast] theorem sz296 : szOf Try.prog 296 = some (false, 1) := by simp only [szOf, Try.underlying296, info_of Try.type296]; rfl
@[push_cast] theorem ze296 : zeroOf Try.prog 296 = some [Go.Value.int Go.IntKind.u32 0] := by simp only [zeroOf, info_of Try.type296]; rfl
@[push_cast] theorem ik296 : ikOf Try.prog 296 = some .u32 := by simp only [ikOf, Try.underlying296]
@[push_cast] theorem kd296 : kdOf Try.prog 296 = .other := by simp only [kdOf, Try.underlying296]
@[push_cast] theorem un296 : (Try.prog.underlying 296).isSome = true := by simp only [Try.underlying296, Option.isSome_some]
@[push_cast] theorem sz297 : szOf Try.prog 297 = some (false, 1) := by simp only [szOf, Try.underlying297, info_of Try.type297]; rfl
@[push_cast] theorem ze297 : zeroOf Try.prog 297 = some [Go.Value.int Go.IntKind.u8 0] := by simp only [zeroOf, info_of Try.type297]; rfl
@[push_cast] theorem ik297 : ikOf Try.prog 297 = some .u8 := by simp only [ikOf, Try.underlying297]
@[push_cast] theorem kd297 : kdOf Try.prog 297 = .other := by simp only [kdOf, Try.underlying297]
@[push_cast] theorem un297 : (Try.prog.underlying 297).isSome = true := by simp only [Try.underlying297, Option.isSome_some]
@[push_cast] theorem sz298 : szOf Try.prog 298 = some (false, 1) := by simp only [szOf, Try.underlying298, info_of Try.type298]; rfl
@[push_cast] theorem ze298 : zeroOf Try.prog 298 = some [Go.Value.int Go.IntKind.u8 0] := by simp only [zeroOf, info_of Try.type298]; rfl
@[push_cast] theorem ik298 : ikOf Try.prog 298 = some .u8 := by simp only [ikOf, Try.underlying298]
@[push_cast] theorem kd298 : kdOf Try.prog 298 = .other := by simp only [kdOf, Try.underlying298]
@[push_cast] theorem un298 : (Try.prog.underlying 298).isSome = true := by simp only [Try.underlying298, Option.isSome_some]
@[push_cast] theorem sz300 : szOf Try.prog 300 = some (false, 1) := by simp only [szOf, Try.underlying300, info_of Try.type300]; rfl
@[push_cast] theorem ze300 : zeroOf Try.prog 300 = some [Go.Value.pointer none] := by simp only [zeroOf, info_of Try.type300]; rfl
@[push_cast] theorem sz301 : szOf Try.prog 301 = some (false, 1) := by simp only [szOf, Try.underlying301, info_of Try.type301]; rfl
@[push_cast] theorem ze301 : zeroOf Try.prog 301 = some [Go.Value.int Go.IntKind.i32 0] := by simp only [zeroOf, info_of Try.type301]; rfl
@[push_cast] theorem ik301 : ikOf Try.prog 301 = some .i32 := by simp only [ikOf, Try.underlying301]
@[push_cast] theorem kd301 : kdOf Try.prog 301 = .other := by simp only [kdOf, Try.underlying301]
@[push_cast] theorem un301 : (Try.prog.underlying 301).isSome = true := by simp only [Try.underlying301, Option.isSome_some]
@[push_cast] theorem sz302 : szOf Try.prog 302 = some (false, 1) := by simp only [szOf, Try.underlying302, info_of Try.type302]; rfl
@[push_cast] theorem ze302 : zeroOf Try.prog 302 = some [Go.Value.int Go.IntKind.i32 0] := by simp only [zeroOf, info_of Try.type302]; rfl
@[push_cast] theorem ik302 : ikOf Try.prog 302 = some .i32 := by simp only [ikOf, Try.underlying302]
@[push_cast] theorem kd302 : kdOf Try.prog 302 = .other := by simp only [kdOf, Try.underlying302]
@[push_cast] theorem un302 : (Try.prog.underlying 302).isSome = true := by simp only [Try.underlying302, Option.isSome_some]
@[push_cast] theorem sz303 : szOf Try.prog 303 = some (true, 11) := by simp only [szOf, Try.underlying303, info_of Try.type303]; rfl
@[push_cast] theorem ze303 : zeroOf Try.prog 303 = some [Go.Value.int Go.IntKind.u64 0, Go.Value.int Go.IntKind.u64 0, Go.Value.int Go.IntKind.u32 0, Go.Value.int Go.IntKind.u8 0, Go.Value.int Go.IntKind.u8 0, Go.Value.int Go.IntKind.u8 0, Go.Value.int Go.IntKind.u8 0, Go.Value.nilFunc, Go.Value.pointer none, Go.Value.int Go.IntKind.i32 0, Go.Value.int Go.IntKind.i32 0] := by simp only [zeroOf, info_of Try.type303]; rfl
@[push_cast] theorem sz304 : szOf Try.prog 304 = some (true, 11) := by simp only [szOf, Try.underlying304, info_of Try.type304]; rfl
@[push_cast] theorem ze304 : zeroOf Try.prog 304 = some [Go.Value.int Go.IntKind.u64 0, Go.Value.int Go.IntKind.u64 0, Go.Value.int Go.IntKind.u32 0, Go.Value.int Go.IntKind.u8 0, Go.Value.int Go.IntKind.u8 0, Go.Value.int Go.IntKind.u8 0, Go.Value.int Go.IntKind.u8 0, Go.Value.nilFunc, Go.Value.pointer none, Go.Value.int Go.IntKind.i32 0, Go.Value.int Go.IntKind.i32 0] := by simp only [zeroOf, info_of Try.type304]; rfl
end Go.V
/- The value-level machine, part 33: functions that write into what is handed to them. -/
namespace Go.V
open Go Go.RowKit

inductive MatK (σ : St) : PC → Cell → List Nat → Prop where
  | int (k : IntKind) (n : Int) : MatK σ (.int k n) (.int k n) []
  | bool (b : Bool) : MatK σ (.bool b) (.bool b) []
  | str (s : List UInt8) : MatK σ (.str s) (.str s) []
  | lst (xs : List (List Cell)) : MatK σ (.lst xs) (.sl none xs) []
  | own (t : Nat) (e : TypeId) (sz : Nat) (ys : List (List Cell)) (h : σ.o t = .row e sz ys) (ht : t < σ.next) : MatK σ (.own t) (.sl (some (e, sz)) ys) [t]
inductive MatKs (σ : St) : List PC → List Cell → List Nat → Prop where
  | nil : MatKs σ [] [] []
  | cons {x : PC} {c : Cell} {ts : List Nat} {xs : List PC} {cs : List Cell} {us : List Nat} (h : MatK σ x c ts) (hs : MatKs σ xs cs us) : MatKs σ (x :: xs) (c :: cs) (ts ++ us)
inductive MatKR (σ : St) (T : List Nat) : P1 → RT → List Nat → Prop where
  | c {x : PC} {c : Cell} {ts : List Nat} (h : MatK σ x c ts) : MatKR σ T (.c x) (.c c) ts
  | a {xs : List PC} {cs : List Cell} {ts : List Nat} (h : MatKs σ xs cs ts) : MatKR σ T (.a xs) (.a cs) ts
  | p (t : Nat) {xs : List PC} {cs : List Cell} {us : List Nat} (ht : t < σ.next) (h : σ.o t = .box xs) (hs : MatCs σ T xs cs us) : MatKR σ T (.c (.ptr t 0)) (.p cs) (t :: us)
inductive MatKRs (σ : St) (T : List Nat) : List P1 → List RT → List Nat → Prop where
  | nil : MatKRs σ T [] [] []
  | cons {x : P1} {r : RT} {ts : List Nat} {xs : List P1} {rs : List RT} {us : List Nat} (h : MatKR σ T x r ts) (hs : MatKRs σ T xs rs us) : MatKRs σ T (x :: xs) (r :: rs) (ts ++ us)

def FinM (P : Program) (rvs : List ResultVar) (ini : List P1) (post res : List RT) (σ : St) : Prop :=
  ∃ pvs T U, rvs.mapM (resv P σ) = some pvs ∧ MatRs σ (T ++ U) pvs res T ∧ MatKRs σ (T ++ U) ini post U ∧ (T ++ U).Nodup

def slotsM : Nat → List P1 → List (Nat × PV)
  | _, [] => []
  | i, x :: l => (i, .v x) :: slotsM (i + 1) l

section
variable {P : Program} {w0 w w1 : World} {F : Own} {A : Nat → Prop} {σ : St} {H H0 : Nat → Value} {φ : Nat → List Nat} {S S0 S2 : Nat → Prop} {T : List Nat} {k : Nat} {tmps : Nat → Value}

theorem matK_rep (hF : Facts w0 F A σ tmps w H φ S) (hag : Agree S0 w0 w) (hS : ∀ b, S b → S2 b) (hS0 : ∀ b, S0 b → S2 b) {x : PC} {c : Cell} {ts : List Nat} (h : MatK σ x c ts) {v : Value} (hv : RelC w0 S0 F.root x v) : RepO w S2 c v (ts.flatMap φ) := by
  cases h with
  | int k n => cases hv; exact .int k n
  | bool b => cases hv; exact .bool b
  | str s => cases hv; exact .str s
  | lst xs => exact .ro xs v (RepR.mono hv hag hS0)
  | own t e sz ys h ht =>
    obtain ⟨e1, _⟩ := hv
    obtain ⟨_, hO, _⟩ := row_at hF h
    rw [e1, ← (hF.anchor t ht).2]
    simpa using hO.mono (S' := S2) (fun _ _ => rfl) (fun _ _ => rfl) hS
theorem matKs_rep (hF : Facts w0 F A σ tmps w H φ S) (hag : Agree S0 w0 w) (hS : ∀ b, S b → S2 b) (hS0 : ∀ b, S0 b → S2 b) : ∀ {xs : List PC} {cs : List Cell} {ts : List Nat} {vs : List Value}, MatKs σ xs cs ts → Rels (RelC w0 S0 F.root) xs vs → RepOs w S2 cs vs (ts.flatMap φ)
  | _, _, _, _, .nil, .nil => .nil
  | _, _, _, _, .cons h hs, .cons hv hvs => by
    rw [List.flatMap_append]
    exact .cons _ _ _ _ _ _ (matK_rep hF hag hS hS0 h hv) (matKs_rep hF hag hS hS0 hs hvs)
theorem matKR_rep (hF : Facts w0 F A σ tmps w H φ S) (hag : Agree S0 w0 w) (hS : ∀ b, outS S φ T b → S2 b) (hS0 : ∀ b, S0 b → S2 b) {x : P1} {r : RT} {ts : List Nat} (h : MatKR σ T x r ts) {v : Value} (hv : RelP w0 S0 F.root x v) : RTRep w S2 r v (ts.flatMap φ) := by
  cases h with
  | c h => exact matK_rep hF hag (fun b hb => hS b (.inl hb)) hS0 h hv
  | a h => obtain ⟨vs, e, hv⟩ := hv; exact ⟨vs, e, matKs_rep hF hag (fun b hb => hS b (.inl hb)) hS0 h hv⟩
  | p t ht h hs =>
    obtain ⟨g, h1, h2⟩ := hv
    obtain ⟨g', cur, e, a1, a2, a3, a4, a5⟩ := box_at hF h
    rw [(hF.anchor t ht).2, h1] at a2
    cases a2
    exact ⟨g, cur, e, _, h2, a4, (matCs_rep hF hs a5).mono (fun _ _ => rfl) (fun _ _ => rfl) hS, by simp [a3]⟩
theorem matKRs_rep (hF : Facts w0 F A σ tmps w H φ S) (hag : Agree S0 w0 w) (hS : ∀ b, outS S φ T b → S2 b) (hS0 : ∀ b, S0 b → S2 b) : ∀ {xs : List P1} {rs : List RT} {ts : List Nat} {vs : List Value}, MatKRs σ T xs rs ts → Rels (RelP w0 S0 F.root) xs vs → RTsRep w S2 rs vs (ts.flatMap φ)
  | _, _, _, _, .nil, .nil => .nil
  | _, _, _, _, .cons h hs, .cons hv hvs => by
    rw [List.flatMap_append]
    exact .cons (matKR_rep hF hag hS hS0 h hv) (matKRs_rep hF hag hS hS0 hs hvs)

theorem slotsM_rel {xs : List P1} {vs : List Value} (h : Rels (RelP w S H) xs vs) : ∀ (i : Nat), ∀ q ∈ slotsM i xs, ∃ j v, q.1 = i + j ∧ vs[j]? = some v ∧ RelV w S H q.2 v := by
  induction h with
  | nil => intro i q hq; simp [slotsM] at hq
  | @cons x y xs ys h hs ih =>
    intro i q hq
    simp only [slotsM, List.mem_cons] at hq
    rcases hq with rfl | hq
    · exact ⟨0, y, rfl, rfl, h⟩
    · obtain ⟨j, u, e, hj, hr⟩ := ih (i + 1) q hq
      exact ⟨j + 1, u, by omega, by simpa using hj, hr⟩

theorem RTsRep.length {w : World} {S : Nat → Prop} {rs : List RT} {vs : List Value} {fs : List Nat} (h : RTsRep w S rs vs fs) : vs.length = rs.length := by
  induction h with
  | nil => rfl
  | cons _ _ ih => simp [ih]

theorem unRs_length : ∀ (rs : List RT) (k : Nat), (unRs k rs).1.length = rs.length
  | [], _ => rfl
  | r :: rs, k => by simp [unRs, unRs_length rs]

theorem okM_of {f : FuncId} {fn : Func} {c : Code} {pre post res : List RT} {ars : List AR} {n : Nat} {rvs : List ResultVar} (hf : P.funcs[f]? = some fn) (hb : fn.body = some c) (hnn : fn.ntmps = n) (hrv : fn.results.toList = rvs) (hn : pre.length + ars.length ≤ n)
    (h : go P (fun _ σ => FinM P rvs (unRs 0 pre).1 post res σ) [.cd c] .normal (widths pre) ⟨n, look (slotsM 0 (unRs 0 pre).1 ++ slots pre.length ars), laid (unRs 0 pre).2 (fun _ => .gone), widths pre⟩) : OkM P f pre ars post res := by
  subst hnn; subst hrv
  intro w S us vs fp hpre hrel hnd hfpS hS
  refine calls_of_wp hf hb ?_
  obtain ⟨hs, ff, hsl, hfl, hlay⟩ := lay_rs (o := fun _ => Ob.gone) hpre 0 (fun _ _ => rfl)
  subst hfl
  have hul := hpre.length
  have hvl := hrel.length
  let root : Nat → Value := fun i => hs.getD i undef
  let F : Own := ⟨(· ∈ ff.flatten), fun b => S b ∨ b ∈ ff.flatten, fun b hb => .inr hb, root⟩
  have hroot : ∀ H' : Nat → Value, (∀ t, t < widths pre → H' t = root t) → ∀ j v, hs[j]? = some v → H' (0 + j) = v := fun H' hH' j v hj => by
    have hjl := lt_of_get hj
    rw [Nat.zero_add, hH' j (by omega)]
    show hs.getD j undef = v
    simp [List.getD, hj]
  let φ : Nat → List Nat := fun t => ff.getD t []
  have hφ : ∀ t b, b ∈ φ t → ∃ f, ff[t]? = some f ∧ b ∈ f := fun t b hb => by
    cases ht : ff[t]? with
    | none => simp [φ, List.getD, ht] at hb
    | some f => exact ⟨f, rfl, by simpa [φ, List.getD, ht] using hb⟩
  have hini := (hlay.rel root (hroot root fun _ _ => rfl)).1
  have hk : Known' w F (widths pre) ⟨fn.ntmps, look (slotsM 0 (unRs 0 pre).1 ++ slots pre.length ars), laid (unRs 0 pre).2 (fun _ => .gone), widths pre⟩ { tmps := (us ++ vs).toArray ++ Array.replicate (fn.ntmps - (us ++ vs).toArray.size) undef, defers := [] } w := by
    refine ⟨fun t => t < widths pre, ⟨⟨root, φ, S, ?_⟩, ?_, rfl⟩, fun t h1 h2 => by omega⟩
    · refine ⟨fun H' hH' => ⟨fun i => ?_, fun t => ?_⟩, fun t ht => ?_, fun t b hb => ?_, fun t => ?_, hS, Keeps.refl _ _, fun b hb => .inr (.inl hb), fun i e => ⟨e, rfl⟩⟩
      · refine look_cases (p := fun x => RelV w S H' x _) trivial fun q hq e => ?_
        rcases List.mem_append.1 hq with hq | hq
        · obtain ⟨j, v, e1, e2, e3⟩ := slotsM_rel (hlay.rel H' (hroot H' hH')).1 0 q hq
          have : i = j := by omega
          subst this
          rw [frame_at (us ++ vs) _ (by rw [List.getElem?_append_left (lt_of_get e2)]; exact e2)]
          exact e3
        · obtain ⟨j, v, e1, e2, e3⟩ := slots_rel hrel pre.length q hq
          have : i = us.length + j := by omega
          subst this
          rw [frame_at (us ++ vs) _ (by rw [List.getElem?_append_right (by omega), show us.length + j - us.length = j by omega]; exact e2)]
          exact e3 H'
      · by_cases ht : t < widths pre
        · have h1 : t < hs.length := by omega
          have h2 : t < ff.length := by rw [hlay.len]; omega
          have := (hlay.rel H' (hroot H' hH')).2 t ff[t] hs[t] (by simp [h2]) (by simp [h1])
          rw [Nat.zero_add] at this
          have e1 : φ t = ff[t] := by simp [φ, List.getD, h2]
          have e2 : H' t = hs[t] := by rw [hH' t ht]; simp [root, List.getD, h1]
          rw [e1, e2]; exact this
        · show RelO w S H' (laid (unRs 0 pre).2 (fun _ => .gone) t) (φ t) (H' t)
          rw [laid_other _ _ fun p hp => by have := unRs_keys pre 0 p hp; omega]
          show φ t = []
          have : ff.length ≤ t := by rw [hlay.len]; omega
          simp [φ, List.getD, List.getElem?_eq_none this]
      · show laid (unRs 0 pre).2 (fun _ => .gone) t = .gone
        rw [laid_other _ _ fun p hp => by have := unRs_keys pre 0 p hp; intro e; subst e; exact ht (by omega)]
      · obtain ⟨f, h1, h2⟩ := hφ t b hb
        have hm := flat_get h1 h2
        refine ⟨(hfpS b hm).1, (hfpS b hm).2, .inr hm, fun t' hb' => ?_⟩
        obtain ⟨f', h1', h2'⟩ := hφ t' b hb'
        exact (flat_one hnd h1 h1' h2 h2').symm
      · cases ht : ff[t]? with
        | none => simp [φ, List.getD, ht]
        | some f => simpa [φ, List.getD, ht] using flat_nd hnd ht
    · simp; omega
  refine Code.wp_mono (fun e a' w' ⟨k', σ', ⟨A', ⟨⟨H, φ', S', hF⟩, _, hdef⟩, _⟩, hg⟩ => ?_) (h w F _ w hk)
  have hfin : FinM P fn.results.toList (unRs 0 pre).1 post res σ' → a'.defers = [] ∧ ∃ v, (results fn a'.tmps).run P w' = .ok v w' ∧ ∃ rv fr S' fp', Ending.returned v = .returned (resVal rv) ∧ Keeps (· ∈ ff.flatten) w w' ∧ RTsRep w' S' res rv fr ∧ RTsRep w' S' post us fp' ∧ (fr ++ fp').Nodup ∧
      (∀ b ∈ fr ++ fp', (b ∈ ff.flatten ∨ w.heap.size ≤ b) ∧ b < w'.heap.size ∧ ¬ S' b) ∧ ∀ b, S' b → b < w'.heap.size ∧ (w.heap.size ≤ b ∨ S b ∨ b ∈ ff.flatten) := by
    rintro ⟨pvs, T, U, h1, h2, h3, h4⟩
    obtain ⟨rv, h5, h6⟩ := results_run hF h1
    have hag : Agree S w w' := hF.keeps.agree fun b hb => ⟨hS b hb, fun hm => (hfpS b hm).1 hb⟩
    let S2 : Nat → Prop := fun b => outS S' φ' (T ++ U) b ∨ S b
    have hr1 := matRs_rep hF h2 h6
    have hr1' : RTsRep w' S2 res rv (T.flatMap φ') := hr1.more fun b hb => .inl hb
    have hr2 : RTsRep w' S2 post us (U.flatMap φ') := matKRs_rep (T := T ++ U) (S2 := S2) hF hag (fun b hb => Or.inl hb) (fun b hb => Or.inr hb) h3 hini
    refine ⟨hdef, _, h5, rv, T.flatMap φ', S2, U.flatMap φ', rfl, hF.keeps, hr1', hr2, by rw [← List.flatMap_append]; exact flat_nodup hF h4, fun b hb => ?_, fun b hb => ?_⟩
    · rw [← List.flatMap_append] at hb
      obtain ⟨b1, b2, b3⟩ := out_apart hF hb
      refine ⟨b3.symm, b1, ?_⟩
      rintro (h | h)
      · exact b2 h
      · rcases b3 with b3 | b3
        · have := hS b h; omega
        · exact (hfpS b b3).1 h
    · rcases hb with hb | hb
      · obtain ⟨b1, b2⟩ := out_size hF hb
        exact ⟨b1, b2⟩
      · exact ⟨Nat.lt_of_lt_of_le (hS b hb) hF.keeps.size, .inr (.inl hb)⟩
  cases e with
  | normal => exact hfin hg
  | ret => exact hfin hg
  | exit id => exact hg
  | goto l => exact hg
  | panic ch => exact hg.elim
  | outgrown => exact hg.elim

/-- A function whose first argument is a pointer to a struct that it may turn. -/
theorem okP_of {f : FuncId} {pre : List Cell} {ars : List AR} {post : List Cell} {res : List RT} (h : OkM P f [.p pre] ars [.p post] res) : OkP P f pre ars post res := by
  intro w S vs g cur e fps hrel hg hpre hnd hfp hS
  have h1 : RTsRep w S [.p pre] [.pointer (some ⟨g, 0, none⟩)] ((g :: fps) ++ []) := .cons ⟨g, cur, e, fps, rfl, hg, hpre, rfl⟩ .nil
  rw [List.append_nil] at h1
  have hc := h w S [.pointer (some ⟨g, 0, none⟩)] vs (g :: fps) h1 hrel hnd hfp hS
  rw [List.singleton_append] at hc
  refine Calls.mono hc fun en w' ⟨rv, fr, S', fp', h2, h3, h4, h5, h6, h7, h8⟩ => ?_
  cases h5 with
  | cons h5 h5' =>
    cases h5'
    obtain ⟨g', cur', e', fps', e1, e2, e3, rfl⟩ := h5
    cases e1
    rw [List.append_nil] at h6 h7
    exact ⟨rv, fr, S', cur', e', fps', h2, h3, h4, e2, e3, h6, h7, h8⟩

end
end Go.V
/- The value-level machine, part 35: small rules for generated proofs. -/
namespace Go.V
open Go Go.RowKit
section
variable {α : Type} {b : Bool} {x y : α}
theorem bif_t (h : b = true) : (if b = true then x else y) = x := if_pos h
theorem bif_f (h : b = false) : (if b = true then x else y) = y := if_neg (by rw [h]; decide)
theorem rd_lt [Inhabited α] {xs : List α} {i : Int} (h : 0 ≤ i ∧ i < (xs.length : Int)) : i.toNat < xs.length := by omega
def unb (xs : List Int) : List UInt8 := xs.map fun n => UInt8.ofNat n.toNat
end
section
variable {k k' k'' : Nat} {σ τ υ : St}
theorem Wk.trans (h : Wk k σ k' τ) (h' : Wk k' τ k'' υ) : Wk k σ k'' υ := fun w0 F a w hk => h' w0 F a w (h w0 F a w hk)
end
section
variable {σ : St} {olds : List (Option Nat)} {T : List Nat}
theorem sc_rptr {m n : List Cell} (h : m = n) : SubC σ olds (.rptr m) (.rptr n) := by subst h; exact .rptr _
theorem sc_gave {x : PC} {xs ys : List (List Cell)} (h : σ.rows x = some ys) (hn : ∀ t ∈ x.toks, some t ∉ olds) (e : ys = xs) : SubC σ olds x (.lst xs) := by subst e; exact .gave _ _ h hn
theorem sc_nilst {xs : List (List Cell)} (e : [] = xs) : SubC σ olds .nil (.lst xs) := by subst e; exact .gave _ _ rfl (by simp [PC.toks])
theorem so_row {t : Nat} {e : TypeId} {sz : Nat} {xs ys : List (List Cell)} (h : σ.o t = .row e sz ys) (hx : ys = xs) : SubO σ olds (some t) (.row e sz xs) := by subst hx; exact .row _ _ _ _ h
theorem so_frz {t : Nat} {xs ys : List (List Cell)} (h : σ.o t = .frz ys) (hx : ys = xs) : SubO σ olds (some t) (.frz xs) := by subst hx; exact .frz _ _ h
theorem mc_own {t : Nat} {e : TypeId} {sz : Nat} {xs ys : List (List Cell)} (h : σ.o t = .row e sz ys) (hx : ys = xs) : MatC σ T (.own t) (.sl (some (e, sz)) xs) [t] := by subst hx; exact .own _ _ _ _ h
theorem mc_lst {xs ys : List (List Cell)} (hx : ys = xs) : MatC σ T (.lst ys) (.sl none xs) [] := by subst hx; exact .lst _
theorem mc_gave {x : PC} {xs ys : List (List Cell)} (h : σ.rows x = some ys) (hn : ∀ t ∈ x.toks, t ∉ T) (hx : ys = xs) : MatC σ T x (.sl none xs) [] := by subst hx; exact .gave _ _ h hn
theorem mk_own {t : Nat} {e : TypeId} {sz : Nat} {xs ys : List (List Cell)} (h : σ.o t = .row e sz ys) (hx : ys = xs) (ht : t < σ.next) : MatK σ (.own t) (.sl (some (e, sz)) xs) [t] := by subst hx; exact .own _ _ _ _ h ht
end
@[push_cast] theorem take_map {α β : Type} (f : α → β) (xs : List α) (n : Nat) : (xs.map f).take n = (xs.take n).map f := List.map_take.symm
@[push_cast] theorem drop_map {α β : Type} (f : α → β) (xs : List α) (n : Nat) : (xs.map f).drop n = (xs.drop n).map f := List.map_drop.symm
attribute [push_cast] nums List.getElem?_map List.length_map List.length_cons List.length_nil unC unCs unR unRs resPV frzs Ob.fz RT.width
  St.snap St.snapC List.mapM_cons List.mapM_nil List.flatMap_cons List.flatMap_nil List.append_assoc
end Go.V
namespace Go.V
open Go Go.RowKit
attribute [push_cast] ne_eq not_false_eq_true List.take_succ_cons List.take_zero List.take_nil List.drop_succ_cons List.drop_zero List.drop_nil List.forall_mem_cons List.all_cons List.all_nil Bool.and_true Bool.true_and Bool.and_self
theorem okM_of2 {P : Program} {f : FuncId} {fn : Func} {c : Code} {pre post res : List RT} {ars : List AR} {n : Nat} {rvs : List ResultVar} (hf : P.funcs[f]? = some fn) (hb : fn.body = some c) (hnn : fn.ntmps = n) (hrv : fn.results.toList = rvs) (hn : pre.length + ars.length ≤ n)
    (h : go P (fun _ σ => FinM P rvs (unRs 0 pre).1 post res σ) [.cd c] .normal (widths pre) (mk n (widths pre) (slotsM 0 (unRs 0 pre).1 ++ slots pre.length ars) (putsO [] (unRs 0 pre).2))) : OkM P f pre ars post res := by
  refine okM_of hf hb hnn hrv hn ?_
  have e : (⟨n, look (slotsM 0 (unRs 0 pre).1 ++ slots pre.length ars), laid (unRs 0 pre).2 (fun _ => .gone), widths pre⟩ : St) = mk n (widths pre) (slotsM 0 (unRs 0 pre).1 ++ slots pre.length ars) (putsO [] (unRs 0 pre).2) := by
    unfold mk
    rw [lookO_puts]
    rfl
  rw [e]
  exact h
end Go.V
namespace Go.V
open Go Go.RowKit
theorem anch {n r : Nat} {olds : List (Option Nat)} (h : r ≤ n) (ho : (List.range r).all (fun i => olds[i]? == some (some i)) = true) : ∀ i, i < r → i < n ∧ olds[i]? = some (some i) := fun i hi =>
  ⟨Nat.lt_of_lt_of_le hi h, by simpa using List.all_eq_true.1 ho i (List.mem_range.2 hi)⟩
@[push_cast] theorem nil_mem_imp {α : Type} (p : α → Prop) : (∀ x, x ∈ ([] : List α) → p x) = True := by simp
end Go.V
namespace Go.V
open Go Go.RowKit
/-- Is the guard met, for sure? Is it not? -/
def St.on (σ : St) (ops : Array Oper) (j : Nat) (want : Bool) : Bool :=
  match (ops[j]?).bind (·.dst) with
  | some d => decide (d < σ.n) && match σ.t d with
    | .v (.c (.bool b)) => b == want
    | _ => false
  | none => false
def St.off (σ : St) (ops : Array Oper) (j : Nat) (want : Bool) : Bool :=
  match (ops[j]?).bind (·.dst) with
  | some d => decide (d < σ.n) && match σ.t d with
    | .v (.c (.bool b)) => b == !want
    | .t [] => true
    | _ => false
  | none => false
section
variable {P : Program} {k b i n r : Nat} {ops : Array Oper} {K : Nat → St → Prop} {KD : List Info → St → Prop} {σ : St} {ds : List Info} {ts : List (Nat × PV)} {os : List (Nat × Ob)}
def on' (n : Nat) (d : Option Nat) (ts : List (Nat × PV)) (want : Bool) : Bool :=
  match d with
  | some d => decide (d < n) && match look ts d with
    | .v (.c (.bool b)) => b == want
    | _ => false
  | none => false
def off' (n : Nat) (d : Option Nat) (ts : List (Nat × PV)) (want : Bool) : Bool :=
  match d with
  | some d => decide (d < n) && match look ts d with
    | .v (.c (.bool b)) => b == !want
    | .t [] => true
    | _ => false
  | none => false
theorem on_mk {l : List Oper} {j : Nat} {want : Bool} : (mk n r ts os).on l.toArray j want = on' n ((l[j]?).bind (·.dst)) ts want := by
  unfold St.on
  simp only [List.getElem?_toArray]
  rfl
theorem off_mk {l : List Oper} {j : Nat} {want : Bool} : (mk n r ts os).off l.toArray j want = off' n ((l[j]?).bind (·.dst)) ts want := by
  unfold St.off
  simp only [List.getElem?_toArray]
  rfl
theorem on_flag {j : Nat} {want : Bool} (h : σ.on ops j want = true) : ∃ e, σ.flag ops j want = some (e, want) ∧ e < σ.n ∧ σ.lit e want = σ := by
  unfold St.on at h
  split at h
  · rename_i d hd
    simp only [Bool.and_eq_true, decide_eq_true_eq] at h
    obtain ⟨h1, h2⟩ := h
    split at h2
    · rename_i b hb
      have : b = want := by simpa using h2
      subst this
      refine ⟨d, ?_, h1, lit_same (.inl hb)⟩
      unfold St.flag
      rw [hd]
      simp only [hb]
    · cases h2
  · cases h
theorem off_flag {j : Nat} {want : Bool} (h : σ.off ops j want = true) : ∃ e, σ.flag ops j want = some (e, !want) ∧ e < σ.n ∧ σ.lit e (!want) = σ := by
  unfold St.off at h
  split at h
  · rename_i d hd
    simp only [Bool.and_eq_true, decide_eq_true_eq] at h
    obtain ⟨h1, h2⟩ := h
    split at h2
    · rename_i b hb
      have : b = !want := by simpa using h2
      subst this
      refine ⟨d, ?_, h1, lit_same (.inl hb)⟩
      unfold St.flag
      rw [hd]
      simp only [hb]
    · rename_i hb
      refine ⟨d, ?_, h1, lit_same (.inr hb)⟩
      unfold St.flag
      rw [hd]
      simp only [hb]
    · cases h2
  · cases h
@[push_cast] theorem vops_yes {d : Option Tmp} {op : Op} {ty : TypeId} {pos : String} {after : Array Edge} {j : Nat} {want : Bool} {rest : List Oper} (h : σ.on ops j want = true) :
    vops P ops (⟨d, op, ty, pos, after, some (j, want)⟩ :: rest) k σ K = vops P ops (⟨d, op, ty, pos, after, none⟩ :: rest) k σ K := by
  obtain ⟨e, h1, h2, h3⟩ := on_flag h
  simp only [vops, vop]
  refine congrArg _ (propext ⟨?_, fun hx => ?_⟩)
  · rintro ⟨e', g, hf, _, hx, _⟩
    rw [h1] at hf; cases hf
    have := hx rfl
    rwa [h3] at this
  · refine ⟨e, want, h1, h2, ?_, ?_⟩
    · intro _; rw [h3]; exact hx
    · intro hb; cases want <;> cases hb
@[push_cast] theorem vops_no {d : Option Tmp} {op : Op} {ty : TypeId} {pos : String} {after : Array Edge} {j : Nat} {want : Bool} {rest : List Oper} (h : σ.off ops j want = true) :
    vops P ops (⟨d, op, ty, pos, after, some (j, want)⟩ :: rest) k σ K = ((∀ e, d = some e → e < σ.n) ∧ vops P ops rest (k + 32) (σ.with d ⟨.t [], [], []⟩) K) := by
  obtain ⟨e, h1, h2, h3⟩ := off_flag h
  simp only [vops, vop]
  refine congrArg _ (propext ⟨?_, fun hx => ?_⟩)
  · rintro ⟨e', g, hf, _, _, hx⟩
    rw [h1] at hf; cases hf
    have := hx rfl
    rwa [h3] at this
  · refine ⟨e, !want, h1, h2, ?_, ?_⟩
    · intro hb; cases want <;> cases hb
    · intro _; rw [h3]; exact hx
theorem vops_if {d : Option Tmp} {op : Op} {ty : TypeId} {pos : String} {after : Array Edge} {j : Nat} {want : Bool} {rest : List Oper} {e : Nat} {g : Bool} (hf : σ.flag ops j want = some (e, g)) (he : e < σ.n) (hd : ∀ x, d = some x → x < σ.n)
    (h1 : g = want → vops P ops (⟨d, op, ty, pos, after, none⟩ :: rest) k (σ.lit e want) K) (h2 : g = !want → vops P ops rest (k + 32) ((σ.lit e (!want)).with d ⟨.t [], [], []⟩) K) :
    vops P ops (⟨d, op, ty, pos, after, some (j, want)⟩ :: rest) k σ K :=
  ⟨hd, e, g, hf, he, fun hb => (h1 hb).2, h2⟩
@[push_cast] theorem vopsD_yes {d : Option Tmp} {op : Op} {ty : TypeId} {pos : String} {after : Array Edge} {j : Nat} {want : Bool} {rest : List Oper} (h : σ.on ops j want = true) :
    vopsD P ops b (⟨d, op, ty, pos, after, some (j, want)⟩ :: rest) i σ ds KD = vopsD P ops b (⟨d, op, ty, pos, after, none⟩ :: rest) i σ ds KD := by
  obtain ⟨e, h1, h2, h3⟩ := on_flag h
  simp only [vopsD]
  refine congrArg _ (propext ⟨?_, fun hx => ?_⟩)
  · rintro ⟨e', g, hf, _, hx, _⟩
    rw [h1] at hf; cases hf
    have := hx rfl
    rwa [h3] at this
  · refine ⟨e, want, h1, h2, ?_, ?_⟩
    · intro _; rw [h3]; exact hx
    · intro hb; cases want <;> cases hb
@[push_cast] theorem vopsD_no {d : Option Tmp} {op : Op} {ty : TypeId} {pos : String} {after : Array Edge} {j : Nat} {want : Bool} {rest : List Oper} (h : σ.off ops j want = true) :
    vopsD P ops b (⟨d, op, ty, pos, after, some (j, want)⟩ :: rest) i σ ds KD = ((∀ e, d = some e → e < σ.n) ∧ vopsD P ops b rest (i + 1) (σ.with d ⟨.t [], [], []⟩) ((i, [], []) :: ds) KD) := by
  obtain ⟨e, h1, h2, h3⟩ := off_flag h
  simp only [vopsD]
  refine congrArg _ (propext ⟨?_, fun hx => ?_⟩)
  · rintro ⟨e', g, hf, _, _, hx⟩
    rw [h1] at hf; cases hf
    have := hx rfl
    rwa [h3] at this
  · refine ⟨e, !want, h1, h2, ?_, ?_⟩
    · intro hb; cases want <;> cases hb
    · intro _; rw [h3]; exact hx
theorem vopsD_if {d : Option Tmp} {op : Op} {ty : TypeId} {pos : String} {after : Array Edge} {j : Nat} {want : Bool} {rest : List Oper} {e : Nat} {g : Bool} (hf : σ.flag ops j want = some (e, g)) (he : e < σ.n) (hd : ∀ x, d = some x → x < σ.n)
    (h1 : g = want → vopsD P ops b (⟨d, op, ty, pos, after, none⟩ :: rest) i (σ.lit e want) ds KD) (h2 : g = !want → vopsD P ops b rest (i + 1) ((σ.lit e (!want)).with d ⟨.t [], [], []⟩) ((i, [], []) :: ds) KD) :
    vopsD P ops b (⟨d, op, ty, pos, after, some (j, want)⟩ :: rest) i σ ds KD :=
  ⟨hd, e, g, hf, he, fun hb => (h1 hb).2, h2⟩
@[push_cast] theorem beq_tt : (true == true) = true := rfl
@[push_cast] theorem beq_tf : (true == false) = false := rfl
@[push_cast] theorem beq_ft : (false == true) = false := rfl
@[push_cast] theorem beq_ff : (false == false) = true := rfl
@[push_cast] theorem decide_tt (h : Decidable True) : @decide True h = true := by simp
attribute [push_cast] on_mk off_mk on' off' Bool.not_true Bool.not_false Bool.and_true Bool.true_and
end
end Go.V
namespace Go.V
open Go Go.RowKit
section
variable {P : Program} {k b i : Nat} {ops : Array Oper} {K : Nat → St → Prop} {KD : List Info → St → Prop} {σ : St} {ds : List Info}
theorem vopsD_does {op : Op} {E : Eff} (hE : Does P (b + 32 * i) σ op E) {d : Option Tmp} {ty : TypeId} {pos : String} {after : Array Edge} {rest : List Oper} (hd : ∀ e, d = some e → e < σ.n)
    (h : vopsD P ops b rest (i + 1) (σ.with d E) ((i, feet σ op, E.upd.map (·.1)) :: ds) KD) : vopsD P ops b (⟨d, op, ty, pos, after, none⟩ :: rest) i σ ds KD := ⟨hd, E, hE, h⟩
theorem vopsD_callM {f : FuncId} {pre post res : List RT} {ars : List AR} (hok : OkM P f pre ars post res) (os args : List Operand) {u : List Nat} {nr : List (Nat × Ob)} {d : Option Tmp} {xs : Array Operand} {tys : Array TypeId} {ty : TypeId} {pos : String} {after : Array Edge} {rest : List Oper}
    (hxs : xs = (os ++ args).toArray) (hf : callable P f = true) (hd : ∀ e, d = some e → e < σ.n) (hputs : σ.mputs (os.map σ.ev) = some (pre, u)) (hnd : u.Nodup) (hdis : ∀ t ∈ u, t ∉ args.flatMap fun x => (σ.ev x).toks)
    (hars : args.mapM (fun x => σ.snap (σ.ev x)) = some ars) (hw : widths res ≤ 32) (hnr : renewRs (os.map σ.ev) post = some nr) (hkeys : nr.map (·.1) = u)
    (h : vopsD P ops b rest (i + 1) (σ.with d ⟨resPV (unRs (b + 32 * i) res).1, frzs σ (args.flatMap fun x => (σ.ev x).toks) ++ (unRs (b + 32 * i) res).2 ++ nr, u ++ args.flatMap fun x => (σ.ev x).toks⟩)
      ((i, feet σ (.call ⟨.value (.func f), xs, tys⟩), (frzs σ (args.flatMap fun x => (σ.ev x).toks) ++ (unRs (b + 32 * i) res).2 ++ nr).map (·.1)) :: ds) KD) :
    vopsD P ops b (⟨d, .call ⟨.value (.func f), xs, tys⟩, ty, pos, after, none⟩ :: rest) i σ ds KD := by
  subst hxs
  exact ⟨hd, _, .inr (.inr (.inr ⟨f, os, args, tys, pre, u, ars, post, res, nr, rfl, hf, hok, hputs, hnd, hdis, hars, hw, hnr, hkeys, rfl⟩)), h⟩
theorem vops_callP {f : FuncId} {pre post : List Cell} {res : List RT} {ars : List AR} (hok : OkP P f pre ars post res) (x0 : Operand) (args : List Operand) {t : Nat} {cs : List PC} {u : List Nat} {d : Option Tmp} {xs : Array Operand} {tys : Array TypeId} {ty : TypeId} {pos : String} {after : Array Edge} {rest : List Oper}
    (hxs : xs = (x0 :: args).toArray) (hf : callable P f = true) (hd : ∀ e, d = some e → e < σ.n) (hx0 : σ.ev x0 = .c (.ptr t 0)) (hbox : σ.o t = .box cs) (hputs : σ.puts cs = some (pre, u)) (hnd : u.Nodup) (hdis : ∀ t ∈ u, t ∉ args.flatMap fun x => (σ.ev x).toks)
    (hars : args.mapM (fun x => σ.snap (σ.ev x)) = some ars) (hw : widths res + post.length ≤ 32)
    (h : vops P ops rest (k + 32) (σ.with d ⟨resPV (unRs k res).1, frzs σ (args.flatMap fun x => (σ.ev x).toks) ++ u.map (fun v => (v, Ob.gone)) ++ (unRs k res).2 ++ (t, Ob.box (unCs (k + widths res) post).1) :: (unCs (k + widths res) post).2, t :: u ++ args.flatMap fun x => (σ.ev x).toks⟩) K) :
    vops P ops (⟨d, .call ⟨.value (.func f), xs, tys⟩, ty, pos, after, none⟩ :: rest) k σ K := by
  subst hxs
  exact ⟨hd, _, .inr (.inr (.inl ⟨f, x0, args, tys, t, cs, pre, u, ars, post, res, rfl, hf, hok, hx0, hbox, hputs, hnd, hdis, hars, hw, rfl⟩)), h⟩
theorem vopsD_callP {f : FuncId} {pre post : List Cell} {res : List RT} {ars : List AR} (hok : OkP P f pre ars post res) (x0 : Operand) (args : List Operand) {t : Nat} {cs : List PC} {u : List Nat} {d : Option Tmp} {xs : Array Operand} {tys : Array TypeId} {ty : TypeId} {pos : String} {after : Array Edge} {rest : List Oper}
    (hxs : xs = (x0 :: args).toArray) (hf : callable P f = true) (hd : ∀ e, d = some e → e < σ.n) (hx0 : σ.ev x0 = .c (.ptr t 0)) (hbox : σ.o t = .box cs) (hputs : σ.puts cs = some (pre, u)) (hnd : u.Nodup) (hdis : ∀ t ∈ u, t ∉ args.flatMap fun x => (σ.ev x).toks)
    (hars : args.mapM (fun x => σ.snap (σ.ev x)) = some ars) (hw : widths res + post.length ≤ 32)
    (h : vopsD P ops b rest (i + 1) (σ.with d ⟨resPV (unRs (b + 32 * i) res).1, frzs σ (args.flatMap fun x => (σ.ev x).toks) ++ u.map (fun v => (v, Ob.gone)) ++ (unRs (b + 32 * i) res).2 ++ (t, Ob.box (unCs (b + 32 * i + widths res) post).1) :: (unCs (b + 32 * i + widths res) post).2, t :: u ++ args.flatMap fun x => (σ.ev x).toks⟩)
      ((i, feet σ (.call ⟨.value (.func f), xs, tys⟩), (frzs σ (args.flatMap fun x => (σ.ev x).toks) ++ u.map (fun v => (v, Ob.gone)) ++ (unRs (b + 32 * i) res).2 ++ (t, Ob.box (unCs (b + 32 * i + widths res) post).1) :: (unCs (b + 32 * i + widths res) post).2).map (·.1)) :: ds) KD) :
    vopsD P ops b (⟨d, .call ⟨.value (.func f), xs, tys⟩, ty, pos, after, none⟩ :: rest) i σ ds KD := by
  subst hxs
  exact ⟨hd, _, .inr (.inr (.inl ⟨f, x0, args, tys, t, cs, pre, u, ars, post, res, rfl, hf, hok, hx0, hbox, hputs, hnd, hdis, hars, hw, rfl⟩)), h⟩
theorem fa_false {α : Type} (p : α → Prop) : (∀ e : α, False → p e) = True := by simp
theorem allOwn_map {α : Type} {f : α → List Cell} (h : ∀ x, ∀ c ∈ f x, AllOwn c) (t : TypeId × Nat) (xs : List α) : AllOwn (.sl (some t) (xs.map f)) = True := by
  refine eq_true (.own _ _ fun x hx c hc => ?_)
  obtain ⟨y, _, rfl⟩ := List.mem_map.1 hx
  exact h y c hc
attribute [push_cast] Option.getD_none fa_false List.nodup_nil List.nodup_cons List.not_mem_nil not_false_eq_true St.mputs St.puts renewRs renewC renewCs widths List.sum_cons List.sum_nil
end
end Go.V
set_option linter.unusedSimpArgs false
set_option linter.unusedVariables false
namespace Go.V
open Go Go.RowKit Go.Proofs
structure STelegram where
  fSeq : Int
  fKind : Int
  fBody : (List Int)
  deriving Inhabited, DecidableEq
structure Sl01Cur where
  fb : (List Int)
  fi : Int
  fh : Int
  deriving Inhabited, DecidableEq
structure SShunt where
  fFrom : Int
  fTo : Int
  fMany : Int
  deriving Inhabited, DecidableEq
structure SSidings where
  fRoom : (List Int)
  fRows : (List (List Int))
  deriving Inhabited, DecidableEq
structure SNeed where
  fPoint : Int
  fPos : Int
  deriving Inhabited, DecidableEq
structure SRoute where
  fNeeds : (List SNeed)
  fBlocks : (List Int)
  deriving Inhabited, DecidableEq
structure SPlant where
  fUnder : (List Int)
  fBlocks : Int
  fRoutes : (List SRoute)
  deriving Inhabited, DecidableEq
structure SLockOp where
  fKind : Int
  fWhat : Int
  deriving Inhabited, DecidableEq
structure SLocking where
  fPos : (List Int)
  fSet : (List Bool)
  fTaken : (List Bool)
  deriving Inhabited, DecidableEq
structure STask where
  fFrom : Int
  fTo : Int
  fDep : Int
  fArr : Int
  fKm : Int
  deriving Inhabited, DecidableEq
structure SRule where
  fSpread : Int
  fDrive : Int
  fRest : Int
  fStretch : Int
  deriving Inhabited, DecidableEq
structure SEdge where
  fA : Int
  fB : Int
  fLen : Int
  fLimit : Int
  deriving Inhabited, DecidableEq
structure SNet where
  fNodes : Int
  fEdges : (List SEdge)
  deriving Inhabited, DecidableEq
structure SCall where
  fNode : Int
  fArr : Int
  fDep : Int
  deriving Inhabited, DecidableEq
structure STrip where
  fName : (List UInt8)
  fCalls : (List SCall)
  deriving Inhabited, DecidableEq
structure SBooking where
  fId : Int
  fSeat : Int
  fOn : Int
  fOff : Int
  deriving Inhabited, DecidableEq
structure STrain where
  fSeats : Int
  fPieces : Int
  fHeld : (List SBooking)
  deriving Inhabited, DecidableEq
structure SDesk where
  fNet : SNet
  fTable : (List STrip)
  fSeats : STrain
  fYard : SSidings
  deriving Inhabited, DecidableEq
structure SUse where
  fEdge : Int
  fDir : Int
  fFrom : Int
  fTo : Int
  fTrip : Int
  deriving Inhabited, DecidableEq
structure SRun where
  fTrip : Int
  fLeg : Int
  fFrom : Int
  fTo : Int
  deriving Inhabited, DecidableEq
structure Splayer where
  fnet : SNet
  flist : (List STrip)
  fat : (List Int)
  fready : (List Int)
  fends : (List Int)
  ftaken : (List Bool)
  fruns : (List SRun)
  fwait : Int
  deriving Inhabited, DecidableEq
def eIu8 (x : Int) : List Cell := [.int .u8 x]
def eTelegram (x : STelegram) : List Cell := [.int .i64 x.fSeq, .int .i64 x.fKind, .sl none (x.fBody.map eIu8)]
def eIi64 (x : Int) : List Cell := [.int .i64 x]
def eShunt (x : SShunt) : List Cell := [.int .i64 x.fFrom, .int .i64 x.fTo, .int .i64 x.fMany]
def eLIi64 (x : (List Int)) : List Cell := [.sl none (x.map eIi64)]
def eSidings (x : SSidings) : List Cell := [.sl none (x.fRoom.map eIi64), .sl none (x.fRows.map eLIi64)]
def eNeed (x : SNeed) : List Cell := [.int .i64 x.fPoint, .int .i64 x.fPos]
def eRoute (x : SRoute) : List Cell := [.sl none (x.fNeeds.map eNeed), .sl none (x.fBlocks.map eIi64)]
def ePlant (x : SPlant) : List Cell := [.sl none (x.fUnder.map eIi64), .int .i64 x.fBlocks, .sl none (x.fRoutes.map eRoute)]
def eLockOp (x : SLockOp) : List Cell := [.int .i64 x.fKind, .int .i64 x.fWhat]
def eB (x : Bool) : List Cell := [.bool x]
def eLocking (x : SLocking) : List Cell := [.sl none (x.fPos.map eIi64), .sl none (x.fSet.map eB), .sl none (x.fTaken.map eB)]
def eTask (x : STask) : List Cell := [.int .i64 x.fFrom, .int .i64 x.fTo, .int .i64 x.fDep, .int .i64 x.fArr, .int .i64 x.fKm]
def eRule (x : SRule) : List Cell := [.int .i64 x.fSpread, .int .i64 x.fDrive, .int .i64 x.fRest, .int .i64 x.fStretch]
def eEdge (x : SEdge) : List Cell := [.int .i64 x.fA, .int .i64 x.fB, .int .i64 x.fLen, .int .i64 x.fLimit]
def eCall (x : SCall) : List Cell := [.int .i64 x.fNode, .int .i64 x.fArr, .int .i64 x.fDep]
def eTrip (x : STrip) : List Cell := [.str x.fName, .sl none (x.fCalls.map eCall)]
def eBooking (x : SBooking) : List Cell := [.int .i64 x.fId, .int .i64 x.fSeat, .int .i64 x.fOn, .int .i64 x.fOff]
def eNet (x : SNet) : List Cell := [.int .i64 x.fNodes, .sl none (x.fEdges.map eEdge)]
def eTrain (x : STrain) : List Cell := [.int .i64 x.fSeats, .int .i64 x.fPieces, .sl none (x.fHeld.map eBooking)]
def eDesk (x : SDesk) : List Cell := [.int .i64 x.fNet.fNodes, .sl none (x.fNet.fEdges.map eEdge), .sl none (x.fTable.map eTrip), .int .i64 x.fSeats.fSeats, .int .i64 x.fSeats.fPieces, .sl none (x.fSeats.fHeld.map eBooking), .sl none (x.fYard.fRoom.map eIi64), .sl none (x.fYard.fRows.map eLIi64)]
def eUse (x : SUse) : List Cell := [.int .i64 x.fEdge, .int .i64 x.fDir, .int .i64 x.fFrom, .int .i64 x.fTo, .int .i64 x.fTrip]
def eRun (x : SRun) : List Cell := [.int .i64 x.fTrip, .int .i64 x.fLeg, .int .i64 x.fFrom, .int .i64 x.fTo]
def eT (x : (List UInt8)) : List Cell := [.str x]
def o120Trip (x : STrip) : List Cell := [.str x.fName, .sl (some (124, 3)) (x.fCalls.map eCall)]
def o33LIi64 (x : (List Int)) : List Cell := [.sl (some (3, 1)) (x.map eIi64)]
@[push_cast] theorem eIu8_all (xs : List Int) : (∀ y ∈ xs.map eIu8, y.length = 1) = True := eq_true fun y hy => by obtain ⟨x, _, rfl⟩ := List.mem_map.1 hy; rfl
@[push_cast] theorem eTelegram_all (xs : List STelegram) : (∀ y ∈ xs.map eTelegram, y.length = 3) = True := eq_true fun y hy => by obtain ⟨x, _, rfl⟩ := List.mem_map.1 hy; rfl
@[push_cast] theorem eIi64_all (xs : List Int) : (∀ y ∈ xs.map eIi64, y.length = 1) = True := eq_true fun y hy => by obtain ⟨x, _, rfl⟩ := List.mem_map.1 hy; rfl
@[push_cast] theorem eShunt_all (xs : List SShunt) : (∀ y ∈ xs.map eShunt, y.length = 3) = True := eq_true fun y hy => by obtain ⟨x, _, rfl⟩ := List.mem_map.1 hy; rfl
@[push_cast] theorem eLIi64_all (xs : List (List Int)) : (∀ y ∈ xs.map eLIi64, y.length = 1) = True := eq_true fun y hy => by obtain ⟨x, _, rfl⟩ := List.mem_map.1 hy; rfl
@[push_cast] theorem eSidings_all (xs : List SSidings) : (∀ y ∈ xs.map eSidings, y.length = 2) = True := eq_true fun y hy => by obtain ⟨x, _, rfl⟩ := List.mem_map.1 hy; rfl
@[push_cast] theorem eNeed_all (xs : List SNeed) : (∀ y ∈ xs.map eNeed, y.length = 2) = True := eq_true fun y hy => by obtain ⟨x, _, rfl⟩ := List.mem_map.1 hy; rfl
@[push_cast] theorem eRoute_all (xs : List SRoute) : (∀ y ∈ xs.map eRoute, y.length = 2) = True := eq_true fun y hy => by obtain ⟨x, _, rfl⟩ := List.mem_map.1 hy; rfl
@[push_cast] theorem ePlant_all (xs : List SPlant) : (∀ y ∈ xs.map ePlant, y.length = 3) = True := eq_true fun y hy => by obtain ⟨x, _, rfl⟩ := List.mem_map.1 hy; rfl
@[push_cast] theorem eLockOp_all (xs : List SLockOp) : (∀ y ∈ xs.map eLockOp, y.length = 2) = True := eq_true fun y hy => by obtain ⟨x, _, rfl⟩ := List.mem_map.1 hy; rfl
@[push_cast] theorem eB_all (xs : List Bool) : (∀ y ∈ xs.map eB, y.length = 1) = True := eq_true fun y hy => by obtain ⟨x, _, rfl⟩ := List.mem_map.1 hy; rfl
@[push_cast] theorem eLocking_all (xs : List SLocking) : (∀ y ∈ xs.map eLocking, y.length = 3) = True := eq_true fun y hy => by obtain ⟨x, _, rfl⟩ := List.mem_map.1 hy; rfl
@[push_cast] theorem eTask_all (xs : List STask) : (∀ y ∈ xs.map eTask, y.length = 5) = True := eq_true fun y hy => by obtain ⟨x, _, rfl⟩ := List.mem_map.1 hy; rfl
@[push_cast] theorem eRule_all (xs : List SRule) : (∀ y ∈ xs.map eRule, y.length = 4) = True := eq_true fun y hy => by obtain ⟨x, _, rfl⟩ := List.mem_map.1 hy; rfl
@[push_cast] theorem eEdge_all (xs : List SEdge) : (∀ y ∈ xs.map eEdge, y.length = 4) = True := eq_true fun y hy => by obtain ⟨x, _, rfl⟩ := List.mem_map.1 hy; rfl
@[push_cast] theorem eCall_all (xs : List SCall) : (∀ y ∈ xs.map eCall, y.length = 3) = True := eq_true fun y hy => by obtain ⟨x, _, rfl⟩ := List.mem_map.1 hy; rfl
@[push_cast] theorem eTrip_all (xs : List STrip) : (∀ y ∈ xs.map eTrip, y.length = 2) = True := eq_true fun y hy => by obtain ⟨x, _, rfl⟩ := List.mem_map.1 hy; rfl
@[push_cast] theorem eBooking_all (xs : List SBooking) : (∀ y ∈ xs.map eBooking, y.length = 4) = True := eq_true fun y hy => by obtain ⟨x, _, rfl⟩ := List.mem_map.1 hy; rfl
@[push_cast] theorem eNet_all (xs : List SNet) : (∀ y ∈ xs.map eNet, y.length = 2) = True := eq_true fun y hy => by obtain ⟨x, _, rfl⟩ := List.mem_map.1 hy; rfl
@[push_cast] theorem eTrain_all (xs : List STrain) : (∀ y ∈ xs.map eTrain, y.length = 3) = True := eq_true fun y hy => by obtain ⟨x, _, rfl⟩ := List.mem_map.1 hy; rfl
@[push_cast] theorem eDesk_all (xs : List SDesk) : (∀ y ∈ xs.map eDesk, y.length = 8) = True := eq_true fun y hy => by obtain ⟨x, _, rfl⟩ := List.mem_map.1 hy; rfl
@[push_cast] theorem eUse_all (xs : List SUse) : (∀ y ∈ xs.map eUse, y.length = 5) = True := eq_true fun y hy => by obtain ⟨x, _, rfl⟩ := List.mem_map.1 hy; rfl
@[push_cast] theorem eRun_all (xs : List SRun) : (∀ y ∈ xs.map eRun, y.length = 4) = True := eq_true fun y hy => by obtain ⟨x, _, rfl⟩ := List.mem_map.1 hy; rfl
@[push_cast] theorem eT_all (xs : List (List UInt8)) : (∀ y ∈ xs.map eT, y.length = 1) = True := eq_true fun y hy => by obtain ⟨x, _, rfl⟩ := List.mem_map.1 hy; rfl
@[push_cast] theorem o120Trip_all (xs : List STrip) : (∀ y ∈ xs.map o120Trip, y.length = 2) = True := eq_true fun y hy => by obtain ⟨x, _, rfl⟩ := List.mem_map.1 hy; rfl
@[push_cast] theorem o33LIi64_all (xs : List (List Int)) : (∀ y ∈ xs.map o33LIi64, y.length = 1) = True := eq_true fun y hy => by obtain ⟨x, _, rfl⟩ := List.mem_map.1 hy; rfl
@[push_cast] theorem eIu8_roC (xs : List Int) : (xs.map eIu8).map (fun y => y.map Cell.roC) = xs.map eIu8 := by simp [eIu8, Cell.roC]
@[push_cast] theorem eIu8_plain (xs : List Int) : (∀ y ∈ xs.map eIu8, (y.all Cell.plain) = true) = True := eq_true fun y hy => by obtain ⟨x, _, rfl⟩ := List.mem_map.1 hy; rfl
@[push_cast] theorem eTelegram_roC (xs : List STelegram) : (xs.map eTelegram).map (fun y => y.map Cell.roC) = xs.map eTelegram := by simp [eTelegram, Cell.roC]
@[push_cast] theorem eTelegram_plain (xs : List STelegram) : (∀ y ∈ xs.map eTelegram, (y.all Cell.plain) = true) = True := eq_true fun y hy => by obtain ⟨x, _, rfl⟩ := List.mem_map.1 hy; rfl
@[push_cast] theorem eIi64_roC (xs : List Int) : (xs.map eIi64).map (fun y => y.map Cell.roC) = xs.map eIi64 := by simp [eIi64, Cell.roC]
@[push_cast] theorem eIi64_plain (xs : List Int) : (∀ y ∈ xs.map eIi64, (y.all Cell.plain) = true) = True := eq_true fun y hy => by obtain ⟨x, _, rfl⟩ := List.mem_map.1 hy; rfl
@[push_cast] theorem eShunt_roC (xs : List SShunt) : (xs.map eShunt).map (fun y => y.map Cell.roC) = xs.map eShunt := by simp [eShunt, Cell.roC]
@[push_cast] theorem eShunt_plain (xs : List SShunt) : (∀ y ∈ xs.map eShunt, (y.all Cell.plain) = true) = True := eq_true fun y hy => by obtain ⟨x, _, rfl⟩ := List.mem_map.1 hy; rfl
@[push_cast] theorem eLIi64_roC (xs : List (List Int)) : (xs.map eLIi64).map (fun y => y.map Cell.roC) = xs.map eLIi64 := by simp [eLIi64, Cell.roC]
@[push_cast] theorem eLIi64_plain (xs : List (List Int)) : (∀ y ∈ xs.map eLIi64, (y.all Cell.plain) = true) = True := eq_true fun y hy => by obtain ⟨x, _, rfl⟩ := List.mem_map.1 hy; rfl
@[push_cast] theorem eSidings_roC (xs : List SSidings) : (xs.map eSidings).map (fun y => y.map Cell.roC) = xs.map eSidings := by simp [eSidings, Cell.roC]
@[push_cast] theorem eSidings_plain (xs : List SSidings) : (∀ y ∈ xs.map eSidings, (y.all Cell.plain) = true) = True := eq_true fun y hy => by obtain ⟨x, _, rfl⟩ := List.mem_map.1 hy; rfl
@[push_cast] theorem eNeed_roC (xs : List SNeed) : (xs.map eNeed).map (fun y => y.map Cell.roC) = xs.map eNeed := by simp [eNeed, Cell.roC]
@[push_cast] theorem eNeed_plain (xs : List SNeed) : (∀ y ∈ xs.map eNeed, (y.all Cell.plain) = true) = True := eq_true fun y hy => by obtain ⟨x, _, rfl⟩ := List.mem_map.1 hy; rfl
@[push_cast] theorem eRoute_roC (xs : List SRoute) : (xs.map eRoute).map (fun y => y.map Cell.roC) = xs.map eRoute := by simp [eRoute, Cell.roC]
@[push_cast] theorem eRoute_plain (xs : List SRoute) : (∀ y ∈ xs.map eRoute, (y.all Cell.plain) = true) = True := eq_true fun y hy => by obtain ⟨x, _, rfl⟩ := List.mem_map.1 hy; rfl
@[push_cast] theorem ePlant_roC (xs : List SPlant) : (xs.map ePlant).map (fun y => y.map Cell.roC) = xs.map ePlant := by simp [ePlant, Cell.roC]
@[push_cast] theorem ePlant_plain (xs : List SPlant) : (∀ y ∈ xs.map ePlant, (y.all Cell.plain) = true) = True := eq_true fun y hy => by obtain ⟨x, _, rfl⟩ := List.mem_map.1 hy; rfl
@[push_cast] theorem eLockOp_roC (xs : List SLockOp) : (xs.map eLockOp).map (fun y => y.map Cell.roC) = xs.map eLockOp := by simp [eLockOp, Cell.roC]
@[push_cast] theorem eLockOp_plain (xs : List SLockOp) : (∀ y ∈ xs.map eLockOp, (y.all Cell.plain) = true) = True := eq_true fun y hy => by obtain ⟨x, _, rfl⟩ := List.mem_map.1 hy; rfl
@[push_cast] theorem eB_roC (xs : List Bool) : (xs.map eB).map (fun y => y.map Cell.roC) = xs.map eB := by simp [eB, Cell.roC]
@[push_cast] theorem eB_plain (xs : List Bool) : (∀ y ∈ xs.map eB, (y.all Cell.plain) = true) = True := eq_true fun y hy => by obtain ⟨x, _, rfl⟩ := List.mem_map.1 hy; rfl
@[push_cast] theorem eLocking_roC (xs : List SLocking) : (xs.map eLocking).map (fun y => y.map Cell.roC) = xs.map eLocking := by simp [eLocking, Cell.roC]
@[push_cast] theorem eLocking_plain (xs : List SLocking) : (∀ y ∈ xs.map eLocking, (y.all Cell.plain) = true) = True := eq_true fun y hy => by obtain ⟨x, _, rfl⟩ := List.mem_map.1 hy; rfl
@[push_cast] theorem eTask_roC (xs : List STask) : (xs.map eTask).map (fun y => y.map Cell.roC) = xs.map eTask := by simp [eTask, Cell.roC]
@[push_cast] theorem eTask_plain (xs : List STask) : (∀ y ∈ xs.map eTask, (y.all Cell.plain) = true) = True := eq_true fun y hy => by obtain ⟨x, _, rfl⟩ := List.mem_map.1 hy; rfl
@[push_cast] theorem eRule_roC (xs : List SRule) : (xs.map eRule).map (fun y => y.map Cell.roC) = xs.map eRule := by simp [eRule, Cell.roC]
@[push_cast] theorem eRule_plain (xs : List SRule) : (∀ y ∈ xs.map eRule, (y.all Cell.plain) = true) = True := eq_true fun y hy => by obtain ⟨x, _, rfl⟩ := List.mem_map.1 hy; rfl
@[push_cast] theorem eEdge_roC (xs : List SEdge) : (xs.map eEdge).map (fun y => y.map Cell.roC) = xs.map eEdge := by simp [eEdge, Cell.roC]
@[push_cast] theorem eEdge_plain (xs : List SEdge) : (∀ y ∈ xs.map eEdge, (y.all Cell.plain) = true) = True := eq_true fun y hy => by obtain ⟨x, _, rfl⟩ := List.mem_map.1 hy; rfl
@[push_cast] theorem eCall_roC (xs : List SCall) : (xs.map eCall).map (fun y => y.map Cell.roC) = xs.map eCall := by simp [eCall, Cell.roC]
@[push_cast] theorem eCall_plain (xs : List SCall) : (∀ y ∈ xs.map eCall, (y.all Cell.plain) = true) = True := eq_true fun y hy => by obtain ⟨x, _, rfl⟩ := List.mem_map.1 hy; rfl
@[push_cast] theorem eTrip_roC (xs : List STrip) : (xs.map eTrip).map (fun y => y.map Cell.roC) = xs.map eTrip := by simp [eTrip, Cell.roC]
@[push_cast] theorem eTrip_plain (xs : List STrip) : (∀ y ∈ xs.map eTrip, (y.all Cell.plain) = true) = True := eq_true fun y hy => by obtain ⟨x, _, rfl⟩ := List.mem_map.1 hy; rfl
@[push_cast] theorem eBooking_roC (xs : List SBooking) : (xs.map eBooking).map (fun y => y.map Cell.roC) = xs.map eBooking := by simp [eBooking, Cell.roC]
@[push_cast] theorem eBooking_plain (xs : List SBooking) : (∀ y ∈ xs.map eBooking, (y.all Cell.plain) = true) = True := eq_true fun y hy => by obtain ⟨x, _, rfl⟩ := List.mem_map.1 hy; rfl
@[push_cast] theorem eNet_roC (xs : List SNet) : (xs.map eNet).map (fun y => y.map Cell.roC) = xs.map eNet := by simp [eNet, Cell.roC]
@[push_cast] theorem eNet_plain (xs : List SNet) : (∀ y ∈ xs.map eNet, (y.all Cell.plain) = true) = True := eq_true fun y hy => by obtain ⟨x, _, rfl⟩ := List.mem_map.1 hy; rfl
@[push_cast] theorem eTrain_roC (xs : List STrain) : (xs.map eTrain).map (fun y => y.map Cell.roC) = xs.map eTrain := by simp [eTrain, Cell.roC]
@[push_cast] theorem eTrain_plain (xs : List STrain) : (∀ y ∈ xs.map eTrain, (y.all Cell.plain) = true) = True := eq_true fun y hy => by obtain ⟨x, _, rfl⟩ := List.mem_map.1 hy; rfl
@[push_cast] theorem eDesk_roC (xs : List SDesk) : (xs.map eDesk).map (fun y => y.map Cell.roC) = xs.map eDesk := by simp [eDesk, Cell.roC]
@[push_cast] theorem eDesk_plain (xs : List SDesk) : (∀ y ∈ xs.map eDesk, (y.all Cell.plain) = true) = True := eq_true fun y hy => by obtain ⟨x, _, rfl⟩ := List.mem_map.1 hy; rfl
@[push_cast] theorem eUse_roC (xs : List SUse) : (xs.map eUse).map (fun y => y.map Cell.roC) = xs.map eUse := by simp [eUse, Cell.roC]
@[push_cast] theorem eUse_plain (xs : List SUse) : (∀ y ∈ xs.map eUse, (y.all Cell.plain) = true) = True := eq_true fun y hy => by obtain ⟨x, _, rfl⟩ := List.mem_map.1 hy; rfl
@[push_cast] theorem eRun_roC (xs : List SRun) : (xs.map eRun).map (fun y => y.map Cell.roC) = xs.map eRun := by simp [eRun, Cell.roC]
@[push_cast] theorem eRun_plain (xs : List SRun) : (∀ y ∈ xs.map eRun, (y.all Cell.plain) = true) = True := eq_true fun y hy => by obtain ⟨x, _, rfl⟩ := List.mem_map.1 hy; rfl
@[push_cast] theorem eT_roC (xs : List (List UInt8)) : (xs.map eT).map (fun y => y.map Cell.roC) = xs.map eT := by simp [eT, Cell.roC]
@[push_cast] theorem eT_plain (xs : List (List UInt8)) : (∀ y ∈ xs.map eT, (y.all Cell.plain) = true) = True := eq_true fun y hy => by obtain ⟨x, _, rfl⟩ := List.mem_map.1 hy; rfl
attribute [push_cast] eIu8 eTelegram eIi64 eShunt eLIi64 eSidings eNeed eRoute ePlant eLockOp eB eLocking eTask eRule eEdge eCall eTrip eBooking eNet eTrain eDesk eUse eRun eT o120Trip o33LIi64
theorem eIu8_ao (t : TypeId × Nat) (xs : List Int) : AllOwn (.sl (some t) (xs.map eIu8)) = True := allOwn_map (fun x => by simp only [eIu8, List.mem_cons, List.not_mem_nil, or_false, forall_eq, forall_eq_or_imp, allOwn_int, allOwn_bool, allOwn_str, implies_true, and_self]) t xs
theorem eTelegram_ao : True := trivial
theorem eIi64_ao (t : TypeId × Nat) (xs : List Int) : AllOwn (.sl (some t) (xs.map eIi64)) = True := allOwn_map (fun x => by simp only [eIi64, List.mem_cons, List.not_mem_nil, or_false, forall_eq, forall_eq_or_imp, allOwn_int, allOwn_bool, allOwn_str, implies_true, and_self]) t xs
theorem eShunt_ao (t : TypeId × Nat) (xs : List SShunt) : AllOwn (.sl (some t) (xs.map eShunt)) = True := allOwn_map (fun x => by simp only [eShunt, List.mem_cons, List.not_mem_nil, or_false, forall_eq, forall_eq_or_imp, allOwn_int, allOwn_bool, allOwn_str, implies_true, and_self]) t xs
theorem eLIi64_ao : True := trivial
theorem eSidings_ao : True := trivial
theorem eNeed_ao (t : TypeId × Nat) (xs : List SNeed) : AllOwn (.sl (some t) (xs.map eNeed)) = True := allOwn_map (fun x => by simp only [eNeed, List.mem_cons, List.not_mem_nil, or_false, forall_eq, forall_eq_or_imp, allOwn_int, allOwn_bool, allOwn_str, implies_true, and_self]) t xs
theorem eRoute_ao : True := trivial
theorem ePlant_ao : True := trivial
theorem eLockOp_ao (t : TypeId × Nat) (xs : List SLockOp) : AllOwn (.sl (some t) (xs.map eLockOp)) = True := allOwn_map (fun x => by simp only [eLockOp, List.mem_cons, List.not_mem_nil, or_false, forall_eq, forall_eq_or_imp, allOwn_int, allOwn_bool, allOwn_str, implies_true, and_self]) t xs
theorem eB_ao (t : TypeId × Nat) (xs : List Bool) : AllOwn (.sl (some t) (xs.map eB)) = True := allOwn_map (fun x => by simp only [eB, List.mem_cons, List.not_mem_nil, or_false, forall_eq, forall_eq_or_imp, allOwn_int, allOwn_bool, allOwn_str, implies_true, and_self]) t xs
theorem eLocking_ao : True := trivial
theorem eTask_ao (t : TypeId × Nat) (xs : List STask) : AllOwn (.sl (some t) (xs.map eTask)) = True := allOwn_map (fun x => by simp only [eTask, List.mem_cons, List.not_mem_nil, or_false, forall_eq, forall_eq_or_imp, allOwn_int, allOwn_bool, allOwn_str, implies_true, and_self]) t xs
theorem eRule_ao (t : TypeId × Nat) (xs : List SRule) : AllOwn (.sl (some t) (xs.map eRule)) = True := allOwn_map (fun x => by simp only [eRule, List.mem_cons, List.not_mem_nil, or_false, forall_eq, forall_eq_or_imp, allOwn_int, allOwn_bool, allOwn_str, implies_true, and_self]) t xs
theorem eEdge_ao (t : TypeId × Nat) (xs : List SEdge) : AllOwn (.sl (some t) (xs.map eEdge)) = True := allOwn_map (fun x => by simp only [eEdge, List.mem_cons, List.not_mem_nil, or_false, forall_eq, forall_eq_or_imp, allOwn_int, allOwn_bool, allOwn_str, implies_true, and_self]) t xs
theorem eCall_ao (t : TypeId × Nat) (xs : List SCall) : AllOwn (.sl (some t) (xs.map eCall)) = True := allOwn_map (fun x => by simp only [eCall, List.mem_cons, List.not_mem_nil, or_false, forall_eq, forall_eq_or_imp, allOwn_int, allOwn_bool, allOwn_str, implies_true, and_self]) t xs
theorem eTrip_ao : True := trivial
theorem eBooking_ao (t : TypeId × Nat) (xs : List SBooking) : AllOwn (.sl (some t) (xs.map eBooking)) = True := allOwn_map (fun x => by simp only [eBooking, List.mem_cons, List.not_mem_nil, or_false, forall_eq, forall_eq_or_imp, allOwn_int, allOwn_bool, allOwn_str, implies_true, and_self]) t xs
theorem eNet_ao : True := trivial
theorem eTrain_ao : True := trivial
theorem eDesk_ao : True := trivial
theorem eUse_ao (t : TypeId × Nat) (xs : List SUse) : AllOwn (.sl (some t) (xs.map eUse)) = True := allOwn_map (fun x => by simp only [eUse, List.mem_cons, List.not_mem_nil, or_false, forall_eq, forall_eq_or_imp, allOwn_int, allOwn_bool, allOwn_str, implies_true, and_self]) t xs
theorem eRun_ao (t : TypeId × Nat) (xs : List SRun) : AllOwn (.sl (some t) (xs.map eRun)) = True := allOwn_map (fun x => by simp only [eRun, List.mem_cons, List.not_mem_nil, or_false, forall_eq, forall_eq_or_imp, allOwn_int, allOwn_bool, allOwn_str, implies_true, and_self]) t xs
theorem eT_ao (t : TypeId × Nat) (xs : List (List UInt8)) : AllOwn (.sl (some t) (xs.map eT)) = True := allOwn_map (fun x => by simp only [eT, List.mem_cons, List.not_mem_nil, or_false, forall_eq, forall_eq_or_imp, allOwn_int, allOwn_bool, allOwn_str, implies_true, and_self]) t xs
theorem o120Trip_ao (t : TypeId × Nat) (xs : List STrip) : AllOwn (.sl (some t) (xs.map o120Trip)) = True := allOwn_map (fun x => by simp only [o120Trip, List.mem_cons, List.not_mem_nil, or_false, forall_eq, forall_eq_or_imp, allOwn_int, allOwn_bool, allOwn_str, eCall_ao, and_self]) t xs
theorem o33LIi64_ao (t : TypeId × Nat) (xs : List (List Int)) : AllOwn (.sl (some t) (xs.map o33LIi64)) = True := allOwn_map (fun x => by simp only [o33LIi64, List.mem_cons, List.not_mem_nil, or_false, forall_eq, forall_eq_or_imp, allOwn_int, allOwn_bool, allOwn_str, eIi64_ao, and_self]) t xs
@[push_cast] theorem unbytes_eIu8 (xs : List Int) : unbytes (xs.map eIu8) = some (unb xs) := by
  induction xs with
  | nil => rfl
  | cons x xs ih => simp only [List.map_cons, eIu8, unbytes, ih, Option.map_some, unb]
theorem cb21 : callable Try.prog 21 = true := by simp only [callable, Try.func21]; rfl
theorem cb146 : callable Try.prog 146 = true := by simp only [callable, Try.func146]; rfl
theorem cb101 : callable Try.prog 101 = true := by simp only [callable, Try.func101]; rfl
theorem cb186 : callable Try.prog 186 = true := by simp only [callable, Try.func186]; rfl
theorem cb103 : callable Try.prog 103 = true := by simp only [callable, Try.func103]; rfl
theorem cb102 : callable Try.prog 102 = true := by simp only [callable, Try.func102]; rfl
theorem cb20 : callable Try.prog 20 = true := by simp only [callable, Try.func20]; rfl
theorem cb104 : callable Try.prog 104 = true := by simp only [callable, Try.func104]; rfl
theorem cb114 : callable Try.prog 114 = true := by simp only [callable, Try.func114]; rfl
theorem cb105 : callable Try.prog 105 = true := by simp only [callable, Try.func105]; rfl
theorem cb245 : callable Try.prog 245 = true := by simp only [callable, Try.func245]; rfl
theorem cb187 : callable Try.prog 187 = true := by simp only [callable, Try.func187]; rfl
theorem cb107 : callable Try.prog 107 = true := by simp only [callable, Try.func107]; rfl
theorem cb106 : callable Try.prog 106 = true := by simp only [callable, Try.func106]; rfl
theorem cb22 : callable Try.prog 22 = true := by simp only [callable, Try.func22]; rfl
theorem cb24 : callable Try.prog 24 = true := by simp only [callable, Try.func24]; rfl
theorem cb23 : callable Try.prog 23 = true := by simp only [callable, Try.func23]; rfl
theorem cb25 : callable Try.prog 25 = true := by simp only [callable, Try.func25]; rfl
theorem cb26 : callable Try.prog 26 = true := by simp only [callable, Try.func26]; rfl
theorem cb108 : callable Try.prog 108 = true := by simp only [callable, Try.func108]; rfl
theorem cb27 : callable Try.prog 27 = true := by simp only [callable, Try.func27]; rfl
theorem cb3 : callable Try.prog 3 = true := by simp only [callable, Try.func3]; rfl
theorem hmix : Try.prog.follows .mixedOrders = true := by decide
end Go.V
set_option linter.unusedVariables false
namespace Go.V
open Go Go.RowKit Go.Proofs
noncomputable def laws_toByteS_b0 (a0 : (List Int)) (x1 : Int) (x2 : (List Int)) : Option ((Int × (List Int)) ⊕ (List Int)) :=
  (if (decide (x1 < (a0.length : Int))) = true then (if 0 ≤ x1 ∧ x1 < (a0.length : Int) then (if 0 ≤ x1 ∧ x1 < (x2.length : Int) then (some (.inl ((IntKind.i64.wrap (x1 + (1 : Int))), (x2.set x1.toNat (rd a0 x1))))) else none) else none) else (some (.inr x2)))
noncomputable def laws_toByteS (a0 : (List Int)) : Option (List Int) :=
  (if 0 ≤ (a0.length : Int) ∧ (a0.length : Int) ≤ (a0.length : Int) ∧ (1 : Int) * (a0.length : Int) ≤ 281474976710656 ∧ (a0.length : Int) ≤ 9223372036854775807 then (Option.bind (loop (fun v => laws_toByteS_b0 a0 v.1 v.2) ((0 : Int), (List.replicate (a0.length : Int).toNat (0 : Int)))) (fun x3 => (some x3))) else none)
noncomputable def spec_l01In (a0 : Int) (a1 : Int) (a2 : Int) : Option Bool :=
  (if (decide (a1 ≤ a0)) = true then (some (decide (a0 ≤ a2))) else (some false))
noncomputable def spec_TelegramOk (a0 : STelegram) : Option Bool :=
  ((spec_l01In a0.fSeq (0 : Int) (255 : Int)).bind fun t1 => (if t1 = true then ((spec_l01In a0.fKind (0 : Int) (15 : Int)).bind fun t2 => (if t2 = true then (some (decide ((a0.fBody.length : Int) ≤ (60 : Int)))) else (some false))) else (some false)))
noncomputable def spec_Crc8_b2 (x6 : Int) (x7 : Int) : Option ((Int × Int) ⊕ Int) :=
  (if (decide (x7 < (8 : Int))) = true then (if (decide ((255 : Int) < (IntKind.i64.wrap (x6 * (2 : Int))))) = true then (some (.inl ((IntKind.i64.wrap (((BitVec.ofInt IntKind.i64.bits (IntKind.i64.wrap ((IntKind.i64.wrap (x6 * (2 : Int))) - (256 : Int))) ^^^ BitVec.ofInt IntKind.i64.bits (7 : Int)).toNat : Int))), (IntKind.i64.wrap (x7 + (1 : Int)))))) else (some (.inl ((IntKind.i64.wrap (x6 * (2 : Int))), (IntKind.i64.wrap (x7 + (1 : Int))))))) else (some (.inr x6)))
noncomputable def spec_Crc8_b0 (a0 : (List Int)) (x4 : Int) (x5 : Int) : Option ((Int × Int) ⊕ Int) :=
  (if (decide (x5 < (a0.length : Int))) = true then (if 0 ≤ x5 ∧ x5 < (a0.length : Int) then (Option.bind (loop (fun v => spec_Crc8_b2 v.1 v.2) ((IntKind.i64.wrap (((BitVec.ofInt IntKind.i64.bits x4 ^^^ BitVec.ofInt IntKind.i64.bits (IntKind.i64.wrap (rd a0 x5))).toNat : Int))), (0 : Int))) (fun x8 => (some (.inl (x8, (IntKind.i64.wrap (x5 + (1 : Int)))))))) else none) else (some (.inr x4)))
noncomputable def spec_Crc8 (a0 : (List Int)) : Option Int :=
  (if (decide ((3000 : Int) < (a0.length : Int))) = true then (some (0 : Int)) else (Option.bind (loop (fun v => spec_Crc8_b0 a0 v.1 v.2) ((0 : Int), (0 : Int))) (fun x9 => (some x9))))
noncomputable def spec_Encode_b0 (a0 : STelegram) (x2 : Int) (x3 : (List Int)) : Option ((Int × (List Int)) ⊕ (List Int)) :=
  (if (decide (x2 < (a0.fBody.length : Int))) = true then (if 0 ≤ x2 ∧ x2 < (a0.fBody.length : Int) then (if (x3.length + ([(rd a0.fBody x2)]).length) * 1 ≤ 140737488355328 ∧ x3.length + ([(rd a0.fBody x2)]).length ≤ 9223372036854775807 then (some (.inl ((IntKind.i64.wrap (x2 + (1 : Int))), (x3 ++ [(rd a0.fBody x2)])))) else none) else none) else (some (.inr x3)))
noncomputable def spec_Encode_b2 (x4 : (List Int)) (t5 : Int) (x7 : Int) (x8 : (List Int)) : Option ((Int × (List Int)) ⊕ (List Int)) :=
  (if (decide (x7 < ((x4 ++ [(IntKind.u8.wrap t5)]).length : Int))) = true then (Option.bind (α := Bool) (if 0 ≤ x7 ∧ x7 < ((x4 ++ [(IntKind.u8.wrap t5)]).length : Int) then (if (decide ((rd (x4 ++ [(IntKind.u8.wrap t5)]) x7) = (125 : Int))) = true then (some true) else (if 0 ≤ x7 ∧ x7 < ((x4 ++ [(IntKind.u8.wrap t5)]).length : Int) then (some (decide ((rd (x4 ++ [(IntKind.u8.wrap t5)]) x7) = (126 : Int)))) else none)) else none) (fun x9 => (if x9 = true then (if 0 ≤ x7 ∧ x7 < ((x4 ++ [(IntKind.u8.wrap t5)]).length : Int) then (if (x8.length + ([(125 : Int), (IntKind.u8.wrap (((BitVec.ofInt IntKind.u8.bits (rd (x4 ++ [(IntKind.u8.wrap t5)]) x7) ^^^ BitVec.ofInt IntKind.u8.bits (32 : Int)).toNat : Int)))]).length) * 1 ≤ 140737488355328 ∧ x8.length + ([(125 : Int), (IntKind.u8.wrap (((BitVec.ofInt IntKind.u8.bits (rd (x4 ++ [(IntKind.u8.wrap t5)]) x7) ^^^ BitVec.ofInt IntKind.u8.bits (32 : Int)).toNat : Int)))]).length ≤ 9223372036854775807 then (some (.inl ((IntKind.i64.wrap (x7 + (1 : Int))), (x8 ++ [(125 : Int), (IntKind.u8.wrap (((BitVec.ofInt IntKind.u8.bits (rd (x4 ++ [(IntKind.u8.wrap t5)]) x7) ^^^ BitVec.ofInt IntKind.u8.bits (32 : Int)).toNat : Int)))])))) else none) else none) else (if 0 ≤ x7 ∧ x7 < ((x4 ++ [(IntKind.u8.wrap t5)]).length : Int) then (if (x8.length + ([(rd (x4 ++ [(IntKind.u8.wrap t5)]) x7)]).length) * 1 ≤ 140737488355328 ∧ x8.length + ([(rd (x4 ++ [(IntKind.u8.wrap t5)]) x7)]).length ≤ 9223372036854775807 then (some (.inl ((IntKind.i64.wrap (x7 + (1 : Int))), (x8 ++ [(rd (x4 ++ [(IntKind.u8.wrap t5)]) x7)])))) else none) else none)))) else (some (.inr x8)))
noncomputable def spec_Encode (a0 : STelegram) : Option (List Int) :=
  ((spec_TelegramOk a0).bind fun t1 => (if (!t1) = true then (some ([] : List Int)) else (Option.bind (loop (fun v => spec_Encode_b0 a0 v.1 v.2) ((0 : Int), [(IntKind.u8.wrap a0.fSeq), (IntKind.u8.wrap a0.fKind), (IntKind.u8.wrap (a0.fBody.length : Int))])) (fun x4 => ((spec_Crc8 x4).bind fun t5 => (if (x4.length + ([(IntKind.u8.wrap t5)]).length) * 1 ≤ 140737488355328 ∧ x4.length + ([(IntKind.u8.wrap t5)]).length ≤ 9223372036854775807 then (Option.bind (loop (fun v => spec_Encode_b2 x4 t5 v.1 v.2) ((0 : Int), [(126 : Int)])) (fun x10 => (if (x10.length + ([(126 : Int)]).length) * 1 ≤ 140737488355328 ∧ x10.length + ([(126 : Int)]).length ≤ 9223372036854775807 then (some (x10 ++ [(126 : Int)])) else none))) else none))))))
noncomputable def spec_l20Same_b0 (a0 : (List Int)) (a1 : (List Int)) (x1 : Int) : Option (Int ⊕ (Unit ⊕ Bool)) :=
  (if (decide (x1 < (a0.length : Int))) = true then (if 0 ≤ x1 ∧ x1 < (a0.length : Int) then (if 0 ≤ x1 ∧ x1 < (a1.length : Int) then (if (!decide ((rd a0 x1) = (rd a1 x1))) = true then (some (.inr (.inr false))) else (some (.inl (IntKind.i64.wrap (x1 + (1 : Int)))))) else none) else none) else (some (.inr (.inl ()))))
noncomputable def spec_l20Same (a0 : (List Int)) (a1 : (List Int)) : Option Bool :=
  (if (!decide ((a0.length : Int) = (a1.length : Int))) = true then (some false) else (Option.bind (loop (fun v => spec_l20Same_b0 a0 a1 v) (0 : Int)) (Sum.elim (fun _ => (some true)) some)))
noncomputable def spec_Decode_b0 (a0 : (List Int)) (x1 : Int) (x2 : (List Int)) : Option ((Int × (List Int)) ⊕ (List Int)) :=
  (if (decide (x1 < (IntKind.i64.wrap ((a0.length : Int) - (1 : Int))))) = true then (if 0 ≤ x1 ∧ x1 < (a0.length : Int) then (if (decide ((rd a0 x1) = (125 : Int))) = true then (if 0 ≤ (IntKind.i64.wrap (x1 + (1 : Int))) ∧ (IntKind.i64.wrap (x1 + (1 : Int))) < (a0.length : Int) then (if (x2.length + ([(IntKind.u8.wrap (((BitVec.ofInt IntKind.u8.bits (rd a0 (IntKind.i64.wrap (x1 + (1 : Int)))) ^^^ BitVec.ofInt IntKind.u8.bits (32 : Int)).toNat : Int)))]).length) * 1 ≤ 140737488355328 ∧ x2.length + ([(IntKind.u8.wrap (((BitVec.ofInt IntKind.u8.bits (rd a0 (IntKind.i64.wrap (x1 + (1 : Int)))) ^^^ BitVec.ofInt IntKind.u8.bits (32 : Int)).toNat : Int)))]).length ≤ 9223372036854775807 then (some (.inl ((IntKind.i64.wrap ((IntKind.i64.wrap (x1 + (1 : Int))) + (1 : Int))), (x2 ++ [(IntKind.u8.wrap (((BitVec.ofInt IntKind.u8.bits (rd a0 (IntKind.i64.wrap (x1 + (1 : Int)))) ^^^ BitVec.ofInt IntKind.u8.bits (32 : Int)).toNat : Int)))])))) else none) else none) else (if 0 ≤ x1 ∧ x1 < (a0.length : Int) then (if (x2.length + ([(rd a0 x1)]).length) * 1 ≤ 140737488355328 ∧ x2.length + ([(rd a0 x1)]).length ≤ 9223372036854775807 then (some (.inl ((IntKind.i64.wrap (x1 + (1 : Int))), (x2 ++ [(rd a0 x1)])))) else none) else none)) else none) else (some (.inr x2)))
noncomputable def spec_Decode_b2 (x3 : (List Int)) (x4 : Int) (x5 : (List Int)) : Option ((Int × (List Int)) ⊕ (List Int)) :=
  (if (decide (x4 < (IntKind.i64.wrap ((x3.length : Int) - (1 : Int))))) = true then (if 0 ≤ x4 ∧ x4 < (x3.length : Int) then (if (x5.length + ([(rd x3 x4)]).length) * 1 ≤ 140737488355328 ∧ x5.length + ([(rd x3 x4)]).length ≤ 9223372036854775807 then (some (.inl ((IntKind.i64.wrap (x4 + (1 : Int))), (x5 ++ [(rd x3 x4)])))) else none) else none) else (some (.inr x5)))
noncomputable def spec_Decode (a0 : (List Int)) : Option (STelegram × Bool) :=
  (if (decide ((140 : Int) < (a0.length : Int))) = true then (some ((STelegram.mk (0 : Int) (0 : Int) ([] : List Int)), false)) else (Option.bind (loop (fun v => spec_Decode_b0 a0 v.1 v.2) ((1 : Int), ([] : List Int))) (fun x3 => (if (decide ((x3.length : Int) < (4 : Int))) = true then (some ((STelegram.mk (0 : Int) (0 : Int) ([] : List Int)), false)) else (if 0 ≤ (0 : Int) ∧ (0 : Int) < (x3.length : Int) then (if 0 ≤ (1 : Int) ∧ (1 : Int) < (x3.length : Int) then (Option.bind (loop (fun v => spec_Decode_b2 x3 v.1 v.2) ((3 : Int), ([] : List Int))) (fun x6 => ((spec_TelegramOk (STelegram.mk (IntKind.i64.wrap (rd x3 (0 : Int))) (IntKind.i64.wrap (rd x3 (1 : Int))) x6)).bind fun t7 => (if (!t7) = true then (some ((STelegram.mk (0 : Int) (0 : Int) ([] : List Int)), false)) else ((spec_Encode (STelegram.mk (IntKind.i64.wrap (rd x3 (0 : Int))) (IntKind.i64.wrap (rd x3 (1 : Int))) x6)).bind fun t8 => ((spec_l20Same t8 a0).bind fun t9 => (if (!t9) = true then (some ((STelegram.mk (0 : Int) (0 : Int) ([] : List Int)), false)) else (some ((STelegram.mk (IntKind.i64.wrap (rd x3 (0 : Int))) (IntKind.i64.wrap (rd x3 (1 : Int))) x6), true))))))))) else none) else none)))))
noncomputable def impl_unescape_b0 (a0 : (List Int)) (x2 : Int) (x3 : (List Int)) : Option ((Int × (List Int)) ⊕ (List Int)) :=
  (if (decide (x2 < (a0.length : Int))) = true then (Option.bind (α := Bool) (if 0 ≤ x2 ∧ x2 < (a0.length : Int) then (if (decide ((rd a0 x2) = (125 : Int))) = true then (some (decide ((IntKind.i64.wrap (x2 + (1 : Int))) < (a0.length : Int)))) else (some false)) else none) (fun x4 => (if x4 = true then (if 0 ≤ (IntKind.i64.wrap (x2 + (1 : Int))) ∧ (IntKind.i64.wrap (x2 + (1 : Int))) < (a0.length : Int) then (if (x3.length + ([(IntKind.u8.wrap (((BitVec.ofInt IntKind.u8.bits (rd a0 (IntKind.i64.wrap (x2 + (1 : Int)))) ^^^ BitVec.ofInt IntKind.u8.bits (32 : Int)).toNat : Int)))]).length) * 1 ≤ 140737488355328 ∧ x3.length + ([(IntKind.u8.wrap (((BitVec.ofInt IntKind.u8.bits (rd a0 (IntKind.i64.wrap (x2 + (1 : Int)))) ^^^ BitVec.ofInt IntKind.u8.bits (32 : Int)).toNat : Int)))]).length ≤ 9223372036854775807 then (some (.inl ((IntKind.i64.wrap ((IntKind.i64.wrap (x2 + (1 : Int))) + (1 : Int))), (x3 ++ [(IntKind.u8.wrap (((BitVec.ofInt IntKind.u8.bits (rd a0 (IntKind.i64.wrap (x2 + (1 : Int)))) ^^^ BitVec.ofInt IntKind.u8.bits (32 : Int)).toNat : Int)))])))) else none) else none) else (if 0 ≤ x2 ∧ x2 < (a0.length : Int) then (if (x3.length + ([(rd a0 x2)]).length) * 1 ≤ 140737488355328 ∧ x3.length + ([(rd a0 x2)]).length ≤ 9223372036854775807 then (some (.inl ((IntKind.i64.wrap (x2 + (1 : Int))), (x3 ++ [(rd a0 x2)])))) else none) else none)))) else (some (.inr x3)))
noncomputable def impl_unescape (a0 : (List Int)) : Option (List Int) :=
  (Option.bind (loop (fun v => impl_unescape_b0 a0 v.1 v.2) ((0 : Int), ([] : List Int))) (fun x5 => (some x5)))
noncomputable def impl_between (a0 : Int) (a1 : Int) (a2 : Int) : Option Bool :=
  (if (decide (a1 ≤ a0)) = true then (some (decide (a0 ≤ a2))) else (some false))
noncomputable def impl_TelegramOk (a0 : STelegram) : Option Bool :=
  ((impl_between a0.fSeq (0 : Int) (255 : Int)).bind fun t1 => (if t1 = true then ((impl_between a0.fKind (0 : Int) (15 : Int)).bind fun t2 => (if t2 = true then (some (decide ((a0.fBody.length : Int) ≤ (60 : Int)))) else (some false))) else (some false)))
noncomputable def impl_Crc8_b2 (x6 : Int) (x7 : Int) : Option ((Int × Int) ⊕ Int) :=
  (if (decide (x7 < (8 : Int))) = true then (if (decide ((255 : Int) < (IntKind.i64.wrap (x6 * (2 : Int))))) = true then (some (.inl ((IntKind.i64.wrap (((BitVec.ofInt IntKind.i64.bits (IntKind.i64.wrap ((IntKind.i64.wrap (x6 * (2 : Int))) - (256 : Int))) ^^^ BitVec.ofInt IntKind.i64.bits (7 : Int)).toNat : Int))), (IntKind.i64.wrap (x7 + (1 : Int)))))) else (some (.inl ((IntKind.i64.wrap (x6 * (2 : Int))), (IntKind.i64.wrap (x7 + (1 : Int))))))) else (some (.inr x6)))
noncomputable def impl_Crc8_b0 (a0 : (List Int)) (x4 : Int) (x5 : Int) : Option ((Int × Int) ⊕ Int) :=
  (if (decide (x5 < (a0.length : Int))) = true then (if 0 ≤ x5 ∧ x5 < (a0.length : Int) then (Option.bind (loop (fun v => impl_Crc8_b2 v.1 v.2) ((IntKind.i64.wrap (((BitVec.ofInt IntKind.i64.bits x4 ^^^ BitVec.ofInt IntKind.i64.bits (IntKind.i64.wrap (rd a0 x5))).toNat : Int))), (0 : Int))) (fun x8 => (some (.inl (x8, (IntKind.i64.wrap (x5 + (1 : Int)))))))) else none) else (some (.inr x4)))
noncomputable def impl_Crc8 (a0 : (List Int)) : Option Int :=
  (if (decide ((3000 : Int) < (a0.length : Int))) = true then (some (0 : Int)) else (Option.bind (loop (fun v => impl_Crc8_b0 a0 v.1 v.2) ((0 : Int), (0 : Int))) (fun x9 => (some x9))))
noncomputable def impl_load (a0 : STelegram) : Option (List Int) :=
  (if (([(IntKind.u8.wrap a0.fSeq), (IntKind.u8.wrap a0.fKind), (IntKind.u8.wrap (a0.fBody.length : Int))]).length + a0.fBody.length) * 1 ≤ 140737488355328 ∧ ([(IntKind.u8.wrap a0.fSeq), (IntKind.u8.wrap a0.fKind), (IntKind.u8.wrap (a0.fBody.length : Int))]).length + a0.fBody.length ≤ 9223372036854775807 then ((impl_Crc8 ([(IntKind.u8.wrap a0.fSeq), (IntKind.u8.wrap a0.fKind), (IntKind.u8.wrap (a0.fBody.length : Int))] ++ a0.fBody)).bind fun t1 => (if (([(IntKind.u8.wrap a0.fSeq), (IntKind.u8.wrap a0.fKind), (IntKind.u8.wrap (a0.fBody.length : Int))] ++ a0.fBody).length + ([(IntKind.u8.wrap t1)]).length) * 1 ≤ 140737488355328 ∧ ([(IntKind.u8.wrap a0.fSeq), (IntKind.u8.wrap a0.fKind), (IntKind.u8.wrap (a0.fBody.length : Int))] ++ a0.fBody).length + ([(IntKind.u8.wrap t1)]).length ≤ 9223372036854775807 then (some (([(IntKind.u8.wrap a0.fSeq), (IntKind.u8.wrap a0.fKind), (IntKind.u8.wrap (a0.fBody.length : Int))] ++ a0.fBody) ++ [(IntKind.u8.wrap t1)])) else none)) else none)
noncomputable def impl_Encode_b0 (t2 : (List Int)) (x3 : Int) (x4 : (List Int)) : Option ((Int × (List Int)) ⊕ (List Int)) :=
  (if (decide (x3 < (t2.length : Int))) = true then (if 0 ≤ x3 ∧ x3 < (t2.length : Int) then (if (decide ((rd t2 x3) = (126 : Int))) = true then (if (x4.length + ([(125 : Int), (IntKind.u8.wrap (((BitVec.ofInt IntKind.u8.bits (rd t2 x3) ^^^ BitVec.ofInt IntKind.u8.bits (32 : Int)).toNat : Int)))]).length) * 1 ≤ 140737488355328 ∧ x4.length + ([(125 : Int), (IntKind.u8.wrap (((BitVec.ofInt IntKind.u8.bits (rd t2 x3) ^^^ BitVec.ofInt IntKind.u8.bits (32 : Int)).toNat : Int)))]).length ≤ 9223372036854775807 then (some (.inl ((IntKind.i64.wrap (x3 + (1 : Int))), (x4 ++ [(125 : Int), (IntKind.u8.wrap (((BitVec.ofInt IntKind.u8.bits (rd t2 x3) ^^^ BitVec.ofInt IntKind.u8.bits (32 : Int)).toNat : Int)))])))) else none) else (if (decide ((rd t2 x3) = (125 : Int))) = true then (if (x4.length + ([(125 : Int), (IntKind.u8.wrap (((BitVec.ofInt IntKind.u8.bits (rd t2 x3) ^^^ BitVec.ofInt IntKind.u8.bits (32 : Int)).toNat : Int)))]).length) * 1 ≤ 140737488355328 ∧ x4.length + ([(125 : Int), (IntKind.u8.wrap (((BitVec.ofInt IntKind.u8.bits (rd t2 x3) ^^^ BitVec.ofInt IntKind.u8.bits (32 : Int)).toNat : Int)))]).length ≤ 9223372036854775807 then (some (.inl ((IntKind.i64.wrap (x3 + (1 : Int))), (x4 ++ [(125 : Int), (IntKind.u8.wrap (((BitVec.ofInt IntKind.u8.bits (rd t2 x3) ^^^ BitVec.ofInt IntKind.u8.bits (32 : Int)).toNat : Int)))])))) else none) else (if (x4.length + ([(rd t2 x3)]).length) * 1 ≤ 140737488355328 ∧ x4.length + ([(rd t2 x3)]).length ≤ 9223372036854775807 then (some (.inl ((IntKind.i64.wrap (x3 + (1 : Int))), (x4 ++ [(rd t2 x3)])))) else none))) else none) else (some (.inr x4)))
noncomputable def impl_Encode (a0 : STelegram) : Option (List Int) :=
  ((impl_TelegramOk a0).bind fun t1 => (if (!t1) = true then (some ([] : List Int)) else ((impl_load a0).bind fun t2 => (Option.bind (loop (fun v => impl_Encode_b0 t2 v.1 v.2) ((0 : Int), [(126 : Int)])) (fun x5 => (if (x5.length + ([(126 : Int)]).length) * 1 ≤ 140737488355328 ∧ x5.length + ([(126 : Int)]).length ≤ 9223372036854775807 then (some (x5 ++ [(126 : Int)])) else none))))))
noncomputable def bytes_Equal (a0 : (List Int)) (a1 : (List Int)) : Option Bool :=
  (some ((unb a0) == (unb a1)))
noncomputable def impl_Decode (a0 : (List Int)) : Option (STelegram × Bool) :=
  (Option.bind (α := Bool) (if (decide ((a0.length : Int) < (6 : Int))) = true then (some true) else (some (decide ((130 : Int) < (a0.length : Int))))) (fun x1 => (if x1 = true then (some ((STelegram.mk (0 : Int) (0 : Int) ([] : List Int)), false)) else (if 0 ≤ (1 : Int) ∧ (1 : Int) ≤ (IntKind.i64.wrap ((a0.length : Int) - (1 : Int))) ∧ (IntKind.i64.wrap ((a0.length : Int) - (1 : Int))) ≤ (a0.length : Int) then ((impl_unescape ((a0.drop (1 : Int).toNat).take ((IntKind.i64.wrap ((a0.length : Int) - (1 : Int))).toNat - (1 : Int).toNat))).bind fun t2 => (if (decide ((t2.length : Int) < (4 : Int))) = true then (some ((STelegram.mk (0 : Int) (0 : Int) ([] : List Int)), false)) else (if 0 ≤ (0 : Int) ∧ (0 : Int) < (t2.length : Int) then (if 0 ≤ (1 : Int) ∧ (1 : Int) < (t2.length : Int) then (if 0 ≤ (3 : Int) ∧ (3 : Int) ≤ (IntKind.i64.wrap ((t2.length : Int) - (1 : Int))) ∧ (IntKind.i64.wrap ((t2.length : Int) - (1 : Int))) ≤ (t2.length : Int) then (if (([] : List Int).length + ((t2.drop (3 : Int).toNat).take ((IntKind.i64.wrap ((t2.length : Int) - (1 : Int))).toNat - (3 : Int).toNat)).length) * 1 ≤ 140737488355328 ∧ ([] : List Int).length + ((t2.drop (3 : Int).toNat).take ((IntKind.i64.wrap ((t2.length : Int) - (1 : Int))).toNat - (3 : Int).toNat)).length ≤ 9223372036854775807 then ((impl_TelegramOk (STelegram.mk (IntKind.i64.wrap (rd t2 (0 : Int))) (IntKind.i64.wrap (rd t2 (1 : Int))) (([] : List Int) ++ ((t2.drop (3 : Int).toNat).take ((IntKind.i64.wrap ((t2.length : Int) - (1 : Int))).toNat - (3 : Int).toNat))))).bind fun t3 => (if (!t3) = true then (some ((STelegram.mk (0 : Int) (0 : Int) ([] : List Int)), false)) else ((impl_Encode (STelegram.mk (IntKind.i64.wrap (rd t2 (0 : Int))) (IntKind.i64.wrap (rd t2 (1 : Int))) (([] : List Int) ++ ((t2.drop (3 : Int).toNat).take ((IntKind.i64.wrap ((t2.length : Int) - (1 : Int))).toNat - (3 : Int).toNat))))).bind fun t4 => ((bytes_Equal t4 a0).bind fun t5 => (if (!t5) = true then (some ((STelegram.mk (0 : Int) (0 : Int) ([] : List Int)), false)) else (some ((STelegram.mk (IntKind.i64.wrap (rd t2 (0 : Int))) (IntKind.i64.wrap (rd t2 (1 : Int))) (([] : List Int) ++ ((t2.drop (3 : Int).toNat).take ((IntKind.i64.wrap ((t2.length : Int) - (1 : Int))).toNat - (3 : Int).toNat)))), true))))))) else none) else none) else none) else none))) else none))))
noncomputable def laws_eqByteS_b0 (a0 : (List Int)) (a1 : (List Int)) (x1 : Int) : Option (Int ⊕ (Unit ⊕ Bool)) :=
  (if (decide (x1 < (a0.length : Int))) = true then (if 0 ≤ x1 ∧ x1 < (a0.length : Int) then (if 0 ≤ x1 ∧ x1 < (a1.length : Int) then (if (!decide ((rd a0 x1) = (rd a1 x1))) = true then (some (.inr (.inr false))) else (some (.inl (IntKind.i64.wrap (x1 + (1 : Int)))))) else none) else none) else (some (.inr (.inl ()))))
noncomputable def laws_eqByteS (a0 : (List Int)) (a1 : (List Int)) : Option Bool :=
  (if (!decide ((a0.length : Int) = (a1.length : Int))) = true then (some false) else (Option.bind (loop (fun v => laws_eqByteS_b0 a0 a1 v) (0 : Int)) (Sum.elim (fun _ => (some true)) some)))
noncomputable def laws_eqTelegram (a0 : STelegram) (a1 : STelegram) : Option Bool :=
  (if (!decide (a0.fSeq = a1.fSeq)) = true then (some false) else (if (!decide (a0.fKind = a1.fKind)) = true then (some false) else ((laws_eqByteS a0.fBody a1.fBody).bind fun t1 => (if (!t1) = true then (some false) else (some true)))))
noncomputable def laws_markByteS_b0 (x1 : Int) (x2 : Int) (x3 : (List Int)) : Option ((Int × Int × (List Int)) ⊕ (Int × (List Int))) :=
  (if (decide (x2 < (x3.length : Int))) = true then (if 0 ≤ x2 ∧ x2 < (x3.length : Int) then (some (.inl ((IntKind.i64.wrap (x1 + (1 : Int))), (IntKind.i64.wrap (x2 + (1 : Int))), (x3.set x2.toNat (IntKind.u8.wrap x1))))) else none) else (some (.inr (x1, x3))))
noncomputable def laws_markByteS (a0 : (List Int)) (a1 : Int) : Option ((List Int) × Int) :=
  (Option.bind (loop (fun v => laws_markByteS_b0 v.1 v.2.1 v.2.2) (a1, (0 : Int), a0)) (fun v => (fun (x4 : Int) (x5 : (List Int)) => (some (x5, x4))) v.1 v.2))
noncomputable def laws_markTelegram (a0 : STelegram) (a1 : Int) : Option (STelegram × Int) :=
  ((laws_markByteS a0.fBody a1).bind fun t1 => (some ((STelegram.mk a0.fSeq a0.fKind t1.1), t1.2)))
noncomputable def laws_heldByteS_b0 (a0 : (List Int)) (x1 : Int) (x2 : Int) : Option ((Int × Int) ⊕ (Int ⊕ Int)) :=
  (if (decide (x2 < (a0.length : Int))) = true then (if 0 ≤ x2 ∧ x2 < (a0.length : Int) then (if (!decide ((rd a0 x2) = (IntKind.u8.wrap x1))) = true then (some (.inr (.inr (-1 : Int)))) else (some (.inl ((IntKind.i64.wrap (x1 + (1 : Int))), (IntKind.i64.wrap (x2 + (1 : Int))))))) else none) else (some (.inr (.inl x1))))
noncomputable def laws_heldByteS (a0 : (List Int)) (a1 : Int) : Option Int :=
  (Option.bind (loop (fun v => laws_heldByteS_b0 a0 v.1 v.2) (a1, (0 : Int))) (Sum.elim (fun x3 => (some x3)) some))
noncomputable def laws_heldTelegram (a0 : STelegram) (a1 : Int) : Option Int :=
  ((laws_heldByteS a0.fBody a1).bind fun t1 => (if (decide (t1 < (0 : Int))) = true then (some (-1 : Int)) else (some t1)))
noncomputable def laws_FnExactDecode (a0 : (List Int)) : Option Bool :=
  (if (decide ((1048576 : Int) < (a0.length : Int))) = true then (some true) else ((laws_toByteS a0).bind fun t1 => ((spec_Decode t1).bind fun t2 => ((laws_toByteS a0).bind fun t3 => ((impl_Decode t3).bind fun t4 => (Option.bind (α := Bool) ((laws_eqTelegram t4.1 t2.1).bind fun t5 => (if (!t5) = true then (some true) else (some (!(t4.2 == t2.2))))) (fun x6 => (if x6 = true then (some false) else ((laws_toByteS a0).bind fun t7 => ((laws_eqByteS t3 t7).bind fun t8 => (if (!t8) = true then (some false) else ((laws_markByteS t3 (1 : Int)).bind fun t9 => (Option.bind (α := Bool) (if (decide (t9.2 < (0 : Int))) = true then (some true) else ((laws_eqTelegram t4.1 t2.1).bind fun t10 => (if (!t10) = true then (some true) else (some (!(t4.2 == t2.2)))))) (fun x11 => (if x11 = true then (some false) else ((laws_markTelegram t4.1 (1 : Int)).bind fun t12 => ((laws_heldTelegram (STelegram.mk t4.1.fSeq t4.1.fKind t12.1.fBody) (1 : Int)).bind fun t13 => (if (decide (t13 < (0 : Int))) = true then (some false) else (if (!decide (t13 = t12.2)) = true then (some false) else ((laws_toByteS a0).bind fun t14 => ((impl_Decode t14).bind fun t15 => (Option.bind (α := Bool) ((laws_eqTelegram t15.1 t2.1).bind fun t16 => (if (!t16) = true then (some true) else (some (!(t15.2 == t2.2))))) (fun x17 => (if x17 = true then (some false) else ((laws_heldTelegram (STelegram.mk t4.1.fSeq t4.1.fKind t12.1.fBody) (1 : Int)).bind fun t18 => (if (decide (t18 < (0 : Int))) = true then (some false) else (if (!decide (t18 = t12.2)) = true then (some false) else (some true))))))))))))))))))))))))))))
end Go.V
set_option linter.unusedSimpArgs false
set_option linter.unusedVariables false
namespace Go.V
open Go Go.RowKit Go.Proofs
set_option maxHeartbeats 4000000 in
set_option maxRecDepth 100000 in
theorem laws_toByteS_ok {a0 : (List Int)} {r : (List Int)} (h0 : laws_toByteS a0 = some r) :
    OkA Try.prog 21 [.v (.sl none (a0.map eIu8))] [.c (.sl (some (5, 1)) (r.map eIu8))] false := by
  unfold laws_toByteS at h0
  refine okA_of (n := 22) (rvs := [.tmp 2]) Try.func21 rfl rfl rfl (by simp) ?_
  simp only [slots, slotsM, widths, List.map_cons, List.sum_cons, List.sum_nil, Nat.reduceAdd, List.length_cons, List.length_nil, RT.width, unRs, unR, unCs, unC, putsO, putO, Cell.ro, List.map_cons, List.map_nil, List.nil_append, List.append_nil, List.cons_append]
  refine go_seq ?_
  refine go_region fun K hK => ?_
  try simp (config := { maxSteps := 4000000 }) only [push_cast, reduceIte, reduceCtorEq, Nat.reduceAdd, Nat.reduceSub, Nat.reduceMul, Nat.reduceEqDiff, Nat.reduceLT, Nat.reduceLeDiff]
  refine hK _ _ ?_
  clear hK K
  refine go_seq ?_
  refine go_region fun K hK => ?_
  obtain ⟨h4, h0⟩ := ite_some' h0
  try simp (config := { maxSteps := 4000000 }) only [push_cast, reduceIte, reduceCtorEq, Nat.reduceAdd, Nat.reduceSub, Nat.reduceMul, Nat.reduceEqDiff, Nat.reduceLT, Nat.reduceLeDiff]
  repeat (refine And.intro ?_ ?_; · ((repeat' apply And.intro) <;> first | assumption | omega | kernel_rfl | decide | (simp; done) | (simp only [List.length_cons, List.length_nil, List.length_append, List.length_map, List.length_set, List.length_replicate, List.length_take, List.length_drop] at *; omega)))
  refine hK _ _ ?_
  clear hK K
  refine go_wk (k' := 1) (τ := mk 22 0 [(0, .c (.lst (a0.map eIu8))), (3, .c (.own 0))] (nums 0 [.row 5 1 ((List.replicate (a0.length : Int).toNat (0 : Int)).map eIu8)])) ?_ ?_
  ·
    refine wk_mk [some 96] rfl ?_ ?_ ?_ ?_ ?_
    · exact (fun i h => absurd h (by omega))
    · exact (.cons _ _ _ (sv_lst (by first | rfl | (simp only [push_cast, List.map_append, List.map_set, List.map_replicate]; done) | (simp only [push_cast, List.map_append, List.map_set, List.map_replicate]; rfl))) (.cons _ _ _ (sv_own rfl) .nil))
    · exact (.cons (so_row rfl (by first | rfl | (simp only [push_cast, List.map_append, List.map_set, List.map_replicate]; done) | (simp only [push_cast, List.map_append, List.map_set, List.map_replicate]; rfl))) .nil)
    · exact by decide
    · exact by decide
  refine go_seq ?_
  refine go_seq ?_
  refine go_region fun K hK => ?_
  try simp (config := { maxSteps := 4000000 }) only [push_cast, reduceIte, reduceCtorEq, Nat.reduceAdd, Nat.reduceSub, Nat.reduceMul, Nat.reduceEqDiff, Nat.reduceLT, Nat.reduceLeDiff]
  refine hK _ _ ?_
  clear hK K
  obtain ⟨o5, h6, h0⟩ := bind_some' h0
  obtain ⟨m7, h8⟩ := loop_runs h6
  clear h6
  refine go_cut (fun k σ => ∃ x3 : (List Int), o5 = x3 ∧ Wk k σ 1 (mk 22 0 [(3, .c (.own 0))] (nums 0 [.row 5 1 (x3.map eIu8)]))) ?_ ?_
  ·
    refine go_block (go_loop (fun n k σ => ∃ x1 : Int, ∃ x2 : (List Int), Runs (fun v => laws_toByteS_b0 a0 v.1 v.2) n (x1, x2) o5 ∧ Wk k σ 1 (mk 22 0 [(0, .c (.lst (a0.map eIu8))), (3, .c (.own 0)), (4, .c (.int .i64 x1))] (nums 0 [.row 5 1 (x2.map eIu8)]))) m7 ⟨(0 : Int), (List.replicate (a0.length : Int).toNat (0 : Int)), h8, ?_⟩ ?_)
    ·
      refine wk_mk [some 0] rfl ?_ ?_ ?_ ?_ ?_
      · exact (fun i h => absurd h (by omega))
      · exact (.cons _ _ _ (sv_lst (by first | rfl | (simp only [push_cast, List.map_append, List.map_set, List.map_replicate]; done) | (simp only [push_cast, List.map_append, List.map_set, List.map_replicate]; rfl))) (.cons _ _ _ (sv_own rfl) (.cons _ _ _ (sv_int (by first | rfl | (simp only [push_cast, List.map_append, List.map_set, List.map_replicate]; done) | (simp only [push_cast, List.map_append, List.map_set, List.map_replicate]; rfl))) .nil)))
      · exact (.cons (so_row rfl (by first | rfl | (simp only [push_cast, List.map_append, List.map_set, List.map_replicate]; done) | (simp only [push_cast, List.map_append, List.map_set, List.map_replicate]; rfl))) .nil)
      · exact by decide
      · exact by decide
    clear h8
    rintro n9 k10 s11 ⟨x1, x2, h12, h13⟩
    refine go_wk h13 ?_
    obtain ⟨y14, h15, h16⟩ := h12.next
    clear h13 h12
    replace h15 : laws_toByteS_b0 a0 x1 x2 = some y14 := h15
    unfold laws_toByteS_b0 at h15
    refine go_seq ?_
    refine go_seq ?_
    refine go_region fun K hK => ?_
    try simp (config := { maxSteps := 4000000 }) only [push_cast, reduceIte, reduceCtorEq, Nat.reduceAdd, Nat.reduceSub, Nat.reduceMul, Nat.reduceEqDiff, Nat.reduceLT, Nat.reduceLeDiff]
    refine hK _ _ ?_
    clear hK K
    refine go_cond _ rfl (fun h17 => ?_) (fun h17 => ?_)
    · replace h15 := (bif_t h17).symm.trans h15
      refine go_skip ?_
      refine go_seq ?_
      refine go_block ?_
      refine go_region fun K hK => ?_
      obtain ⟨h18, h15⟩ := ite_some' h15
      obtain ⟨h19, h15⟩ := ite_some' h15
      try simp (config := { maxSteps := 4000000 }) only [push_cast, reduceIte, reduceCtorEq, Nat.reduceAdd, Nat.reduceSub, Nat.reduceMul, Nat.reduceEqDiff, Nat.reduceLT, Nat.reduceLeDiff, rd_some h18, rd_some h19]
      repeat (refine And.intro ?_ ?_; · ((repeat' apply And.intro) <;> first | assumption | omega | kernel_rfl | decide | (simp; done) | (simp only [List.length_cons, List.length_nil, List.length_append, List.length_map, List.length_set, List.length_replicate, List.length_take, List.length_drop] at *; omega)))
      refine hK _ _ ?_
      clear hK K
      refine go_blk 1 ?_
      refine go_region fun K hK => ?_
      try simp (config := { maxSteps := 4000000 }) only [push_cast, reduceIte, reduceCtorEq, Nat.reduceAdd, Nat.reduceSub, Nat.reduceMul, Nat.reduceEqDiff, Nat.reduceLT, Nat.reduceLeDiff]
      refine hK _ _ ?_
      clear hK K
      have e20 := Option.some.inj h15
      rw [← e20] at h16
      obtain ⟨m21, h22, h23⟩ := h16
      refine go_lp ⟨m21, h22, (IntKind.i64.wrap (x1 + (1 : Int))), (x2.set x1.toNat (rd a0 x1)), h23, ?_⟩
      refine wk_mk [some 0] rfl ?_ ?_ ?_ ?_ ?_
      · exact (fun i h => absurd h (by omega))
      · exact (.cons _ _ _ (sv_lst (by first | rfl | (simp only [push_cast, List.map_append, List.map_set, List.map_replicate]; done) | (simp only [push_cast, List.map_append, List.map_set, List.map_replicate]; rfl))) (.cons _ _ _ (sv_own rfl) (.cons _ _ _ (sv_int (by first | rfl | (simp only [push_cast, List.map_append, List.map_set, List.map_replicate]; done) | (simp only [push_cast, List.map_append, List.map_set, List.map_replicate]; rfl))) .nil)))
      · exact (.cons (so_row rfl (by first | rfl | (simp only [push_cast, List.map_append, List.map_set, List.map_replicate]; done) | (simp only [push_cast, List.map_append, List.map_set, List.map_replicate]; rfl))) .nil)
      · exact by decide
      · exact by decide
    · replace h15 := (bif_f h17).symm.trans h15
      refine go_exit ?_
      refine go_out ?_
      refine go_lp_out ?_
      refine go_blk_at ?_
      have e24 := Option.some.inj h15
      rw [← e24] at h16
      replace h16 : _ = _ := h16
      refine go_lp ⟨x2, h16.symm, ?_⟩
      refine wk_mk [some 0] rfl ?_ ?_ ?_ ?_ ?_
      · exact (fun i h => absurd h (by omega))
      · exact (.cons _ _ _ (sv_own rfl) .nil)
      · exact (.cons (so_row rfl (by first | rfl | (simp only [push_cast, List.map_append, List.map_set, List.map_replicate]; done) | (simp only [push_cast, List.map_append, List.map_set, List.map_replicate]; rfl))) .nil)
      · exact by decide
      · exact by decide
  · rintro k σ ⟨x3, h25q, h25⟩
    rw [h25q] at h0
    try dsimp only [Sum.elim_inl] at h0
    refine go_seq ?_
    refine go_wk h25 ?_
    clear h25
    refine go_region fun K hK => ?_
    try simp (config := { maxSteps := 4000000 }) only [push_cast, reduceIte, reduceCtorEq, Nat.reduceAdd, Nat.reduceSub, Nat.reduceMul, Nat.reduceEqDiff, Nat.reduceLT, Nat.reduceLeDiff]
    refine hK _ _ ?_
    clear hK K
    refine go_ret ?_
    cases h0
    refine go_end_ret ?_
    exact ⟨_, [0], rfl, (.cons (.c (mc_own rfl (by first | rfl | (simp only [push_cast, List.map_append, List.map_set, List.map_replicate]; done) | (simp only [push_cast, List.map_append, List.map_set, List.map_replicate]; rfl)))) .nil), by decide, .inr (by simp only [RT.cells, List.mem_cons, List.mem_singleton, List.not_mem_nil, or_false, forall_eq, forall_eq_or_imp, allOwn_int, allOwn_bool, allOwn_str, allOwn_none, eIu8_ao, eTelegram_ao, eIi64_ao, eShunt_ao, eLIi64_ao, eSidings_ao, eNeed_ao, eRoute_ao, ePlant_ao, eLockOp_ao, eB_ao, eLocking_ao, eTask_ao, eRule_ao, eEdge_ao, eCall_ao, eTrip_ao, eBooking_ao, eNet_ao, eTrain_ao, eDesk_ao, eUse_ao, eRun_ao, eT_ao, o120Trip_ao, o33LIi64_ao, implies_true, and_true, false_implies, List.map_eq_nil_iff, and_self])⟩
end Go.V
set_option linter.unusedSimpArgs false
set_option linter.unusedVariables false
namespace Go.V
open Go Go.RowKit Go.Proofs
set_option maxHeartbeats 4000000 in
set_option maxRecDepth 100000 in
theorem spec_l01In_ok {a0 : Int} {a1 : Int} {a2 : Int} {r : Bool} (h0 : spec_l01In a0 a1 a2 = some r) :
    OkA Try.prog 146 [.v (.int .i64 a0), .v (.int .i64 a1), .v (.int .i64 a2)] [.c (.bool r)] false := by
  unfold spec_l01In at h0
  refine okA_of (n := 15) (rvs := [.tmp 6]) Try.func146 rfl rfl rfl (by simp) ?_
  simp only [slots, slotsM, widths, List.map_cons, List.sum_cons, List.sum_nil, Nat.reduceAdd, List.length_cons, List.length_nil, RT.width, unRs, unR, unCs, unC, putsO, putO, Cell.ro, List.map_cons, List.map_nil, List.nil_append, List.append_nil, List.cons_append]
  refine go_seq ?_
  refine go_region fun K hK => ?_
  try simp (config := { maxSteps := 4000000 }) only [push_cast, reduceIte, reduceCtorEq, Nat.reduceAdd, Nat.reduceSub, Nat.reduceMul, Nat.reduceEqDiff, Nat.reduceLT, Nat.reduceLeDiff]
  refine hK _ _ ?_
  clear hK K
  refine go_seq ?_
  refine go_region fun K hK => ?_
  try simp (config := { maxSteps := 4000000 }) only [push_cast, reduceIte, reduceCtorEq, Nat.reduceAdd, Nat.reduceSub, Nat.reduceMul, Nat.reduceEqDiff, Nat.reduceLT, Nat.reduceLeDiff]
  refine vops_if rfl (Nat.le_of_ble_eq_true rfl) (by simp only [lt_some, lt_none, mk_n, Nat.reduceLT]) (fun h1 => ?_) (fun h1 => ?_)
  · replace h1 : _ = true := h1
    replace h0 := (bif_t h1).symm.trans h0
    try simp (config := { maxSteps := 4000000 }) only [push_cast, reduceIte, reduceCtorEq, Nat.reduceAdd, Nat.reduceSub, Nat.reduceMul, Nat.reduceEqDiff, Nat.reduceLT, Nat.reduceLeDiff]
    refine hK _ _ ?_
    clear hK K
    refine go_ret ?_
    cases h0
    refine go_end_ret ?_
    exact ⟨_, [], rfl, (.cons (.c (.bool _)) .nil), by decide, .inr (by simp only [RT.cells, List.mem_cons, List.mem_singleton, List.not_mem_nil, or_false, forall_eq, forall_eq_or_imp, allOwn_int, allOwn_bool, allOwn_str, allOwn_none, eIu8_ao, eTelegram_ao, eIi64_ao, eShunt_ao, eLIi64_ao, eSidings_ao, eNeed_ao, eRoute_ao, ePlant_ao, eLockOp_ao, eB_ao, eLocking_ao, eTask_ao, eRule_ao, eEdge_ao, eCall_ao, eTrip_ao, eBooking_ao, eNet_ao, eTrain_ao, eDesk_ao, eUse_ao, eRun_ao, eT_ao, o120Trip_ao, o33LIi64_ao, implies_true, and_true, false_implies, List.map_eq_nil_iff, and_self])⟩
  · replace h1 : _ = false := h1
    replace h0 := (bif_f h1).symm.trans h0
    try simp (config := { maxSteps := 4000000 }) only [push_cast, reduceIte, reduceCtorEq, Nat.reduceAdd, Nat.reduceSub, Nat.reduceMul, Nat.reduceEqDiff, Nat.reduceLT, Nat.reduceLeDiff]
    refine hK _ _ ?_
    clear hK K
    refine go_ret ?_
    cases h0
    refine go_end_ret ?_
    exact ⟨_, [], rfl, (.cons (.c (.bool _)) .nil), by decide, .inr (by simp only [RT.cells, List.mem_cons, List.mem_singleton, List.not_mem_nil, or_false, forall_eq, forall_eq_or_imp, allOwn_int, allOwn_bool, allOwn_str, allOwn_none, eIu8_ao, eTelegram_ao, eIi64_ao, eShunt_ao, eLIi64_ao, eSidings_ao, eNeed_ao, eRoute_ao, ePlant_ao, eLockOp_ao, eB_ao, eLocking_ao, eTask_ao, eRule_ao, eEdge_ao, eCall_ao, eTrip_ao, eBooking_ao, eNet_ao, eTrain_ao, eDesk_ao, eUse_ao, eRun_ao, eT_ao, o120Trip_ao, o33LIi64_ao, implies_true, and_true, false_implies, List.map_eq_nil_iff, and_self])⟩
end Go.V
set_option linter.unusedSimpArgs false
set_option linter.unusedVariables false
namespace Go.V
open Go Go.RowKit Go.Proofs
set_option maxHeartbeats 4000000 in
set_option maxRecDepth 100000 in
theorem spec_TelegramOk_ok {a0 : STelegram} {r : Bool} (h0 : spec_TelegramOk a0 = some r) :
    OkA Try.prog 101 [.s (eTelegram a0)] [.c (.bool r)] false := by
  unfold spec_TelegramOk at h0
  refine okA_of (n := 17) (rvs := [.tmp 2]) Try.func101 rfl rfl rfl (by simp) ?_
  simp only [slots, slotsM, widths, List.map_cons, List.sum_cons, List.sum_nil, Nat.reduceAdd, List.length_cons, List.length_nil, RT.width, unRs, unR, unCs, unC, putsO, putO, Cell.ro, List.map_cons, List.map_nil, List.nil_append, List.append_nil, List.cons_append]
  refine go_seq ?_
  refine go_region fun K hK => ?_
  try simp (config := { maxSteps := 4000000 }) only [push_cast, reduceIte, reduceCtorEq, Nat.reduceAdd, Nat.reduceSub, Nat.reduceMul, Nat.reduceEqDiff, Nat.reduceLT, Nat.reduceLeDiff]
  refine hK _ _ ?_
  clear hK K
  refine go_wk (k' := 1) (τ := mk 17 0 [(1, .c (.ptr 0 0))] (nums 0 [.box [.int .i64 a0.fSeq, .int .i64 a0.fKind, .lst (a0.fBody.map eIu8)]])) ?_ ?_
  ·
    refine wk_mk [some 0] rfl ?_ ?_ ?_ ?_ ?_
    · exact (fun i h => absurd h (by omega))
    · exact (.cons _ _ _ (sv_ptr rfl) .nil)
    · exact (.cons (.box _ _ _ rfl (.cons (sc_int (by first | rfl | (simp only [push_cast, List.map_append, List.map_set, List.map_replicate]; done) | (simp only [push_cast, List.map_append, List.map_set, List.map_replicate]; rfl))) (.cons (sc_int (by first | rfl | (simp only [push_cast, List.map_append, List.map_set, List.map_replicate]; done) | (simp only [push_cast, List.map_append, List.map_set, List.map_replicate]; rfl))) (.cons (sc_lst (by first | rfl | (simp only [push_cast, List.map_append, List.map_set, List.map_replicate]; done) | (simp only [push_cast, List.map_append, List.map_set, List.map_replicate]; rfl))) .nil)))) .nil)
    · exact by decide
    · exact by decide
  refine go_seq ?_
  refine go_region fun K hK => ?_
  try simp (config := { maxSteps := 4000000 }) only [push_cast, reduceIte, reduceCtorEq, Nat.reduceAdd, Nat.reduceSub, Nat.reduceMul, Nat.reduceEqDiff, Nat.reduceLT, Nat.reduceLeDiff]
  obtain ⟨t1, ht1, h0⟩ := bind_some' h0
  refine vops_callA (spec_l01In_ok ht1) cb146 (by simp only [lt_some, lt_none, mk_n, Nat.reduceLT]) (by simp only [push_cast, List.map_append, List.map_set, List.map_replicate]; rfl) (Nat.le_of_ble_eq_true rfl) ?_
  try simp (config := { maxSteps := 4000000 }) only [push_cast, reduceIte, reduceCtorEq, Nat.reduceAdd, Nat.reduceSub, Nat.reduceMul, Nat.reduceEqDiff, Nat.reduceLT, Nat.reduceLeDiff]
  refine vops_if rfl (Nat.le_of_ble_eq_true rfl) (by simp only [lt_some, lt_none, mk_n, Nat.reduceLT]) (fun h3 => ?_) (fun h3 => ?_)
  · replace h3 : _ = true := h3
    replace h0 := (bif_t h3).symm.trans h0
    try simp (config := { maxSteps := 4000000 }) only [push_cast, reduceIte, reduceCtorEq, Nat.reduceAdd, Nat.reduceSub, Nat.reduceMul, Nat.reduceEqDiff, Nat.reduceLT, Nat.reduceLeDiff]
    obtain ⟨t2, ht2, h0⟩ := bind_some' h0
    refine vops_callA (spec_l01In_ok ht2) cb146 (by simp only [lt_some, lt_none, mk_n, Nat.reduceLT]) (by simp only [push_cast, List.map_append, List.map_set, List.map_replicate]; rfl) (Nat.le_of_ble_eq_true rfl) ?_
    try simp (config := { maxSteps := 4000000 }) only [push_cast, reduceIte, reduceCtorEq, Nat.reduceAdd, Nat.reduceSub, Nat.reduceMul, Nat.reduceEqDiff, Nat.reduceLT, Nat.reduceLeDiff]
    refine vops_if rfl (Nat.le_of_ble_eq_true rfl) (by simp only [lt_some, lt_none, mk_n, Nat.reduceLT]) (fun h4 => ?_) (fun h4 => ?_)
    · replace h4 : _ = true := h4
      replace h0 := (bif_t h4).symm.trans h0
      try simp (config := { maxSteps := 4000000 }) only [push_cast, reduceIte, reduceCtorEq, Nat.reduceAdd, Nat.reduceSub, Nat.reduceMul, Nat.reduceEqDiff, Nat.reduceLT, Nat.reduceLeDiff]
      refine hK _ _ ?_
      clear hK K
      refine go_wk (k' := 0) (τ := mk 17 0 [(2, .c (.bool (decide ((a0.fBody.length : Int) ≤ (60 : Int)))))] (nums 0 [])) ?_ ?_
      ·
        refine wk_mk [] rfl ?_ ?_ ?_ ?_ ?_
        · exact (fun i h => absurd h (by omega))
        · exact (.cons _ _ _ (sv_bool (by first | rfl | (simp only [push_cast, List.map_append, List.map_set, List.map_replicate]; done) | (simp only [push_cast, List.map_append, List.map_set, List.map_replicate]; rfl))) .nil)
        · exact .nil
        · exact by decide
        · exact by decide
      refine go_ret ?_
      cases h0
      refine go_end_ret ?_
      exact ⟨_, [], rfl, (.cons (.c (.bool _)) .nil), by decide, .inr (by simp only [RT.cells, List.mem_cons, List.mem_singleton, List.not_mem_nil, or_false, forall_eq, forall_eq_or_imp, allOwn_int, allOwn_bool, allOwn_str, allOwn_none, eIu8_ao, eTelegram_ao, eIi64_ao, eShunt_ao, eLIi64_ao, eSidings_ao, eNeed_ao, eRoute_ao, ePlant_ao, eLockOp_ao, eB_ao, eLocking_ao, eTask_ao, eRule_ao, eEdge_ao, eCall_ao, eTrip_ao, eBooking_ao, eNet_ao, eTrain_ao, eDesk_ao, eUse_ao, eRun_ao, eT_ao, o120Trip_ao, o33LIi64_ao, implies_true, and_true, false_implies, List.map_eq_nil_iff, and_self])⟩
    · replace h4 : _ = false := h4
      replace h0 := (bif_f h4).symm.trans h0
      try simp (config := { maxSteps := 4000000 }) only [push_cast, reduceIte, reduceCtorEq, Nat.reduceAdd, Nat.reduceSub, Nat.reduceMul, Nat.reduceEqDiff, Nat.reduceLT, Nat.reduceLeDiff]
      refine hK _ _ ?_
      clear hK K
      refine go_wk (k' := 0) (τ := mk 17 0 [(2, .c (.bool false))] (nums 0 [])) ?_ ?_
      ·
        refine wk_mk [] rfl ?_ ?_ ?_ ?_ ?_
        · exact (fun i h => absurd h (by omega))
        · exact (.cons _ _ _ (sv_bool (by first | rfl | (simp only [push_cast, List.map_append, List.map_set, List.map_replicate]; done) | (simp only [push_cast, List.map_append, List.map_set, List.map_replicate]; rfl))) .nil)
        · exact .nil
        · exact by decide
        · exact by decide
      refine go_ret ?_
      cases h0
      refine go_end_ret ?_
      exact ⟨_, [], rfl, (.cons (.c (.bool _)) .nil), by decide, .inr (by simp only [RT.cells, List.mem_cons, List.mem_singleton, List.not_mem_nil, or_false, forall_eq, forall_eq_or_imp, allOwn_int, allOwn_bool, allOwn_str, allOwn_none, eIu8_ao, eTelegram_ao, eIi64_ao, eShunt_ao, eLIi64_ao, eSidings_ao, eNeed_ao, eRoute_ao, ePlant_ao, eLockOp_ao, eB_ao, eLocking_ao, eTask_ao, eRule_ao, eEdge_ao, eCall_ao, eTrip_ao, eBooking_ao, eNet_ao, eTrain_ao, eDesk_ao, eUse_ao, eRun_ao, eT_ao, o120Trip_ao, o33LIi64_ao, implies_true, and_true, false_implies, List.map_eq_nil_iff, and_self])⟩
  · replace h3 : _ = false := h3
    replace h0 := (bif_f h3).symm.trans h0
    try simp (config := { maxSteps := 4000000 }) only [push_cast, reduceIte, reduceCtorEq, Nat.reduceAdd, Nat.reduceSub, Nat.reduceMul, Nat.reduceEqDiff, Nat.reduceLT, Nat.reduceLeDiff]
    refine hK _ _ ?_
    clear hK K
    refine go_wk (k' := 0) (τ := mk 17 0 [(2, .c (.bool false))] (nums 0 [])) ?_ ?_
    ·
      refine wk_mk [] rfl ?_ ?_ ?_ ?_ ?_
      · exact (fun i h => absurd h (by omega))
      · exact (.cons _ _ _ (sv_bool (by first | rfl | (simp only [push_cast, List.map_append, List.map_set, List.map_replicate]; done) | (simp only [push_cast, List.map_append, List.map_set, List.map_replicate]; rfl))) .nil)
      · exact .nil
      · exact by decide
      · exact by decide
    refine go_ret ?_
    cases h0
    refine go_end_ret ?_
    exact ⟨_, [], rfl, (.cons (.c (.bool _)) .nil), by decide, .inr (by simp only [RT.cells, List.mem_cons, List.mem_singleton, List.not_mem_nil, or_false, forall_eq, forall_eq_or_imp, allOwn_int, allOwn_bool, allOwn_str, allOwn_none, eIu8_ao, eTelegram_ao, eIi64_ao, eShunt_ao, eLIi64_ao, eSidings_ao, eNeed_ao, eRoute_ao, ePlant_ao, eLockOp_ao, eB_ao, eLocking_ao, eTask_ao, eRule_ao, eEdge_ao, eCall_ao, eTrip_ao, eBooking_ao, eNet_ao, eTrain_ao, eDesk_ao, eUse_ao, eRun_ao, eT_ao, o120Trip_ao, o33LIi64_ao, implies_true, and_true, false_implies, List.map_eq_nil_iff, and_self])⟩
end Go.V
set_option linter.unusedSimpArgs false
set_option linter.unusedVariables false
namespace Go.V
open Go Go.RowKit Go.Proofs
set_option maxHeartbeats 4000000 in
set_option maxRecDepth 100000 in
theorem spec_Crc8_ok {a0 : (List Int)} {r : Int} (h0 : spec_Crc8 a0 = some r) :
    OkA Try.prog 186 [.v (.sl none (a0.map eIu8))] [.c (.int .i64 r)] false := by
  unfold spec_Crc8 at h0
  refine okA_of (n := 34) (rvs := [.tmp 2]) Try.func186 rfl rfl rfl (by simp) ?_
  simp only [slots, slotsM, widths, List.map_cons, List.sum_cons, List.sum_nil, Nat.reduceAdd, List.length_cons, List.length_nil, RT.width, unRs, unR, unCs, unC, putsO, putO, Cell.ro, List.map_cons, List.map_nil, List.nil_append, List.append_nil, List.cons_append]
  refine go_seq ?_
  refine go_region fun K hK => ?_
  try simp (config := { maxSteps := 4000000 }) only [push_cast, reduceIte, reduceCtorEq, Nat.reduceAdd, Nat.reduceSub, Nat.reduceMul, Nat.reduceEqDiff, Nat.reduceLT, Nat.reduceLeDiff]
  refine hK _ _ ?_
  clear hK K
  refine go_seq ?_
  refine go_seq ?_
  refine go_region fun K hK => ?_
  try simp (config := { maxSteps := 4000000 }) only [push_cast, reduceIte, reduceCtorEq, Nat.reduceAdd, Nat.reduceSub, Nat.reduceMul, Nat.reduceEqDiff, Nat.reduceLT, Nat.reduceLeDiff]
  refine hK _ _ ?_
  clear hK K
  refine go_cond _ rfl (fun h10 => ?_) (fun h10 => ?_)
  · replace h0 := (bif_t h10).symm.trans h0
    refine go_seq ?_
    refine go_region fun K hK => ?_
    try simp (config := { maxSteps := 4000000 }) only [push_cast, reduceIte, reduceCtorEq, Nat.reduceAdd, Nat.reduceSub, Nat.reduceMul, Nat.reduceEqDiff, Nat.reduceLT, Nat.reduceLeDiff]
    refine hK _ _ ?_
    clear hK K
    refine go_ret ?_
    refine go_out_ret ?_
    cases h0
    refine go_end_ret ?_
    exact ⟨_, [], rfl, (.cons (.c (.int _ _)) .nil), by decide, .inr (by simp only [RT.cells, List.mem_cons, List.mem_singleton, List.not_mem_nil, or_false, forall_eq, forall_eq_or_imp, allOwn_int, allOwn_bool, allOwn_str, allOwn_none, eIu8_ao, eTelegram_ao, eIi64_ao, eShunt_ao, eLIi64_ao, eSidings_ao, eNeed_ao, eRoute_ao, ePlant_ao, eLockOp_ao, eB_ao, eLocking_ao, eTask_ao, eRule_ao, eEdge_ao, eCall_ao, eTrip_ao, eBooking_ao, eNet_ao, eTrain_ao, eDesk_ao, eUse_ao, eRun_ao, eT_ao, o120Trip_ao, o33LIi64_ao, implies_true, and_true, false_implies, List.map_eq_nil_iff, and_self])⟩
  · replace h0 := (bif_f h10).symm.trans h0
    refine go_skip ?_
    refine go_seq ?_
    refine go_region fun K hK => ?_
    try simp (config := { maxSteps := 4000000 }) only [push_cast, reduceIte, reduceCtorEq, Nat.reduceAdd, Nat.reduceSub, Nat.reduceMul, Nat.reduceEqDiff, Nat.reduceLT, Nat.reduceLeDiff]
    refine hK _ _ ?_
    clear hK K
    refine go_seq ?_
    refine go_seq ?_
    refine go_region fun K hK => ?_
    try simp (config := { maxSteps := 4000000 }) only [push_cast, reduceIte, reduceCtorEq, Nat.reduceAdd, Nat.reduceSub, Nat.reduceMul, Nat.reduceEqDiff, Nat.reduceLT, Nat.reduceLeDiff]
    refine hK _ _ ?_
    clear hK K
    obtain ⟨o11, h12, h0⟩ := bind_some' h0
    obtain ⟨m13, h14⟩ := loop_runs h12
    clear h12
    refine go_cut (fun k σ => ∃ x9 : Int, o11 = x9 ∧ Wk k σ 0 (mk 34 0 [(3, .c (.int .i64 x9))] (nums 0 []))) ?_ ?_
    ·
      refine go_block (go_loop (fun n k σ => ∃ x4 : Int, ∃ x5 : Int, Runs (fun v => spec_Crc8_b0 a0 v.1 v.2) n (x4, x5) o11 ∧ Wk k σ 0 (mk 34 0 [(0, .c (.lst (a0.map eIu8))), (3, .c (.int .i64 x4)), (4, .c (.int .i64 x5))] (nums 0 []))) m13 ⟨(0 : Int), (0 : Int), h14, ?_⟩ ?_)
      ·
        refine wk_mk [] rfl ?_ ?_ ?_ ?_ ?_
        · exact (fun i h => absurd h (by omega))
        · exact (.cons _ _ _ (sv_lst (by first | rfl | (simp only [push_cast, List.map_append, List.map_set, List.map_replicate]; done) | (simp only [push_cast, List.map_append, List.map_set, List.map_replicate]; rfl))) (.cons _ _ _ (sv_int (by first | rfl | (simp only [push_cast, List.map_append, List.map_set, List.map_replicate]; done) | (simp only [push_cast, List.map_append, List.map_set, List.map_replicate]; rfl))) (.cons _ _ _ (sv_int (by first | rfl | (simp only [push_cast, List.map_append, List.map_set, List.map_replicate]; done) | (simp only [push_cast, List.map_append, List.map_set, List.map_replicate]; rfl))) .nil)))
        · exact .nil
        · exact by decide
        · exact by decide
      clear h14
      rintro n15 k16 s17 ⟨x4, x5, h18, h19⟩
      refine go_wk h19 ?_
      obtain ⟨y20, h21, h22⟩ := h18.next
      clear h19 h18
      replace h21 : spec_Crc8_b0 a0 x4 x5 = some y20 := h21
      unfold spec_Crc8_b0 at h21
      refine go_seq ?_
      refine go_seq ?_
      refine go_region fun K hK => ?_
      try simp (config := { maxSteps := 4000000 }) only [push_cast, reduceIte, reduceCtorEq, Nat.reduceAdd, Nat.reduceSub, Nat.reduceMul, Nat.reduceEqDiff, Nat.reduceLT, Nat.reduceLeDiff]
      refine hK _ _ ?_
      clear hK K
      refine go_cond _ rfl (fun h23 => ?_) (fun h23 => ?_)
      · replace h21 := (bif_t h23).symm.trans h21
        refine go_skip ?_
        refine go_seq ?_
        refine go_block ?_
        refine go_seq ?_
        refine go_region fun K hK => ?_
        obtain ⟨h24, h21⟩ := ite_some' h21
        try simp (config := { maxSteps := 4000000 }) only [push_cast, reduceIte, reduceCtorEq, Nat.reduceAdd, Nat.reduceSub, Nat.reduceMul, Nat.reduceEqDiff, Nat.reduceLT, Nat.reduceLeDiff, rd_some h24]
        repeat (refine And.intro ?_ ?_; · ((repeat' apply And.intro) <;> first | assumption | omega | kernel_rfl | decide | (simp; done) | (simp only [List.length_cons, List.length_nil, List.length_append, List.length_map, List.length_set, List.length_replicate, List.length_take, List.length_drop] at *; omega)))
        refine hK _ _ ?_
        clear hK K
        refine go_seq ?_
        refine go_region fun K hK => ?_
        try simp (config := { maxSteps := 4000000 }) only [push_cast, reduceIte, reduceCtorEq, Nat.reduceAdd, Nat.reduceSub, Nat.reduceMul, Nat.reduceEqDiff, Nat.reduceLT, Nat.reduceLeDiff]
        refine hK _ _ ?_
        clear hK K
        obtain ⟨o25, h26, h21⟩ := bind_some' h21
        obtain ⟨m27, h28⟩ := loop_runs h26
        clear h26
        refine go_cut (fun k σ => ∃ x8 : Int, o25 = x8 ∧ Wk k σ 0 (mk 34 0 [(0, .c (.lst (a0.map eIu8))), (3, .c (.int .i64 x8)), (4, .c (.int .i64 x5))] (nums 0 []))) ?_ ?_
        ·
          refine go_block (go_loop (fun n k σ => ∃ x6 : Int, ∃ x7 : Int, Runs (fun v => spec_Crc8_b2 v.1 v.2) n (x6, x7) o25 ∧ Wk k σ 0 (mk 34 0 [(0, .c (.lst (a0.map eIu8))), (3, .c (.int .i64 x6)), (4, .c (.int .i64 x5)), (5, .c (.int .i64 x7))] (nums 0 []))) m27 ⟨(IntKind.i64.wrap (((BitVec.ofInt IntKind.i64.bits x4 ^^^ BitVec.ofInt IntKind.i64.bits (IntKind.i64.wrap (rd a0 x5))).toNat : Int))), (0 : Int), h28, ?_⟩ ?_)
          ·
            refine wk_mk [] rfl ?_ ?_ ?_ ?_ ?_
            · exact (fun i h => absurd h (by omega))
            · exact (.cons _ _ _ (sv_lst (by first | rfl | (simp only [push_cast, List.map_append, List.map_set, List.map_replicate]; done) | (simp only [push_cast, List.map_append, List.map_set, List.map_replicate]; rfl))) (.cons _ _ _ (sv_int (by first | rfl | (simp only [push_cast, List.map_append, List.map_set, List.map_replicate]; done) | (simp only [push_cast, List.map_append, List.map_set, List.map_replicate]; rfl))) (.cons _ _ _ (sv_int (by first | rfl | (simp only [push_cast, List.map_append, List.map_set, List.map_replicate]; done) | (simp only [push_cast, List.map_append, List.map_set, List.map_replicate]; rfl))) (.cons _ _ _ (sv_int (by first | rfl | (simp only [push_cast, List.map_append, List.map_set, List.map_replicate]; done) | (simp only [push_cast, List.map_append, List.map_set, List.map_replicate]; rfl))) .nil))))
            · exact .nil
            · exact by decide
            · exact by decide
          clear h28
          rintro n29 k30 s31 ⟨x6, x7, h32, h33⟩
          refine go_wk h33 ?_
          obtain ⟨y34, h35, h36⟩ := h32.next
          clear h33 h32
          replace h35 : spec_Crc8_b2 x6 x7 = some y34 := h35
          unfold spec_Crc8_b2 at h35
          refine go_seq ?_
          refine go_seq ?_
          refine go_region fun K hK => ?_
          try simp (config := { maxSteps := 4000000 }) only [push_cast, reduceIte, reduceCtorEq, Nat.reduceAdd, Nat.reduceSub, Nat.reduceMul, Nat.reduceEqDiff, Nat.reduceLT, Nat.reduceLeDiff]
          refine hK _ _ ?_
          clear hK K
          refine go_cond _ rfl (fun h37 => ?_) (fun h37 => ?_)
          · replace h35 := (bif_t h37).symm.trans h35
            refine go_skip ?_
            refine go_seq ?_
            refine go_block ?_
            refine go_seq ?_
            refine go_region fun K hK => ?_
            try simp (config := { maxSteps := 4000000 }) only [push_cast, reduceIte, reduceCtorEq, Nat.reduceAdd, Nat.reduceSub, Nat.reduceMul, Nat.reduceEqDiff, Nat.reduceLT, Nat.reduceLeDiff]
            refine hK _ _ ?_
            clear hK K
            refine go_seq ?_
            refine go_region fun K hK => ?_
            try simp (config := { maxSteps := 4000000 }) only [push_cast, reduceIte, reduceCtorEq, Nat.reduceAdd, Nat.reduceSub, Nat.reduceMul, Nat.reduceEqDiff, Nat.reduceLT, Nat.reduceLeDiff]
            refine hK _ _ ?_
            clear hK K
            refine go_cond _ rfl (fun h38 => ?_) (fun h38 => ?_)
            · replace h35 := (bif_t h38).symm.trans h35
              refine go_region fun K hK => ?_
              try simp (config := { maxSteps := 4000000 }) only [push_cast, reduceIte, reduceCtorEq, Nat.reduceAdd, Nat.reduceSub, Nat.reduceMul, Nat.reduceEqDiff, Nat.reduceLT, Nat.reduceLeDiff]
              refine hK _ _ ?_
              clear hK K
              refine go_blk 3 ?_
              refine go_region fun K hK => ?_
              try simp (config := { maxSteps := 4000000 }) only [push_cast, reduceIte, reduceCtorEq, Nat.reduceAdd, Nat.reduceSub, Nat.reduceMul, Nat.reduceEqDiff, Nat.reduceLT, Nat.reduceLeDiff]
              refine hK _ _ ?_
              clear hK K
              have e39 := Option.some.inj h35
              rw [← e39] at h36
              obtain ⟨m40, h41, h42⟩ := h36
              refine go_lp ⟨m40, h41, (IntKind.i64.wrap (((BitVec.ofInt IntKind.i64.bits (IntKind.i64.wrap ((IntKind.i64.wrap (x6 * (2 : Int))) - (256 : Int))) ^^^ BitVec.ofInt IntKind.i64.bits (7 : Int)).toNat : Int))), (IntKind.i64.wrap (x7 + (1 : Int))), h42, ?_⟩
              refine wk_mk [] rfl ?_ ?_ ?_ ?_ ?_
              · exact (fun i h => absurd h (by omega))
              · exact (.cons _ _ _ (sv_lst (by first | rfl | (simp only [push_cast, List.map_append, List.map_set, List.map_replicate]; done) | (simp only [push_cast, List.map_append, List.map_set, List.map_replicate]; rfl))) (.cons _ _ _ (sv_int (by first | rfl | (simp only [push_cast, List.map_append, List.map_set, List.map_replicate]; done) | (simp only [push_cast, List.map_append, List.map_set, List.map_replicate]; rfl))) (.cons _ _ _ (sv_int (by first | rfl | (simp only [push_cast, List.map_append, List.map_set, List.map_replicate]; done) | (simp only [push_cast, List.map_append, List.map_set, List.map_replicate]; rfl))) (.cons _ _ _ (sv_int (by first | rfl | (simp only [push_cast, List.map_append, List.map_set, List.map_replicate]; done) | (simp only [push_cast, List.map_append, List.map_set, List.map_replicate]; rfl))) .nil))))
              · exact .nil
              · exact by decide
              · exact by decide
            · replace h35 := (bif_f h38).symm.trans h35
              refine go_skip ?_
              refine go_blk 3 ?_
              refine go_region fun K hK => ?_
              try simp (config := { maxSteps := 4000000 }) only [push_cast, reduceIte, reduceCtorEq, Nat.reduceAdd, Nat.reduceSub, Nat.reduceMul, Nat.reduceEqDiff, Nat.reduceLT, Nat.reduceLeDiff]
              refine hK _ _ ?_
              clear hK K
              have e43 := Option.some.inj h35
              rw [← e43] at h36
              obtain ⟨m44, h45, h46⟩ := h36
              refine go_lp ⟨m44, h45, (IntKind.i64.wrap (x6 * (2 : Int))), (IntKind.i64.wrap (x7 + (1 : Int))), h46, ?_⟩
              refine wk_mk [] rfl ?_ ?_ ?_ ?_ ?_
              · exact (fun i h => absurd h (by omega))
              · exact (.cons _ _ _ (sv_lst (by first | rfl | (simp only [push_cast, List.map_append, List.map_set, List.map_replicate]; done) | (simp only [push_cast, List.map_append, List.map_set, List.map_replicate]; rfl))) (.cons _ _ _ (sv_int (by first | rfl | (simp only [push_cast, List.map_append, List.map_set, List.map_replicate]; done) | (simp only [push_cast, List.map_append, List.map_set, List.map_replicate]; rfl))) (.cons _ _ _ (sv_int (by first | rfl | (simp only [push_cast, List.map_append, List.map_set, List.map_replicate]; done) | (simp only [push_cast, List.map_append, List.map_set, List.map_replicate]; rfl))) (.cons _ _ _ (sv_int (by first | rfl | (simp only [push_cast, List.map_append, List.map_set, List.map_replicate]; done) | (simp only [push_cast, List.map_append, List.map_set, List.map_replicate]; rfl))) .nil))))
              · exact .nil
              · exact by decide
              · exact by decide
          · replace h35 := (bif_f h37).symm.trans h35
            refine go_exit ?_
            refine go_out ?_
            refine go_lp_out ?_
            refine go_blk_at ?_
            have e47 := Option.some.inj h35
            rw [← e47] at h36
            replace h36 : _ = _ := h36
            refine go_lp ⟨x6, h36.symm, ?_⟩
            refine wk_mk [] rfl ?_ ?_ ?_ ?_ ?_
            · exact (fun i h => absurd h (by omega))
            · exact (.cons _ _ _ (sv_lst (by first | rfl | (simp only [push_cast, List.map_append, List.map_set, List.map_replicate]; done) | (simp only [push_cast, List.map_append, List.map_set, List.map_replicate]; rfl))) (.cons _ _ _ (sv_int (by first | rfl | (simp only [push_cast, List.map_append, List.map_set, List.map_replicate]; done) | (simp only [push_cast, List.map_append, List.map_set, List.map_replicate]; rfl))) (.cons _ _ _ (sv_int (by first | rfl | (simp only [push_cast, List.map_append, List.map_set, List.map_replicate]; done) | (simp only [push_cast, List.map_append, List.map_set, List.map_replicate]; rfl))) .nil)))
            · exact .nil
            · exact by decide
            · exact by decide
        · rintro k σ ⟨x8, h48q, h48⟩
          rw [h48q] at h21
          try dsimp only [Sum.elim_inl] at h21
          refine go_blk 1 ?_
          refine go_wk h48 ?_
          clear h48
          refine go_region fun K hK => ?_
          try simp (config := { maxSteps := 4000000 }) only [push_cast, reduceIte, reduceCtorEq, Nat.reduceAdd, Nat.reduceSub, Nat.reduceMul, Nat.reduceEqDiff, Nat.reduceLT, Nat.reduceLeDiff]
          refine hK _ _ ?_
          clear hK K
          have e49 := Option.some.inj h21
          rw [← e49] at h22
          obtain ⟨m50, h51, h52⟩ := h22
          refine go_lp ⟨m50, h51, x8, (IntKind.i64.wrap (x5 + (1 : Int))), h52, ?_⟩
          refine wk_mk [] rfl ?_ ?_ ?_ ?_ ?_
          · exact (fun i h => absurd h (by omega))
          · exact (.cons _ _ _ (sv_lst (by first | rfl | (simp only [push_cast, List.map_append, List.map_set, List.map_replicate]; done) | (simp only [push_cast, List.map_append, List.map_set, List.map_replicate]; rfl))) (.cons _ _ _ (sv_int (by first | rfl | (simp only [push_cast, List.map_append, List.map_set, List.map_replicate]; done) | (simp only [push_cast, List.map_append, List.map_set, List.map_replicate]; rfl))) (.cons _ _ _ (sv_int (by first | rfl | (simp only [push_cast, List.map_append, List.map_set, List.map_replicate]; done) | (simp only [push_cast, List.map_append, List.map_set, List.map_replicate]; rfl))) .nil)))
          · exact .nil
          · exact by decide
          · exact by decide
      · replace h21 := (bif_f h23).symm.trans h21
        refine go_exit ?_
        refine go_out ?_
        refine go_lp_out ?_
        refine go_blk_at ?_
        have e53 := Option.some.inj h21
        rw [← e53] at h22
        replace h22 : _ = _ := h22
        refine go_lp ⟨x4, h22.symm, ?_⟩
        refine wk_mk [] rfl ?_ ?_ ?_ ?_ ?_
        · exact (fun i h => absurd h (by omega))
        · exact (.cons _ _ _ (sv_int (by first | rfl | (simp only [push_cast, List.map_append, List.map_set, List.map_replicate]; done) | (simp only [push_cast, List.map_append, List.map_set, List.map_replicate]; rfl))) .nil)
        · exact .nil
        · exact by decide
        · exact by decide
    · rintro k σ ⟨x9, h54q, h54⟩
      rw [h54q] at h0
      try dsimp only [Sum.elim_inl] at h0
      refine go_seq ?_
      refine go_wk h54 ?_
      clear h54
      refine go_region fun K hK => ?_
      try simp (config := { maxSteps := 4000000 }) only [push_cast, reduceIte, reduceCtorEq, Nat.reduceAdd, Nat.reduceSub, Nat.reduceMul, Nat.reduceEqDiff, Nat.reduceLT, Nat.reduceLeDiff]
      refine hK _ _ ?_
      clear hK K
      refine go_ret ?_
      cases h0
      refine go_end_ret ?_
      exact ⟨_, [], rfl, (.cons (.c (.int _ _)) .nil), by decide, .inr (by simp only [RT.cells, List.mem_cons, List.mem_singleton, List.not_mem_nil, or_false, forall_eq, forall_eq_or_imp, allOwn_int, allOwn_bool, allOwn_str, allOwn_none, eIu8_ao, eTelegram_ao, eIi64_ao, eShunt_ao, eLIi64_ao, eSidings_ao, eNeed_ao, eRoute_ao, ePlant_ao, eLockOp_ao, eB_ao, eLocking_ao, eTask_ao, eRule_ao, eEdge_ao, eCall_ao, eTrip_ao, eBooking_ao, eNet_ao, eTrain_ao, eDesk_ao, eUse_ao, eRun_ao, eT_ao, o120Trip_ao, o33LIi64_ao, implies_true, and_true, false_implies, List.map_eq_nil_iff, and_self])⟩
end Go.V
set_option linter.unusedSimpArgs false
set_option linter.unusedVariables false
namespace Go.V
open Go Go.RowKit Go.Proofs
set_option maxHeartbeats 4000000 in
set_option maxRecDepth 100000 in
theorem spec_Encode_ok {a0 : STelegram} {r : (List Int)} (h0 : spec_Encode a0 = some r) :
    OkA Try.prog 103 [.s (eTelegram a0)] [.c (.sl (some (5, 1)) (r.map eIu8))] false := by
  unfold spec_Encode at h0
  refine okA_of (n := 79) (rvs := [.tmp 2]) Try.func103 rfl rfl rfl (by simp) ?_
  simp only [slots, slotsM, widths, List.map_cons, List.sum_cons, List.sum_nil, Nat.reduceAdd, List.length_cons, List.length_nil, RT.width, unRs, unR, unCs, unC, putsO, putO, Cell.ro, List.map_cons, List.map_nil, List.nil_append, List.append_nil, List.cons_append]
  refine go_seq ?_
  refine go_region fun K hK => ?_
  try simp (config := { maxSteps := 4000000 }) only [push_cast, reduceIte, reduceCtorEq, Nat.reduceAdd, Nat.reduceSub, Nat.reduceMul, Nat.reduceEqDiff, Nat.reduceLT, Nat.reduceLeDiff]
  refine hK _ _ ?_
  clear hK K
  refine go_wk (k' := 1) (τ := mk 79 0 [(1, .c (.ptr 0 0))] (nums 0 [.box [.int .i64 a0.fSeq, .int .i64 a0.fKind, .lst (a0.fBody.map eIu8)]])) ?_ ?_
  ·
    refine wk_mk [some 0] rfl ?_ ?_ ?_ ?_ ?_
    · exact (fun i h => absurd h (by omega))
    · exact (.cons _ _ _ (sv_ptr rfl) .nil)
    · exact (.cons (.box _ _ _ rfl (.cons (sc_int (by first | rfl | (simp only [push_cast, List.map_append, List.map_set, List.map_replicate]; done) | (simp only [push_cast, List.map_append, List.map_set, List.map_replicate]; rfl))) (.cons (sc_int (by first | rfl | (simp only [push_cast, List.map_append, List.map_set, List.map_replicate]; done) | (simp only [push_cast, List.map_append, List.map_set, List.map_replicate]; rfl))) (.cons (sc_lst (by first | rfl | (simp only [push_cast, List.map_append, List.map_set, List.map_replicate]; done) | (simp only [push_cast, List.map_append, List.map_set, List.map_replicate]; rfl))) .nil)))) .nil)
    · exact by decide
    · exact by decide
  refine go_seq ?_
  refine go_seq ?_
  refine go_region fun K hK => ?_
  try simp (config := { maxSteps := 4000000 }) only [push_cast, reduceIte, reduceCtorEq, Nat.reduceAdd, Nat.reduceSub, Nat.reduceMul, Nat.reduceEqDiff, Nat.reduceLT, Nat.reduceLeDiff]
  obtain ⟨t1, ht1, h0⟩ := bind_some' h0
  refine vops_callA (spec_TelegramOk_ok ht1) cb101 (by simp only [lt_some, lt_none, mk_n, Nat.reduceLT]) (by simp only [push_cast, List.map_append, List.map_set, List.map_replicate]; rfl) (Nat.le_of_ble_eq_true rfl) ?_
  try simp (config := { maxSteps := 4000000 }) only [push_cast, reduceIte, reduceCtorEq, Nat.reduceAdd, Nat.reduceSub, Nat.reduceMul, Nat.reduceEqDiff, Nat.reduceLT, Nat.reduceLeDiff]
  refine hK _ _ ?_
  clear hK K
  refine go_wk (k' := 1) (τ := mk 79 0 [(1, .c (.ptr 0 0)), (9, .c (.bool (!t1)))] (nums 0 [.box [.int .i64 a0.fSeq, .int .i64 a0.fKind, .lst (a0.fBody.map eIu8)]])) ?_ ?_
  ·
    refine wk_mk [some 0] rfl ?_ ?_ ?_ ?_ ?_
    · exact (fun i h => absurd h (by omega))
    · exact (.cons _ _ _ (sv_ptr rfl) (.cons _ _ _ (sv_bool (by first | rfl | (simp only [push_cast, List.map_append, List.map_set, List.map_replicate]; done) | (simp only [push_cast, List.map_append, List.map_set, List.map_replicate]; rfl))) .nil))
    · exact (.cons (.box _ _ _ rfl (.cons (sc_int (by first | rfl | (simp only [push_cast, List.map_append, List.map_set, List.map_replicate]; done) | (simp only [push_cast, List.map_append, List.map_set, List.map_replicate]; rfl))) (.cons (sc_int (by first | rfl | (simp only [push_cast, List.map_append, List.map_set, List.map_replicate]; done) | (simp only [push_cast, List.map_append, List.map_set, List.map_replicate]; rfl))) (.cons (sc_lst (by first | rfl | (simp only [push_cast, List.map_append, List.map_set, List.map_replicate]; done) | (simp only [push_cast, List.map_append, List.map_set, List.map_replicate]; rfl))) .nil)))) .nil)
    · exact by decide
    · exact by decide
  refine go_cond _ rfl (fun h11 => ?_) (fun h11 => ?_)
  · replace h0 := (bif_t h11).symm.trans h0
    refine go_seq ?_
    refine go_region fun K hK => ?_
    try simp (config := { maxSteps := 4000000 }) only [push_cast, reduceIte, reduceCtorEq, Nat.reduceAdd, Nat.reduceSub, Nat.reduceMul, Nat.reduceEqDiff, Nat.reduceLT, Nat.reduceLeDiff]
    refine hK _ _ ?_
    clear hK K
    refine go_ret ?_
    refine go_out_ret ?_
    cases h0
    refine go_end_ret ?_
    exact ⟨_, [], rfl, (.cons (.c (.nilOwn _ _ (by decide))) .nil), by decide, .inr (by simp only [RT.cells, List.mem_cons, List.mem_singleton, List.not_mem_nil, or_false, forall_eq, forall_eq_or_imp, allOwn_int, allOwn_bool, allOwn_str, allOwn_none, eIu8_ao, eTelegram_ao, eIi64_ao, eShunt_ao, eLIi64_ao, eSidings_ao, eNeed_ao, eRoute_ao, ePlant_ao, eLockOp_ao, eB_ao, eLocking_ao, eTask_ao, eRule_ao, eEdge_ao, eCall_ao, eTrip_ao, eBooking_ao, eNet_ao, eTrain_ao, eDesk_ao, eUse_ao, eRun_ao, eT_ao, o120Trip_ao, o33LIi64_ao, implies_true, and_true, false_implies, List.map_eq_nil_iff, and_self])⟩
  · replace h0 := (bif_f h11).symm.trans h0
    refine go_skip ?_
    refine go_seq ?_
    refine go_region fun K hK => ?_
    try simp (config := { maxSteps := 4000000 }) only [push_cast, reduceIte, reduceCtorEq, Nat.reduceAdd, Nat.reduceSub, Nat.reduceMul, Nat.reduceEqDiff, Nat.reduceLT, Nat.reduceLeDiff]
    repeat (refine And.intro ?_ ?_; · ((repeat' apply And.intro) <;> first | assumption | omega | kernel_rfl | decide | (simp; done) | (simp only [List.length_cons, List.length_nil, List.length_append, List.length_map, List.length_set, List.length_replicate, List.length_take, List.length_drop] at *; omega)))
    refine hK _ _ ?_
    clear hK K
    refine go_wk (k' := 2) (τ := mk 79 0 [(1, .c (.ptr 0 0)), (3, .c (.own 1))] (nums 0 [.box [.int .i64 a0.fSeq, .int .i64 a0.fKind, .lst (a0.fBody.map eIu8)], .row 5 1 (([(IntKind.u8.wrap a0.fSeq), (IntKind.u8.wrap a0.fKind), (IntKind.u8.wrap (a0.fBody.length : Int))]).map eIu8)])) ?_ ?_
    ·
      refine wk_mk [some 0, some 321] rfl ?_ ?_ ?_ ?_ ?_
      · exact (fun i h => absurd h (by omega))
      · exact (.cons _ _ _ (sv_ptr rfl) (.cons _ _ _ (sv_own rfl) .nil))
      · exact (.cons (.box _ _ _ rfl (.cons (sc_int (by first | rfl | (simp only [push_cast, List.map_append, List.map_set, List.map_replicate]; done) | (simp only [push_cast, List.map_append, List.map_set, List.map_replicate]; rfl))) (.cons (sc_int (by first | rfl | (simp only [push_cast, List.map_append, List.map_set, List.map_replicate]; done) | (simp only [push_cast, List.map_append, List.map_set, List.map_replicate]; rfl))) (.cons (sc_lst (by first | rfl | (simp only [push_cast, List.map_append, List.map_set, List.map_replicate]; done) | (simp only [push_cast, List.map_append, List.map_set, List.map_replicate]; rfl))) .nil)))) (.cons (so_row rfl (by first | rfl | (simp only [push_cast, List.map_append, List.map_set, List.map_replicate]; done) | (simp only [push_cast, List.map_append, List.map_set, List.map_replicate]; rfl))) .nil))
      · exact by decide
      · exact by decide
    refine go_seq ?_
    refine go_seq ?_
    refine go_region fun K hK => ?_
    try simp (config := { maxSteps := 4000000 }) only [push_cast, reduceIte, reduceCtorEq, Nat.reduceAdd, Nat.reduceSub, Nat.reduceMul, Nat.reduceEqDiff, Nat.reduceLT, Nat.reduceLeDiff]
    refine hK _ _ ?_
    clear hK K
    obtain ⟨o12, h13, h0⟩ := bind_some' h0
    obtain ⟨m14, h15⟩ := loop_runs h13
    clear h13
    refine go_cut (fun k σ => ∃ x4 : (List Int), o12 = x4 ∧ Wk k σ 1 (mk 79 0 [(3, .c (.own 0))] (nums 0 [.row 5 1 (x4.map eIu8)]))) ?_ ?_
    ·
      refine go_block (go_loop (fun n k σ => ∃ x2 : Int, ∃ x3 : (List Int), Runs (fun v => spec_Encode_b0 a0 v.1 v.2) n (x2, x3) o12 ∧ Wk k σ 2 (mk 79 0 [(1, .c (.ptr 0 0)), (3, .c (.own 1)), (4, .c (.int .i64 x2))] (nums 0 [.box [.int .i64 a0.fSeq, .int .i64 a0.fKind, .lst (a0.fBody.map eIu8)], .row 5 1 (x3.map eIu8)]))) m14 ⟨(0 : Int), [(IntKind.u8.wrap a0.fSeq), (IntKind.u8.wrap a0.fKind), (IntKind.u8.wrap (a0.fBody.length : Int))], h15, ?_⟩ ?_)
      ·
        refine wk_mk [some 0, some 1] rfl ?_ ?_ ?_ ?_ ?_
        · exact (fun i h => absurd h (by omega))
        · exact (.cons _ _ _ (sv_ptr rfl) (.cons _ _ _ (sv_own rfl) (.cons _ _ _ (sv_int (by first | rfl | (simp only [push_cast, List.map_append, List.map_set, List.map_replicate]; done) | (simp only [push_cast, List.map_append, List.map_set, List.map_replicate]; rfl))) .nil)))
        · exact (.cons (.box _ _ _ rfl (.cons (sc_int (by first | rfl | (simp only [push_cast, List.map_append, List.map_set, List.map_replicate]; done) | (simp only [push_cast, List.map_append, List.map_set, List.map_replicate]; rfl))) (.cons (sc_int (by first | rfl | (simp only [push_cast, List.map_append, List.map_set, List.map_replicate]; done) | (simp only [push_cast, List.map_append, List.map_set, List.map_replicate]; rfl))) (.cons (sc_lst (by first | rfl | (simp only [push_cast, List.map_append, List.map_set, List.map_replicate]; done) | (simp only [push_cast, List.map_append, List.map_set, List.map_replicate]; rfl))) .nil)))) (.cons (so_row rfl (by first | rfl | (simp only [push_cast, List.map_append, List.map_set, List.map_replicate]; done) | (simp only [push_cast, List.map_append, List.map_set, List.map_replicate]; rfl))) .nil))
        · exact by decide
        · exact by decide
      clear h15
      rintro n16 k17 s18 ⟨x2, x3, h19, h20⟩
      refine go_wk h20 ?_
      obtain ⟨y21, h22, h23⟩ := h19.next
      clear h20 h19
      replace h22 : spec_Encode_b0 a0 x2 x3 = some y21 := h22
      unfold spec_Encode_b0 at h22
      refine go_seq ?_
      refine go_seq ?_
      refine go_region fun K hK => ?_
      try simp (config := { maxSteps := 4000000 }) only [push_cast, reduceIte, reduceCtorEq, Nat.reduceAdd, Nat.reduceSub, Nat.reduceMul, Nat.reduceEqDiff, Nat.reduceLT, Nat.reduceLeDiff]
      refine hK _ _ ?_
      clear hK K
      refine go_cond _ rfl (fun h24 => ?_) (fun h24 => ?_)
      · replace h22 := (bif_t h24).symm.trans h22
        refine go_skip ?_
        refine go_seq ?_
        refine go_block ?_
        refine go_region fun K hK => ?_
        obtain ⟨h25, h22⟩ := ite_some' h22
        obtain ⟨h26, h22⟩ := ite_some' h22
        try simp (config := { maxSteps := 4000000 }) only [push_cast, reduceIte, reduceCtorEq, Nat.reduceAdd, Nat.reduceSub, Nat.reduceMul, Nat.reduceEqDiff, Nat.reduceLT, Nat.reduceLeDiff, rd_some h25]
        repeat (refine And.intro ?_ ?_; · ((repeat' apply And.intro) <;> first | assumption | omega | kernel_rfl | decide | (simp; done) | (simp only [List.length_cons, List.length_nil, List.length_append, List.length_map, List.length_set, List.length_replicate, List.length_take, List.length_drop] at *; omega)))
        refine hK _ _ ?_
        clear hK K
        refine go_blk 1 ?_
        refine go_region fun K hK => ?_
        try simp (config := { maxSteps := 4000000 }) only [push_cast, reduceIte, reduceCtorEq, Nat.reduceAdd, Nat.reduceSub, Nat.reduceMul, Nat.reduceEqDiff, Nat.reduceLT, Nat.reduceLeDiff]
        refine hK _ _ ?_
        clear hK K
        have e27 := Option.some.inj h22
        rw [← e27] at h23
        obtain ⟨m28, h29, h30⟩ := h23
        refine go_lp ⟨m28, h29, (IntKind.i64.wrap (x2 + (1 : Int))), (x3 ++ [(rd a0.fBody x2)]), h30, ?_⟩
        refine wk_mk [some 0, some 386] rfl ?_ ?_ ?_ ?_ ?_
        · exact (fun i h => absurd h (by omega))
        · exact (.cons _ _ _ (sv_ptr rfl) (.cons _ _ _ (sv_own rfl) (.cons _ _ _ (sv_int (by first | rfl | (simp only [push_cast, List.map_append, List.map_set, List.map_replicate]; done) | (simp only [push_cast, List.map_append, List.map_set, List.map_replicate]; rfl))) .nil)))
        · exact (.cons (.box _ _ _ rfl (.cons (sc_int (by first | rfl | (simp only [push_cast, List.map_append, List.map_set, List.map_replicate]; done) | (simp only [push_cast, List.map_append, List.map_set, List.map_replicate]; rfl))) (.cons (sc_int (by first | rfl | (simp only [push_cast, List.map_append, List.map_set, List.map_replicate]; done) | (simp only [push_cast, List.map_append, List.map_set, List.map_replicate]; rfl))) (.cons (sc_lst (by first | rfl | (simp only [push_cast, List.map_append, List.map_set, List.map_replicate]; done) | (simp only [push_cast, List.map_append, List.map_set, List.map_replicate]; rfl))) .nil)))) (.cons (so_row rfl (by first | rfl | (simp only [push_cast, List.map_append, List.map_set, List.map_replicate]; done) | (simp only [push_cast, List.map_append, List.map_set, List.map_replicate]; rfl))) .nil))
        · exact by decide
        · exact by decide
      · replace h22 := (bif_f h24).symm.trans h22
        refine go_exit ?_
        refine go_out ?_
        refine go_lp_out ?_
        refine go_blk_at ?_
        have e31 := Option.some.inj h22
        rw [← e31] at h23
        replace h23 : _ = _ := h23
        refine go_lp ⟨x3, h23.symm, ?_⟩
        refine wk_mk [some 1] rfl ?_ ?_ ?_ ?_ ?_
        · exact (fun i h => absurd h (by omega))
        · exact (.cons _ _ _ (sv_own rfl) .nil)
        · exact (.cons (so_row rfl (by first | rfl | (simp only [push_cast, List.map_append, List.map_set, List.map_replicate]; done) | (simp only [push_cast, List.map_append, List.map_set, List.map_replicate]; rfl))) .nil)
        · exact by decide
        · exact by decide
    · rintro k σ ⟨x4, h32q, h32⟩
      rw [h32q] at h0
      try dsimp only [Sum.elim_inl] at h0
      refine go_seq ?_
      refine go_wk h32 ?_
      clear h32
      refine go_region fun K hK => ?_
      try simp (config := { maxSteps := 4000000 }) only [push_cast, reduceIte, reduceCtorEq, Nat.reduceAdd, Nat.reduceSub, Nat.reduceMul, Nat.reduceEqDiff, Nat.reduceLT, Nat.reduceLeDiff]
      repeat (refine And.intro ?_ ?_; · ((repeat' apply And.intro) <;> first | assumption | omega | kernel_rfl | decide | (simp; done) | (simp only [List.length_cons, List.length_nil, List.length_append, List.length_map, List.length_set, List.length_replicate, List.length_take, List.length_drop] at *; omega)))
      obtain ⟨t5, ht5, h0⟩ := bind_some' h0
      refine vops_callA (spec_Crc8_ok ht5) cb186 (by simp only [lt_some, lt_none, mk_n, Nat.reduceLT]) (by simp only [push_cast, List.map_append, List.map_set, List.map_replicate]; rfl) (Nat.le_of_ble_eq_true rfl) ?_
      obtain ⟨h33, h0⟩ := ite_some' h0
      try simp (config := { maxSteps := 4000000 }) only [push_cast, reduceIte, reduceCtorEq, Nat.reduceAdd, Nat.reduceSub, Nat.reduceMul, Nat.reduceEqDiff, Nat.reduceLT, Nat.reduceLeDiff]
      repeat (refine And.intro ?_ ?_; · ((repeat' apply And.intro) <;> first | assumption | omega | kernel_rfl | decide | (simp; done) | (simp only [List.length_cons, List.length_nil, List.length_append, List.length_map, List.length_set, List.length_replicate, List.length_take, List.length_drop] at *; omega)))
      refine hK _ _ ?_
      clear hK K
      refine go_wk (k' := 1) (τ := mk 79 0 [(3, .c (.own 0))] (nums 0 [.row 5 1 ((x4 ++ [(IntKind.u8.wrap t5)]).map eIu8)])) ?_ ?_
      ·
        refine wk_mk [some 161] rfl ?_ ?_ ?_ ?_ ?_
        · exact (fun i h => absurd h (by omega))
        · exact (.cons _ _ _ (sv_own rfl) .nil)
        · exact (.cons (so_row rfl (by first | rfl | (simp only [push_cast, List.map_append, List.map_set, List.map_replicate]; done) | (simp only [push_cast, List.map_append, List.map_set, List.map_replicate]; rfl))) .nil)
        · exact by decide
        · exact by decide
      refine go_seq ?_
      refine go_region fun K hK => ?_
      try simp (config := { maxSteps := 4000000 }) only [push_cast, reduceIte, reduceCtorEq, Nat.reduceAdd, Nat.reduceSub, Nat.reduceMul, Nat.reduceEqDiff, Nat.reduceLT, Nat.reduceLeDiff]
      repeat (refine And.intro ?_ ?_; · ((repeat' apply And.intro) <;> first | assumption | omega | kernel_rfl | decide | (simp; done) | (simp only [List.length_cons, List.length_nil, List.length_append, List.length_map, List.length_set, List.length_replicate, List.length_take, List.length_drop] at *; omega)))
      refine hK _ _ ?_
      clear hK K
      refine go_wk (k' := 2) (τ := mk 79 0 [(3, .c (.own 0)), (5, .c (.own 1))] (nums 0 [.row 5 1 ((x4 ++ [(IntKind.u8.wrap t5)]).map eIu8), .row 5 1 (([(126 : Int)]).map eIu8)])) ?_ ?_
      ·
        refine wk_mk [some 0, some 1] rfl ?_ ?_ ?_ ?_ ?_
        · exact (fun i h => absurd h (by omega))
        · exact (.cons _ _ _ (sv_own rfl) (.cons _ _ _ (sv_own rfl) .nil))
        · exact (.cons (so_row rfl (by first | rfl | (simp only [push_cast, List.map_append, List.map_set, List.map_replicate]; done) | (simp only [push_cast, List.map_append, List.map_set, List.map_replicate]; rfl))) (.cons (so_row rfl (by first | rfl | (simp only [push_cast, List.map_append, List.map_set, List.map_replicate]; done) | (simp only [push_cast, List.map_append, List.map_set, List.map_replicate]; rfl))) .nil))
        · exact by decide
        · exact by decide
      refine go_seq ?_
      refine go_seq ?_
      refine go_region fun K hK => ?_
      try simp (config := { maxSteps := 4000000 }) only [push_cast, reduceIte, reduceCtorEq, Nat.reduceAdd, Nat.reduceSub, Nat.reduceMul, Nat.reduceEqDiff, Nat.reduceLT, Nat.reduceLeDiff]
      refine hK _ _ ?_
      clear hK K
      obtain ⟨o34, h35, h0⟩ := bind_some' h0
      obtain ⟨m36, h37⟩ := loop_runs h35
      clear h35
      refine go_cut (fun k σ => ∃ x10 : (List Int), o34 = x10 ∧ Wk k σ 1 (mk 79 0 [(5, .c (.own 0))] (nums 0 [.row 5 1 (x10.map eIu8)]))) ?_ ?_
      ·
        refine go_block (go_loop (fun n k σ => ∃ x7 : Int, ∃ x8 : (List Int), Runs (fun v => spec_Encode_b2 x4 t5 v.1 v.2) n (x7, x8) o34 ∧ Wk k σ 2 (mk 79 0 [(3, .c (.own 0)), (5, .c (.own 1)), (6, .c (.int .i64 x7))] (nums 0 [.row 5 1 ((x4 ++ [(IntKind.u8.wrap t5)]).map eIu8), .row 5 1 (x8.map eIu8)]))) m36 ⟨(0 : Int), [(126 : Int)], h37, ?_⟩ ?_)
        ·
          refine wk_mk [some 0, some 1] rfl ?_ ?_ ?_ ?_ ?_
          · exact (fun i h => absurd h (by omega))
          · exact (.cons _ _ _ (sv_own rfl) (.cons _ _ _ (sv_own rfl) (.cons _ _ _ (sv_int (by first | rfl | (simp only [push_cast, List.map_append, List.map_set, List.map_replicate]; done) | (simp only [push_cast, List.map_append, List.map_set, List.map_replicate]; rfl))) .nil)))
          · exact (.cons (so_row rfl (by first | rfl | (simp only [push_cast, List.map_append, List.map_set, List.map_replicate]; done) | (simp only [push_cast, List.map_append, List.map_set, List.map_replicate]; rfl))) (.cons (so_row rfl (by first | rfl | (simp only [push_cast, List.map_append, List.map_set, List.map_replicate]; done) | (simp only [push_cast, List.map_append, List.map_set, List.map_replicate]; rfl))) .nil))
          · exact by decide
          · exact by decide
        clear h37
        rintro n38 k39 s40 ⟨x7, x8, h41, h42⟩
        refine go_wk h42 ?_
        obtain ⟨y43, h44, h45⟩ := h41.next
        clear h42 h41
        replace h44 : spec_Encode_b2 x4 t5 x7 x8 = some y43 := h44
        unfold spec_Encode_b2 at h44
        refine go_seq ?_
        refine go_seq ?_
        refine go_region fun K hK => ?_
        try simp (config := { maxSteps := 4000000 }) only [push_cast, reduceIte, reduceCtorEq, Nat.reduceAdd, Nat.reduceSub, Nat.reduceMul, Nat.reduceEqDiff, Nat.reduceLT, Nat.reduceLeDiff]
        refine hK _ _ ?_
        clear hK K
        refine go_cond _ rfl (fun h46 => ?_) (fun h46 => ?_)
        · replace h44 := (bif_t h46).symm.trans h44
          refine go_skip ?_
          refine go_seq ?_
          refine go_block ?_
          refine go_seq ?_
          obtain ⟨v47, h48, h44⟩ := bind_some' h44
          refine go_cut (fun k σ => ∃ x9 : Bool, v47 = x9 ∧ Wk k σ 2 (mk 79 0 [(3, .c (.own 0)), (5, .c (.own 1)), (6, .c (.int .i64 x7)), (60, .c (.bool x9))] (nums 0 [.row 5 1 ((x4 ++ [(IntKind.u8.wrap t5)]).map eIu8), .row 5 1 (x8.map eIu8)]))) ?_ ?_
          ·
            refine go_region fun K hK => ?_
            obtain ⟨h49, h48⟩ := ite_some' h48
            try simp (config := { maxSteps := 4000000 }) only [push_cast, reduceIte, reduceCtorEq, Nat.reduceAdd, Nat.reduceSub, Nat.reduceMul, Nat.reduceEqDiff, Nat.reduceLT, Nat.reduceLeDiff, rd_some h49]
            repeat (refine And.intro ?_ ?_; · ((repeat' apply And.intro) <;> first | assumption | omega | kernel_rfl | decide | (simp; done) | (simp only [List.length_cons, List.length_nil, List.length_append, List.length_map, List.length_set, List.length_replicate, List.length_take, List.length_drop] at *; omega)))
            refine vops_if rfl (Nat.le_of_ble_eq_true rfl) (by simp only [lt_some, lt_none, mk_n, Nat.reduceLT]) (fun h50 => ?_) (fun h50 => ?_)
            · replace h50 : _ = false := h50
              replace h48 := (bif_f h50).symm.trans h48
              obtain ⟨h51, h48⟩ := ite_some' h48
              try simp (config := { maxSteps := 4000000 }) only [push_cast, reduceIte, reduceCtorEq, Nat.reduceAdd, Nat.reduceSub, Nat.reduceMul, Nat.reduceEqDiff, Nat.reduceLT, Nat.reduceLeDiff, rd_some h51]
              repeat (refine And.intro ?_ ?_; · ((repeat' apply And.intro) <;> first | assumption | omega | kernel_rfl | decide | (simp; done) | (simp only [List.length_cons, List.length_nil, List.length_append, List.length_map, List.length_set, List.length_replicate, List.length_take, List.length_drop] at *; omega)))
              refine hK _ _ ?_
              clear hK K
              have e52 := Option.some.inj h48
              refine go_lp ⟨(decide ((rd (x4 ++ [(IntKind.u8.wrap t5)]) x7) = (126 : Int))), e52.symm, ?_⟩
              refine wk_mk [some 0, some 1] rfl ?_ ?_ ?_ ?_ ?_
              · exact (fun i h => absurd h (by omega))
              · exact (.cons _ _ _ (sv_own rfl) (.cons _ _ _ (sv_own rfl) (.cons _ _ _ (sv_int (by first | rfl | (simp only [push_cast, List.map_append, List.map_set, List.map_replicate]; done) | (simp only [push_cast, List.map_append, List.map_set, List.map_replicate]; rfl))) (.cons _ _ _ (sv_bool (by first | rfl | (simp only [push_cast, List.map_append, List.map_set, List.map_replicate]; done) | (simp only [push_cast, List.map_append, List.map_set, List.map_replicate]; rfl))) .nil))))
              · exact (.cons (so_row rfl (by first | rfl | (simp only [push_cast, List.map_append, List.map_set, List.map_replicate]; done) | (simp only [push_cast, List.map_append, List.map_set, List.map_replicate]; rfl))) (.cons (so_row rfl (by first | rfl | (simp only [push_cast, List.map_append, List.map_set, List.map_replicate]; done) | (simp only [push_cast, List.map_append, List.map_set, List.map_replicate]; rfl))) .nil))
              · exact by decide
              · exact by decide
            · replace h50 : _ = true := h50
              replace h48 := (bif_t h50).symm.trans h48
              try simp (config := { maxSteps := 4000000 }) only [push_cast, reduceIte, reduceCtorEq, Nat.reduceAdd, Nat.reduceSub, Nat.reduceMul, Nat.reduceEqDiff, Nat.reduceLT, Nat.reduceLeDiff]
              refine hK _ _ ?_
              clear hK K
              have e53 := Option.some.inj h48
              refine go_lp ⟨true, e53.symm, ?_⟩
              refine wk_mk [some 0, some 1] rfl ?_ ?_ ?_ ?_ ?_
              · exact (fun i h => absurd h (by omega))
              · exact (.cons _ _ _ (sv_own rfl) (.cons _ _ _ (sv_own rfl) (.cons _ _ _ (sv_int (by first | rfl | (simp only [push_cast, List.map_append, List.map_set, List.map_replicate]; done) | (simp only [push_cast, List.map_append, List.map_set, List.map_replicate]; rfl))) (.cons _ _ _ (sv_bool (by first | rfl | (simp only [push_cast, List.map_append, List.map_set, List.map_replicate]; done) | (simp only [push_cast, List.map_append, List.map_set, List.map_replicate]; rfl))) .nil))))
              · exact (.cons (so_row rfl (by first | rfl | (simp only [push_cast, List.map_append, List.map_set, List.map_replicate]; done) | (simp only [push_cast, List.map_append, List.map_set, List.map_replicate]; rfl))) (.cons (so_row rfl (by first | rfl | (simp only [push_cast, List.map_append, List.map_set, List.map_replicate]; done) | (simp only [push_cast, List.map_append, List.map_set, List.map_replicate]; rfl))) .nil))
              · exact by decide
              · exact by decide
          · rintro k σ ⟨x9, h54q, h54⟩
            rw [h54q] at h44
            try dsimp only [Sum.elim_inl] at h44
            refine go_wk h54 ?_
            clear h54
            refine go_cond _ rfl (fun h55 => ?_) (fun h55 => ?_)
            · replace h44 := (bif_t h55).symm.trans h44
              refine go_region fun K hK => ?_
              obtain ⟨h56, h44⟩ := ite_some' h44
              obtain ⟨h57, h44⟩ := ite_some' h44
              try simp (config := { maxSteps := 4000000 }) only [push_cast, reduceIte, reduceCtorEq, Nat.reduceAdd, Nat.reduceSub, Nat.reduceMul, Nat.reduceEqDiff, Nat.reduceLT, Nat.reduceLeDiff, rd_some h56]
              repeat (refine And.intro ?_ ?_; · ((repeat' apply And.intro) <;> first | assumption | omega | kernel_rfl | decide | (simp; done) | (simp only [List.length_cons, List.length_nil, List.length_append, List.length_map, List.length_set, List.length_replicate, List.length_take, List.length_drop] at *; omega)))
              refine hK _ _ ?_
              clear hK K
              refine go_blk 3 ?_
              refine go_region fun K hK => ?_
              try simp (config := { maxSteps := 4000000 }) only [push_cast, reduceIte, reduceCtorEq, Nat.reduceAdd, Nat.reduceSub, Nat.reduceMul, Nat.reduceEqDiff, Nat.reduceLT, Nat.reduceLeDiff]
              refine hK _ _ ?_
              clear hK K
              have e58 := Option.some.inj h44
              rw [← e58] at h45
              obtain ⟨m59, h60, h61⟩ := h45
              refine go_lp ⟨m59, h60, (IntKind.i64.wrap (x7 + (1 : Int))), (x8 ++ [(125 : Int), (IntKind.u8.wrap (((BitVec.ofInt IntKind.u8.bits (rd (x4 ++ [(IntKind.u8.wrap t5)]) x7) ^^^ BitVec.ofInt IntKind.u8.bits (32 : Int)).toNat : Int)))]), h61, ?_⟩
              refine wk_mk [some 0, some 226] rfl ?_ ?_ ?_ ?_ ?_
              · exact (fun i h => absurd h (by omega))
              · exact (.cons _ _ _ (sv_own rfl) (.cons _ _ _ (sv_own rfl) (.cons _ _ _ (sv_int (by first | rfl | (simp only [push_cast, List.map_append, List.map_set, List.map_replicate]; done) | (simp only [push_cast, List.map_append, List.map_set, List.map_replicate]; rfl))) .nil)))
              · exact (.cons (so_row rfl (by first | rfl | (simp only [push_cast, List.map_append, List.map_set, List.map_replicate]; done) | (simp only [push_cast, List.map_append, List.map_set, List.map_replicate]; rfl))) (.cons (so_row rfl (by first | rfl | (simp only [push_cast, List.map_append, List.map_set, List.map_replicate]; done) | (simp only [push_cast, List.map_append, List.map_set, List.map_replicate]; rfl))) .nil))
              · exact by decide
              · exact by decide
            · replace h44 := (bif_f h55).symm.trans h44
              refine go_region fun K hK => ?_
              obtain ⟨h62, h44⟩ := ite_some' h44
              obtain ⟨h63, h44⟩ := ite_some' h44
              try simp (config := { maxSteps := 4000000 }) only [push_cast, reduceIte, reduceCtorEq, Nat.reduceAdd, Nat.reduceSub, Nat.reduceMul, Nat.reduceEqDiff, Nat.reduceLT, Nat.reduceLeDiff, rd_some h62]
              repeat (refine And.intro ?_ ?_; · ((repeat' apply And.intro) <;> first | assumption | omega | kernel_rfl | decide | (simp; done) | (simp only [List.length_cons, List.length_nil, List.length_append, List.length_map, List.length_set, List.length_replicate, List.length_take, List.length_drop] at *; omega)))
              refine hK _ _ ?_
              clear hK K
              refine go_blk 3 ?_
              refine go_region fun K hK => ?_
              try simp (config := { maxSteps := 4000000 }) only [push_cast, reduceIte, reduceCtorEq, Nat.reduceAdd, Nat.reduceSub, Nat.reduceMul, Nat.reduceEqDiff, Nat.reduceLT, Nat.reduceLeDiff]
              refine hK _ _ ?_
              clear hK K
              have e64 := Option.some.inj h44
              rw [← e64] at h45
              obtain ⟨m65, h66, h67⟩ := h45
              refine go_lp ⟨m65, h66, (IntKind.i64.wrap (x7 + (1 : Int))), (x8 ++ [(rd (x4 ++ [(IntKind.u8.wrap t5)]) x7)]), h67, ?_⟩
              refine wk_mk [some 0, some 194] rfl ?_ ?_ ?_ ?_ ?_
              · exact (fun i h => absurd h (by omega))
              · exact (.cons _ _ _ (sv_own rfl) (.cons _ _ _ (sv_own rfl) (.cons _ _ _ (sv_int (by first | rfl | (simp only [push_cast, List.map_append, List.map_set, List.map_replicate]; done) | (simp only [push_cast, List.map_append, List.map_set, List.map_replicate]; rfl))) .nil)))
              · exact (.cons (so_row rfl (by first | rfl | (simp only [push_cast, List.map_append, List.map_set, List.map_replicate]; done) | (simp only [push_cast, List.map_append, List.map_set, List.map_replicate]; rfl))) (.cons (so_row rfl (by first | rfl | (simp only [push_cast, List.map_append, List.map_set, List.map_replicate]; done) | (simp only [push_cast, List.map_append, List.map_set, List.map_replicate]; rfl))) .nil))
              · exact by decide
              · exact by decide
        · replace h44 := (bif_f h46).symm.trans h44
          refine go_exit ?_
          refine go_out ?_
          refine go_lp_out ?_
          refine go_blk_at ?_
          have e68 := Option.some.inj h44
          rw [← e68] at h45
          replace h45 : _ = _ := h45
          refine go_lp ⟨x8, h45.symm, ?_⟩
          refine wk_mk [some 1] rfl ?_ ?_ ?_ ?_ ?_
          · exact (fun i h => absurd h (by omega))
          · exact (.cons _ _ _ (sv_own rfl) .nil)
          · exact (.cons (so_row rfl (by first | rfl | (simp only [push_cast, List.map_append, List.map_set, List.map_replicate]; done) | (simp only [push_cast, List.map_append, List.map_set, List.map_replicate]; rfl))) .nil)
          · exact by decide
          · exact by decide
      · rintro k σ ⟨x10, h69q, h69⟩
        rw [h69q] at h0
        try dsimp only [Sum.elim_inl] at h0
        refine go_seq ?_
        refine go_wk h69 ?_
        clear h69
        refine go_region fun K hK => ?_
        obtain ⟨h70, h0⟩ := ite_some' h0
        try simp (config := { maxSteps := 4000000 }) only [push_cast, reduceIte, reduceCtorEq, Nat.reduceAdd, Nat.reduceSub, Nat.reduceMul, Nat.reduceEqDiff, Nat.reduceLT, Nat.reduceLeDiff]
        repeat (refine And.intro ?_ ?_; · ((repeat' apply And.intro) <;> first | assumption | omega | kernel_rfl | decide | (simp; done) | (simp only [List.length_cons, List.length_nil, List.length_append, List.length_map, List.length_set, List.length_replicate, List.length_take, List.length_drop] at *; omega)))
        refine hK _ _ ?_
        clear hK K
        refine go_wk (k' := 1) (τ := mk 79 0 [(2, .c (.own 0))] (nums 0 [.row 5 1 ((x10 ++ [(126 : Int)]).map eIu8)])) ?_ ?_
        ·
          refine wk_mk [some 65] rfl ?_ ?_ ?_ ?_ ?_
          · exact (fun i h => absurd h (by omega))
          · exact (.cons _ _ _ (sv_own rfl) .nil)
          · exact (.cons (so_row rfl (by first | rfl | (simp only [push_cast, List.map_append, List.map_set, List.map_replicate]; done) | (simp only [push_cast, List.map_append, List.map_set, List.map_replicate]; rfl))) .nil)
          · exact by decide
          · exact by decide
        refine go_ret ?_
        cases h0
        refine go_end_ret ?_
        exact ⟨_, [0], rfl, (.cons (.c (mc_own rfl (by first | rfl | (simp only [push_cast, List.map_append, List.map_set, List.map_replicate]; done) | (simp only [push_cast, List.map_append, List.map_set, List.map_replicate]; rfl)))) .nil), by decide, .inr (by simp only [RT.cells, List.mem_cons, List.mem_singleton, List.not_mem_nil, or_false, forall_eq, forall_eq_or_imp, allOwn_int, allOwn_bool, allOwn_str, allOwn_none, eIu8_ao, eTelegram_ao, eIi64_ao, eShunt_ao, eLIi64_ao, eSidings_ao, eNeed_ao, eRoute_ao, ePlant_ao, eLockOp_ao, eB_ao, eLocking_ao, eTask_ao, eRule_ao, eEdge_ao, eCall_ao, eTrip_ao, eBooking_ao, eNet_ao, eTrain_ao, eDesk_ao, eUse_ao, eRun_ao, eT_ao, o120Trip_ao, o33LIi64_ao, implies_true, and_true, false_implies, List.map_eq_nil_iff, and_self])⟩
end Go.V
set_option linter.unusedSimpArgs false
set_option linter.unusedVariables false
namespace Go.V
open Go Go.RowKit Go.Proofs
set_option maxHeartbeats 4000000 in
set_option maxRecDepth 100000 in
theorem spec_l20Same_ok {a0 : (List Int)} {a1 : (List Int)} {r : Bool} (h0 : spec_l20Same a0 a1 = some r) :
    OkA Try.prog 102 [.v (.sl none (a0.map eIu8)), .v (.sl none (a1.map eIu8))] [.c (.bool r)] false := by
  unfold spec_l20Same at h0
  refine okA_of (n := 26) (rvs := [.tmp 4]) Try.func102 rfl rfl rfl (by simp) ?_
  simp only [slots, slotsM, widths, List.map_cons, List.sum_cons, List.sum_nil, Nat.reduceAdd, List.length_cons, List.length_nil, RT.width, unRs, unR, unCs, unC, putsO, putO, Cell.ro, List.map_cons, List.map_nil, List.nil_append, List.append_nil, List.cons_append]
  refine go_seq ?_
  refine go_region fun K hK => ?_
  try simp (config := { maxSteps := 4000000 }) only [push_cast, reduceIte, reduceCtorEq, Nat.reduceAdd, Nat.reduceSub, Nat.reduceMul, Nat.reduceEqDiff, Nat.reduceLT, Nat.reduceLeDiff]
  refine hK _ _ ?_
  clear hK K
  refine go_seq ?_
  refine go_seq ?_
  refine go_region fun K hK => ?_
  try simp (config := { maxSteps := 4000000 }) only [push_cast, reduceIte, reduceCtorEq, Nat.reduceAdd, Nat.reduceSub, Nat.reduceMul, Nat.reduceEqDiff, Nat.reduceLT, Nat.reduceLeDiff]
  refine hK _ _ ?_
  clear hK K
  refine go_cond _ rfl (fun h2 => ?_) (fun h2 => ?_)
  · replace h0 := (bif_t h2).symm.trans h0
    refine go_seq ?_
    refine go_region fun K hK => ?_
    try simp (config := { maxSteps := 4000000 }) only [push_cast, reduceIte, reduceCtorEq, Nat.reduceAdd, Nat.reduceSub, Nat.reduceMul, Nat.reduceEqDiff, Nat.reduceLT, Nat.reduceLeDiff]
    refine hK _ _ ?_
    clear hK K
    refine go_ret ?_
    refine go_out_ret ?_
    cases h0
    refine go_end_ret ?_
    exact ⟨_, [], rfl, (.cons (.c (.bool _)) .nil), by decide, .inr (by simp only [RT.cells, List.mem_cons, List.mem_singleton, List.not_mem_nil, or_false, forall_eq, forall_eq_or_imp, allOwn_int, allOwn_bool, allOwn_str, allOwn_none, eIu8_ao, eTelegram_ao, eIi64_ao, eShunt_ao, eLIi64_ao, eSidings_ao, eNeed_ao, eRoute_ao, ePlant_ao, eLockOp_ao, eB_ao, eLocking_ao, eTask_ao, eRule_ao, eEdge_ao, eCall_ao, eTrip_ao, eBooking_ao, eNet_ao, eTrain_ao, eDesk_ao, eUse_ao, eRun_ao, eT_ao, o120Trip_ao, o33LIi64_ao, implies_true, and_true, false_implies, List.map_eq_nil_iff, and_self])⟩
  · replace h0 := (bif_f h2).symm.trans h0
    refine go_skip ?_
    refine go_seq ?_
    refine go_seq ?_
    refine go_region fun K hK => ?_
    try simp (config := { maxSteps := 4000000 }) only [push_cast, reduceIte, reduceCtorEq, Nat.reduceAdd, Nat.reduceSub, Nat.reduceMul, Nat.reduceEqDiff, Nat.reduceLT, Nat.reduceLeDiff]
    refine hK _ _ ?_
    clear hK K
    obtain ⟨o3, h4, h0⟩ := bind_some' h0
    obtain ⟨m5, h6⟩ := loop_runs h4
    clear h4
    refine go_cut (fun k σ => o3 = .inl () ∧ Wk k σ 0 (mk 26 0 [] (nums 0 []))) ?_ ?_
    ·
      refine go_block (go_loop (fun n k σ => ∃ x1 : Int, Runs (fun v => spec_l20Same_b0 a0 a1 v) n x1 o3 ∧ Wk k σ 0 (mk 26 0 [(0, .c (.lst (a0.map eIu8))), (1, .c (.lst (a1.map eIu8))), (5, .c (.int .i64 x1))] (nums 0 []))) m5 ⟨(0 : Int), h6, ?_⟩ ?_)
      ·
        refine wk_mk [] rfl ?_ ?_ ?_ ?_ ?_
        · exact (fun i h => absurd h (by omega))
        · exact (.cons _ _ _ (sv_lst (by first | rfl | (simp only [push_cast, List.map_append, List.map_set, List.map_replicate]; done) | (simp only [push_cast, List.map_append, List.map_set, List.map_replicate]; rfl))) (.cons _ _ _ (sv_lst (by first | rfl | (simp only [push_cast, List.map_append, List.map_set, List.map_replicate]; done) | (simp only [push_cast, List.map_append, List.map_set, List.map_replicate]; rfl))) (.cons _ _ _ (sv_int (by first | rfl | (simp only [push_cast, List.map_append, List.map_set, List.map_replicate]; done) | (simp only [push_cast, List.map_append, List.map_set, List.map_replicate]; rfl))) .nil)))
        · exact .nil
        · exact by decide
        · exact by decide
      clear h6
      rintro n7 k8 s9 ⟨x1, h10, h11⟩
      refine go_wk h11 ?_
      obtain ⟨y12, h13, h14⟩ := h10.next
      clear h11 h10
      replace h13 : spec_l20Same_b0 a0 a1 x1 = some y12 := h13
      unfold spec_l20Same_b0 at h13
      refine go_seq ?_
      refine go_seq ?_
      refine go_region fun K hK => ?_
      try simp (config := { maxSteps := 4000000 }) only [push_cast, reduceIte, reduceCtorEq, Nat.reduceAdd, Nat.reduceSub, Nat.reduceMul, Nat.reduceEqDiff, Nat.reduceLT, Nat.reduceLeDiff]
      refine hK _ _ ?_
      clear hK K
      refine go_cond _ rfl (fun h15 => ?_) (fun h15 => ?_)
      · replace h13 := (bif_t h15).symm.trans h13
        refine go_skip ?_
        refine go_seq ?_
        refine go_block ?_
        refine go_seq ?_
        refine go_draw hmix fun K hK => ?_
        obtain ⟨h16, h13⟩ := ite_some' h13
        obtain ⟨h17, h13⟩ := ite_some' h13
        try simp (config := { maxSteps := 4000000 }) only [push_cast, reduceIte, reduceCtorEq, Nat.reduceAdd, Nat.reduceSub, Nat.reduceMul, Nat.reduceEqDiff, Nat.reduceLT, Nat.reduceLeDiff, rd_some h16, rd_some h17]
        repeat (refine And.intro ?_ ?_; · ((repeat' apply And.intro) <;> first | assumption | omega | kernel_rfl | decide | (simp; done) | (simp only [List.length_cons, List.length_nil, List.length_append, List.length_map, List.length_set, List.length_replicate, List.length_take, List.length_drop] at *; omega)))
        refine hK _ _ ?_
        clear hK K
        refine go_cond _ rfl (fun h18 => ?_) (fun h18 => ?_)
        · replace h13 := (bif_t h18).symm.trans h13
          refine go_seq ?_
          refine go_region fun K hK => ?_
          try simp (config := { maxSteps := 4000000 }) only [push_cast, reduceIte, reduceCtorEq, Nat.reduceAdd, Nat.reduceSub, Nat.reduceMul, Nat.reduceEqDiff, Nat.reduceLT, Nat.reduceLeDiff]
          refine hK _ _ ?_
          clear hK K
          refine go_ret ?_
          refine go_blk_ret ?_
          refine go_out_ret ?_
          refine go_lp_ret ?_
          refine go_blk_ret ?_
          refine go_lp_ret ?_
          refine go_out_ret ?_
          have e19 := Option.some.inj h13
          rw [← e19] at h14
          replace h14 : _ = _ := h14
          rw [← h14] at h0
          replace h0 : some _ = some _ := h0
          cases h0
          refine go_end_ret ?_
          exact ⟨_, [], rfl, (.cons (.c (.bool _)) .nil), by decide, .inr (by simp only [RT.cells, List.mem_cons, List.mem_singleton, List.not_mem_nil, or_false, forall_eq, forall_eq_or_imp, allOwn_int, allOwn_bool, allOwn_str, allOwn_none, eIu8_ao, eTelegram_ao, eIi64_ao, eShunt_ao, eLIi64_ao, eSidings_ao, eNeed_ao, eRoute_ao, ePlant_ao, eLockOp_ao, eB_ao, eLocking_ao, eTask_ao, eRule_ao, eEdge_ao, eCall_ao, eTrip_ao, eBooking_ao, eNet_ao, eTrain_ao, eDesk_ao, eUse_ao, eRun_ao, eT_ao, o120Trip_ao, o33LIi64_ao, implies_true, and_true, false_implies, List.map_eq_nil_iff, and_self])⟩
        · replace h13 := (bif_f h18).symm.trans h13
          refine go_skip ?_
          refine go_blk 1 ?_
          refine go_region fun K hK => ?_
          try simp (config := { maxSteps := 4000000 }) only [push_cast, reduceIte, reduceCtorEq, Nat.reduceAdd, Nat.reduceSub, Nat.reduceMul, Nat.reduceEqDiff, Nat.reduceLT, Nat.reduceLeDiff]
          refine hK _ _ ?_
          clear hK K
          have e20 := Option.some.inj h13
          rw [← e20] at h14
          obtain ⟨m21, h22, h23⟩ := h14
          refine go_lp ⟨m21, h22, (IntKind.i64.wrap (x1 + (1 : Int))), h23, ?_⟩
          refine wk_mk [] rfl ?_ ?_ ?_ ?_ ?_
          · exact (fun i h => absurd h (by omega))
          · exact (.cons _ _ _ (sv_lst (by first | rfl | (simp only [push_cast, List.map_append, List.map_set, List.map_replicate]; done) | (simp only [push_cast, List.map_append, List.map_set, List.map_replicate]; rfl))) (.cons _ _ _ (sv_lst (by first | rfl | (simp only [push_cast, List.map_append, List.map_set, List.map_replicate]; done) | (simp only [push_cast, List.map_append, List.map_set, List.map_replicate]; rfl))) (.cons _ _ _ (sv_int (by first | rfl | (simp only [push_cast, List.map_append, List.map_set, List.map_replicate]; done) | (simp only [push_cast, List.map_append, List.map_set, List.map_replicate]; rfl))) .nil)))
          · exact .nil
          · exact by decide
          · exact by decide
      · replace h13 := (bif_f h15).symm.trans h13
        refine go_exit ?_
        refine go_out ?_
        refine go_lp_out ?_
        refine go_blk_at ?_
        have e24 := Option.some.inj h13
        rw [← e24] at h14
        replace h14 : _ = _ := h14
        refine go_lp ⟨h14.symm, ?_⟩
        refine wk_mk [] rfl ?_ ?_ ?_ ?_ ?_
        · exact (fun i h => absurd h (by omega))
        · exact .nil
        · exact .nil
        · exact by decide
        · exact by decide
    · rintro k σ ⟨h25q, h25⟩
      rw [h25q] at h0
      try dsimp only [Sum.elim_inl] at h0
      refine go_seq ?_
      refine go_wk h25 ?_
      clear h25
      refine go_region fun K hK => ?_
      try simp (config := { maxSteps := 4000000 }) only [push_cast, reduceIte, reduceCtorEq, Nat.reduceAdd, Nat.reduceSub, Nat.reduceMul, Nat.reduceEqDiff, Nat.reduceLT, Nat.reduceLeDiff]
      refine hK _ _ ?_
      clear hK K
      refine go_ret ?_
      cases h0
      refine go_end_ret ?_
      exact ⟨_, [], rfl, (.cons (.c (.bool _)) .nil), by decide, .inr (by simp only [RT.cells, List.mem_cons, List.mem_singleton, List.not_mem_nil, or_false, forall_eq, forall_eq_or_imp, allOwn_int, allOwn_bool, allOwn_str, allOwn_none, eIu8_ao, eTelegram_ao, eIi64_ao, eShunt_ao, eLIi64_ao, eSidings_ao, eNeed_ao, eRoute_ao, ePlant_ao, eLockOp_ao, eB_ao, eLocking_ao, eTask_ao, eRule_ao, eEdge_ao, eCall_ao, eTrip_ao, eBooking_ao, eNet_ao, eTrain_ao, eDesk_ao, eUse_ao, eRun_ao, eT_ao, o120Trip_ao, o33LIi64_ao, implies_true, and_true, false_implies, List.map_eq_nil_iff, and_self])⟩
end Go.V
