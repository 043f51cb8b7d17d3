/-
  Rules and contracts, packed: Inst, K1, H1, D26.
-/
import Derived.Test.YtaoinojdijbhaaaProg
import Derived.Test.YtaoinojdijbhaaaQ3
set_option maxHeartbeats 1000000
set_option linter.unusedSimpArgs false
set_option linter.unusedVariables false
set_option maxRecDepth 20000
namespace Go.Proofs.Ytaoinojdijbhaaa
open Go.Proofs Go.RowKit
instance ty0 : Ty Try.prog 0 (Go.TypeDesc.tuple #[]) 1 false := ⟨Try.underlying0, Try.isAgg0, Try.sizeOf0⟩
instance zero0 : Zero Try.prog 0 (Go.Value.tuple #[]) #[Go.Value.tuple #[]] := ⟨Try.zeroValue0, rfl⟩
instance ty1 : Ty Try.prog 1 (Go.TypeDesc.func #[] #[] false) 1 false := ⟨Try.underlying1, Try.isAgg1, Try.sizeOf1⟩
instance zero1 : Zero Try.prog 1 (Go.Value.nilFunc) #[Go.Value.nilFunc] := ⟨Try.zeroValue1, rfl⟩
instance ty2 : Ty Try.prog 2 (Go.TypeDesc.int Go.IntKind.i64) 1 false := ⟨Try.underlying2, Try.isAgg2, Try.sizeOf2⟩
instance zero2 : Zero Try.prog 2 (Go.Value.int Go.IntKind.i64 0) #[Go.Value.int Go.IntKind.i64 0] := ⟨Try.zeroValue2, rfl⟩
instance ty3 : Ty Try.prog 3 (Go.TypeDesc.int Go.IntKind.i64) 1 false := ⟨Try.underlying3, Try.isAgg3, Try.sizeOf3⟩
instance zero3 : Zero Try.prog 3 (Go.Value.int Go.IntKind.i64 0) #[Go.Value.int Go.IntKind.i64 0] := ⟨Try.zeroValue3, rfl⟩
instance ty4 : Ty Try.prog 4 (Go.TypeDesc.bool) 1 false := ⟨Try.underlying4, Try.isAgg4, Try.sizeOf4⟩
instance zero4 : Zero Try.prog 4 (Go.Value.bool false) #[Go.Value.bool false] := ⟨Try.zeroValue4, rfl⟩
instance ty5 : Ty Try.prog 5 (Go.TypeDesc.int Go.IntKind.u8) 1 false := ⟨Try.underlying5, Try.isAgg5, Try.sizeOf5⟩
instance zero5 : Zero Try.prog 5 (Go.Value.int Go.IntKind.u8 0) #[Go.Value.int Go.IntKind.u8 0] := ⟨Try.zeroValue5, rfl⟩
instance ty6 : Ty Try.prog 6 (Go.TypeDesc.int Go.IntKind.u8) 1 false := ⟨Try.underlying6, Try.isAgg6, Try.sizeOf6⟩
instance zero6 : Zero Try.prog 6 (Go.Value.int Go.IntKind.u8 0) #[Go.Value.int Go.IntKind.u8 0] := ⟨Try.zeroValue6, rfl⟩
instance ty7 : Ty Try.prog 7 (Go.TypeDesc.struct #[{ name := "x", type := 2, offset := 0, embedded := false, tag := "", pkgPath := "runtime", byteOffset := 0 }, { name := "y", type := 3, offset := 1, embedded := false, tag := "", pkgPath := "runtime", byteOffset := 8 }, { name := "signed", type := 4, offset := 2, embedded := false, tag := "", pkgPath := "runtime", byteOffset := 16 }, { name := "code", type := 6, offset := 3, embedded := false, tag := "", pkgPath := "runtime", byteOffset := 17 }]) 4 true := ⟨Try.underlying7, Try.isAgg7, Try.sizeOf7⟩
instance zero7 : Zero Try.prog 7 (Go.Value.agg #[Go.Value.int Go.IntKind.i64 0, Go.Value.int Go.IntKind.i64 0, Go.Value.bool false, Go.Value.int Go.IntKind.u8 0]) #[Go.Value.int Go.IntKind.i64 0, Go.Value.int Go.IntKind.i64 0, Go.Value.bool false, Go.Value.int Go.IntKind.u8 0] := ⟨Try.zeroValue7, rfl⟩
instance ty8 : Ty Try.prog 8 (Go.TypeDesc.struct #[{ name := "x", type := 2, offset := 0, embedded := false, tag := "", pkgPath := "runtime", byteOffset := 0 }, { name := "y", type := 3, offset := 1, embedded := false, tag := "", pkgPath := "runtime", byteOffset := 8 }, { name := "signed", type := 4, offset := 2, embedded := false, tag := "", pkgPath := "runtime", byteOffset := 16 }, { name := "code", type := 6, offset := 3, embedded := false, tag := "", pkgPath := "runtime", byteOffset := 17 }]) 4 true := ⟨Try.underlying8, Try.isAgg8, Try.sizeOf8⟩
instance zero8 : Zero Try.prog 8 (Go.Value.agg #[Go.Value.int Go.IntKind.i64 0, Go.Value.int Go.IntKind.i64 0, Go.Value.bool false, Go.Value.int Go.IntKind.u8 0]) #[Go.Value.int Go.IntKind.i64 0, Go.Value.int Go.IntKind.i64 0, Go.Value.bool false, Go.Value.int Go.IntKind.u8 0] := ⟨Try.zeroValue8, rfl⟩
instance ty9 : Ty Try.prog 9 (Go.TypeDesc.string) 1 false := ⟨Try.underlying9, Try.isAgg9, Try.sizeOf9⟩
instance zero9 : Zero Try.prog 9 (Go.Value.string { data := #[] }) #[Go.Value.string { data := #[] }] := ⟨Try.zeroValue9, rfl⟩
instance ty10 : Ty Try.prog 10 (Go.TypeDesc.string) 1 false := ⟨Try.underlying10, Try.isAgg10, Try.sizeOf10⟩
instance zero10 : Zero Try.prog 10 (Go.Value.string { data := #[] }) #[Go.Value.string { data := #[] }] := ⟨Try.zeroValue10, rfl⟩
instance ty11 : Ty Try.prog 11 (Go.TypeDesc.string) 1 false := ⟨Try.underlying11, Try.isAgg11, Try.sizeOf11⟩
instance zero11 : Zero Try.prog 11 (Go.Value.string { data := #[] }) #[Go.Value.string { data := #[] }] := ⟨Try.zeroValue11, rfl⟩
instance ty12 : Ty Try.prog 12 (Go.TypeDesc.int Go.IntKind.u64) 1 false := ⟨Try.underlying12, Try.isAgg12, Try.sizeOf12⟩
instance zero12 : Zero Try.prog 12 (Go.Value.int Go.IntKind.u64 0) #[Go.Value.int Go.IntKind.u64 0] := ⟨Try.zeroValue12, rfl⟩
instance ty13 : Ty Try.prog 13 (Go.TypeDesc.struct #[{ name := "msg", type := 9, offset := 0, embedded := false, tag := "", pkgPath := "runtime", byteOffset := 0 }, { name := "addr", type := 12, offset := 1, embedded := false, tag := "", pkgPath := "runtime", byteOffset := 16 }]) 2 true := ⟨Try.underlying13, Try.isAgg13, Try.sizeOf13⟩
instance zero13 : Zero Try.prog 13 (Go.Value.agg #[Go.Value.string { data := #[] }, Go.Value.int Go.IntKind.u64 0]) #[Go.Value.string { data := #[] }, Go.Value.int Go.IntKind.u64 0] := ⟨Try.zeroValue13, rfl⟩
instance ty14 : Ty Try.prog 14 (Go.TypeDesc.struct #[{ name := "msg", type := 9, offset := 0, embedded := false, tag := "", pkgPath := "runtime", byteOffset := 0 }, { name := "addr", type := 12, offset := 1, embedded := false, tag := "", pkgPath := "runtime", byteOffset := 16 }]) 2 true := ⟨Try.underlying14, Try.isAgg14, Try.sizeOf14⟩
instance zero14 : Zero Try.prog 14 (Go.Value.agg #[Go.Value.string { data := #[] }, Go.Value.int Go.IntKind.u64 0]) #[Go.Value.string { data := #[] }, Go.Value.int Go.IntKind.u64 0] := ⟨Try.zeroValue14, rfl⟩
instance ty15 : Ty Try.prog 15 (Go.TypeDesc.pointer 142) 1 false := ⟨Try.underlying15, Try.isAgg15, Try.sizeOf15⟩
instance zero15 : Zero Try.prog 15 (Go.Value.pointer none) #[Go.Value.pointer none] := ⟨Try.zeroValue15, rfl⟩
instance ty16 : Ty Try.prog 16 (Go.TypeDesc.pointer 145) 1 false := ⟨Try.underlying16, Try.isAgg16, Try.sizeOf16⟩
instance zero16 : Zero Try.prog 16 (Go.Value.pointer none) #[Go.Value.pointer none] := ⟨Try.zeroValue16, rfl⟩
instance ty17 : Ty Try.prog 17 (Go.TypeDesc.pointer 155) 1 false := ⟨Try.underlying17, Try.isAgg17, Try.sizeOf17⟩
instance zero17 : Zero Try.prog 17 (Go.Value.pointer none) #[Go.Value.pointer none] := ⟨Try.zeroValue17, rfl⟩
instance ty18 : Ty Try.prog 18 (Go.TypeDesc.struct #[{ name := "typ", type := 17, offset := 0, embedded := false, tag := "", pkgPath := "internal/runtime/maps", byteOffset := 0 }]) 1 true := ⟨Try.underlying18, Try.isAgg18, Try.sizeOf18⟩
instance zero18 : Zero Try.prog 18 (Go.Value.agg #[Go.Value.pointer none]) #[Go.Value.pointer none] := ⟨Try.zeroValue18, rfl⟩
instance ty19 : Ty Try.prog 19 (Go.TypeDesc.struct #[{ name := "typ", type := 17, offset := 0, embedded := false, tag := "", pkgPath := "internal/runtime/maps", byteOffset := 0 }]) 1 true := ⟨Try.underlying19, Try.isAgg19, Try.sizeOf19⟩
instance zero19 : Zero Try.prog 19 (Go.Value.agg #[Go.Value.pointer none]) #[Go.Value.pointer none] := ⟨Try.zeroValue19, rfl⟩
instance ty20 : Ty Try.prog 20 (Go.TypeDesc.interface #[]) 1 false := ⟨Try.underlying20, Try.isAgg20, Try.sizeOf20⟩
instance zero20 : Zero Try.prog 20 (Go.Value.nilIface) #[Go.Value.nilIface] := ⟨Try.zeroValue20, rfl⟩
instance ty21 : Ty Try.prog 21 (Go.TypeDesc.int Go.IntKind.i32) 1 false := ⟨Try.underlying21, Try.isAgg21, Try.sizeOf21⟩
instance zero21 : Zero Try.prog 21 (Go.Value.int Go.IntKind.i32 0) #[Go.Value.int Go.IntKind.i32 0] := ⟨Try.zeroValue21, rfl⟩
instance ty22 : Ty Try.prog 22 (Go.TypeDesc.slice 3) 1 false := ⟨Try.underlying22, Try.isAgg22, Try.sizeOf22⟩
instance zero22 : Zero Try.prog 22 (Go.Value.slice none 0 0) #[Go.Value.slice none 0 0] := ⟨Try.zeroValue22, rfl⟩
instance ty23 : Ty Try.prog 23 (Go.TypeDesc.slice 9) 1 false := ⟨Try.underlying23, Try.isAgg23, Try.sizeOf23⟩
instance zero23 : Zero Try.prog 23 (Go.Value.slice none 0 0) #[Go.Value.slice none 0 0] := ⟨Try.zeroValue23, rfl⟩
instance ty24 : Ty Try.prog 24 (Go.TypeDesc.slice 62) 1 false := ⟨Try.underlying24, Try.isAgg24, Try.sizeOf24⟩
instance zero24 : Zero Try.prog 24 (Go.Value.slice none 0 0) #[Go.Value.slice none 0 0] := ⟨Try.zeroValue24, rfl⟩
instance ty25 : Ty Try.prog 25 (Go.TypeDesc.struct #[{ name := "K", type := 3, offset := 0, embedded := false, tag := "", pkgPath := "", byteOffset := 0 }, { name := "Tokens", type := 23, offset := 1, embedded := false, tag := "", pkgPath := "", byteOffset := 8 }, { name := "Sep", type := 9, offset := 2, embedded := false, tag := "", pkgPath := "", byteOffset := 32 }, { name := "Names", type := 23, offset := 3, embedded := false, tag := "", pkgPath := "", byteOffset := 48 }, { name := "Start", type := 3, offset := 4, embedded := false, tag := "", pkgPath := "", byteOffset := 72 }, { name := "Prods", type := 24, offset := 5, embedded := false, tag := "", pkgPath := "", byteOffset := 80 }]) 6 true := ⟨Try.underlying25, Try.isAgg25, Try.sizeOf25⟩
instance zero25 : Zero Try.prog 25 (Go.Value.agg #[Go.Value.int Go.IntKind.i64 0, Go.Value.slice none 0 0, Go.Value.string { data := #[] }, Go.Value.slice none 0 0, Go.Value.int Go.IntKind.i64 0, Go.Value.slice none 0 0]) #[Go.Value.int Go.IntKind.i64 0, Go.Value.slice none 0 0, Go.Value.string { data := #[] }, Go.Value.slice none 0 0, Go.Value.int Go.IntKind.i64 0, Go.Value.slice none 0 0] := ⟨Try.zeroValue25, rfl⟩
instance ty26 : Ty Try.prog 26 (Go.TypeDesc.struct #[{ name := "K", type := 3, offset := 0, embedded := false, tag := "", pkgPath := "", byteOffset := 0 }, { name := "Tokens", type := 23, offset := 1, embedded := false, tag := "", pkgPath := "", byteOffset := 8 }, { name := "Sep", type := 9, offset := 2, embedded := false, tag := "", pkgPath := "", byteOffset := 32 }, { name := "Names", type := 23, offset := 3, embedded := false, tag := "", pkgPath := "", byteOffset := 48 }, { name := "Start", type := 3, offset := 4, embedded := false, tag := "", pkgPath := "", byteOffset := 72 }, { name := "Prods", type := 24, offset := 5, embedded := false, tag := "", pkgPath := "", byteOffset := 80 }]) 6 true := ⟨Try.underlying26, Try.isAgg26, Try.sizeOf26⟩
instance zero26 : Zero Try.prog 26 (Go.Value.agg #[Go.Value.int Go.IntKind.i64 0, Go.Value.slice none 0 0, Go.Value.string { data := #[] }, Go.Value.slice none 0 0, Go.Value.int Go.IntKind.i64 0, Go.Value.slice none 0 0]) #[Go.Value.int Go.IntKind.i64 0, Go.Value.slice none 0 0, Go.Value.string { data := #[] }, Go.Value.slice none 0 0, Go.Value.int Go.IntKind.i64 0, Go.Value.slice none 0 0] := ⟨Try.zeroValue26, rfl⟩
instance ty27 : Ty Try.prog 27 (Go.TypeDesc.func #[22] #[26] false) 1 false := ⟨Try.underlying27, Try.isAgg27, Try.sizeOf27⟩
instance zero27 : Zero Try.prog 27 (Go.Value.nilFunc) #[Go.Value.nilFunc] := ⟨Try.zeroValue27, rfl⟩
instance ty28 : Ty Try.prog 28 (Go.TypeDesc.int Go.IntKind.i64) 1 false := ⟨Try.underlying28, Try.isAgg28, Try.sizeOf28⟩
instance zero28 : Zero Try.prog 28 (Go.Value.int Go.IntKind.i64 0) #[Go.Value.int Go.IntKind.i64 0] := ⟨Try.zeroValue28, rfl⟩
instance ty29 : Ty Try.prog 29 (Go.TypeDesc.tuple #[22, 28]) 1 false := ⟨Try.underlying29, Try.isAgg29, Try.sizeOf29⟩
instance zero29 : Zero Try.prog 29 (Go.Value.tuple #[Go.Value.slice none 0 0, Go.Value.int Go.IntKind.i64 0]) #[Go.Value.tuple #[Go.Value.slice none 0 0, Go.Value.int Go.IntKind.i64 0]] := ⟨Try.zeroValue29, rfl⟩
instance ty30 : Ty Try.prog 30 (Go.TypeDesc.func #[26] #[22, 28] false) 1 false := ⟨Try.underlying30, Try.isAgg30, Try.sizeOf30⟩
instance zero30 : Zero Try.prog 30 (Go.Value.nilFunc) #[Go.Value.nilFunc] := ⟨Try.zeroValue30, rfl⟩
instance ty31 : Ty Try.prog 31 (Go.TypeDesc.slice 22) 1 false := ⟨Try.underlying31, Try.isAgg31, Try.sizeOf31⟩
instance zero31 : Zero Try.prog 31 (Go.Value.slice none 0 0) #[Go.Value.slice none 0 0] := ⟨Try.zeroValue31, rfl⟩
instance ty32 : Ty Try.prog 32 (Go.TypeDesc.tuple #[31, 28]) 1 false := ⟨Try.underlying32, Try.isAgg32, Try.sizeOf32⟩
instance zero32 : Zero Try.prog 32 (Go.Value.tuple #[Go.Value.slice none 0 0, Go.Value.int Go.IntKind.i64 0]) #[Go.Value.tuple #[Go.Value.slice none 0 0, Go.Value.int Go.IntKind.i64 0]] := ⟨Try.zeroValue32, rfl⟩
instance ty33 : Ty Try.prog 33 (Go.TypeDesc.func #[26] #[31, 28] false) 1 false := ⟨Try.underlying33, Try.isAgg33, Try.sizeOf33⟩
instance zero33 : Zero Try.prog 33 (Go.Value.nilFunc) #[Go.Value.nilFunc] := ⟨Try.zeroValue33, rfl⟩
instance ty34 : Ty Try.prog 34 (Go.TypeDesc.func #[22, 3] #[4] false) 1 false := ⟨Try.underlying34, Try.isAgg34, Try.sizeOf34⟩
instance zero34 : Zero Try.prog 34 (Go.Value.nilFunc) #[Go.Value.nilFunc] := ⟨Try.zeroValue34, rfl⟩
instance ty35 : Ty Try.prog 35 (Go.TypeDesc.func #[26] #[26] false) 1 false := ⟨Try.underlying35, Try.isAgg35, Try.sizeOf35⟩
instance zero35 : Zero Try.prog 35 (Go.Value.nilFunc) #[Go.Value.nilFunc] := ⟨Try.zeroValue35, rfl⟩
instance ty36 : Ty Try.prog 36 (Go.TypeDesc.func #[3, 3] #[3] false) 1 false := ⟨Try.underlying36, Try.isAgg36, Try.sizeOf36⟩
instance zero36 : Zero Try.prog 36 (Go.Value.nilFunc) #[Go.Value.nilFunc] := ⟨Try.zeroValue36, rfl⟩
instance ty37 : Ty Try.prog 37 (Go.TypeDesc.func #[] #[4] false) 1 false := ⟨Try.underlying37, Try.isAgg37, Try.sizeOf37⟩
instance zero37 : Zero Try.prog 37 (Go.Value.nilFunc) #[Go.Value.nilFunc] := ⟨Try.zeroValue37, rfl⟩
instance ty38 : Ty Try.prog 38 (Go.TypeDesc.func #[26] #[4] false) 1 false := ⟨Try.underlying38, Try.isAgg38, Try.sizeOf38⟩
instance zero38 : Zero Try.prog 38 (Go.Value.nilFunc) #[Go.Value.nilFunc] := ⟨Try.zeroValue38, rfl⟩
instance ty39 : Ty Try.prog 39 (Go.TypeDesc.func #[31, 31] #[4] false) 1 false := ⟨Try.underlying39, Try.isAgg39, Try.sizeOf39⟩
instance zero39 : Zero Try.prog 39 (Go.Value.nilFunc) #[Go.Value.nilFunc] := ⟨Try.zeroValue39, rfl⟩
instance ty40 : Ty Try.prog 40 (Go.TypeDesc.func #[26, 3] #[22, 28] false) 1 false := ⟨Try.underlying40, Try.isAgg40, Try.sizeOf40⟩
instance zero40 : Zero Try.prog 40 (Go.Value.nilFunc) #[Go.Value.nilFunc] := ⟨Try.zeroValue40, rfl⟩
instance ty41 : Ty Try.prog 41 (Go.TypeDesc.func #[22, 22] #[4] false) 1 false := ⟨Try.underlying41, Try.isAgg41, Try.sizeOf41⟩
instance zero41 : Zero Try.prog 41 (Go.Value.nilFunc) #[Go.Value.nilFunc] := ⟨Try.zeroValue41, rfl⟩
instance ty42 : Ty Try.prog 42 (Go.TypeDesc.tuple #[28, 3]) 1 false := ⟨Try.underlying42, Try.isAgg42, Try.sizeOf42⟩
instance zero42 : Zero Try.prog 42 (Go.Value.tuple #[Go.Value.int Go.IntKind.i64 0, Go.Value.int Go.IntKind.i64 0]) #[Go.Value.tuple #[Go.Value.int Go.IntKind.i64 0, Go.Value.int Go.IntKind.i64 0]] := ⟨Try.zeroValue42, rfl⟩
instance ty43 : Ty Try.prog 43 (Go.TypeDesc.func #[26] #[28, 3] false) 1 false := ⟨Try.underlying43, Try.isAgg43, Try.sizeOf43⟩
instance zero43 : Zero Try.prog 43 (Go.Value.nilFunc) #[Go.Value.nilFunc] := ⟨Try.zeroValue43, rfl⟩
instance ty44 : Ty Try.prog 44 (Go.TypeDesc.func #[26, 26] #[4] false) 1 false := ⟨Try.underlying44, Try.isAgg44, Try.sizeOf44⟩
instance zero44 : Zero Try.prog 44 (Go.Value.nilFunc) #[Go.Value.nilFunc] := ⟨Try.zeroValue44, rfl⟩
instance ty45 : Ty Try.prog 45 (Go.TypeDesc.func #[26, 3] #[4] false) 1 false := ⟨Try.underlying45, Try.isAgg45, Try.sizeOf45⟩
instance zero45 : Zero Try.prog 45 (Go.Value.nilFunc) #[Go.Value.nilFunc] := ⟨Try.zeroValue45, rfl⟩
instance ty46 : Ty Try.prog 46 (Go.TypeDesc.func #[22] #[22] false) 1 false := ⟨Try.underlying46, Try.isAgg46, Try.sizeOf46⟩
instance zero46 : Zero Try.prog 46 (Go.Value.nilFunc) #[Go.Value.nilFunc] := ⟨Try.zeroValue46, rfl⟩
instance ty47 : Ty Try.prog 47 (Go.TypeDesc.slice 4) 1 false := ⟨Try.underlying47, Try.isAgg47, Try.sizeOf47⟩
instance zero47 : Zero Try.prog 47 (Go.Value.slice none 0 0) #[Go.Value.slice none 0 0] := ⟨Try.zeroValue47, rfl⟩
instance ty48 : Ty Try.prog 48 (Go.TypeDesc.tuple #[47, 28]) 1 false := ⟨Try.underlying48, Try.isAgg48, Try.sizeOf48⟩
instance zero48 : Zero Try.prog 48 (Go.Value.tuple #[Go.Value.slice none 0 0, Go.Value.int Go.IntKind.i64 0]) #[Go.Value.tuple #[Go.Value.slice none 0 0, Go.Value.int Go.IntKind.i64 0]] := ⟨Try.zeroValue48, rfl⟩
instance ty49 : Ty Try.prog 49 (Go.TypeDesc.func #[26] #[47, 28] false) 1 false := ⟨Try.underlying49, Try.isAgg49, Try.sizeOf49⟩
instance zero49 : Zero Try.prog 49 (Go.Value.nilFunc) #[Go.Value.nilFunc] := ⟨Try.zeroValue49, rfl⟩
instance ty50 : Ty Try.prog 50 (Go.TypeDesc.func #[47, 47] #[4] false) 1 false := ⟨Try.underlying50, Try.isAgg50, Try.sizeOf50⟩
instance zero50 : Zero Try.prog 50 (Go.Value.nilFunc) #[Go.Value.nilFunc] := ⟨Try.zeroValue50, rfl⟩
instance ty51 : Ty Try.prog 51 (Go.TypeDesc.tuple #[3, 28]) 1 false := ⟨Try.underlying51, Try.isAgg51, Try.sizeOf51⟩
instance zero51 : Zero Try.prog 51 (Go.Value.tuple #[Go.Value.int Go.IntKind.i64 0, Go.Value.int Go.IntKind.i64 0]) #[Go.Value.tuple #[Go.Value.int Go.IntKind.i64 0, Go.Value.int Go.IntKind.i64 0]] := ⟨Try.zeroValue51, rfl⟩
instance ty52 : Ty Try.prog 52 (Go.TypeDesc.func #[26] #[3, 28] false) 1 false := ⟨Try.underlying52, Try.isAgg52, Try.sizeOf52⟩
instance zero52 : Zero Try.prog 52 (Go.Value.nilFunc) #[Go.Value.nilFunc] := ⟨Try.zeroValue52, rfl⟩
instance ty53 : Ty Try.prog 53 (Go.TypeDesc.tuple #[4, 28]) 1 false := ⟨Try.underlying53, Try.isAgg53, Try.sizeOf53⟩
instance zero53 : Zero Try.prog 53 (Go.Value.tuple #[Go.Value.bool false, Go.Value.int Go.IntKind.i64 0]) #[Go.Value.tuple #[Go.Value.bool false, Go.Value.int Go.IntKind.i64 0]] := ⟨Try.zeroValue53, rfl⟩
instance ty54 : Ty Try.prog 54 (Go.TypeDesc.func #[26, 22] #[4, 28] false) 1 false := ⟨Try.underlying54, Try.isAgg54, Try.sizeOf54⟩
instance zero54 : Zero Try.prog 54 (Go.Value.nilFunc) #[Go.Value.nilFunc] := ⟨Try.zeroValue54, rfl⟩
instance ty55 : Ty Try.prog 55 (Go.TypeDesc.func #[26, 3] #[47, 28] false) 1 false := ⟨Try.underlying55, Try.isAgg55, Try.sizeOf55⟩
instance zero55 : Zero Try.prog 55 (Go.Value.nilFunc) #[Go.Value.nilFunc] := ⟨Try.zeroValue55, rfl⟩
instance ty56 : Ty Try.prog 56 (Go.TypeDesc.func #[26, 22, 3] #[4] false) 1 false := ⟨Try.underlying56, Try.isAgg56, Try.sizeOf56⟩
instance zero56 : Zero Try.prog 56 (Go.Value.nilFunc) #[Go.Value.nilFunc] := ⟨Try.zeroValue56, rfl⟩
instance ty57 : Ty Try.prog 57 (Go.TypeDesc.func #[] #[26] false) 1 false := ⟨Try.underlying57, Try.isAgg57, Try.sizeOf57⟩
instance zero57 : Zero Try.prog 57 (Go.Value.nilFunc) #[Go.Value.nilFunc] := ⟨Try.zeroValue57, rfl⟩
instance ty58 : Ty Try.prog 58 (Go.TypeDesc.func #[22] #[4, 28] true) 1 false := ⟨Try.underlying58, Try.isAgg58, Try.sizeOf58⟩
instance zero58 : Zero Try.prog 58 (Go.Value.nilFunc) #[Go.Value.nilFunc] := ⟨Try.zeroValue58, rfl⟩
instance ty59 : Ty Try.prog 59 (Go.TypeDesc.tuple #[47, 47, 47, 22, 22, 4]) 1 false := ⟨Try.underlying59, Try.isAgg59, Try.sizeOf59⟩
instance zero59 : Zero Try.prog 59 (Go.Value.tuple #[Go.Value.slice none 0 0, Go.Value.slice none 0 0, Go.Value.slice none 0 0, Go.Value.slice none 0 0, Go.Value.slice none 0 0, Go.Value.bool false]) #[Go.Value.tuple #[Go.Value.slice none 0 0, Go.Value.slice none 0 0, Go.Value.slice none 0 0, Go.Value.slice none 0 0, Go.Value.slice none 0 0, Go.Value.bool false]] := ⟨Try.zeroValue59, rfl⟩
instance ty60 : Ty Try.prog 60 (Go.TypeDesc.func #[26] #[47, 47, 47, 22, 22, 4] false) 1 false := ⟨Try.underlying60, Try.isAgg60, Try.sizeOf60⟩
instance zero60 : Zero Try.prog 60 (Go.Value.nilFunc) #[Go.Value.nilFunc] := ⟨Try.zeroValue60, rfl⟩
instance ty61 : Ty Try.prog 61 (Go.TypeDesc.struct #[{ name := "Left", type := 3, offset := 0, embedded := false, tag := "", pkgPath := "", byteOffset := 0 }, { name := "Right", type := 22, offset := 1, embedded := false, tag := "", pkgPath := "", byteOffset := 8 }]) 2 true := ⟨Try.underlying61, Try.isAgg61, Try.sizeOf61⟩
instance zero61 : Zero Try.prog 61 (Go.Value.agg #[Go.Value.int Go.IntKind.i64 0, Go.Value.slice none 0 0]) #[Go.Value.int Go.IntKind.i64 0, Go.Value.slice none 0 0] := ⟨Try.zeroValue61, rfl⟩
instance ty62 : Ty Try.prog 62 (Go.TypeDesc.struct #[{ name := "Left", type := 3, offset := 0, embedded := false, tag := "", pkgPath := "", byteOffset := 0 }, { name := "Right", type := 22, offset := 1, embedded := false, tag := "", pkgPath := "", byteOffset := 8 }]) 2 true := ⟨Try.underlying62, Try.isAgg62, Try.sizeOf62⟩
instance zero62 : Zero Try.prog 62 (Go.Value.agg #[Go.Value.int Go.IntKind.i64 0, Go.Value.slice none 0 0]) #[Go.Value.int Go.IntKind.i64 0, Go.Value.slice none 0 0] := ⟨Try.zeroValue62, rfl⟩
instance ty63 : Ty Try.prog 63 (Go.TypeDesc.func #[22] #[4] false) 1 false := ⟨Try.underlying63, Try.isAgg63, Try.sizeOf63⟩
instance zero63 : Zero Try.prog 63 (Go.Value.nilFunc) #[Go.Value.nilFunc] := ⟨Try.zeroValue63, rfl⟩
instance ty64 : Ty Try.prog 64 (Go.TypeDesc.func #[22, 3, 22] #[4] false) 1 false := ⟨Try.underlying64, Try.isAgg64, Try.sizeOf64⟩
instance zero64 : Zero Try.prog 64 (Go.Value.nilFunc) #[Go.Value.nilFunc] := ⟨Try.zeroValue64, rfl⟩
instance ty65 : Ty Try.prog 65 (Go.TypeDesc.func #[26, 31] #[4] true) 1 false := ⟨Try.underlying65, Try.isAgg65, Try.sizeOf65⟩
instance zero65 : Zero Try.prog 65 (Go.Value.nilFunc) #[Go.Value.nilFunc] := ⟨Try.zeroValue65, rfl⟩
instance ty66 : Ty Try.prog 66 (Go.TypeDesc.func #[26, 3, 22] #[4] true) 1 false := ⟨Try.underlying66, Try.isAgg66, Try.sizeOf66⟩
instance zero66 : Zero Try.prog 66 (Go.Value.nilFunc) #[Go.Value.nilFunc] := ⟨Try.zeroValue66, rfl⟩
instance ty67 : Ty Try.prog 67 (Go.TypeDesc.func #[22, 3] #[3] false) 1 false := ⟨Try.underlying67, Try.isAgg67, Try.sizeOf67⟩
instance zero67 : Zero Try.prog 67 (Go.Value.nilFunc) #[Go.Value.nilFunc] := ⟨Try.zeroValue67, rfl⟩
instance ty68 : Ty Try.prog 68 (Go.TypeDesc.slice 5) 1 false := ⟨Try.underlying68, Try.isAgg68, Try.sizeOf68⟩
instance zero68 : Zero Try.prog 68 (Go.Value.slice none 0 0) #[Go.Value.slice none 0 0] := ⟨Try.zeroValue68, rfl⟩
instance ty69 : Ty Try.prog 69 (Go.TypeDesc.int Go.IntKind.u64) 1 false := ⟨Try.underlying69, Try.isAgg69, Try.sizeOf69⟩
instance zero69 : Zero Try.prog 69 (Go.Value.int Go.IntKind.u64 0) #[Go.Value.int Go.IntKind.u64 0] := ⟨Try.zeroValue69, rfl⟩
instance ty70 : Ty Try.prog 70 (Go.TypeDesc.func #[26] #[28] false) 1 false := ⟨Try.underlying70, Try.isAgg70, Try.sizeOf70⟩
instance zero70 : Zero Try.prog 70 (Go.Value.nilFunc) #[Go.Value.nilFunc] := ⟨Try.zeroValue70, rfl⟩
instance ty71 : Ty Try.prog 71 (Go.TypeDesc.func #[26] #[22] false) 1 false := ⟨Try.underlying71, Try.isAgg71, Try.sizeOf71⟩
instance zero71 : Zero Try.prog 71 (Go.Value.nilFunc) #[Go.Value.nilFunc] := ⟨Try.zeroValue71, rfl⟩
instance ty72 : Ty Try.prog 72 (Go.TypeDesc.slice 74) 1 false := ⟨Try.underlying72, Try.isAgg72, Try.sizeOf72⟩
instance zero72 : Zero Try.prog 72 (Go.Value.slice none 0 0) #[Go.Value.slice none 0 0] := ⟨Try.zeroValue72, rfl⟩
instance ty73 : Ty Try.prog 73 (Go.TypeDesc.func #[26] #[72] false) 1 false := ⟨Try.underlying73, Try.isAgg73, Try.sizeOf73⟩
instance zero73 : Zero Try.prog 73 (Go.Value.nilFunc) #[Go.Value.nilFunc] := ⟨Try.zeroValue73, rfl⟩
instance ty74 : Ty Try.prog 74 (Go.TypeDesc.int Go.IntKind.u8) 1 false := ⟨Try.underlying74, Try.isAgg74, Try.sizeOf74⟩
instance zero74 : Zero Try.prog 74 (Go.Value.int Go.IntKind.u8 0) #[Go.Value.int Go.IntKind.u8 0] := ⟨Try.zeroValue74, rfl⟩
instance ty75 : Ty Try.prog 75 (Go.TypeDesc.func #[] #[22] false) 1 false := ⟨Try.underlying75, Try.isAgg75, Try.sizeOf75⟩
instance zero75 : Zero Try.prog 75 (Go.Value.nilFunc) #[Go.Value.nilFunc] := ⟨Try.zeroValue75, rfl⟩
instance ty76 : Ty Try.prog 76 (Go.TypeDesc.func #[23] #[23] false) 1 false := ⟨Try.underlying76, Try.isAgg76, Try.sizeOf76⟩
instance zero76 : Zero Try.prog 76 (Go.Value.nilFunc) #[Go.Value.nilFunc] := ⟨Try.zeroValue76, rfl⟩
instance ty77 : Ty Try.prog 77 (Go.TypeDesc.func #[23, 3] #[4] false) 1 false := ⟨Try.underlying77, Try.isAgg77, Try.sizeOf77⟩
instance zero77 : Zero Try.prog 77 (Go.Value.nilFunc) #[Go.Value.nilFunc] := ⟨Try.zeroValue77, rfl⟩
instance ty78 : Ty Try.prog 78 (Go.TypeDesc.slice 47) 1 false := ⟨Try.underlying78, Try.isAgg78, Try.sizeOf78⟩
instance zero78 : Zero Try.prog 78 (Go.Value.slice none 0 0) #[Go.Value.slice none 0 0] := ⟨Try.zeroValue78, rfl⟩
instance ty79 : Ty Try.prog 79 (Go.TypeDesc.func #[26] #[78] false) 1 false := ⟨Try.underlying79, Try.isAgg79, Try.sizeOf79⟩
instance zero79 : Zero Try.prog 79 (Go.Value.nilFunc) #[Go.Value.nilFunc] := ⟨Try.zeroValue79, rfl⟩
instance ty80 : Ty Try.prog 80 (Go.TypeDesc.func #[47] #[22] false) 1 false := ⟨Try.underlying80, Try.isAgg80, Try.sizeOf80⟩
instance zero80 : Zero Try.prog 80 (Go.Value.nilFunc) #[Go.Value.nilFunc] := ⟨Try.zeroValue80, rfl⟩
instance ty81 : Ty Try.prog 81 (Go.TypeDesc.func #[26, 47, 3] #[74] false) 1 false := ⟨Try.underlying81, Try.isAgg81, Try.sizeOf81⟩
instance zero81 : Zero Try.prog 81 (Go.Value.nilFunc) #[Go.Value.nilFunc] := ⟨Try.zeroValue81, rfl⟩
instance ty82 : Ty Try.prog 82 (Go.TypeDesc.func #[26, 3, 47] #[47] false) 1 false := ⟨Try.underlying82, Try.isAgg82, Try.sizeOf82⟩
instance zero82 : Zero Try.prog 82 (Go.Value.nilFunc) #[Go.Value.nilFunc] := ⟨Try.zeroValue82, rfl⟩
instance ty83 : Ty Try.prog 83 (Go.TypeDesc.func #[26] #[47] false) 1 false := ⟨Try.underlying83, Try.isAgg83, Try.sizeOf83⟩
instance zero83 : Zero Try.prog 83 (Go.Value.nilFunc) #[Go.Value.nilFunc] := ⟨Try.zeroValue83, rfl⟩
instance ty84 : Ty Try.prog 84 (Go.TypeDesc.func #[23, 23] #[4] false) 1 false := ⟨Try.underlying84, Try.isAgg84, Try.sizeOf84⟩
instance zero84 : Zero Try.prog 84 (Go.Value.nilFunc) #[Go.Value.nilFunc] := ⟨Try.zeroValue84, rfl⟩
instance ty85 : Ty Try.prog 85 (Go.TypeDesc.func #[86] #[47] false) 1 false := ⟨Try.underlying85, Try.isAgg85, Try.sizeOf85⟩
instance zero85 : Zero Try.prog 85 (Go.Value.nilFunc) #[Go.Value.nilFunc] := ⟨Try.zeroValue85, rfl⟩
instance ty86 : Ty Try.prog 86 (Go.TypeDesc.slice 2) 1 false := ⟨Try.underlying86, Try.isAgg86, Try.sizeOf86⟩
instance zero86 : Zero Try.prog 86 (Go.Value.slice none 0 0) #[Go.Value.slice none 0 0] := ⟨Try.zeroValue86, rfl⟩
instance ty87 : Ty Try.prog 87 (Go.TypeDesc.func #[26, 2, 2] #[86] false) 1 false := ⟨Try.underlying87, Try.isAgg87, Try.sizeOf87⟩
instance zero87 : Zero Try.prog 87 (Go.Value.nilFunc) #[Go.Value.nilFunc] := ⟨Try.zeroValue87, rfl⟩
instance ty88 : Ty Try.prog 88 (Go.TypeDesc.func #[26, 4] #[47] false) 1 false := ⟨Try.underlying88, Try.isAgg88, Try.sizeOf88⟩
instance zero88 : Zero Try.prog 88 (Go.Value.nilFunc) #[Go.Value.nilFunc] := ⟨Try.zeroValue88, rfl⟩
instance ty89 : Ty Try.prog 89 (Go.TypeDesc.func #[26, 3] #[47] false) 1 false := ⟨Try.underlying89, Try.isAgg89, Try.sizeOf89⟩
instance zero89 : Zero Try.prog 89 (Go.Value.nilFunc) #[Go.Value.nilFunc] := ⟨Try.zeroValue89, rfl⟩
instance ty90 : Ty Try.prog 90 (Go.TypeDesc.func #[3] #[3] false) 1 false := ⟨Try.underlying90, Try.isAgg90, Try.sizeOf90⟩
instance zero90 : Zero Try.prog 90 (Go.Value.nilFunc) #[Go.Value.nilFunc] := ⟨Try.zeroValue90, rfl⟩
instance ty91 : Ty Try.prog 91 (Go.TypeDesc.func #[86, 3] #[22] false) 1 false := ⟨Try.underlying91, Try.isAgg91, Try.sizeOf91⟩
instance zero91 : Zero Try.prog 91 (Go.Value.nilFunc) #[Go.Value.nilFunc] := ⟨Try.zeroValue91, rfl⟩
instance ty92 : Ty Try.prog 92 (Go.TypeDesc.func #[26, 3, 3] #[22] false) 1 false := ⟨Try.underlying92, Try.isAgg92, Try.sizeOf92⟩
instance zero92 : Zero Try.prog 92 (Go.Value.nilFunc) #[Go.Value.nilFunc] := ⟨Try.zeroValue92, rfl⟩
instance ty93 : Ty Try.prog 93 (Go.TypeDesc.func #[22, 4, 47] #[4] false) 1 false := ⟨Try.underlying93, Try.isAgg93, Try.sizeOf93⟩
instance zero93 : Zero Try.prog 93 (Go.Value.nilFunc) #[Go.Value.nilFunc] := ⟨Try.zeroValue93, rfl⟩
instance ty94 : Ty Try.prog 94 (Go.TypeDesc.func #[24] #[26] true) 1 false := ⟨Try.underlying94, Try.isAgg94, Try.sizeOf94⟩
instance zero94 : Zero Try.prog 94 (Go.Value.nilFunc) #[Go.Value.nilFunc] := ⟨Try.zeroValue94, rfl⟩
instance ty95 : Ty Try.prog 95 (Go.TypeDesc.func #[3, 22] #[62] true) 1 false := ⟨Try.underlying95, Try.isAgg95, Try.sizeOf95⟩
instance zero95 : Zero Try.prog 95 (Go.Value.nilFunc) #[Go.Value.nilFunc] := ⟨Try.zeroValue95, rfl⟩
instance ty96 : Ty Try.prog 96 (Go.TypeDesc.func #[3] #[4] false) 1 false := ⟨Try.underlying96, Try.isAgg96, Try.sizeOf96⟩
instance zero96 : Zero Try.prog 96 (Go.Value.nilFunc) #[Go.Value.nilFunc] := ⟨Try.zeroValue96, rfl⟩
instance ty97 : Ty Try.prog 97 (Go.TypeDesc.pointer 103) 1 false := ⟨Try.underlying97, Try.isAgg97, Try.sizeOf97⟩
instance zero97 : Zero Try.prog 97 (Go.Value.pointer none) #[Go.Value.pointer none] := ⟨Try.zeroValue97, rfl⟩
instance ty98 : Ty Try.prog 98 (Go.TypeDesc.struct #[{ name := "p", type := 3, offset := 0, embedded := false, tag := "", pkgPath := "stenotype/recur", byteOffset := 0 }, { name := "n", type := 3, offset := 1, embedded := false, tag := "", pkgPath := "stenotype/recur", byteOffset := 8 }]) 2 true := ⟨Try.underlying98, Try.isAgg98, Try.sizeOf98⟩
instance zero98 : Zero Try.prog 98 (Go.Value.agg #[Go.Value.int Go.IntKind.i64 0, Go.Value.int Go.IntKind.i64 0]) #[Go.Value.int Go.IntKind.i64 0, Go.Value.int Go.IntKind.i64 0] := ⟨Try.zeroValue98, rfl⟩
instance ty99 : Ty Try.prog 99 (Go.TypeDesc.struct #[{ name := "p", type := 3, offset := 0, embedded := false, tag := "", pkgPath := "stenotype/recur", byteOffset := 0 }, { name := "n", type := 3, offset := 1, embedded := false, tag := "", pkgPath := "stenotype/recur", byteOffset := 8 }]) 2 true := ⟨Try.underlying99, Try.isAgg99, Try.sizeOf99⟩
instance zero99 : Zero Try.prog 99 (Go.Value.agg #[Go.Value.int Go.IntKind.i64 0, Go.Value.int Go.IntKind.i64 0]) #[Go.Value.int Go.IntKind.i64 0, Go.Value.int Go.IntKind.i64 0] := ⟨Try.zeroValue99, rfl⟩
instance ty100 : Ty Try.prog 100 (Go.TypeDesc.slice 99) 1 false := ⟨Try.underlying100, Try.isAgg100, Try.sizeOf100⟩
instance zero100 : Zero Try.prog 100 (Go.Value.slice none 0 0) #[Go.Value.slice none 0 0] := ⟨Try.zeroValue100, rfl⟩
instance ty101 : Ty Try.prog 101 (Go.TypeDesc.slice 100) 1 false := ⟨Try.underlying101, Try.isAgg101, Try.sizeOf101⟩
instance zero101 : Zero Try.prog 101 (Go.Value.slice none 0 0) #[Go.Value.slice none 0 0] := ⟨Try.zeroValue101, rfl⟩
instance ty102 : Ty Try.prog 102 (Go.TypeDesc.struct #[{ name := "l", type := 101, offset := 0, embedded := false, tag := "", pkgPath := "stenotype/recur", byteOffset := 0 }]) 1 true := ⟨Try.underlying102, Try.isAgg102, Try.sizeOf102⟩
instance zero102 : Zero Try.prog 102 (Go.Value.agg #[Go.Value.slice none 0 0]) #[Go.Value.slice none 0 0] := ⟨Try.zeroValue102, rfl⟩
instance ty103 : Ty Try.prog 103 (Go.TypeDesc.struct #[{ name := "l", type := 101, offset := 0, embedded := false, tag := "", pkgPath := "stenotype/recur", byteOffset := 0 }]) 1 true := ⟨Try.underlying103, Try.isAgg103, Try.sizeOf103⟩
instance zero103 : Zero Try.prog 103 (Go.Value.agg #[Go.Value.slice none 0 0]) #[Go.Value.slice none 0 0] := ⟨Try.zeroValue103, rfl⟩
instance ty104 : Ty Try.prog 104 (Go.TypeDesc.map 109 4) 1 false := ⟨Try.underlying104, Try.isAgg104, Try.sizeOf104⟩
instance zero104 : Zero Try.prog 104 (Go.Value.map none) #[Go.Value.map none] := ⟨Try.zeroValue104, rfl⟩
instance ty105 : Ty Try.prog 105 (Go.TypeDesc.func #[120] #[] false) 1 false := ⟨Try.underlying105, Try.isAgg105, Try.sizeOf105⟩
instance zero105 : Zero Try.prog 105 (Go.Value.nilFunc) #[Go.Value.nilFunc] := ⟨Try.zeroValue105, rfl⟩
instance ty106 : Ty Try.prog 106 (Go.TypeDesc.func #[120] #[] false) 1 false := ⟨Try.underlying106, Try.isAgg106, Try.sizeOf106⟩
instance zero106 : Zero Try.prog 106 (Go.Value.nilFunc) #[Go.Value.nilFunc] := ⟨Try.zeroValue106, rfl⟩
instance ty107 : Ty Try.prog 107 (Go.TypeDesc.func #[] #[106] false) 1 false := ⟨Try.underlying107, Try.isAgg107, Try.sizeOf107⟩
instance zero107 : Zero Try.prog 107 (Go.Value.nilFunc) #[Go.Value.nilFunc] := ⟨Try.zeroValue107, rfl⟩
instance ty108 : Ty Try.prog 108 (Go.TypeDesc.func #[100] #[22] false) 1 false := ⟨Try.underlying108, Try.isAgg108, Try.sizeOf108⟩
instance zero108 : Zero Try.prog 108 (Go.Value.nilFunc) #[Go.Value.nilFunc] := ⟨Try.zeroValue108, rfl⟩
instance ty109 : Ty Try.prog 109 (Go.TypeDesc.array 2 3) 2 true := ⟨Try.underlying109, Try.isAgg109, Try.sizeOf109⟩
instance zero109 : Zero Try.prog 109 (Go.Value.agg #[Go.Value.int Go.IntKind.i64 0, Go.Value.int Go.IntKind.i64 0]) #[Go.Value.int Go.IntKind.i64 0, Go.Value.int Go.IntKind.i64 0] := ⟨Try.zeroValue109, rfl⟩
instance ty110 : Ty Try.prog 110 (Go.TypeDesc.func #[26, 3] #[22] false) 1 false := ⟨Try.underlying110, Try.isAgg110, Try.sizeOf110⟩
instance zero110 : Zero Try.prog 110 (Go.Value.nilFunc) #[Go.Value.nilFunc] := ⟨Try.zeroValue110, rfl⟩
instance ty111 : Ty Try.prog 111 (Go.TypeDesc.slice 70) 1 false := ⟨Try.underlying111, Try.isAgg111, Try.sizeOf111⟩
instance zero111 : Zero Try.prog 111 (Go.Value.slice none 0 0) #[Go.Value.slice none 0 0] := ⟨Try.zeroValue111, rfl⟩
instance ty112 : Ty Try.prog 112 (Go.TypeDesc.func #[3] #[] false) 1 false := ⟨Try.underlying112, Try.isAgg112, Try.sizeOf112⟩
instance zero112 : Zero Try.prog 112 (Go.Value.nilFunc) #[Go.Value.nilFunc] := ⟨Try.zeroValue112, rfl⟩
instance ty113 : Ty Try.prog 113 (Go.TypeDesc.func #[5] #[3] false) 1 false := ⟨Try.underlying113, Try.isAgg113, Try.sizeOf113⟩
instance zero113 : Zero Try.prog 113 (Go.Value.nilFunc) #[Go.Value.nilFunc] := ⟨Try.zeroValue113, rfl⟩
instance ty114 : Ty Try.prog 114 (Go.TypeDesc.func #[3, 4] #[47] false) 1 false := ⟨Try.underlying114, Try.isAgg114, Try.sizeOf114⟩
instance zero114 : Zero Try.prog 114 (Go.Value.nilFunc) #[Go.Value.nilFunc] := ⟨Try.zeroValue114, rfl⟩
instance ty115 : Ty Try.prog 115 (Go.TypeDesc.func #[3, 2] #[86] false) 1 false := ⟨Try.underlying115, Try.isAgg115, Try.sizeOf115⟩
instance zero115 : Zero Try.prog 115 (Go.Value.nilFunc) #[Go.Value.nilFunc] := ⟨Try.zeroValue115, rfl⟩
instance ty116 : Ty Try.prog 116 (Go.TypeDesc.func #[2, 2] #[2] false) 1 false := ⟨Try.underlying116, Try.isAgg116, Try.sizeOf116⟩
instance zero116 : Zero Try.prog 116 (Go.Value.nilFunc) #[Go.Value.nilFunc] := ⟨Try.zeroValue116, rfl⟩
instance ty117 : Ty Try.prog 117 (Go.TypeDesc.func #[62] #[2] false) 1 false := ⟨Try.underlying117, Try.isAgg117, Try.sizeOf117⟩
instance zero117 : Zero Try.prog 117 (Go.Value.nilFunc) #[Go.Value.nilFunc] := ⟨Try.zeroValue117, rfl⟩
instance ty118 : Ty Try.prog 118 (Go.TypeDesc.map 3 4) 1 false := ⟨Try.underlying118, Try.isAgg118, Try.sizeOf118⟩
instance zero118 : Zero Try.prog 118 (Go.Value.map none) #[Go.Value.map none] := ⟨Try.zeroValue118, rfl⟩
instance ty119 : Ty Try.prog 119 (Go.TypeDesc.func #[3, 3] #[22] false) 1 false := ⟨Try.underlying119, Try.isAgg119, Try.sizeOf119⟩
instance zero119 : Zero Try.prog 119 (Go.Value.nilFunc) #[Go.Value.nilFunc] := ⟨Try.zeroValue119, rfl⟩
instance ty120 : Ty Try.prog 120 (Go.TypeDesc.func #[100] #[4] false) 1 false := ⟨Try.underlying120, Try.isAgg120, Try.sizeOf120⟩
instance zero120 : Zero Try.prog 120 (Go.Value.nilFunc) #[Go.Value.nilFunc] := ⟨Try.zeroValue120, rfl⟩
instance ty121 : Ty Try.prog 121 (Go.TypeDesc.func #[134] #[] false) 1 false := ⟨Try.underlying121, Try.isAgg121, Try.sizeOf121⟩
instance zero121 : Zero Try.prog 121 (Go.Value.nilFunc) #[Go.Value.nilFunc] := ⟨Try.zeroValue121, rfl⟩
instance ty122 : Ty Try.prog 122 (Go.TypeDesc.func #[134] #[] false) 1 false := ⟨Try.underlying122, Try.isAgg122, Try.sizeOf122⟩
instance zero122 : Zero Try.prog 122 (Go.Value.nilFunc) #[Go.Value.nilFunc] := ⟨Try.zeroValue122, rfl⟩
instance ty123 : Ty Try.prog 123 (Go.TypeDesc.func #[26] #[122] false) 1 false := ⟨Try.underlying123, Try.isAgg123, Try.sizeOf123⟩
instance zero123 : Zero Try.prog 123 (Go.Value.nilFunc) #[Go.Value.nilFunc] := ⟨Try.zeroValue123, rfl⟩
instance ty124 : Ty Try.prog 124 (Go.TypeDesc.func #[9] #[4] false) 1 false := ⟨Try.underlying124, Try.isAgg124, Try.sizeOf124⟩
instance zero124 : Zero Try.prog 124 (Go.Value.nilFunc) #[Go.Value.nilFunc] := ⟨Try.zeroValue124, rfl⟩
instance ty125 : Ty Try.prog 125 (Go.TypeDesc.map 9 4) 1 false := ⟨Try.underlying125, Try.isAgg125, Try.sizeOf125⟩
instance zero125 : Zero Try.prog 125 (Go.Value.map none) #[Go.Value.map none] := ⟨Try.zeroValue125, rfl⟩
instance ty126 : Ty Try.prog 126 (Go.TypeDesc.func #[22, 96] #[4] false) 1 false := ⟨Try.underlying126, Try.isAgg126, Try.sizeOf126⟩
instance zero126 : Zero Try.prog 126 (Go.Value.nilFunc) #[Go.Value.nilFunc] := ⟨Try.zeroValue126, rfl⟩
instance ty127 : Ty Try.prog 127 (Go.TypeDesc.func #[24, 128] #[4] false) 1 false := ⟨Try.underlying127, Try.isAgg127, Try.sizeOf127⟩
instance zero127 : Zero Try.prog 127 (Go.Value.nilFunc) #[Go.Value.nilFunc] := ⟨Try.zeroValue127, rfl⟩
instance ty128 : Ty Try.prog 128 (Go.TypeDesc.func #[62] #[4] false) 1 false := ⟨Try.underlying128, Try.isAgg128, Try.sizeOf128⟩
instance zero128 : Zero Try.prog 128 (Go.Value.nilFunc) #[Go.Value.nilFunc] := ⟨Try.zeroValue128, rfl⟩
instance ty129 : Ty Try.prog 129 (Go.TypeDesc.func #[23] #[4] false) 1 false := ⟨Try.underlying129, Try.isAgg129, Try.sizeOf129⟩
instance zero129 : Zero Try.prog 129 (Go.Value.nilFunc) #[Go.Value.nilFunc] := ⟨Try.zeroValue129, rfl⟩
instance ty130 : Ty Try.prog 130 (Go.TypeDesc.func #[24] #[122] false) 1 false := ⟨Try.underlying130, Try.isAgg130, Try.sizeOf130⟩
instance zero130 : Zero Try.prog 130 (Go.Value.nilFunc) #[Go.Value.nilFunc] := ⟨Try.zeroValue130, rfl⟩
instance ty131 : Ty Try.prog 131 (Go.TypeDesc.func #[9] #[28] false) 1 false := ⟨Try.underlying131, Try.isAgg131, Try.sizeOf131⟩
instance zero131 : Zero Try.prog 131 (Go.Value.nilFunc) #[Go.Value.nilFunc] := ⟨Try.zeroValue131, rfl⟩
instance ty132 : Ty Try.prog 132 (Go.TypeDesc.func #[22, 96] #[3] false) 1 false := ⟨Try.underlying132, Try.isAgg132, Try.sizeOf132⟩
instance zero132 : Zero Try.prog 132 (Go.Value.nilFunc) #[Go.Value.nilFunc] := ⟨Try.zeroValue132, rfl⟩
instance ty133 : Ty Try.prog 133 (Go.TypeDesc.func #[24, 128] #[3] false) 1 false := ⟨Try.underlying133, Try.isAgg133, Try.sizeOf133⟩
instance zero133 : Zero Try.prog 133 (Go.Value.nilFunc) #[Go.Value.nilFunc] := ⟨Try.zeroValue133, rfl⟩
instance ty134 : Ty Try.prog 134 (Go.TypeDesc.func #[3, 62] #[4] false) 1 false := ⟨Try.underlying134, Try.isAgg134, Try.sizeOf134⟩
instance zero134 : Zero Try.prog 134 (Go.Value.nilFunc) #[Go.Value.nilFunc] := ⟨Try.zeroValue134, rfl⟩
instance ty135 : Ty Try.prog 135 (Go.TypeDesc.func #[21] #[4] false) 1 false := ⟨Try.underlying135, Try.isAgg135, Try.sizeOf135⟩
instance zero135 : Zero Try.prog 135 (Go.Value.nilFunc) #[Go.Value.nilFunc] := ⟨Try.zeroValue135, rfl⟩
instance ty136 : Ty Try.prog 136 (Go.TypeDesc.array 4 9) 4 true := ⟨Try.underlying136, Try.isAgg136, Try.sizeOf136⟩
instance zero136 : Zero Try.prog 136 (Go.Value.agg #[Go.Value.string { data := #[] }, Go.Value.string { data := #[] }, Go.Value.string { data := #[] }, Go.Value.string { data := #[] }]) #[Go.Value.string { data := #[] }, Go.Value.string { data := #[] }, Go.Value.string { data := #[] }, Go.Value.string { data := #[] }] := ⟨Try.zeroValue136, rfl⟩
instance ty137 : Ty Try.prog 137 (Go.TypeDesc.func #[23, 9] #[4] false) 1 false := ⟨Try.underlying137, Try.isAgg137, Try.sizeOf137⟩
instance zero137 : Zero Try.prog 137 (Go.Value.nilFunc) #[Go.Value.nilFunc] := ⟨Try.zeroValue137, rfl⟩
instance ty138 : Ty Try.prog 138 (Go.TypeDesc.func #[5] #[4] false) 1 false := ⟨Try.underlying138, Try.isAgg138, Try.sizeOf138⟩
instance zero138 : Zero Try.prog 138 (Go.Value.nilFunc) #[Go.Value.nilFunc] := ⟨Try.zeroValue138, rfl⟩
instance ty139 : Ty Try.prog 139 (Go.TypeDesc.func #[23, 9] #[3] false) 1 false := ⟨Try.underlying139, Try.isAgg139, Try.sizeOf139⟩
instance zero139 : Zero Try.prog 139 (Go.Value.nilFunc) #[Go.Value.nilFunc] := ⟨Try.zeroValue139, rfl⟩
instance ty140 : Ty Try.prog 140 (Go.TypeDesc.func #[] #[9] false) 1 false := ⟨Try.underlying140, Try.isAgg140, Try.sizeOf140⟩
instance zero140 : Zero Try.prog 140 (Go.Value.nilFunc) #[Go.Value.nilFunc] := ⟨Try.zeroValue140, rfl⟩
instance ty141 : Ty Try.prog 141 (Go.TypeDesc.struct #[{ name := "_interface", type := 17, offset := 0, embedded := false, tag := "", pkgPath := "runtime", byteOffset := 0 }, { name := "concrete", type := 17, offset := 1, embedded := false, tag := "", pkgPath := "runtime", byteOffset := 8 }, { name := "asserted", type := 17, offset := 2, embedded := false, tag := "", pkgPath := "runtime", byteOffset := 16 }, { name := "missingMethod", type := 9, offset := 3, embedded := false, tag := "", pkgPath := "runtime", byteOffset := 24 }]) 4 true := ⟨Try.underlying141, Try.isAgg141, Try.sizeOf141⟩
instance zero141 : Zero Try.prog 141 (Go.Value.agg #[Go.Value.pointer none, Go.Value.pointer none, Go.Value.pointer none, Go.Value.string { data := #[] }]) #[Go.Value.pointer none, Go.Value.pointer none, Go.Value.pointer none, Go.Value.string { data := #[] }] := ⟨Try.zeroValue141, rfl⟩
instance ty142 : Ty Try.prog 142 (Go.TypeDesc.struct #[{ name := "_interface", type := 17, offset := 0, embedded := false, tag := "", pkgPath := "runtime", byteOffset := 0 }, { name := "concrete", type := 17, offset := 1, embedded := false, tag := "", pkgPath := "runtime", byteOffset := 8 }, { name := "asserted", type := 17, offset := 2, embedded := false, tag := "", pkgPath := "runtime", byteOffset := 16 }, { name := "missingMethod", type := 9, offset := 3, embedded := false, tag := "", pkgPath := "runtime", byteOffset := 24 }]) 4 true := ⟨Try.underlying142, Try.isAgg142, Try.sizeOf142⟩
instance zero142 : Zero Try.prog 142 (Go.Value.agg #[Go.Value.pointer none, Go.Value.pointer none, Go.Value.pointer none, Go.Value.string { data := #[] }]) #[Go.Value.pointer none, Go.Value.pointer none, Go.Value.pointer none, Go.Value.string { data := #[] }] := ⟨Try.zeroValue142, rfl⟩
instance ty143 : Ty Try.prog 143 (Go.TypeDesc.array 0 16) 0 true := ⟨Try.underlying143, Try.isAgg143, Try.sizeOf143⟩
instance zero143 : Zero Try.prog 143 (Go.Value.agg #[]) #[] := ⟨Try.zeroValue143, rfl⟩
instance ty144 : Ty Try.prog 144 (Go.TypeDesc.struct #[{ name := "_", type := 143, offset := 0, embedded := false, tag := "", pkgPath := "runtime", byteOffset := 0 }]) 0 true := ⟨Try.underlying144, Try.isAgg144, Try.sizeOf144⟩
instance zero144 : Zero Try.prog 144 (Go.Value.agg #[]) #[] := ⟨Try.zeroValue144, rfl⟩
instance ty145 : Ty Try.prog 145 (Go.TypeDesc.struct #[{ name := "_", type := 143, offset := 0, embedded := false, tag := "", pkgPath := "runtime", byteOffset := 0 }]) 0 true := ⟨Try.underlying145, Try.isAgg145, Try.sizeOf145⟩
instance zero145 : Zero Try.prog 145 (Go.Value.agg #[]) #[] := ⟨Try.zeroValue145, rfl⟩
instance ty146 : Ty Try.prog 146 (Go.TypeDesc.func #[] #[3] false) 1 false := ⟨Try.underlying146, Try.isAgg146, Try.sizeOf146⟩
instance zero146 : Zero Try.prog 146 (Go.Value.nilFunc) #[Go.Value.nilFunc] := ⟨Try.zeroValue146, rfl⟩
instance ty147 : Ty Try.prog 147 (Go.TypeDesc.int Go.IntKind.u32) 1 false := ⟨Try.underlying147, Try.isAgg147, Try.sizeOf147⟩
instance zero147 : Zero Try.prog 147 (Go.Value.int Go.IntKind.u32 0) #[Go.Value.int Go.IntKind.u32 0] := ⟨Try.zeroValue147, rfl⟩
instance ty148 : Ty Try.prog 148 (Go.TypeDesc.int Go.IntKind.u8) 1 false := ⟨Try.underlying148, Try.isAgg148, Try.sizeOf148⟩
instance zero148 : Zero Try.prog 148 (Go.Value.int Go.IntKind.u8 0) #[Go.Value.int Go.IntKind.u8 0] := ⟨Try.zeroValue148, rfl⟩
instance ty149 : Ty Try.prog 149 (Go.TypeDesc.int Go.IntKind.u8) 1 false := ⟨Try.underlying149, Try.isAgg149, Try.sizeOf149⟩
instance zero149 : Zero Try.prog 149 (Go.Value.int Go.IntKind.u8 0) #[Go.Value.int Go.IntKind.u8 0] := ⟨Try.zeroValue149, rfl⟩
instance ty150 : Ty Try.prog 150 (Go.TypeDesc.func #[156, 156] #[4] false) 1 false := ⟨Try.underlying150, Try.isAgg150, Try.sizeOf150⟩
instance zero150 : Zero Try.prog 150 (Go.Value.nilFunc) #[Go.Value.nilFunc] := ⟨Try.zeroValue150, rfl⟩
instance ty151 : Ty Try.prog 151 (Go.TypeDesc.pointer 5) 1 false := ⟨Try.underlying151, Try.isAgg151, Try.sizeOf151⟩
instance zero151 : Zero Try.prog 151 (Go.Value.pointer none) #[Go.Value.pointer none] := ⟨Try.zeroValue151, rfl⟩
instance ty152 : Ty Try.prog 152 (Go.TypeDesc.int Go.IntKind.i32) 1 false := ⟨Try.underlying152, Try.isAgg152, Try.sizeOf152⟩
instance zero152 : Zero Try.prog 152 (Go.Value.int Go.IntKind.i32 0) #[Go.Value.int Go.IntKind.i32 0] := ⟨Try.zeroValue152, rfl⟩
instance ty153 : Ty Try.prog 153 (Go.TypeDesc.int Go.IntKind.i32) 1 false := ⟨Try.underlying153, Try.isAgg153, Try.sizeOf153⟩
instance zero153 : Zero Try.prog 153 (Go.Value.int Go.IntKind.i32 0) #[Go.Value.int Go.IntKind.i32 0] := ⟨Try.zeroValue153, rfl⟩
instance ty154 : Ty Try.prog 154 (Go.TypeDesc.struct #[{ name := "Size_", type := 12, offset := 0, embedded := false, tag := "", pkgPath := "", byteOffset := 0 }, { name := "PtrBytes", type := 12, offset := 1, embedded := false, tag := "", pkgPath := "", byteOffset := 8 }, { name := "Hash", type := 147, offset := 2, embedded := false, tag := "", pkgPath := "", byteOffset := 16 }, { name := "TFlag", type := 148, offset := 3, embedded := false, tag := "", pkgPath := "", byteOffset := 20 }, { name := "Align_", type := 5, offset := 4, embedded := false, tag := "", pkgPath := "", byteOffset := 21 }, { name := "FieldAlign_", type := 5, offset := 5, embedded := false, tag := "", pkgPath := "", byteOffset := 22 }, { name := "Kind_", type := 149, offset := 6, embedded := false, tag := "", pkgPath := "", byteOffset := 23 }, { name := "Equal", type := 150, offset := 7, embedded := false, tag := "", pkgPath := "", byteOffset := 24 }, { name := "GCData", type := 151, offset := 8, embedded := false, tag := "", pkgPath := "", byteOffset := 32 }, { name := "Str", type := 152, offset := 9, embedded := false, tag := "", pkgPath := "", byteOffset := 40 }, { name := "PtrToThis", type := 153, offset := 10, embedded := false, tag := "", pkgPath := "", byteOffset := 44 }]) 11 true := ⟨Try.underlying154, Try.isAgg154, Try.sizeOf154⟩
instance zero154 : Zero Try.prog 154 (Go.Value.agg #[Go.Value.int Go.IntKind.u64 0, Go.Value.int Go.IntKind.u64 0, Go.Value.int Go.IntKind.u32 0, Go.Value.int Go.IntKind.u8 0, Go.Value.int Go.IntKind.u8 0, Go.Value.int Go.IntKind.u8 0, Go.Value.int Go.IntKind.u8 0, Go.Value.nilFunc, Go.Value.pointer none, Go.Value.int Go.IntKind.i32 0, Go.Value.int Go.IntKind.i32 0]) #[Go.Value.int Go.IntKind.u64 0, Go.Value.int Go.IntKind.u64 0, Go.Value.int Go.IntKind.u32 0, Go.Value.int Go.IntKind.u8 0, Go.Value.int Go.IntKind.u8 0, Go.Value.int Go.IntKind.u8 0, Go.Value.int Go.IntKind.u8 0, Go.Value.nilFunc, Go.Value.pointer none, Go.Value.int Go.IntKind.i32 0, Go.Value.int Go.IntKind.i32 0] := ⟨Try.zeroValue154, rfl⟩
instance ty155 : Ty Try.prog 155 (Go.TypeDesc.struct #[{ name := "Size_", type := 12, offset := 0, embedded := false, tag := "", pkgPath := "", byteOffset := 0 }, { name := "PtrBytes", type := 12, offset := 1, embedded := false, tag := "", pkgPath := "", byteOffset := 8 }, { name := "Hash", type := 147, offset := 2, embedded := false, tag := "", pkgPath := "", byteOffset := 16 }, { name := "TFlag", type := 148, offset := 3, embedded := false, tag := "", pkgPath := "", byteOffset := 20 }, { name := "Align_", type := 5, offset := 4, embedded := false, tag := "", pkgPath := "", byteOffset := 21 }, { name := "FieldAlign_", type := 5, offset := 5, embedded := false, tag := "", pkgPath := "", byteOffset := 22 }, { name := "Kind_", type := 149, offset := 6, embedded := false, tag := "", pkgPath := "", byteOffset := 23 }, { name := "Equal", type := 150, offset := 7, embedded := false, tag := "", pkgPath := "", byteOffset := 24 }, { name := "GCData", type := 151, offset := 8, embedded := false, tag := "", pkgPath := "", byteOffset := 32 }, { name := "Str", type := 152, offset := 9, embedded := false, tag := "", pkgPath := "", byteOffset := 40 }, { name := "PtrToThis", type := 153, offset := 10, embedded := false, tag := "", pkgPath := "", byteOffset := 44 }]) 11 true := ⟨Try.underlying155, Try.isAgg155, Try.sizeOf155⟩
instance zero155 : Zero Try.prog 155 (Go.Value.agg #[Go.Value.int Go.IntKind.u64 0, Go.Value.int Go.IntKind.u64 0, Go.Value.int Go.IntKind.u32 0, Go.Value.int Go.IntKind.u8 0, Go.Value.int Go.IntKind.u8 0, Go.Value.int Go.IntKind.u8 0, Go.Value.int Go.IntKind.u8 0, Go.Value.nilFunc, Go.Value.pointer none, Go.Value.int Go.IntKind.i32 0, Go.Value.int Go.IntKind.i32 0]) #[Go.Value.int Go.IntKind.u64 0, Go.Value.int Go.IntKind.u64 0, Go.Value.int Go.IntKind.u32 0, Go.Value.int Go.IntKind.u8 0, Go.Value.int Go.IntKind.u8 0, Go.Value.int Go.IntKind.u8 0, Go.Value.int Go.IntKind.u8 0, Go.Value.nilFunc, Go.Value.pointer none, Go.Value.int Go.IntKind.i32 0, Go.Value.int Go.IntKind.i32 0] := ⟨Try.zeroValue155, rfl⟩
instance ty156 : Ty Try.prog 156 (Go.TypeDesc.unsafePointer) 1 false := ⟨Try.underlying156, Try.isAgg156, Try.sizeOf156⟩
instance zero156 : Zero Try.prog 156 (Go.Value.pointer none) #[Go.Value.pointer none] := ⟨Try.zeroValue156, rfl⟩
instance ent2 : Ent Try.prog 2 := ⟨Try.call2⟩
instance ent3 : Ent Try.prog 3 := ⟨Try.call3⟩
instance ent4 : Ent Try.prog 4 := ⟨Try.call4⟩
instance ent5 : Ent Try.prog 5 := ⟨Try.call5⟩
instance ent6 : Ent Try.prog 6 := ⟨Try.call6⟩
instance ent7 : Ent Try.prog 7 := ⟨Try.call7⟩
instance ent8 : Ent Try.prog 8 := ⟨Try.call8⟩
instance ent9 : Ent Try.prog 9 := ⟨Try.call9⟩
instance ent10 : Ent Try.prog 10 := ⟨Try.call10⟩
instance ent11 : Ent Try.prog 11 := ⟨Try.call11⟩
instance ent12 : Ent Try.prog 12 := ⟨Try.call12⟩
instance ent13 : Ent Try.prog 13 := ⟨Try.call13⟩
instance ent14 : Ent Try.prog 14 := ⟨Try.call14⟩
instance ent15 : Ent Try.prog 15 := ⟨Try.call15⟩
instance ent16 : Ent Try.prog 16 := ⟨Try.call16⟩
instance ent17 : Ent Try.prog 17 := ⟨Try.call17⟩
instance ent18 : Ent Try.prog 18 := ⟨Try.call18⟩
instance ent19 : Ent Try.prog 19 := ⟨Try.call19⟩
instance ent20 : Ent Try.prog 20 := ⟨Try.call20⟩
instance ent21 : Ent Try.prog 21 := ⟨Try.call21⟩
instance ent22 : Ent Try.prog 22 := ⟨Try.call22⟩
instance ent23 : Ent Try.prog 23 := ⟨Try.call23⟩
instance ent24 : Ent Try.prog 24 := ⟨Try.call24⟩
instance ent25 : Ent Try.prog 25 := ⟨Try.call25⟩
instance ent26 : Ent Try.prog 26 := ⟨Try.call26⟩
instance ent27 : Ent Try.prog 27 := ⟨Try.call27⟩
instance ent28 : Ent Try.prog 28 := ⟨Try.call28⟩
instance ent29 : Ent Try.prog 29 := ⟨Try.call29⟩
instance ent30 : Ent Try.prog 30 := ⟨Try.call30⟩
instance ent31 : Ent Try.prog 31 := ⟨Try.call31⟩
instance ent32 : Ent Try.prog 32 := ⟨Try.call32⟩
instance ent33 : Ent Try.prog 33 := ⟨Try.call33⟩
instance ent34 : Ent Try.prog 34 := ⟨Try.call34⟩
instance ent35 : Ent Try.prog 35 := ⟨Try.call35⟩
instance ent36 : Ent Try.prog 36 := ⟨Try.call36⟩
instance ent37 : Ent Try.prog 37 := ⟨Try.call37⟩
instance ent38 : Ent Try.prog 38 := ⟨Try.call38⟩
instance ent39 : Ent Try.prog 39 := ⟨Try.call39⟩
instance ent40 : Ent Try.prog 40 := ⟨Try.call40⟩
instance ent41 : Ent Try.prog 41 := ⟨Try.call41⟩
instance ent42 : Ent Try.prog 42 := ⟨Try.call42⟩
instance ent43 : Ent Try.prog 43 := ⟨Try.call43⟩
instance ent44 : Ent Try.prog 44 := ⟨Try.call44⟩
instance ent45 : Ent Try.prog 45 := ⟨Try.call45⟩
instance ent46 : Ent Try.prog 46 := ⟨Try.call46⟩
instance ent47 : Ent Try.prog 47 := ⟨Try.call47⟩
instance ent48 : Ent Try.prog 48 := ⟨Try.call48⟩
instance ent49 : Ent Try.prog 49 := ⟨Try.call49⟩
instance ent50 : Ent Try.prog 50 := ⟨Try.call50⟩
instance ent51 : Ent Try.prog 51 := ⟨Try.call51⟩
instance ent52 : Ent Try.prog 52 := ⟨Try.call52⟩
instance ent53 : Ent Try.prog 53 := ⟨Try.call53⟩
instance ent54 : Ent Try.prog 54 := ⟨Try.call54⟩
instance ent55 : Ent Try.prog 55 := ⟨Try.call55⟩
instance ent56 : Ent Try.prog 56 := ⟨Try.call56⟩
instance ent57 : Ent Try.prog 57 := ⟨Try.call57⟩
instance ent58 : Ent Try.prog 58 := ⟨Try.call58⟩
instance ent59 : Ent Try.prog 59 := ⟨Try.call59⟩
instance ent60 : Ent Try.prog 60 := ⟨Try.call60⟩
instance ent61 : Ent Try.prog 61 := ⟨Try.call61⟩
instance ent62 : Ent Try.prog 62 := ⟨Try.call62⟩
instance ent63 : Ent Try.prog 63 := ⟨Try.call63⟩
instance ent64 : Ent Try.prog 64 := ⟨Try.call64⟩
instance ent65 : Ent Try.prog 65 := ⟨Try.call65⟩
instance ent66 : Ent Try.prog 66 := ⟨Try.call66⟩
instance ent67 : Ent Try.prog 67 := ⟨Try.call67⟩
instance ent68 : Ent Try.prog 68 := ⟨Try.call68⟩
instance ent69 : Ent Try.prog 69 := ⟨Try.call69⟩
instance ent70 : Ent Try.prog 70 := ⟨Try.call70⟩
instance ent71 : Ent Try.prog 71 := ⟨Try.call71⟩
instance ent72 : Ent Try.prog 72 := ⟨Try.call72⟩
instance ent73 : Ent Try.prog 73 := ⟨Try.call73⟩
instance ent74 : Ent Try.prog 74 := ⟨Try.call74⟩
instance ent75 : Ent Try.prog 75 := ⟨Try.call75⟩
instance ent76 : Ent Try.prog 76 := ⟨Try.call76⟩
instance ent77 : Ent Try.prog 77 := ⟨Try.call77⟩
instance ent78 : Ent Try.prog 78 := ⟨Try.call78⟩
instance ent79 : Ent Try.prog 79 := ⟨Try.call79⟩
instance ent80 : Ent Try.prog 80 := ⟨Try.call80⟩
instance ent81 : Ent Try.prog 81 := ⟨Try.call81⟩
instance ent82 : Ent Try.prog 82 := ⟨Try.call82⟩
instance ent83 : Ent Try.prog 83 := ⟨Try.call83⟩
instance ent84 : Ent Try.prog 84 := ⟨Try.call84⟩
instance ent85 : Ent Try.prog 85 := ⟨Try.call85⟩
instance ent86 : Ent Try.prog 86 := ⟨Try.call86⟩
instance ent87 : Ent Try.prog 87 := ⟨Try.call87⟩
instance ent88 : Ent Try.prog 88 := ⟨Try.call88⟩
instance ent89 : Ent Try.prog 89 := ⟨Try.call89⟩
instance ent90 : Ent Try.prog 90 := ⟨Try.call90⟩
instance ent91 : Ent Try.prog 91 := ⟨Try.call91⟩
instance ent92 : Ent Try.prog 92 := ⟨Try.call92⟩
instance ent93 : Ent Try.prog 93 := ⟨Try.call93⟩
instance ent94 : Ent Try.prog 94 := ⟨Try.call94⟩
instance ent95 : Ent Try.prog 95 := ⟨Try.call95⟩
instance ent96 : Ent Try.prog 96 := ⟨Try.call96⟩
instance ent97 : Ent Try.prog 97 := ⟨Try.call97⟩
instance ent98 : Ent Try.prog 98 := ⟨Try.call98⟩
instance ent99 : Ent Try.prog 99 := ⟨Try.call99⟩
instance ent100 : Ent Try.prog 100 := ⟨Try.call100⟩
instance ent101 : Ent Try.prog 101 := ⟨Try.call101⟩
instance ent102 : Ent Try.prog 102 := ⟨Try.call102⟩
instance ent103 : Ent Try.prog 103 := ⟨Try.call103⟩
instance ent104 : Ent Try.prog 104 := ⟨Try.call104⟩
instance ent105 : Ent Try.prog 105 := ⟨Try.call105⟩
instance ent106 : Ent Try.prog 106 := ⟨Try.call106⟩
instance ent107 : Ent Try.prog 107 := ⟨Try.call107⟩
instance ent108 : Ent Try.prog 108 := ⟨Try.call108⟩
instance ent109 : Ent Try.prog 109 := ⟨Try.call109⟩
instance ent110 : Ent Try.prog 110 := ⟨Try.call110⟩
instance ent111 : Ent Try.prog 111 := ⟨Try.call111⟩
instance ent112 : Ent Try.prog 112 := ⟨Try.call112⟩
instance ent113 : Ent Try.prog 113 := ⟨Try.call113⟩
instance ent114 : Ent Try.prog 114 := ⟨Try.call114⟩
instance ent115 : Ent Try.prog 115 := ⟨Try.call115⟩
instance ent116 : Ent Try.prog 116 := ⟨Try.call116⟩
instance ent117 : Ent Try.prog 117 := ⟨Try.call117⟩
instance ent118 : Ent Try.prog 118 := ⟨Try.call118⟩
instance ent119 : Ent Try.prog 119 := ⟨Try.call119⟩
instance ent120 : Ent Try.prog 120 := ⟨Try.call120⟩
instance ent121 : Ent Try.prog 121 := ⟨Try.call121⟩
instance ent122 : Ent Try.prog 122 := ⟨Try.call122⟩
instance ent123 : Ent Try.prog 123 := ⟨Try.call123⟩
instance ent124 : Ent Try.prog 124 := ⟨Try.call124⟩
instance ent125 : Ent Try.prog 125 := ⟨Try.call125⟩
instance ent126 : Ent Try.prog 126 := ⟨Try.call126⟩
instance ent127 : Ent Try.prog 127 := ⟨Try.call127⟩
instance ent128 : Ent Try.prog 128 := ⟨Try.call128⟩
instance ent129 : Ent Try.prog 129 := ⟨Try.call129⟩
instance ent130 : Ent Try.prog 130 := ⟨Try.call130⟩
instance ent131 : Ent Try.prog 131 := ⟨Try.call131⟩
instance ent132 : Ent Try.prog 132 := ⟨Try.call132⟩
instance ent133 : Ent Try.prog 133 := ⟨Try.call133⟩
instance ent134 : Ent Try.prog 134 := ⟨Try.call134⟩
instance ent135 : Ent Try.prog 135 := ⟨Try.call135⟩
instance ent136 : Ent Try.prog 136 := ⟨Try.call136⟩
instance ent137 : Ent Try.prog 137 := ⟨Try.call137⟩
instance ent138 : Ent Try.prog 138 := ⟨Try.call138⟩
instance ent139 : Ent Try.prog 139 := ⟨Try.call139⟩
instance ent140 : Ent Try.prog 140 := ⟨Try.call140⟩
instance ent141 : Ent Try.prog 141 := ⟨Try.call141⟩
instance ent142 : Ent Try.prog 142 := ⟨Try.call142⟩
instance ent143 : Ent Try.prog 143 := ⟨Try.call143⟩
instance ent144 : Ent Try.prog 144 := ⟨Try.call144⟩
instance ent145 : Ent Try.prog 145 := ⟨Try.call145⟩
instance ent146 : Ent Try.prog 146 := ⟨Try.call146⟩
instance places7 : Places Try.prog 7 [(0, 1), (1, 1), (2, 1), (3, 1)] := ⟨⟨_, Try.underlying7, fun w => by simp [go_sem]⟩⟩
instance fld7_0 : Fld Try.prog 7 0 0 2 := ⟨⟨_, _, Try.underlying7, rfl, rfl, rfl⟩⟩
instance fld7_1 : Fld Try.prog 7 1 1 3 := ⟨⟨_, _, Try.underlying7, rfl, rfl, rfl⟩⟩
instance fld7_2 : Fld Try.prog 7 2 2 4 := ⟨⟨_, _, Try.underlying7, rfl, rfl, rfl⟩⟩
instance fld7_3 : Fld Try.prog 7 3 3 6 := ⟨⟨_, _, Try.underlying7, rfl, rfl, rfl⟩⟩
instance places8 : Places Try.prog 8 [(0, 1), (1, 1), (2, 1), (3, 1)] := ⟨⟨_, Try.underlying8, fun w => by simp [go_sem]⟩⟩
instance fld8_0 : Fld Try.prog 8 0 0 2 := ⟨⟨_, _, Try.underlying8, rfl, rfl, rfl⟩⟩
instance fld8_1 : Fld Try.prog 8 1 1 3 := ⟨⟨_, _, Try.underlying8, rfl, rfl, rfl⟩⟩
instance fld8_2 : Fld Try.prog 8 2 2 4 := ⟨⟨_, _, Try.underlying8, rfl, rfl, rfl⟩⟩
instance fld8_3 : Fld Try.prog 8 3 3 6 := ⟨⟨_, _, Try.underlying8, rfl, rfl, rfl⟩⟩
instance places13 : Places Try.prog 13 [(0, 1), (1, 1)] := ⟨⟨_, Try.underlying13, fun w => by simp [go_sem]⟩⟩
instance fld13_0 : Fld Try.prog 13 0 0 9 := ⟨⟨_, _, Try.underlying13, rfl, rfl, rfl⟩⟩
instance fld13_1 : Fld Try.prog 13 1 1 12 := ⟨⟨_, _, Try.underlying13, rfl, rfl, rfl⟩⟩
instance places14 : Places Try.prog 14 [(0, 1), (1, 1)] := ⟨⟨_, Try.underlying14, fun w => by simp [go_sem]⟩⟩
instance fld14_0 : Fld Try.prog 14 0 0 9 := ⟨⟨_, _, Try.underlying14, rfl, rfl, rfl⟩⟩
instance fld14_1 : Fld Try.prog 14 1 1 12 := ⟨⟨_, _, Try.underlying14, rfl, rfl, rfl⟩⟩
instance places18 : Places Try.prog 18 [(0, 1)] := ⟨⟨_, Try.underlying18, fun w => by simp [go_sem]⟩⟩
instance fld18_0 : Fld Try.prog 18 0 0 17 := ⟨⟨_, _, Try.underlying18, rfl, rfl, rfl⟩⟩
instance places19 : Places Try.prog 19 [(0, 1)] := ⟨⟨_, Try.underlying19, fun w => by simp [go_sem]⟩⟩
instance fld19_0 : Fld Try.prog 19 0 0 17 := ⟨⟨_, _, Try.underlying19, rfl, rfl, rfl⟩⟩
instance places25 : Places Try.prog 25 [(0, 1), (1, 1), (2, 1), (3, 1), (4, 1), (5, 1)] := ⟨⟨_, Try.underlying25, fun w => by simp [go_sem]⟩⟩
instance fld25_0 : Fld Try.prog 25 0 0 3 := ⟨⟨_, _, Try.underlying25, rfl, rfl, rfl⟩⟩
instance fld25_1 : Fld Try.prog 25 1 1 23 := ⟨⟨_, _, Try.underlying25, rfl, rfl, rfl⟩⟩
instance fld25_2 : Fld Try.prog 25 2 2 9 := ⟨⟨_, _, Try.underlying25, rfl, rfl, rfl⟩⟩
instance fld25_3 : Fld Try.prog 25 3 3 23 := ⟨⟨_, _, Try.underlying25, rfl, rfl, rfl⟩⟩
instance fld25_4 : Fld Try.prog 25 4 4 3 := ⟨⟨_, _, Try.underlying25, rfl, rfl, rfl⟩⟩
instance fld25_5 : Fld Try.prog 25 5 5 24 := ⟨⟨_, _, Try.underlying25, rfl, rfl, rfl⟩⟩
instance places26 : Places Try.prog 26 [(0, 1), (1, 1), (2, 1), (3, 1), (4, 1), (5, 1)] := ⟨⟨_, Try.underlying26, fun w => by simp [go_sem]⟩⟩
instance fld26_0 : Fld Try.prog 26 0 0 3 := ⟨⟨_, _, Try.underlying26, rfl, rfl, rfl⟩⟩
instance fld26_1 : Fld Try.prog 26 1 1 23 := ⟨⟨_, _, Try.underlying26, rfl, rfl, rfl⟩⟩
instance fld26_2 : Fld Try.prog 26 2 2 9 := ⟨⟨_, _, Try.underlying26, rfl, rfl, rfl⟩⟩
instance fld26_3 : Fld Try.prog 26 3 3 23 := ⟨⟨_, _, Try.underlying26, rfl, rfl, rfl⟩⟩
instance fld26_4 : Fld Try.prog 26 4 4 3 := ⟨⟨_, _, Try.underlying26, rfl, rfl, rfl⟩⟩
instance fld26_5 : Fld Try.prog 26 5 5 24 := ⟨⟨_, _, Try.underlying26, rfl, rfl, rfl⟩⟩
instance places61 : Places Try.prog 61 [(0, 1), (1, 1)] := ⟨⟨_, Try.underlying61, fun w => by simp [go_sem]⟩⟩
instance fld61_0 : Fld Try.prog 61 0 0 3 := ⟨⟨_, _, Try.underlying61, rfl, rfl, rfl⟩⟩
instance fld61_1 : Fld Try.prog 61 1 1 22 := ⟨⟨_, _, Try.underlying61, rfl, rfl, rfl⟩⟩
instance places62 : Places Try.prog 62 [(0, 1), (1, 1)] := ⟨⟨_, Try.underlying62, fun w => by simp [go_sem]⟩⟩
instance fld62_0 : Fld Try.prog 62 0 0 3 := ⟨⟨_, _, Try.underlying62, rfl, rfl, rfl⟩⟩
instance fld62_1 : Fld Try.prog 62 1 1 22 := ⟨⟨_, _, Try.underlying62, rfl, rfl, rfl⟩⟩
instance places98 : Places Try.prog 98 [(0, 1), (1, 1)] := ⟨⟨_, Try.underlying98, fun w => by simp [go_sem]⟩⟩
instance fld98_0 : Fld Try.prog 98 0 0 3 := ⟨⟨_, _, Try.underlying98, rfl, rfl, rfl⟩⟩
instance fld98_1 : Fld Try.prog 98 1 1 3 := ⟨⟨_, _, Try.underlying98, rfl, rfl, rfl⟩⟩
instance places99 : Places Try.prog 99 [(0, 1), (1, 1)] := ⟨⟨_, Try.underlying99, fun w => by simp [go_sem]⟩⟩
instance fld99_0 : Fld Try.prog 99 0 0 3 := ⟨⟨_, _, Try.underlying99, rfl, rfl, rfl⟩⟩
instance fld99_1 : Fld Try.prog 99 1 1 3 := ⟨⟨_, _, Try.underlying99, rfl, rfl, rfl⟩⟩
instance places102 : Places Try.prog 102 [(0, 1)] := ⟨⟨_, Try.underlying102, fun w => by simp [go_sem]⟩⟩
instance fld102_0 : Fld Try.prog 102 0 0 101 := ⟨⟨_, _, Try.underlying102, rfl, rfl, rfl⟩⟩
instance places103 : Places Try.prog 103 [(0, 1)] := ⟨⟨_, Try.underlying103, fun w => by simp [go_sem]⟩⟩
instance fld103_0 : Fld Try.prog 103 0 0 101 := ⟨⟨_, _, Try.underlying103, rfl, rfl, rfl⟩⟩
instance places141 : Places Try.prog 141 [(0, 1), (1, 1), (2, 1), (3, 1)] := ⟨⟨_, Try.underlying141, fun w => by simp [go_sem]⟩⟩
instance fld141_0 : Fld Try.prog 141 0 0 17 := ⟨⟨_, _, Try.underlying141, rfl, rfl, rfl⟩⟩
instance fld141_1 : Fld Try.prog 141 1 1 17 := ⟨⟨_, _, Try.underlying141, rfl, rfl, rfl⟩⟩
instance fld141_2 : Fld Try.prog 141 2 2 17 := ⟨⟨_, _, Try.underlying141, rfl, rfl, rfl⟩⟩
instance fld141_3 : Fld Try.prog 141 3 3 9 := ⟨⟨_, _, Try.underlying141, rfl, rfl, rfl⟩⟩
instance places142 : Places Try.prog 142 [(0, 1), (1, 1), (2, 1), (3, 1)] := ⟨⟨_, Try.underlying142, fun w => by simp [go_sem]⟩⟩
instance fld142_0 : Fld Try.prog 142 0 0 17 := ⟨⟨_, _, Try.underlying142, rfl, rfl, rfl⟩⟩
instance fld142_1 : Fld Try.prog 142 1 1 17 := ⟨⟨_, _, Try.underlying142, rfl, rfl, rfl⟩⟩
instance fld142_2 : Fld Try.prog 142 2 2 17 := ⟨⟨_, _, Try.underlying142, rfl, rfl, rfl⟩⟩
instance fld142_3 : Fld Try.prog 142 3 3 9 := ⟨⟨_, _, Try.underlying142, rfl, rfl, rfl⟩⟩
instance places144 : Places Try.prog 144 [(0, 0)] := ⟨⟨_, Try.underlying144, fun w => by simp [go_sem]⟩⟩
instance fld144_0 : Fld Try.prog 144 0 0 143 := ⟨⟨_, _, Try.underlying144, rfl, rfl, rfl⟩⟩
instance places145 : Places Try.prog 145 [(0, 0)] := ⟨⟨_, Try.underlying145, fun w => by simp [go_sem]⟩⟩
instance fld145_0 : Fld Try.prog 145 0 0 143 := ⟨⟨_, _, Try.underlying145, rfl, rfl, rfl⟩⟩
instance places154 : Places Try.prog 154 [(0, 1), (1, 1), (2, 1), (3, 1), (4, 1), (5, 1), (6, 1), (7, 1), (8, 1), (9, 1), (10, 1)] := ⟨⟨_, Try.underlying154, fun w => by simp [go_sem]⟩⟩
instance fld154_0 : Fld Try.prog 154 0 0 12 := ⟨⟨_, _, Try.underlying154, rfl, rfl, rfl⟩⟩
instance fld154_1 : Fld Try.prog 154 1 1 12 := ⟨⟨_, _, Try.underlying154, rfl, rfl, rfl⟩⟩
instance fld154_2 : Fld Try.prog 154 2 2 147 := ⟨⟨_, _, Try.underlying154, rfl, rfl, rfl⟩⟩
instance fld154_3 : Fld Try.prog 154 3 3 148 := ⟨⟨_, _, Try.underlying154, rfl, rfl, rfl⟩⟩
instance fld154_4 : Fld Try.prog 154 4 4 5 := ⟨⟨_, _, Try.underlying154, rfl, rfl, rfl⟩⟩
instance fld154_5 : Fld Try.prog 154 5 5 5 := ⟨⟨_, _, Try.underlying154, rfl, rfl, rfl⟩⟩
instance fld154_6 : Fld Try.prog 154 6 6 149 := ⟨⟨_, _, Try.underlying154, rfl, rfl, rfl⟩⟩
instance fld154_7 : Fld Try.prog 154 7 7 150 := ⟨⟨_, _, Try.underlying154, rfl, rfl, rfl⟩⟩
instance fld154_8 : Fld Try.prog 154 8 8 151 := ⟨⟨_, _, Try.underlying154, rfl, rfl, rfl⟩⟩
instance fld154_9 : Fld Try.prog 154 9 9 152 := ⟨⟨_, _, Try.underlying154, rfl, rfl, rfl⟩⟩
instance fld154_10 : Fld Try.prog 154 10 10 153 := ⟨⟨_, _, Try.underlying154, rfl, rfl, rfl⟩⟩
instance places155 : Places Try.prog 155 [(0, 1), (1, 1), (2, 1), (3, 1), (4, 1), (5, 1), (6, 1), (7, 1), (8, 1), (9, 1), (10, 1)] := ⟨⟨_, Try.underlying155, fun w => by simp [go_sem]⟩⟩
instance fld155_0 : Fld Try.prog 155 0 0 12 := ⟨⟨_, _, Try.underlying155, rfl, rfl, rfl⟩⟩
instance fld155_1 : Fld Try.prog 155 1 1 12 := ⟨⟨_, _, Try.underlying155, rfl, rfl, rfl⟩⟩
instance fld155_2 : Fld Try.prog 155 2 2 147 := ⟨⟨_, _, Try.underlying155, rfl, rfl, rfl⟩⟩
instance fld155_3 : Fld Try.prog 155 3 3 148 := ⟨⟨_, _, Try.underlying155, rfl, rfl, rfl⟩⟩
instance fld155_4 : Fld Try.prog 155 4 4 5 := ⟨⟨_, _, Try.underlying155, rfl, rfl, rfl⟩⟩
instance fld155_5 : Fld Try.prog 155 5 5 5 := ⟨⟨_, _, Try.underlying155, rfl, rfl, rfl⟩⟩
instance fld155_6 : Fld Try.prog 155 6 6 149 := ⟨⟨_, _, Try.underlying155, rfl, rfl, rfl⟩⟩
instance fld155_7 : Fld Try.prog 155 7 7 150 := ⟨⟨_, _, Try.underlying155, rfl, rfl, rfl⟩⟩
instance fld155_8 : Fld Try.prog 155 8 8 151 := ⟨⟨_, _, Try.underlying155, rfl, rfl, rfl⟩⟩
instance fld155_9 : Fld Try.prog 155 9 9 152 := ⟨⟨_, _, Try.underlying155, rfl, rfl, rfl⟩⟩
instance fld155_10 : Fld Try.prog 155 10 10 153 := ⟨⟨_, _, Try.underlying155, rfl, rfl, rfl⟩⟩
instance inf0 : Inf Try.prog 0 (Go.Value.tuple #[]) 1 0 := ⟨⟨Try.t0, Try.type0, rfl, rfl, rfl, rfl⟩⟩
instance inf1 : Inf Try.prog 1 (Go.Value.nilFunc) 1 8 := ⟨⟨Try.t1, Try.type1, rfl, rfl, rfl, rfl⟩⟩
instance inf2 : Inf Try.prog 2 (Go.Value.int Go.IntKind.i64 0) 1 8 := ⟨⟨Try.t2, Try.type2, rfl, rfl, rfl, rfl⟩⟩
instance inf3 : Inf Try.prog 3 (Go.Value.int Go.IntKind.i64 0) 1 8 := ⟨⟨Try.t3, Try.type3, rfl, rfl, rfl, rfl⟩⟩
instance inf4 : Inf Try.prog 4 (Go.Value.bool false) 1 1 := ⟨⟨Try.t4, Try.type4, rfl, rfl, rfl, rfl⟩⟩
instance inf5 : Inf Try.prog 5 (Go.Value.int Go.IntKind.u8 0) 1 1 := ⟨⟨Try.t5, Try.type5, rfl, rfl, rfl, rfl⟩⟩
instance inf6 : Inf Try.prog 6 (Go.Value.int Go.IntKind.u8 0) 1 1 := ⟨⟨Try.t6, Try.type6, rfl, rfl, rfl, rfl⟩⟩
instance inf7 : Inf Try.prog 7 (Go.Value.agg #[Go.Value.int Go.IntKind.i64 0, Go.Value.int Go.IntKind.i64 0, Go.Value.bool false, Go.Value.int Go.IntKind.u8 0]) 4 24 := ⟨⟨Try.t7, Try.type7, rfl, rfl, rfl, rfl⟩⟩
instance inf8 : Inf Try.prog 8 (Go.Value.agg #[Go.Value.int Go.IntKind.i64 0, Go.Value.int Go.IntKind.i64 0, Go.Value.bool false, Go.Value.int Go.IntKind.u8 0]) 4 24 := ⟨⟨Try.t8, Try.type8, rfl, rfl, rfl, rfl⟩⟩
instance inf9 : Inf Try.prog 9 (Go.Value.string { data := #[] }) 1 16 := ⟨⟨Try.t9, Try.type9, rfl, rfl, rfl, rfl⟩⟩
instance inf10 : Inf Try.prog 10 (Go.Value.string { data := #[] }) 1 16 := ⟨⟨Try.t10, Try.type10, rfl, rfl, rfl, rfl⟩⟩
instance inf11 : Inf Try.prog 11 (Go.Value.string { data := #[] }) 1 16 := ⟨⟨Try.t11, Try.type11, rfl, rfl, rfl, rfl⟩⟩
instance inf12 : Inf Try.prog 12 (Go.Value.int Go.IntKind.u64 0) 1 8 := ⟨⟨Try.t12, Try.type12, rfl, rfl, rfl, rfl⟩⟩
instance inf13 : Inf Try.prog 13 (Go.Value.agg #[Go.Value.string { data := #[] }, Go.Value.int Go.IntKind.u64 0]) 2 24 := ⟨⟨Try.t13, Try.type13, rfl, rfl, rfl, rfl⟩⟩
instance inf14 : Inf Try.prog 14 (Go.Value.agg #[Go.Value.string { data := #[] }, Go.Value.int Go.IntKind.u64 0]) 2 24 := ⟨⟨Try.t14, Try.type14, rfl, rfl, rfl, rfl⟩⟩
instance inf15 : Inf Try.prog 15 (Go.Value.pointer none) 1 8 := ⟨⟨Try.t15, Try.type15, rfl, rfl, rfl, rfl⟩⟩
instance inf16 : Inf Try.prog 16 (Go.Value.pointer none) 1 8 := ⟨⟨Try.t16, Try.type16, rfl, rfl, rfl, rfl⟩⟩
instance inf17 : Inf Try.prog 17 (Go.Value.pointer none) 1 8 := ⟨⟨Try.t17, Try.type17, rfl, rfl, rfl, rfl⟩⟩
instance inf18 : Inf Try.prog 18 (Go.Value.agg #[Go.Value.pointer none]) 1 8 := ⟨⟨Try.t18, Try.type18, rfl, rfl, rfl, rfl⟩⟩
instance inf19 : Inf Try.prog 19 (Go.Value.agg #[Go.Value.pointer none]) 1 8 := ⟨⟨Try.t19, Try.type19, rfl, rfl, rfl, rfl⟩⟩
instance inf20 : Inf Try.prog 20 (Go.Value.nilIface) 1 16 := ⟨⟨Try.t20, Try.type20, rfl, rfl, rfl, rfl⟩⟩
instance inf21 : Inf Try.prog 21 (Go.Value.int Go.IntKind.i32 0) 1 4 := ⟨⟨Try.t21, Try.type21, rfl, rfl, rfl, rfl⟩⟩
instance inf22 : Inf Try.prog 22 (Go.Value.slice none 0 0) 1 24 := ⟨⟨Try.t22, Try.type22, rfl, rfl, rfl, rfl⟩⟩
instance inf23 : Inf Try.prog 23 (Go.Value.slice none 0 0) 1 24 := ⟨⟨Try.t23, Try.type23, rfl, rfl, rfl, rfl⟩⟩
instance inf24 : Inf Try.prog 24 (Go.Value.slice none 0 0) 1 24 := ⟨⟨Try.t24, Try.type24, rfl, rfl, rfl, rfl⟩⟩
instance inf25 : Inf Try.prog 25 (Go.Value.agg #[Go.Value.int Go.IntKind.i64 0, Go.Value.slice none 0 0, Go.Value.string { data := #[] }, Go.Value.slice none 0 0, Go.Value.int Go.IntKind.i64 0, Go.Value.slice none 0 0]) 6 104 := ⟨⟨Try.t25, Try.type25, rfl, rfl, rfl, rfl⟩⟩
instance inf26 : Inf Try.prog 26 (Go.Value.agg #[Go.Value.int Go.IntKind.i64 0, Go.Value.slice none 0 0, Go.Value.string { data := #[] }, Go.Value.slice none 0 0, Go.Value.int Go.IntKind.i64 0, Go.Value.slice none 0 0]) 6 104 := ⟨⟨Try.t26, Try.type26, rfl, rfl, rfl, rfl⟩⟩
instance inf27 : Inf Try.prog 27 (Go.Value.nilFunc) 1 8 := ⟨⟨Try.t27, Try.type27, rfl, rfl, rfl, rfl⟩⟩
instance inf28 : Inf Try.prog 28 (Go.Value.int Go.IntKind.i64 0) 1 8 := ⟨⟨Try.t28, Try.type28, rfl, rfl, rfl, rfl⟩⟩
instance inf29 : Inf Try.prog 29 (Go.Value.tuple #[Go.Value.slice none 0 0, Go.Value.int Go.IntKind.i64 0]) 1 0 := ⟨⟨Try.t29, Try.type29, rfl, rfl, rfl, rfl⟩⟩
instance inf30 : Inf Try.prog 30 (Go.Value.nilFunc) 1 8 := ⟨⟨Try.t30, Try.type30, rfl, rfl, rfl, rfl⟩⟩
instance inf31 : Inf Try.prog 31 (Go.Value.slice none 0 0) 1 24 := ⟨⟨Try.t31, Try.type31, rfl, rfl, rfl, rfl⟩⟩
instance inf32 : Inf Try.prog 32 (Go.Value.tuple #[Go.Value.slice none 0 0, Go.Value.int Go.IntKind.i64 0]) 1 0 := ⟨⟨Try.t32, Try.type32, rfl, rfl, rfl, rfl⟩⟩
instance inf33 : Inf Try.prog 33 (Go.Value.nilFunc) 1 8 := ⟨⟨Try.t33, Try.type33, rfl, rfl, rfl, rfl⟩⟩
instance inf34 : Inf Try.prog 34 (Go.Value.nilFunc) 1 8 := ⟨⟨Try.t34, Try.type34, rfl, rfl, rfl, rfl⟩⟩
instance inf35 : Inf Try.prog 35 (Go.Value.nilFunc) 1 8 := ⟨⟨Try.t35, Try.type35, rfl, rfl, rfl, rfl⟩⟩
instance inf36 : Inf Try.prog 36 (Go.Value.nilFunc) 1 8 := ⟨⟨Try.t36, Try.type36, rfl, rfl, rfl, rfl⟩⟩
instance inf37 : Inf Try.prog 37 (Go.Value.nilFunc) 1 8 := ⟨⟨Try.t37, Try.type37, rfl, rfl, rfl, rfl⟩⟩
instance inf38 : Inf Try.prog 38 (Go.Value.nilFunc) 1 8 := ⟨⟨Try.t38, Try.type38, rfl, rfl, rfl, rfl⟩⟩
instance inf39 : Inf Try.prog 39 (Go.Value.nilFunc) 1 8 := ⟨⟨Try.t39, Try.type39, rfl, rfl, rfl, rfl⟩⟩
instance inf40 : Inf Try.prog 40 (Go.Value.nilFunc) 1 8 := ⟨⟨Try.t40, Try.type40, rfl, rfl, rfl, rfl⟩⟩
instance inf41 : Inf Try.prog 41 (Go.Value.nilFunc) 1 8 := ⟨⟨Try.t41, Try.type41, rfl, rfl, rfl, rfl⟩⟩
instance inf42 : Inf Try.prog 42 (Go.Value.tuple #[Go.Value.int Go.IntKind.i64 0, Go.Value.int Go.IntKind.i64 0]) 1 0 := ⟨⟨Try.t42, Try.type42, rfl, rfl, rfl, rfl⟩⟩
instance inf43 : Inf Try.prog 43 (Go.Value.nilFunc) 1 8 := ⟨⟨Try.t43, Try.type43, rfl, rfl, rfl, rfl⟩⟩
instance inf44 : Inf Try.prog 44 (Go.Value.nilFunc) 1 8 := ⟨⟨Try.t44, Try.type44, rfl, rfl, rfl, rfl⟩⟩
instance inf45 : Inf Try.prog 45 (Go.Value.nilFunc) 1 8 := ⟨⟨Try.t45, Try.type45, rfl, rfl, rfl, rfl⟩⟩
instance inf46 : Inf Try.prog 46 (Go.Value.nilFunc) 1 8 := ⟨⟨Try.t46, Try.type46, rfl, rfl, rfl, rfl⟩⟩
instance inf47 : Inf Try.prog 47 (Go.Value.slice none 0 0) 1 24 := ⟨⟨Try.t47, Try.type47, rfl, rfl, rfl, rfl⟩⟩
instance inf48 : Inf Try.prog 48 (Go.Value.tuple #[Go.Value.slice none 0 0, Go.Value.int Go.IntKind.i64 0]) 1 0 := ⟨⟨Try.t48, Try.type48, rfl, rfl, rfl, rfl⟩⟩
instance inf49 : Inf Try.prog 49 (Go.Value.nilFunc) 1 8 := ⟨⟨Try.t49, Try.type49, rfl, rfl, rfl, rfl⟩⟩
instance inf50 : Inf Try.prog 50 (Go.Value.nilFunc) 1 8 := ⟨⟨Try.t50, Try.type50, rfl, rfl, rfl, rfl⟩⟩
instance inf51 : Inf Try.prog 51 (Go.Value.tuple #[Go.Value.int Go.IntKind.i64 0, Go.Value.int Go.IntKind.i64 0]) 1 0 := ⟨⟨Try.t51, Try.type51, rfl, rfl, rfl, rfl⟩⟩
instance inf52 : Inf Try.prog 52 (Go.Value.nilFunc) 1 8 := ⟨⟨Try.t52, Try.type52, rfl, rfl, rfl, rfl⟩⟩
instance inf53 : Inf Try.prog 53 (Go.Value.tuple #[Go.Value.bool false, Go.Value.int Go.IntKind.i64 0]) 1 0 := ⟨⟨Try.t53, Try.type53, rfl, rfl, rfl, rfl⟩⟩
instance inf54 : Inf Try.prog 54 (Go.Value.nilFunc) 1 8 := ⟨⟨Try.t54, Try.type54, rfl, rfl, rfl, rfl⟩⟩
instance inf55 : Inf Try.prog 55 (Go.Value.nilFunc) 1 8 := ⟨⟨Try.t55, Try.type55, rfl, rfl, rfl, rfl⟩⟩
instance inf56 : Inf Try.prog 56 (Go.Value.nilFunc) 1 8 := ⟨⟨Try.t56, Try.type56, rfl, rfl, rfl, rfl⟩⟩
instance inf57 : Inf Try.prog 57 (Go.Value.nilFunc) 1 8 := ⟨⟨Try.t57, Try.type57, rfl, rfl, rfl, rfl⟩⟩
instance inf58 : Inf Try.prog 58 (Go.Value.nilFunc) 1 8 := ⟨⟨Try.t58, Try.type58, rfl, rfl, rfl, rfl⟩⟩
instance inf59 : Inf Try.prog 59 (Go.Value.tuple #[Go.Value.slice none 0 0, Go.Value.slice none 0 0, Go.Value.slice none 0 0, Go.Value.slice none 0 0, Go.Value.slice none 0 0, Go.Value.bool false]) 1 0 := ⟨⟨Try.t59, Try.type59, rfl, rfl, rfl, rfl⟩⟩
instance inf60 : Inf Try.prog 60 (Go.Value.nilFunc) 1 8 := ⟨⟨Try.t60, Try.type60, rfl, rfl, rfl, rfl⟩⟩
instance inf61 : Inf Try.prog 61 (Go.Value.agg #[Go.Value.int Go.IntKind.i64 0, Go.Value.slice none 0 0]) 2 32 := ⟨⟨Try.t61, Try.type61, rfl, rfl, rfl, rfl⟩⟩
instance inf62 : Inf Try.prog 62 (Go.Value.agg #[Go.Value.int Go.IntKind.i64 0, Go.Value.slice none 0 0]) 2 32 := ⟨⟨Try.t62, Try.type62, rfl, rfl, rfl, rfl⟩⟩
instance inf63 : Inf Try.prog 63 (Go.Value.nilFunc) 1 8 := ⟨⟨Try.t63, Try.type63, rfl, rfl, rfl, rfl⟩⟩
instance inf64 : Inf Try.prog 64 (Go.Value.nilFunc) 1 8 := ⟨⟨Try.t64, Try.type64, rfl, rfl, rfl, rfl⟩⟩
instance inf65 : Inf Try.prog 65 (Go.Value.nilFunc) 1 8 := ⟨⟨Try.t65, Try.type65, rfl, rfl, rfl, rfl⟩⟩
instance inf66 : Inf Try.prog 66 (Go.Value.nilFunc) 1 8 := ⟨⟨Try.t66, Try.type66, rfl, rfl, rfl, rfl⟩⟩
instance inf67 : Inf Try.prog 67 (Go.Value.nilFunc) 1 8 := ⟨⟨Try.t67, Try.type67, rfl, rfl, rfl, rfl⟩⟩
instance inf68 : Inf Try.prog 68 (Go.Value.slice none 0 0) 1 24 := ⟨⟨Try.t68, Try.type68, rfl, rfl, rfl, rfl⟩⟩
instance inf69 : Inf Try.prog 69 (Go.Value.int Go.IntKind.u64 0) 1 8 := ⟨⟨Try.t69, Try.type69, rfl, rfl, rfl, rfl⟩⟩
instance inf70 : Inf Try.prog 70 (Go.Value.nilFunc) 1 8 := ⟨⟨Try.t70, Try.type70, rfl, rfl, rfl, rfl⟩⟩
instance inf71 : Inf Try.prog 71 (Go.Value.nilFunc) 1 8 := ⟨⟨Try.t71, Try.type71, rfl, rfl, rfl, rfl⟩⟩
instance inf72 : Inf Try.prog 72 (Go.Value.slice none 0 0) 1 24 := ⟨⟨Try.t72, Try.type72, rfl, rfl, rfl, rfl⟩⟩
instance inf73 : Inf Try.prog 73 (Go.Value.nilFunc) 1 8 := ⟨⟨Try.t73, Try.type73, rfl, rfl, rfl, rfl⟩⟩
instance inf74 : Inf Try.prog 74 (Go.Value.int Go.IntKind.u8 0) 1 1 := ⟨⟨Try.t74, Try.type74, rfl, rfl, rfl, rfl⟩⟩
instance inf75 : Inf Try.prog 75 (Go.Value.nilFunc) 1 8 := ⟨⟨Try.t75, Try.type75, rfl, rfl, rfl, rfl⟩⟩
instance inf76 : Inf Try.prog 76 (Go.Value.nilFunc) 1 8 := ⟨⟨Try.t76, Try.type76, rfl, rfl, rfl, rfl⟩⟩
instance inf77 : Inf Try.prog 77 (Go.Value.nilFunc) 1 8 := ⟨⟨Try.t77, Try.type77, rfl, rfl, rfl, rfl⟩⟩
instance inf78 : Inf Try.prog 78 (Go.Value.slice none 0 0) 1 24 := ⟨⟨Try.t78, Try.type78, rfl, rfl, rfl, rfl⟩⟩
instance inf79 : Inf Try.prog 79 (Go.Value.nilFunc) 1 8 := ⟨⟨Try.t79, Try.type79, rfl, rfl, rfl, rfl⟩⟩
instance inf80 : Inf Try.prog 80 (Go.Value.nilFunc) 1 8 := ⟨⟨Try.t80, Try.type80, rfl, rfl, rfl, rfl⟩⟩
instance inf81 : Inf Try.prog 81 (Go.Value.nilFunc) 1 8 := ⟨⟨Try.t81, Try.type81, rfl, rfl, rfl, rfl⟩⟩
instance inf82 : Inf Try.prog 82 (Go.Value.nilFunc) 1 8 := ⟨⟨Try.t82, Try.type82, rfl, rfl, rfl, rfl⟩⟩
instance inf83 : Inf Try.prog 83 (Go.Value.nilFunc) 1 8 := ⟨⟨Try.t83, Try.type83, rfl, rfl, rfl, rfl⟩⟩
instance inf84 : Inf Try.prog 84 (Go.Value.nilFunc) 1 8 := ⟨⟨Try.t84, Try.type84, rfl, rfl, rfl, rfl⟩⟩
instance inf85 : Inf Try.prog 85 (Go.Value.nilFunc) 1 8 := ⟨⟨Try.t85, Try.type85, rfl, rfl, rfl, rfl⟩⟩
instance inf86 : Inf Try.prog 86 (Go.Value.slice none 0 0) 1 24 := ⟨⟨Try.t86, Try.type86, rfl, rfl, rfl, rfl⟩⟩
instance inf87 : Inf Try.prog 87 (Go.Value.nilFunc) 1 8 := ⟨⟨Try.t87, Try.type87, rfl, rfl, rfl, rfl⟩⟩
instance inf88 : Inf Try.prog 88 (Go.Value.nilFunc) 1 8 := ⟨⟨Try.t88, Try.type88, rfl, rfl, rfl, rfl⟩⟩
instance inf89 : Inf Try.prog 89 (Go.Value.nilFunc) 1 8 := ⟨⟨Try.t89, Try.type89, rfl, rfl, rfl, rfl⟩⟩
instance inf90 : Inf Try.prog 90 (Go.Value.nilFunc) 1 8 := ⟨⟨Try.t90, Try.type90, rfl, rfl, rfl, rfl⟩⟩
instance inf91 : Inf Try.prog 91 (Go.Value.nilFunc) 1 8 := ⟨⟨Try.t91, Try.type91, rfl, rfl, rfl, rfl⟩⟩
instance inf92 : Inf Try.prog 92 (Go.Value.nilFunc) 1 8 := ⟨⟨Try.t92, Try.type92, rfl, rfl, rfl, rfl⟩⟩
instance inf93 : Inf Try.prog 93 (Go.Value.nilFunc) 1 8 := ⟨⟨Try.t93, Try.type93, rfl, rfl, rfl, rfl⟩⟩
instance inf94 : Inf Try.prog 94 (Go.Value.nilFunc) 1 8 := ⟨⟨Try.t94, Try.type94, rfl, rfl, rfl, rfl⟩⟩
instance inf95 : Inf Try.prog 95 (Go.Value.nilFunc) 1 8 := ⟨⟨Try.t95, Try.type95, rfl, rfl, rfl, rfl⟩⟩
instance inf96 : Inf Try.prog 96 (Go.Value.nilFunc) 1 8 := ⟨⟨Try.t96, Try.type96, rfl, rfl, rfl, rfl⟩⟩
instance inf97 : Inf Try.prog 97 (Go.Value.pointer none) 1 8 := ⟨⟨Try.t97, Try.type97, rfl, rfl, rfl, rfl⟩⟩
instance inf98 : Inf Try.prog 98 (Go.Value.agg #[Go.Value.int Go.IntKind.i64 0, Go.Value.int Go.IntKind.i64 0]) 2 16 := ⟨⟨Try.t98, Try.type98, rfl, rfl, rfl, rfl⟩⟩
instance inf99 : Inf Try.prog 99 (Go.Value.agg #[Go.Value.int Go.IntKind.i64 0, Go.Value.int Go.IntKind.i64 0]) 2 16 := ⟨⟨Try.t99, Try.type99, rfl, rfl, rfl, rfl⟩⟩
instance inf100 : Inf Try.prog 100 (Go.Value.slice none 0 0) 1 24 := ⟨⟨Try.t100, Try.type100, rfl, rfl, rfl, rfl⟩⟩
instance inf101 : Inf Try.prog 101 (Go.Value.slice none 0 0) 1 24 := ⟨⟨Try.t101, Try.type101, rfl, rfl, rfl, rfl⟩⟩
instance inf102 : Inf Try.prog 102 (Go.Value.agg #[Go.Value.slice none 0 0]) 1 24 := ⟨⟨Try.t102, Try.type102, rfl, rfl, rfl, rfl⟩⟩
instance inf103 : Inf Try.prog 103 (Go.Value.agg #[Go.Value.slice none 0 0]) 1 24 := ⟨⟨Try.t103, Try.type103, rfl, rfl, rfl, rfl⟩⟩
instance inf104 : Inf Try.prog 104 (Go.Value.map none) 1 8 := ⟨⟨Try.t104, Try.type104, rfl, rfl, rfl, rfl⟩⟩
instance inf105 : Inf Try.prog 105 (Go.Value.nilFunc) 1 8 := ⟨⟨Try.t105, Try.type105, rfl, rfl, rfl, rfl⟩⟩
instance inf106 : Inf Try.prog 106 (Go.Value.nilFunc) 1 8 := ⟨⟨Try.t106, Try.type106, rfl, rfl, rfl, rfl⟩⟩
instance inf107 : Inf Try.prog 107 (Go.Value.nilFunc) 1 8 := ⟨⟨Try.t107, Try.type107, rfl, rfl, rfl, rfl⟩⟩
instance inf108 : Inf Try.prog 108 (Go.Value.nilFunc) 1 8 := ⟨⟨Try.t108, Try.type108, rfl, rfl, rfl, rfl⟩⟩
instance inf109 : Inf Try.prog 109 (Go.Value.agg #[Go.Value.int Go.IntKind.i64 0, Go.Value.int Go.IntKind.i64 0]) 2 16 := ⟨⟨Try.t109, Try.type109, rfl, rfl, rfl, rfl⟩⟩
instance inf110 : Inf Try.prog 110 (Go.Value.nilFunc) 1 8 := ⟨⟨Try.t110, Try.type110, rfl, rfl, rfl, rfl⟩⟩
instance inf111 : Inf Try.prog 111 (Go.Value.slice none 0 0) 1 24 := ⟨⟨Try.t111, Try.type111, rfl, rfl, rfl, rfl⟩⟩
instance inf112 : Inf Try.prog 112 (Go.Value.nilFunc) 1 8 := ⟨⟨Try.t112, Try.type112, rfl, rfl, rfl, rfl⟩⟩
instance inf113 : Inf Try.prog 113 (Go.Value.nilFunc) 1 8 := ⟨⟨Try.t113, Try.type113, rfl, rfl, rfl, rfl⟩⟩
instance inf114 : Inf Try.prog 114 (Go.Value.nilFunc) 1 8 := ⟨⟨Try.t114, Try.type114, rfl, rfl, rfl, rfl⟩⟩
instance inf115 : Inf Try.prog 115 (Go.Value.nilFunc) 1 8 := ⟨⟨Try.t115, Try.type115, rfl, rfl, rfl, rfl⟩⟩
instance inf116 : Inf Try.prog 116 (Go.Value.nilFunc) 1 8 := ⟨⟨Try.t116, Try.type116, rfl, rfl, rfl, rfl⟩⟩
instance inf117 : Inf Try.prog 117 (Go.Value.nilFunc) 1 8 := ⟨⟨Try.t117, Try.type117, rfl, rfl, rfl, rfl⟩⟩
instance inf118 : Inf Try.prog 118 (Go.Value.map none) 1 8 := ⟨⟨Try.t118, Try.type118, rfl, rfl, rfl, rfl⟩⟩
instance inf119 : Inf Try.prog 119 (Go.Value.nilFunc) 1 8 := ⟨⟨Try.t119, Try.type119, rfl, rfl, rfl, rfl⟩⟩
instance inf120 : Inf Try.prog 120 (Go.Value.nilFunc) 1 8 := ⟨⟨Try.t120, Try.type120, rfl, rfl, rfl, rfl⟩⟩
instance inf121 : Inf Try.prog 121 (Go.Value.nilFunc) 1 8 := ⟨⟨Try.t121, Try.type121, rfl, rfl, rfl, rfl⟩⟩
instance inf122 : Inf Try.prog 122 (Go.Value.nilFunc) 1 8 := ⟨⟨Try.t122, Try.type122, rfl, rfl, rfl, rfl⟩⟩
instance inf123 : Inf Try.prog 123 (Go.Value.nilFunc) 1 8 := ⟨⟨Try.t123, Try.type123, rfl, rfl, rfl, rfl⟩⟩
instance inf124 : Inf Try.prog 124 (Go.Value.nilFunc) 1 8 := ⟨⟨Try.t124, Try.type124, rfl, rfl, rfl, rfl⟩⟩
instance inf125 : Inf Try.prog 125 (Go.Value.map none) 1 8 := ⟨⟨Try.t125, Try.type125, rfl, rfl, rfl, rfl⟩⟩
instance inf126 : Inf Try.prog 126 (Go.Value.nilFunc) 1 8 := ⟨⟨Try.t126, Try.type126, rfl, rfl, rfl, rfl⟩⟩
instance inf127 : Inf Try.prog 127 (Go.Value.nilFunc) 1 8 := ⟨⟨Try.t127, Try.type127, rfl, rfl, rfl, rfl⟩⟩
instance inf128 : Inf Try.prog 128 (Go.Value.nilFunc) 1 8 := ⟨⟨Try.t128, Try.type128, rfl, rfl, rfl, rfl⟩⟩
instance inf129 : Inf Try.prog 129 (Go.Value.nilFunc) 1 8 := ⟨⟨Try.t129, Try.type129, rfl, rfl, rfl, rfl⟩⟩
instance inf130 : Inf Try.prog 130 (Go.Value.nilFunc) 1 8 := ⟨⟨Try.t130, Try.type130, rfl, rfl, rfl, rfl⟩⟩
instance inf131 : Inf Try.prog 131 (Go.Value.nilFunc) 1 8 := ⟨⟨Try.t131, Try.type131, rfl, rfl, rfl, rfl⟩⟩
instance inf132 : Inf Try.prog 132 (Go.Value.nilFunc) 1 8 := ⟨⟨Try.t132, Try.type132, rfl, rfl, rfl, rfl⟩⟩
instance inf133 : Inf Try.prog 133 (Go.Value.nilFunc) 1 8 := ⟨⟨Try.t133, Try.type133, rfl, rfl, rfl, rfl⟩⟩
instance inf134 : Inf Try.prog 134 (Go.Value.nilFunc) 1 8 := ⟨⟨Try.t134, Try.type134, rfl, rfl, rfl, rfl⟩⟩
instance inf135 : Inf Try.prog 135 (Go.Value.nilFunc) 1 8 := ⟨⟨Try.t135, Try.type135, rfl, rfl, rfl, rfl⟩⟩
instance inf136 : Inf Try.prog 136 (Go.Value.agg #[Go.Value.string { data := #[] }, Go.Value.string { data := #[] }, Go.Value.string { data := #[] }, Go.Value.string { data := #[] }]) 4 64 := ⟨⟨Try.t136, Try.type136, rfl, rfl, rfl, rfl⟩⟩
instance inf137 : Inf Try.prog 137 (Go.Value.nilFunc) 1 8 := ⟨⟨Try.t137, Try.type137, rfl, rfl, rfl, rfl⟩⟩
instance inf138 : Inf Try.prog 138 (Go.Value.nilFunc) 1 8 := ⟨⟨Try.t138, Try.type138, rfl, rfl, rfl, rfl⟩⟩
instance inf139 : Inf Try.prog 139 (Go.Value.nilFunc) 1 8 := ⟨⟨Try.t139, Try.type139, rfl, rfl, rfl, rfl⟩⟩
instance inf140 : Inf Try.prog 140 (Go.Value.nilFunc) 1 8 := ⟨⟨Try.t140, Try.type140, rfl, rfl, rfl, rfl⟩⟩
instance inf141 : Inf Try.prog 141 (Go.Value.agg #[Go.Value.pointer none, Go.Value.pointer none, Go.Value.pointer none, Go.Value.string { data := #[] }]) 4 40 := ⟨⟨Try.t141, Try.type141, rfl, rfl, rfl, rfl⟩⟩
instance inf142 : Inf Try.prog 142 (Go.Value.agg #[Go.Value.pointer none, Go.Value.pointer none, Go.Value.pointer none, Go.Value.string { data := #[] }]) 4 40 := ⟨⟨Try.t142, Try.type142, rfl, rfl, rfl, rfl⟩⟩
instance inf143 : Inf Try.prog 143 (Go.Value.agg #[]) 0 0 := ⟨⟨Try.t143, Try.type143, rfl, rfl, rfl, rfl⟩⟩
instance inf144 : Inf Try.prog 144 (Go.Value.agg #[]) 0 0 := ⟨⟨Try.t144, Try.type144, rfl, rfl, rfl, rfl⟩⟩
instance inf145 : Inf Try.prog 145 (Go.Value.agg #[]) 0 0 := ⟨⟨Try.t145, Try.type145, rfl, rfl, rfl, rfl⟩⟩
instance inf146 : Inf Try.prog 146 (Go.Value.nilFunc) 1 8 := ⟨⟨Try.t146, Try.type146, rfl, rfl, rfl, rfl⟩⟩
instance inf147 : Inf Try.prog 147 (Go.Value.int Go.IntKind.u32 0) 1 4 := ⟨⟨Try.t147, Try.type147, rfl, rfl, rfl, rfl⟩⟩
instance inf148 : Inf Try.prog 148 (Go.Value.int Go.IntKind.u8 0) 1 1 := ⟨⟨Try.t148, Try.type148, rfl, rfl, rfl, rfl⟩⟩
instance inf149 : Inf Try.prog 149 (Go.Value.int Go.IntKind.u8 0) 1 1 := ⟨⟨Try.t149, Try.type149, rfl, rfl, rfl, rfl⟩⟩
instance inf150 : Inf Try.prog 150 (Go.Value.nilFunc) 1 8 := ⟨⟨Try.t150, Try.type150, rfl, rfl, rfl, rfl⟩⟩
instance inf151 : Inf Try.prog 151 (Go.Value.pointer none) 1 8 := ⟨⟨Try.t151, Try.type151, rfl, rfl, rfl, rfl⟩⟩
instance inf152 : Inf Try.prog 152 (Go.Value.int Go.IntKind.i32 0) 1 4 := ⟨⟨Try.t152, Try.type152, rfl, rfl, rfl, rfl⟩⟩
instance inf153 : Inf Try.prog 153 (Go.Value.int Go.IntKind.i32 0) 1 4 := ⟨⟨Try.t153, Try.type153, rfl, rfl, rfl, rfl⟩⟩
instance inf154 : Inf Try.prog 154 (Go.Value.agg #[Go.Value.int Go.IntKind.u64 0, Go.Value.int Go.IntKind.u64 0, Go.Value.int Go.IntKind.u32 0, Go.Value.int Go.IntKind.u8 0, Go.Value.int Go.IntKind.u8 0, Go.Value.int Go.IntKind.u8 0, Go.Value.int Go.IntKind.u8 0, Go.Value.nilFunc, Go.Value.pointer none, Go.Value.int Go.IntKind.i32 0, Go.Value.int Go.IntKind.i32 0]) 11 48 := ⟨⟨Try.t154, Try.type154, rfl, rfl, rfl, rfl⟩⟩
instance inf155 : Inf Try.prog 155 (Go.Value.agg #[Go.Value.int Go.IntKind.u64 0, Go.Value.int Go.IntKind.u64 0, Go.Value.int Go.IntKind.u32 0, Go.Value.int Go.IntKind.u8 0, Go.Value.int Go.IntKind.u8 0, Go.Value.int Go.IntKind.u8 0, Go.Value.int Go.IntKind.u8 0, Go.Value.nilFunc, Go.Value.pointer none, Go.Value.int Go.IntKind.i32 0, Go.Value.int Go.IntKind.i32 0]) 11 48 := ⟨⟨Try.t155, Try.type155, rfl, rfl, rfl, rfl⟩⟩
instance inf156 : Inf Try.prog 156 (Go.Value.pointer none) 1 8 := ⟨⟨Try.t156, Try.type156, rfl, rfl, rfl, rfl⟩⟩
theorem V_aeql_7 {fs : List (Nat × Value)} {E : Env} {L : List Res} {o : Oper} {x y : Operand} {u : TypeId} {a0 : Int} {a1 : Int} {a2 : Bool} {a3 : Int} {b0 : Int} {b1 : Int} {b2 : Bool} {b3 : Int} (ho : o.op = .binOp .eql 7 x y u) (hx : ev fs x = some (.agg #[.int .i64 a0, .int .i64 a1, .bool a2, .int .u8 a3])) (hy : ev fs y = some (.agg #[.int .i64 b0, .int .i64 b1, .bool b2, .int .u8 b3])) : Val Try.prog o fs E L (.bool (decide (a0 = b0 ∧ a1 = b1 ∧ a2 = b2 ∧ a3 = b3))) :=
  V_bin ho hx hy fun w => ⟨by simp [go_sem], by
    by_cases h0 : a0 = b0 <;> by_cases h1 : a1 = b1 <;> by_cases h2 : a2 = b2 <;> by_cases h3 : a3 = b3 <;> simp [go_sem, Op.eqFields, S_toList, h0, h1, h2, h3]⟩
theorem V_aneq_7 {fs : List (Nat × Value)} {E : Env} {L : List Res} {o : Oper} {x y : Operand} {u : TypeId} {a0 : Int} {a1 : Int} {a2 : Bool} {a3 : Int} {b0 : Int} {b1 : Int} {b2 : Bool} {b3 : Int} (ho : o.op = .binOp .neq 7 x y u) (hx : ev fs x = some (.agg #[.int .i64 a0, .int .i64 a1, .bool a2, .int .u8 a3])) (hy : ev fs y = some (.agg #[.int .i64 b0, .int .i64 b1, .bool b2, .int .u8 b3])) : Val Try.prog o fs E L (.bool (decide (¬ (a0 = b0 ∧ a1 = b1 ∧ a2 = b2 ∧ a3 = b3)))) :=
  V_bin ho hx hy fun w => ⟨by simp [go_sem], by
    by_cases h0 : a0 = b0 <;> by_cases h1 : a1 = b1 <;> by_cases h2 : a2 = b2 <;> by_cases h3 : a3 = b3 <;> simp [go_sem, Op.eqFields, S_toList, h0, h1, h2, h3]⟩
theorem V_aeql_8 {fs : List (Nat × Value)} {E : Env} {L : List Res} {o : Oper} {x y : Operand} {u : TypeId} {a0 : Int} {a1 : Int} {a2 : Bool} {a3 : Int} {b0 : Int} {b1 : Int} {b2 : Bool} {b3 : Int} (ho : o.op = .binOp .eql 8 x y u) (hx : ev fs x = some (.agg #[.int .i64 a0, .int .i64 a1, .bool a2, .int .u8 a3])) (hy : ev fs y = some (.agg #[.int .i64 b0, .int .i64 b1, .bool b2, .int .u8 b3])) : Val Try.prog o fs E L (.bool (decide (a0 = b0 ∧ a1 = b1 ∧ a2 = b2 ∧ a3 = b3))) :=
  V_bin ho hx hy fun w => ⟨by simp [go_sem], by
    by_cases h0 : a0 = b0 <;> by_cases h1 : a1 = b1 <;> by_cases h2 : a2 = b2 <;> by_cases h3 : a3 = b3 <;> simp [go_sem, Op.eqFields, S_toList, h0, h1, h2, h3]⟩
theorem V_aneq_8 {fs : List (Nat × Value)} {E : Env} {L : List Res} {o : Oper} {x y : Operand} {u : TypeId} {a0 : Int} {a1 : Int} {a2 : Bool} {a3 : Int} {b0 : Int} {b1 : Int} {b2 : Bool} {b3 : Int} (ho : o.op = .binOp .neq 8 x y u) (hx : ev fs x = some (.agg #[.int .i64 a0, .int .i64 a1, .bool a2, .int .u8 a3])) (hy : ev fs y = some (.agg #[.int .i64 b0, .int .i64 b1, .bool b2, .int .u8 b3])) : Val Try.prog o fs E L (.bool (decide (¬ (a0 = b0 ∧ a1 = b1 ∧ a2 = b2 ∧ a3 = b3)))) :=
  V_bin ho hx hy fun w => ⟨by simp [go_sem], by
    by_cases h0 : a0 = b0 <;> by_cases h1 : a1 = b1 <;> by_cases h2 : a2 = b2 <;> by_cases h3 : a3 = b3 <;> simp [go_sem, Op.eqFields, S_toList, h0, h1, h2, h3]⟩
theorem V_aeql_98 {fs : List (Nat × Value)} {E : Env} {L : List Res} {o : Oper} {x y : Operand} {u : TypeId} {a0 : Int} {a1 : Int} {b0 : Int} {b1 : Int} (ho : o.op = .binOp .eql 98 x y u) (hx : ev fs x = some (.agg #[.int .i64 a0, .int .i64 a1])) (hy : ev fs y = some (.agg #[.int .i64 b0, .int .i64 b1])) : Val Try.prog o fs E L (.bool (decide (a0 = b0 ∧ a1 = b1))) :=
  V_bin ho hx hy fun w => ⟨by simp [go_sem], by
    by_cases h0 : a0 = b0 <;> by_cases h1 : a1 = b1 <;> simp [go_sem, Op.eqFields, S_toList, h0, h1]⟩
theorem V_aneq_98 {fs : List (Nat × Value)} {E : Env} {L : List Res} {o : Oper} {x y : Operand} {u : TypeId} {a0 : Int} {a1 : Int} {b0 : Int} {b1 : Int} (ho : o.op = .binOp .neq 98 x y u) (hx : ev fs x = some (.agg #[.int .i64 a0, .int .i64 a1])) (hy : ev fs y = some (.agg #[.int .i64 b0, .int .i64 b1])) : Val Try.prog o fs E L (.bool (decide (¬ (a0 = b0 ∧ a1 = b1)))) :=
  V_bin ho hx hy fun w => ⟨by simp [go_sem], by
    by_cases h0 : a0 = b0 <;> by_cases h1 : a1 = b1 <;> simp [go_sem, Op.eqFields, S_toList, h0, h1]⟩
theorem V_aeql_99 {fs : List (Nat × Value)} {E : Env} {L : List Res} {o : Oper} {x y : Operand} {u : TypeId} {a0 : Int} {a1 : Int} {b0 : Int} {b1 : Int} (ho : o.op = .binOp .eql 99 x y u) (hx : ev fs x = some (.agg #[.int .i64 a0, .int .i64 a1])) (hy : ev fs y = some (.agg #[.int .i64 b0, .int .i64 b1])) : Val Try.prog o fs E L (.bool (decide (a0 = b0 ∧ a1 = b1))) :=
  V_bin ho hx hy fun w => ⟨by simp [go_sem], by
    by_cases h0 : a0 = b0 <;> by_cases h1 : a1 = b1 <;> simp [go_sem, Op.eqFields, S_toList, h0, h1]⟩
theorem V_aneq_99 {fs : List (Nat × Value)} {E : Env} {L : List Res} {o : Oper} {x y : Operand} {u : TypeId} {a0 : Int} {a1 : Int} {b0 : Int} {b1 : Int} (ho : o.op = .binOp .neq 99 x y u) (hx : ev fs x = some (.agg #[.int .i64 a0, .int .i64 a1])) (hy : ev fs y = some (.agg #[.int .i64 b0, .int .i64 b1])) : Val Try.prog o fs E L (.bool (decide (¬ (a0 = b0 ∧ a1 = b1)))) :=
  V_bin ho hx hy fun w => ⟨by simp [go_sem], by
    by_cases h0 : a0 = b0 <;> by_cases h1 : a1 = b1 <;> simp [go_sem, Op.eqFields, S_toList, h0, h1]⟩
theorem mixed : Try.prog.follows .mixedOrders = true := by kernel_rfl
end Go.Proofs.Ytaoinojdijbhaaa
set_option linter.unusedSimpArgs false
set_option linter.unusedVariables false
set_option maxHeartbeats 2000000
set_option maxRecDepth 20000
namespace Go.Proofs.Ytaoinojdijbhaaa
open Go.RowKit

/-! The kit's small functions: lists of numbers and of strings. -/
def i64s (l : List Int) : List Value := l.map fun n => .int .i64 n
theorem i64s_get {l : List Int} {k : Nat} {n : Int} (h : l[k]? = some n) : (i64s l)[k]? = some (.int .i64 n) := by simp [i64s, h]
def strs (l : List (List UInt8)) : List Value := l.map fun s => .string (S s)
theorem strs_get {l : List (List UInt8)} {k : Nat} {s : List UInt8} (h : l[k]? = some s) : (strs l)[k]? = some (.string (S s)) := by simp [strs, h]
theorem take_next {α : Type} {xs ys : List α} {k : Nat} (h : xs.take k = ys.take k) (hx : k < xs.length) (hy : k < ys.length) (e : xs[k] = ys[k]) : xs.take (k + 1) = ys.take (k + 1) := by
  rw [List.take_succ_eq_append_getElem hx, List.take_succ_eq_append_getElem hy, h, e]
def unI : List Value → Option (List Int)
  | [] => some []
  | .int .i64 n :: l => (unI l).map (n :: ·)
  | _ :: _ => none
theorem unI_eq : ∀ (vs : List Value) (xs : List Int), unI vs = some xs → vs = i64s xs := by
  intro vs
  induction vs with
  | nil => intro xs h; simp only [unI, Option.some.injEq] at h; subst h; rfl
  | cons v vs ih =>
    intro xs h
    unfold unI at h
    split at h
    · rename_i h0; cases h0
    · rename_i n l h0
      cases h0
      simp only [Option.map_eq_some_iff] at h
      obtain ⟨ys, h1, rfl⟩ := h
      rw [ih ys h1]; rfl
    · cases h
theorem SlE.toI {E : Env} {p : Option Addr} {n : Nat} {vs : List Value} {xs : List Int} (h : SlE E 1 p n vs) (hx : unI vs = some xs) : SlE E 1 p n (i64s xs) := by rw [← unI_eq vs xs hx]; exact h
def unS : List Value → Option (List (List UInt8))
  | [] => some []
  | .string s :: l => (unS l).map (s.data.toList :: ·)
  | _ :: _ => none
theorem unS_eq : ∀ (vs : List Value) (xs : List (List UInt8)), unS vs = some xs → vs = strs xs := by
  intro vs
  induction vs with
  | nil => intro xs h; simp only [unS, Option.some.injEq] at h; subst h; rfl
  | cons v vs ih =>
    intro xs h
    unfold unS at h
    split at h
    · rename_i h0; cases h0
    · rename_i n l h0
      cases h0
      simp only [Option.map_eq_some_iff] at h
      obtain ⟨ys, h1, rfl⟩ := h
      rw [ih ys h1]; rfl
    · cases h
theorem SlE.toS {E : Env} {p : Option Addr} {n : Nat} {vs : List Value} {xs : List (List UInt8)} (h : SlE E 1 p n vs) (hx : unS vs = some xs) : SlE E 1 p n (strs xs) := by rw [← unS_eq vs xs hx]; exact h
theorem SlE.nI {E : Env} {p : Option Addr} {n : Nat} {xs : List Int} (h : SlE E 1 p n (i64s xs)) : n = xs.length := by have := h.1; simp [i64s] at this; exact this.symm
theorem SlE.nS {E : Env} {p : Option Addr} {n : Nat} {xs : List (List UInt8)} (h : SlE E 1 p n (strs xs)) : n = xs.length := by have := h.1; simp [strs] at this; exact this.symm
theorem i64s_one (l : List Int) : ∀ v, v ∈ i64s l → v.oneCell' = true := by
  intro v hv
  simp only [i64s, List.mem_map] at hv
  obtain ⟨_, _, rfl⟩ := hv
  rfl
theorem strs_one (l : List (List UInt8)) : ∀ v, v ∈ strs l → v.oneCell' = true := by
  intro v hv
  simp only [strs, List.mem_map] at hv
  obtain ⟨_, _, rfl⟩ := hv
  rfl
theorem Mod_call (E : Env) (L : List Res) (a m : Int) (ha : -9223372036854775808 ≤ a ∧ a ≤ 9223372036854775807) (hm : -9223372036854775808 ≤ m ∧ m ≤ 9223372036854775807) :
    CallV Try.prog 19 #[.int .i64 a, .int .i64 m] E L (.int .i64 (if m < 1 then 0 else a % m)) := by
  refine CallS.toV (CallS.intro (l := [.int .i64 a, .int .i64 m]) _ Try.func19 rfl Try.ntmps19 rfl ?_)
  by_cases h : m < 1
  · refine G_seq ?_
    refine G_region ?_
    refine G_val (V_assign rfl rfl) rfl rfl (.none rfl) ?_
    refine G_end (X_then (G_seq (G_seq (G_region ?_))))
    refine G_val (V_move rfl rfl) rfl rfl (.none rfl) ?_
    refine G_val (V_lss rfl rfl rfl) rfl rfl (.none rfl) ?_
    refine G_end (X_then ?_)
    refine G_cond_t rfl (decide_eq_true (by omega)) ?_
    refine G_seq (G_region ?_)
    refine G_val (V_assign rfl rfl) rfl rfl (.none rfl) ?_
    refine G_end (X_then (G_ret (X_then_ret ?_)))
    refine G_leaveS (.nil _) (by exact (.cons (.tmp rfl) (.nil))) rfl ?_ ?_
    · exact (.refl _)
    exact ⟨(by (simp (discharger := omega) only [resVal, if_pos, if_neg]; first | done | rfl)), (by rfl)⟩
  have e1 : a.tmod m = if a % m = 0 then 0 else if 0 ≤ a then a % m else a % m - m := by
    rw [Int.tmod_eq_emod]
    have hp : (m : Int).natAbs = m := by omega
    split
    · rename_i h1
      rcases h1 with h1 | h1
      · simp [h1]
      · have := Int.emod_eq_zero_of_dvd h1; simp [this]
    · rename_i h1
      have h0 : ¬ 0 ≤ a := fun h2 => h1 (.inl h2)
      have h2 : a % m ≠ 0 := fun h3 => h1 (.inr (Int.dvd_of_emod_eq_zero h3))
      rw [if_neg h2, if_neg h0, hp]
  have h1 := Int.emod_nonneg a (b := m) (by omega)
  have h2 := Int.emod_lt_of_pos a (b := m) (by omega)
  by_cases h3 : a % m = 0
  · rw [if_pos h3] at e1
    refine G.spell 0 (.int .i64 a) rfl rfl ?_
    refine G_seq (G_region ?_)
    refine G_val (V_assign rfl rfl) rfl rfl (.none rfl) ?_
    refine G_end (X_then (G_seq (G_seq (G_region ?_))))
    refine G_val (V_move rfl rfl) rfl rfl (.none rfl) ?_
    refine G_val (V_lss rfl rfl rfl) rfl rfl (.none rfl) ?_
    refine G_end (X_then ?_)
    refine G_cond_f rfl (decide_eq_false (by omega)) ?_
    refine G_skip (X_then (G_seq (G_region ?_)))
    refine G_val (V_move rfl rfl) rfl rfl (.none rfl) ?_
    refine G_val (V_move rfl rfl) rfl rfl (.none rfl) ?_
    refine G_val (V_rem rfl rfl rfl (by omega)) rfl rfl (.none rfl) ?_
    refine G_val (V_assign rfl rfl) rfl rfl (.none rfl) ?_
    refine G_end (X_then (G_seq (G_seq (G_region ?_))))
    refine G_val (V_move rfl rfl) rfl rfl (.none rfl) ?_
    refine G_val (V_lss rfl rfl rfl) rfl rfl (.none rfl) ?_
    refine G_end (X_then ?_)
    refine G_cond_f rfl (decide_eq_false (by omega)) ?_
    refine G_skip (X_then (G_seq (G_region ?_)))
    refine G_val (V_move rfl rfl) rfl rfl (.none rfl) ?_
    refine G_val (V_assign rfl rfl) rfl rfl (.none rfl) ?_
    refine G_end (X_then (G_ret ?_))
    refine G_leaveS (.nil _) (by exact (.cons (.tmp rfl) (.nil))) rfl ?_ ?_
    · exact (.refl _)
    exact ⟨(by (simp [resVal, *]; done)), (by rfl)⟩
  · rw [if_neg h3] at e1
    rw [if_neg h]
    by_cases h4 : 0 ≤ a
    · rw [if_pos h4] at e1
      refine G_seq (G_region ?_)
      refine G_val (V_assign rfl rfl) rfl rfl (.none rfl) ?_
      refine G_end (X_then (G_seq (G_seq (G_region ?_))))
      refine G_val (V_move rfl rfl) rfl rfl (.none rfl) ?_
      refine G_val (V_lss rfl rfl rfl) rfl rfl (.none rfl) ?_
      refine G_end (X_then ?_)
      refine G_cond_f rfl (decide_eq_false (by omega)) ?_
      refine G_skip (X_then (G_seq (G_region ?_)))
      refine G_val (V_move rfl rfl) rfl rfl (.none rfl) ?_
      refine G_val (V_move rfl rfl) rfl rfl (.none rfl) ?_
      refine G_val (V_rem_n rfl rfl rfl (by omega) (by omega)) rfl rfl (.none rfl) ?_
      refine G_val (V_assign rfl rfl) rfl rfl (.none rfl) ?_
      refine G_end (X_then (G_seq (G_seq (G_region ?_))))
      refine G_val (V_move rfl rfl) rfl rfl (.none rfl) ?_
      refine G_val (V_lss rfl rfl rfl) rfl rfl (.none rfl) ?_
      refine G_end (X_then ?_)
      refine G_cond_f rfl (decide_eq_false (by omega)) ?_
      refine G_skip (X_then (G_seq (G_region ?_)))
      refine G_val (V_move rfl rfl) rfl rfl (.none rfl) ?_
      refine G_val (V_assign rfl rfl) rfl rfl (.none rfl) ?_
      refine G_end (X_then (G_ret ?_))
      refine G_leaveS (.nil _) (by exact (.cons (.tmp rfl) (.nil))) rfl ?_ ?_
      · exact (.refl _)
      exact ⟨rfl, rfl⟩
    · rw [if_neg h4] at e1
      rw [show a % m = a.tmod m + m by omega]
      refine G_seq (G_region ?_)
      refine G_val (V_assign rfl rfl) rfl rfl (.none rfl) ?_
      refine G_end (X_then (G_seq (G_seq (G_region ?_))))
      refine G_val (V_move rfl rfl) rfl rfl (.none rfl) ?_
      refine G_val (V_lss rfl rfl rfl) rfl rfl (.none rfl) ?_
      refine G_end (X_then ?_)
      refine G_cond_f rfl (decide_eq_false (by omega)) ?_
      refine G_skip (X_then (G_seq (G_region ?_)))
      refine G_val (V_move rfl rfl) rfl rfl (.none rfl) ?_
      refine G_val (V_move rfl rfl) rfl rfl (.none rfl) ?_
      refine G_val (V_rem rfl rfl rfl (by omega)) rfl rfl (.none rfl) ?_
      refine G_val (V_assign rfl rfl) rfl rfl (.none rfl) ?_
      refine G_end (X_then (G_seq (G_seq (G_region ?_))))
      refine G_val (V_move rfl rfl) rfl rfl (.none rfl) ?_
      refine G_val (V_lss rfl rfl rfl) rfl rfl (.none rfl) ?_
      refine G_end (X_then ?_)
      refine G_cond_t rfl (decide_eq_true (by omega)) ?_
      refine G_region ?_
      refine G_val (V_move rfl rfl) rfl rfl (.none rfl) ?_
      refine G_val (V_move rfl rfl) rfl rfl (.none rfl) ?_
      refine G_val (V_add_i64 rfl rfl rfl (by omega) (by omega)) rfl rfl (.none rfl) ?_
      refine G_val (V_assign rfl rfl) rfl rfl (.none rfl) ?_
      refine G_end (X_then (G_seq (G_region ?_)))
      refine G_val (V_move rfl rfl) rfl rfl (.none rfl) ?_
      refine G_val (V_assign rfl rfl) rfl rfl (.none rfl) ?_
      refine G_end (X_then (G_ret ?_))
      refine G_leaveS (.nil _) (by exact (.cons (.tmp rfl) (.nil))) rfl ?_ ?_
      · exact (.refl _)
      exact ⟨rfl, rfl⟩
theorem Mod_call' (E : Env) (L : List Res) (a m : Int) (ha : -9223372036854775808 ≤ a ∧ a ≤ 9223372036854775807) (hm : 1 ≤ m ∧ m ≤ 9223372036854775807) :
    CallV Try.prog 19 #[.int .i64 a, .int .i64 m] E L (.int .i64 (a % m)) := by
  have h := Mod_call E L a m ha ⟨by omega, hm.2⟩
  rwa [if_neg (by omega)] at h
theorem Short_call (E : Env) (L : List Res) (p : Option Addr) (c : Nat) (l : List (List UInt8)) (hl : SlE E 1 p l.length (strs l)) (hn : l.length ≤ 9223372036854775807) (m : Int) :
    CallV Try.prog 72 #[.slice p l.length c, .int .i64 m] E L (.bool (l.all fun s => decide ((s.length : Int) ≤ m))) := by
  refine CallS.toV (CallS.intro (l := [.slice p l.length c, .int .i64 m]) _ Try.func72 rfl Try.ntmps72 rfl ?_)
  refine G_seq (G_region ?_)
  refine G_val (V_assign rfl rfl) rfl rfl (.none rfl) ?_
  refine G_end (X_then (G_seq (G_seq (G_region ?_))))
  refine G_val (V_assign rfl rfl) rfl rfl (.none rfl) ?_
  refine G_end (X_then (G_block ?_))
  refine G_loop (α := Nat) (fun k => [(0, .slice p l.length c), (1, .int .i64 m), (5, .int .i64 k)]) (fun _ => E) (fun _ => L)
    (fun k => k ≤ l.length ∧ ∀ s, s ∈ l.take k → (s.length : Int) ≤ m) (fun k => l.length - k) 0 ⟨Nat.zero_le _, by simp⟩ ⟨rfl, rfl, rfl, trivial⟩ rfl rfl ?_
  rintro k ⟨hk, hall⟩
  by_cases hlt : k < l.length
  · have hx := strs_get (List.getElem?_eq_getElem hlt)
    by_cases hle : (l[k].length : Int) ≤ m
    · refine G_seq ?_
      refine G_seq (G_region ?_)
      refine G_val (V_move rfl rfl) rfl rfl (.none rfl) ?_
      refine G_val (V_move rfl rfl) rfl rfl (.none rfl) ?_
      refine G_val (V_lenS rfl rfl) rfl rfl (.none rfl) ?_
      refine G_val (V_lss rfl rfl rfl) rfl rfl (.none rfl) ?_
      refine G_end (X_then ?_)
      refine G_cond_t rfl (decide_eq_true (by omega)) ?_
      refine G_skip (X_then (G_seq (G_block (G_seq (G_region ?_)))))
      refine G_val (V_move rfl rfl) rfl rfl (.none rfl) ?_
      refine G_val (V_move rfl rfl) rfl rfl (.none rfl) ?_
      refine G_val (V_idxAddr rfl rfl rfl (SlE.rd (by assumption)) (by omega) (by omega)) rfl rfl (.none rfl) ?_
      refine G_val (V_loadS rfl rfl (SlE.rd (by assumption)) (by assumption) (by simp)) rfl rfl (.none rfl) ?_
      refine G_val (V_len rfl rfl) rfl rfl (.none rfl) ?_
      refine G_val (V_move rfl rfl) rfl rfl (.none rfl) ?_
      refine G_val (V_gtr rfl rfl rfl) rfl rfl (.none rfl) ?_
      refine G_end (X_then ?_)
      refine G_cond_f rfl (decide_eq_false (by omega)) ?_
      refine G_skip (X_block (X_then (G_region ?_)))
      refine G_val (V_move rfl rfl) rfl rfl (.none rfl) ?_
      refine G_val (V_add_i64 rfl rfl rfl (by omega) (by omega)) rfl rfl (.none rfl) ?_
      refine G_val (V_assign rfl rfl) rfl rfl (.none rfl) ?_
      refine G_end (X_then ?_)
      exact G_again (k + 1) ⟨hlt, by rw [List.take_succ_eq_append_getElem hlt]; intro s hs; rcases List.mem_append.1 hs with h | h; exact hall s h; simp only [List.mem_singleton] at h; subst h; exact hle⟩ (by omega) ⟨rfl, rfl, rfl, trivial⟩ rfl rfl
    · have : (l.all fun s => decide ((s.length : Int) ≤ m)) = false := by
        rw [List.all_eq_false]; exact ⟨l[k], List.getElem_mem hlt, by simpa using hle⟩
      rw [this]
      refine G_seq (G_seq (G_region ?_))
      refine G_val (V_move rfl rfl) rfl rfl (.none rfl) ?_
      refine G_val (V_move rfl rfl) rfl rfl (.none rfl) ?_
      refine G_val (V_lenS rfl rfl) rfl rfl (.none rfl) ?_
      refine G_val (V_lss rfl rfl rfl) rfl rfl (.none rfl) ?_
      refine G_end (X_then ?_)
      refine G_cond_t rfl (decide_eq_true (by omega)) ?_
      refine G_skip (X_then (G_seq (G_block (G_seq (G_region ?_)))))
      refine G_val (V_move rfl rfl) rfl rfl (.none rfl) ?_
      refine G_val (V_move rfl rfl) rfl rfl (.none rfl) ?_
      refine G_val (V_idxAddr rfl rfl rfl (SlE.rd (by assumption)) (by omega) (by omega)) rfl rfl (.none rfl) ?_
      refine G_val (V_loadS rfl rfl (SlE.rd (by assumption)) (by assumption) (by simp)) rfl rfl (.none rfl) ?_
      refine G_val (V_len rfl rfl) rfl rfl (.none rfl) ?_
      refine G_val (V_move rfl rfl) rfl rfl (.none rfl) ?_
      refine G_val (V_gtr rfl rfl rfl) rfl rfl (.none rfl) ?_
      refine G_end (X_then ?_)
      refine G_cond_t rfl (decide_eq_true (by omega)) ?_
      refine G_seq (G_region ?_)
      refine G_val (V_assign rfl rfl) rfl rfl (.none rfl) ?_
      refine G_end (X_then (G_ret (X_block_ret (X_then_ret (X_then_ret (X_block_ret (X_then_ret ?_)))))))
      refine G_leaveS (.nil _) (by exact (.cons (.tmp rfl) (.nil))) rfl ?_ ?_
      · exact (.refl _)
      exact ⟨(by kernel_rfl), rfl⟩
  · have : (l.all fun s => decide ((s.length : Int) ≤ m)) = true := by
      rw [List.all_eq_true]; intro s hs; rw [List.take_of_length_le (by omega)] at hall; simpa using hall s hs
    rw [this]
    refine G_seq (G_seq (G_region ?_))
    refine G_val (V_move rfl rfl) rfl rfl (.none rfl) ?_
    refine G_val (V_move rfl rfl) rfl rfl (.none rfl) ?_
    refine G_val (V_lenS rfl rfl) rfl rfl (.none rfl) ?_
    refine G_val (V_lss rfl rfl rfl) rfl rfl (.none rfl) ?_
    refine G_end (X_then ?_)
    refine G_cond_f rfl (decide_eq_false (by omega)) ?_
    refine G_exit (X_then_exit (X_then_exit (X_block_hit (X_then (G_seq (G_region ?_))))))
    refine G_val (V_assign rfl rfl) rfl rfl (.none rfl) ?_
    refine G_end (X_then (G_ret ?_))
    refine G_leaveS (.nil _) (by exact (.cons (.tmp rfl) (.nil))) rfl ?_ ?_
    · exact (.refl _)
    exact ⟨(by kernel_rfl), rfl⟩
theorem SameInts_call (E : Env) (L : List Res) (p q : Option Addr) (c d : Nat) (xs ys : List Int) (hx : SlE E 1 p xs.length (i64s xs)) (hy : SlE E 1 q ys.length (i64s ys)) (hn : xs.length ≤ 9223372036854775806) (hm : ys.length ≤ 9223372036854775806) :
    CallV Try.prog 27 #[.slice p xs.length c, .slice q ys.length d] E L (.bool (decide (xs = ys))) := by
  refine CallS.toV (CallS.intro (l := [.slice p xs.length c, .slice q ys.length d]) _ Try.func27 rfl Try.ntmps27 rfl ?_)
  by_cases hlen : xs.length ≠ ys.length
  · have hne : xs ≠ ys := fun h => hlen (congrArg List.length h)
    refine G_seq (G_region ?_)
    refine G_val (V_assign rfl rfl) rfl rfl (.none rfl) ?_
    refine G_end (X_then (G_seq (G_seq (G_region ?_))))
    refine G_val (V_move rfl rfl) rfl rfl (.none rfl) ?_
    refine G_val (V_lenS rfl rfl) rfl rfl (.none rfl) ?_
    refine G_val (V_move rfl rfl) rfl rfl (.none rfl) ?_
    refine G_val (V_lenS rfl rfl) rfl rfl (.none rfl) ?_
    refine G_val (V_neq rfl rfl rfl) rfl rfl (.none rfl) ?_
    refine G_end (X_then ?_)
    refine G_cond_t rfl (decide_eq_true (by omega)) ?_
    refine G_seq (G_region ?_)
    refine G_val (V_assign rfl rfl) rfl rfl (.none rfl) ?_
    refine G_end (X_then (G_ret (X_then_ret ?_)))
    refine G_leaveS (.nil _) (by exact (.cons (.tmp rfl) (.nil))) rfl ?_ ?_
    · exact (.refl _)
    exact ⟨(by (simp [resVal, *]; done)), (by rfl)⟩
  refine G_seq (G_region ?_)
  refine G_val (V_assign rfl rfl) rfl rfl (.none rfl) ?_
  refine G_end (X_then (G_seq (G_seq (G_region ?_))))
  refine G_val (V_move rfl rfl) rfl rfl (.none rfl) ?_
  refine G_val (V_lenS rfl rfl) rfl rfl (.none rfl) ?_
  refine G_val (V_move rfl rfl) rfl rfl (.none rfl) ?_
  refine G_val (V_lenS rfl rfl) rfl rfl (.none rfl) ?_
  refine G_val (V_neq rfl rfl rfl) rfl rfl (.none rfl) ?_
  refine G_end (X_then ?_)
  refine G_cond_f rfl (decide_eq_false (by omega)) ?_
  refine G_skip (X_then (G_seq (G_seq (G_region ?_))))
  refine G_val (V_assign rfl rfl) rfl rfl (.none rfl) ?_
  refine G_end (X_then (G_block ?_))
  refine G_loop (α := Nat) (fun k => [(0, .slice p xs.length c), (1, .slice q ys.length d), (5, .int .i64 k)]) (fun _ => E) (fun _ => L)
    (fun k => k ≤ xs.length ∧ xs.take k = ys.take k) (fun k => xs.length - k) 0 ⟨Nat.zero_le _, by simp⟩ ⟨rfl, rfl, rfl, trivial⟩ rfl rfl ?_
  rintro k ⟨hk, hall⟩
  by_cases hlt : k < xs.length
  · have hlt' : k < ys.length := by omega
    have h1 := i64s_get (List.getElem?_eq_getElem hlt)
    have h2 := i64s_get (List.getElem?_eq_getElem hlt')
    by_cases he : xs[k] = ys[k]
    · refine G_seq ?_
      refine G_seq (G_region ?_)
      refine G_val (V_move rfl rfl) rfl rfl (.none rfl) ?_
      refine G_val (V_move rfl rfl) rfl rfl (.none rfl) ?_
      refine G_val (V_lenS rfl rfl) rfl rfl (.none rfl) ?_
      refine G_val (V_lss rfl rfl rfl) rfl rfl (.none rfl) ?_
      refine G_end (X_then ?_)
      refine G_cond_t rfl (decide_eq_true (by omega)) ?_
      refine G_skip (X_then (G_seq (G_block (G_seq ?_))))
      refine G_draw mixed (by kernel_rfl) ?_
      refine Q_val (V_move rfl rfl) rfl rfl (.none rfl) ?_
      refine Q_val (V_move rfl rfl) rfl rfl (.none rfl) ?_
      refine Q_val (V_idxAddr rfl rfl rfl (SlE.rd (by assumption)) (by omega) (by omega)) rfl rfl (.none rfl) ?_
      refine Q_val (V_loadS rfl rfl (SlE.rd (by assumption)) (by assumption) (by simp)) rfl rfl (.none rfl) ?_
      refine Q_val (V_move rfl rfl) rfl rfl (.none rfl) ?_
      refine Q_val (V_move rfl rfl) rfl rfl (.none rfl) ?_
      refine Q_val (V_idxAddr rfl rfl rfl (SlE.rd (by assumption)) (by omega) (by omega)) rfl rfl (.none rfl) ?_
      refine Q_val (V_loadS rfl rfl (SlE.rd (by assumption)) (by assumption) (by simp)) rfl rfl (.none rfl) ?_
      refine Q_val (V_neq rfl rfl rfl) rfl rfl (.none rfl) ?_
      refine Q_end ?_
      refine X_then ?_
      refine G_cond_f rfl (decide_eq_false (by omega)) ?_
      refine G_skip (X_block (X_then (G_region ?_)))
      refine G_val (V_move rfl rfl) rfl rfl (.none rfl) ?_
      refine G_val (V_add_i64 rfl rfl rfl (by omega) (by omega)) rfl rfl (.none rfl) ?_
      refine G_val (V_assign rfl rfl) rfl rfl (.none rfl) ?_
      refine G_end (X_then ?_)
      exact G_again (k + 1) ⟨hlt, take_next hall hlt hlt' he⟩ (by omega) ⟨rfl, rfl, rfl, trivial⟩ rfl rfl
    · have hne : xs ≠ ys := fun h => he (by subst h; rfl)
      refine G_seq (G_seq (G_region ?_))
      refine G_val (V_move rfl rfl) rfl rfl (.none rfl) ?_
      refine G_val (V_move rfl rfl) rfl rfl (.none rfl) ?_
      refine G_val (V_lenS rfl rfl) rfl rfl (.none rfl) ?_
      refine G_val (V_lss rfl rfl rfl) rfl rfl (.none rfl) ?_
      refine G_end (X_then ?_)
      refine G_cond_t rfl (decide_eq_true (by omega)) ?_
      refine G_skip (X_then (G_seq (G_block (G_seq ?_))))
      refine G_draw mixed (by kernel_rfl) ?_
      refine Q_val (V_move rfl rfl) rfl rfl (.none rfl) ?_
      refine Q_val (V_move rfl rfl) rfl rfl (.none rfl) ?_
      refine Q_val (V_idxAddr rfl rfl rfl (SlE.rd (by assumption)) (by omega) (by omega)) rfl rfl (.none rfl) ?_
      refine Q_val (V_loadS rfl rfl (SlE.rd (by assumption)) (by assumption) (by simp)) rfl rfl (.none rfl) ?_
      refine Q_val (V_move rfl rfl) rfl rfl (.none rfl) ?_
      refine Q_val (V_move rfl rfl) rfl rfl (.none rfl) ?_
      refine Q_val (V_idxAddr rfl rfl rfl (SlE.rd (by assumption)) (by omega) (by omega)) rfl rfl (.none rfl) ?_
      refine Q_val (V_loadS rfl rfl (SlE.rd (by assumption)) (by assumption) (by simp)) rfl rfl (.none rfl) ?_
      refine Q_val (V_neq rfl rfl rfl) rfl rfl (.none rfl) ?_
      refine Q_end ?_
      refine X_then ?_
      refine G_cond_t rfl (decide_eq_true (by omega)) ?_
      refine G_seq (G_region ?_)
      refine G_val (V_assign rfl rfl) rfl rfl (.none rfl) ?_
      refine G_end (X_then (G_ret (X_block_ret (X_then_ret (X_then_ret (X_block_ret (X_then_ret ?_)))))))
      refine G_leaveS (.nil _) (by exact (.cons (.tmp rfl) (.nil))) rfl ?_ ?_
      · exact (.refl _)
      exact ⟨(by (simp [resVal, *]; done)), (by rfl)⟩
  · have heq : xs = ys := by rw [List.take_of_length_le (by omega), List.take_of_length_le (by omega)] at hall; exact hall
    refine G_seq (G_seq (G_region ?_))
    refine G_val (V_move rfl rfl) rfl rfl (.none rfl) ?_
    refine G_val (V_move rfl rfl) rfl rfl (.none rfl) ?_
    refine G_val (V_lenS rfl rfl) rfl rfl (.none rfl) ?_
    refine G_val (V_lss rfl rfl rfl) rfl rfl (.none rfl) ?_
    refine G_end (X_then ?_)
    refine G_cond_f rfl (decide_eq_false (by omega)) ?_
    refine G_exit (X_then_exit (X_then_exit (X_block_hit (X_then (G_seq (G_region ?_))))))
    refine G_val (V_assign rfl rfl) rfl rfl (.none rfl) ?_
    refine G_end (X_then (G_ret ?_))
    refine G_leaveS (.nil _) (by exact (.cons (.tmp rfl) (.nil))) rfl ?_ ?_
    · exact (.refl _)
    exact ⟨(by (simp [resVal, *]; done)), (by rfl)⟩
theorem SameInts_call' (E : Env) (L : List Res) (p q : Option Addr) (n m c d : Nat) (xs ys : List Int) (hx : SlE E 1 p n (i64s xs)) (hy : SlE E 1 q m (i64s ys)) (hn : n ≤ 9223372036854775806) (hm : m ≤ 9223372036854775806) :
    CallV Try.prog 27 #[.slice p n c, .slice q m d] E L (.bool (decide (xs = ys))) := by
  have e1 := hx.nI; have e2 := hy.nI; subst e1 e2; exact SameInts_call E L p q c d xs ys hx hy hn hm
theorem SameTexts_call (E : Env) (L : List Res) (p q : Option Addr) (c d : Nat) (xs ys : List (List UInt8)) (hx : SlE E 1 p xs.length (strs xs)) (hy : SlE E 1 q ys.length (strs ys)) (hn : xs.length ≤ 9223372036854775806) (hm : ys.length ≤ 9223372036854775806) :
    CallV Try.prog 79 #[.slice p xs.length c, .slice q ys.length d] E L (.bool (decide (xs = ys))) := by
  refine CallS.toV (CallS.intro (l := [.slice p xs.length c, .slice q ys.length d]) _ Try.func79 rfl Try.ntmps79 rfl ?_)
  by_cases hlen : xs.length ≠ ys.length
  · have hne : xs ≠ ys := fun h => hlen (congrArg List.length h)
    refine G_seq (G_region ?_)
    refine G_val (V_assign rfl rfl) rfl rfl (.none rfl) ?_
    refine G_end (X_then (G_seq (G_seq (G_region ?_))))
    refine G_val (V_move rfl rfl) rfl rfl (.none rfl) ?_
    refine G_val (V_lenS rfl rfl) rfl rfl (.none rfl) ?_
    refine G_val (V_move rfl rfl) rfl rfl (.none rfl) ?_
    refine G_val (V_lenS rfl rfl) rfl rfl (.none rfl) ?_
    refine G_val (V_neq rfl rfl rfl) rfl rfl (.none rfl) ?_
    refine G_end (X_then ?_)
    refine G_cond_t rfl (decide_eq_true (by omega)) ?_
    refine G_seq (G_region ?_)
    refine G_val (V_assign rfl rfl) rfl rfl (.none rfl) ?_
    refine G_end (X_then (G_ret (X_then_ret ?_)))
    refine G_leaveS (.nil _) (by exact (.cons (.tmp rfl) (.nil))) rfl ?_ ?_
    · exact (.refl _)
    exact ⟨(by (simp [resVal, *]; done)), (by rfl)⟩
  refine G_seq (G_region ?_)
  refine G_val (V_assign rfl rfl) rfl rfl (.none rfl) ?_
  refine G_end (X_then (G_seq (G_seq (G_region ?_))))
  refine G_val (V_move rfl rfl) rfl rfl (.none rfl) ?_
  refine G_val (V_lenS rfl rfl) rfl rfl (.none rfl) ?_
  refine G_val (V_move rfl rfl) rfl rfl (.none rfl) ?_
  refine G_val (V_lenS rfl rfl) rfl rfl (.none rfl) ?_
  refine G_val (V_neq rfl rfl rfl) rfl rfl (.none rfl) ?_
  refine G_end (X_then ?_)
  refine G_cond_f rfl (decide_eq_false (by omega)) ?_
  refine G_skip (X_then (G_seq (G_seq (G_region ?_))))
  refine G_val (V_assign rfl rfl) rfl rfl (.none rfl) ?_
  refine G_end (X_then (G_block ?_))
  refine G_loop (α := Nat) (fun k => [(0, .slice p xs.length c), (1, .slice q ys.length d), (5, .int .i64 k)]) (fun _ => E) (fun _ => L)
    (fun k => k ≤ xs.length ∧ xs.take k = ys.take k) (fun k => xs.length - k) 0 ⟨Nat.zero_le _, by simp⟩ ⟨rfl, rfl, rfl, trivial⟩ rfl rfl ?_
  rintro k ⟨hk, hall⟩
  by_cases hlt : k < xs.length
  · have hlt' : k < ys.length := by omega
    have h1 := strs_get (List.getElem?_eq_getElem hlt)
    have h2 := strs_get (List.getElem?_eq_getElem hlt')
    by_cases he : xs[k] = ys[k]
    · refine G_seq ?_
      refine G_seq (G_region ?_)
      refine G_val (V_move rfl rfl) rfl rfl (.none rfl) ?_
      refine G_val (V_move rfl rfl) rfl rfl (.none rfl) ?_
      refine G_val (V_lenS rfl rfl) rfl rfl (.none rfl) ?_
      refine G_val (V_lss rfl rfl rfl) rfl rfl (.none rfl) ?_
      refine G_end (X_then ?_)
      refine G_cond_t rfl (decide_eq_true (by omega)) ?_
      refine G_skip (X_then (G_seq (G_block (G_seq ?_))))
      refine G_draw mixed (by kernel_rfl) ?_
      refine Q_val (V_move rfl rfl) rfl rfl (.none rfl) ?_
      refine Q_val (V_move rfl rfl) rfl rfl (.none rfl) ?_
      refine Q_val (V_idxAddr rfl rfl rfl (SlE.rd (by assumption)) (by omega) (by omega)) rfl rfl (.none rfl) ?_
      refine Q_val (V_loadS rfl rfl (SlE.rd (by assumption)) (by assumption) (by simp)) rfl rfl (.none rfl) ?_
      refine Q_val (V_move rfl rfl) rfl rfl (.none rfl) ?_
      refine Q_val (V_move rfl rfl) rfl rfl (.none rfl) ?_
      refine Q_val (V_idxAddr rfl rfl rfl (SlE.rd (by assumption)) (by omega) (by omega)) rfl rfl (.none rfl) ?_
      refine Q_val (V_loadS rfl rfl (SlE.rd (by assumption)) (by assumption) (by simp)) rfl rfl (.none rfl) ?_
      refine Q_val (V_sneq rfl rfl rfl) rfl rfl (.none rfl) ?_
      refine Q_end ?_
      refine X_then ?_
      refine G_cond_f rfl (by simp [*]; done) ?_
      refine G_skip (X_block (X_then (G_region ?_)))
      refine G_val (V_move rfl rfl) rfl rfl (.none rfl) ?_
      refine G_val (V_add_i64 rfl rfl rfl (by omega) (by omega)) rfl rfl (.none rfl) ?_
      refine G_val (V_assign rfl rfl) rfl rfl (.none rfl) ?_
      refine G_end (X_then ?_)
      exact G_again (k + 1) ⟨hlt, take_next hall hlt hlt' he⟩ (by omega) ⟨rfl, rfl, rfl, trivial⟩ rfl rfl
    · have hne : xs ≠ ys := fun h => he (by subst h; rfl)
      refine G_seq (G_seq (G_region ?_))
      refine G_val (V_move rfl rfl) rfl rfl (.none rfl) ?_
      refine G_val (V_move rfl rfl) rfl rfl (.none rfl) ?_
      refine G_val (V_lenS rfl rfl) rfl rfl (.none rfl) ?_
      refine G_val (V_lss rfl rfl rfl) rfl rfl (.none rfl) ?_
      refine G_end (X_then ?_)
      refine G_cond_t rfl (decide_eq_true (by omega)) ?_
      refine G_skip (X_then (G_seq (G_block (G_seq ?_))))
      refine G_draw mixed (by kernel_rfl) ?_
      refine Q_val (V_move rfl rfl) rfl rfl (.none rfl) ?_
      refine Q_val (V_move rfl rfl) rfl rfl (.none rfl) ?_
      refine Q_val (V_idxAddr rfl rfl rfl (SlE.rd (by assumption)) (by omega) (by omega)) rfl rfl (.none rfl) ?_
      refine Q_val (V_loadS rfl rfl (SlE.rd (by assumption)) (by assumption) (by simp)) rfl rfl (.none rfl) ?_
      refine Q_val (V_move rfl rfl) rfl rfl (.none rfl) ?_
      refine Q_val (V_move rfl rfl) rfl rfl (.none rfl) ?_
      refine Q_val (V_idxAddr rfl rfl rfl (SlE.rd (by assumption)) (by omega) (by omega)) rfl rfl (.none rfl) ?_
      refine Q_val (V_loadS rfl rfl (SlE.rd (by assumption)) (by assumption) (by simp)) rfl rfl (.none rfl) ?_
      refine Q_val (V_sneq rfl rfl rfl) rfl rfl (.none rfl) ?_
      refine Q_end ?_
      refine X_then ?_
      refine G_cond_t rfl (decide_eq_true (by omega)) ?_
      refine G_seq (G_region ?_)
      refine G_val (V_assign rfl rfl) rfl rfl (.none rfl) ?_
      refine G_end (X_then (G_ret (X_block_ret (X_then_ret (X_then_ret (X_block_ret (X_then_ret ?_)))))))
      refine G_leaveS (.nil _) (by exact (.cons (.tmp rfl) (.nil))) rfl ?_ ?_
      · exact (.refl _)
      exact ⟨(by (simp [resVal, *]; done)), (by rfl)⟩
  · have heq : xs = ys := by rw [List.take_of_length_le (by omega), List.take_of_length_le (by omega)] at hall; exact hall
    refine G_seq (G_seq (G_region ?_))
    refine G_val (V_move rfl rfl) rfl rfl (.none rfl) ?_
    refine G_val (V_move rfl rfl) rfl rfl (.none rfl) ?_
    refine G_val (V_lenS rfl rfl) rfl rfl (.none rfl) ?_
    refine G_val (V_lss rfl rfl rfl) rfl rfl (.none rfl) ?_
    refine G_end (X_then ?_)
    refine G_cond_f rfl (decide_eq_false (by omega)) ?_
    refine G_exit (X_then_exit (X_then_exit (X_block_hit (X_then (G_seq (G_region ?_))))))
    refine G_val (V_assign rfl rfl) rfl rfl (.none rfl) ?_
    refine G_end (X_then (G_ret ?_))
    refine G_leaveS (.nil _) (by exact (.cons (.tmp rfl) (.nil))) rfl ?_ ?_
    · exact (.refl _)
    exact ⟨(by (simp [resVal, *]; done)), (by rfl)⟩
theorem SameTexts_call' (E : Env) (L : List Res) (p q : Option Addr) (n m c d : Nat) (xs ys : List (List UInt8)) (hx : SlE E 1 p n (strs xs)) (hy : SlE E 1 q m (strs ys)) (hn : n ≤ 9223372036854775806) (hm : m ≤ 9223372036854775806) :
    CallV Try.prog 79 #[.slice p n c, .slice q m d] E L (.bool (decide (xs = ys))) := by
  have e1 := hx.nS; have e2 := hy.nS; subst e1 e2; exact SameTexts_call E L p q c d xs ys hx hy hn hm
theorem OwnInts_call (E : Env) (L : List Res) (p : Option Addr) (c : Nat) (l : List Int) (hl : SlE E 1 p l.length (i64s l)) (hn : l.length ≤ 1000000000) :
    CallS Try.prog 32 #[.slice p l.length c] E L (fun r E' L' => ∃ a c', r = .slice a l.length c' ∧ SlE E' 1 a l.length (i64s l) ∧ L' = L) := by
  refine CallS.intro (l := [.slice p l.length c]) _ Try.func32 rfl Try.ntmps32 rfl ?_
  refine G_seq (G_region ?_)
  refine G_val (V_assign rfl rfl) rfl rfl (.none rfl) ?_
  refine G_end (X_then (G_seq (G_region ?_)))
  refine G_lit0 rfl rfl rfl (.none rfl) ?_
  intro b3
  refine G_val (V_move rfl rfl) rfl rfl (.none rfl) ?_
  refine G_append rfl rfl rfl (SlE.rd hl) (i64s_one l) (by omega) (by omega) rfl rfl (.none rfl) (fun _ _ => .head _ _ _) ?_
  intro a5 c5
  refine G.freeze (.head _ _) ?_
  intro E1 hE1 hok
  have hal := SlE.sl hok
  simp only [Nat.zero_add, List.nil_append] at hal ⊢
  refine G_val (V_assign rfl rfl) rfl rfl (.none rfl) ?_
  refine G_end (X_then (G_ret ?_))
  refine G_leaveS (.nil _) (by exact (.cons (.tmp rfl) (.nil))) rfl ?_ ?_
  · exact hE1
  exact ⟨_, ⟨_, ⟨rfl, ⟨(by assumption), rfl⟩⟩⟩⟩
theorem OwnTexts_call (E : Env) (L : List Res) (p : Option Addr) (c : Nat) (l : List (List UInt8)) (hl : SlE E 1 p l.length (strs l)) (hn : l.length ≤ 1000000000) :
    CallS Try.prog 71 #[.slice p l.length c] E L (fun r E' L' => ∃ a c', r = .slice a l.length c' ∧ SlE E' 1 a l.length (strs l) ∧ L' = L) := by
  refine CallS.intro (l := [.slice p l.length c]) _ Try.func71 rfl Try.ntmps71 rfl ?_
  refine G_seq (G_region ?_)
  refine G_val (V_assign rfl rfl) rfl rfl (.none rfl) ?_
  refine G_end (X_then (G_seq (G_region ?_)))
  refine G_lit0 rfl rfl rfl (.none rfl) ?_
  intro b3
  refine G_val (V_move rfl rfl) rfl rfl (.none rfl) ?_
  refine G_append rfl rfl rfl (SlE.rd hl) (strs_one l) (by omega) (by omega) rfl rfl (.none rfl) (fun _ _ => .head _ _ _) ?_
  intro a5 c5
  refine G.freeze (.head _ _) ?_
  intro E1 hE1 hok
  have hal := SlE.sl hok
  simp only [Nat.zero_add, List.nil_append] at hal ⊢
  refine G_val (V_assign rfl rfl) rfl rfl (.none rfl) ?_
  refine G_end (X_then (G_ret ?_))
  refine G_leaveS (.nil _) (by exact (.cons (.tmp rfl) (.nil))) rfl ?_ ?_
  · exact hE1
  exact ⟨_, ⟨_, ⟨rfl, ⟨(by assumption), rfl⟩⟩⟩⟩
end Go.Proofs.Ytaoinojdijbhaaa
set_option linter.unusedSimpArgs false
set_option linter.unusedVariables false
set_option maxHeartbeats 2000000
set_option maxRecDepth 20000
namespace Go.Proofs.Ytaoinojdijbhaaa
open Go.RowKit

/-! Grammars as plain data, and how they lie in memory. -/
abbrev Pr := Int × List Int
structure Gr where
  k : Int
  toks : List (List UInt8)
  sep : List UInt8
  names : List (List UInt8)
  start : Int
  prods : List Pr
/-- A production, where its right side lies. -/
abbrev Row := Option Addr × Nat × Pr
def prow (x : Row) : List Value := [.int .i64 x.2.2.1, .slice x.1 x.2.2.2.length x.2.1]
def prows (rows : List Row) : List Value := rows.flatMap prow
theorem prows_len (rows : List Row) : (prows rows).length = rows.length * 2 := by
  induction rows with
  | nil => rfl
  | cons x l ih => simp only [prows, List.flatMap_cons, List.length_append, prow, List.length_cons, List.length_nil] at *; omega
theorem prows_append (a b : List Row) : prows (a ++ b) = prows a ++ prows b := List.flatMap_append
theorem prows_drop (l : List Row) (k : Nat) : (prows l).drop (k * 2) = prows (l.drop k) := by
  induction l generalizing k with
  | nil => simp [prows]
  | cons t l ih =>
    cases k with
    | zero => simp
    | succ k =>
      have e : (k + 1) * 2 = k * 2 + 2 := by omega
      rw [e]
      show (prow t ++ prows l).drop (k * 2 + 2) = _
      rw [Nat.add_comm, ← List.drop_drop]
      simpa [prow] using ih k
theorem prows_take (l : List Row) (k : Nat) : (prows l).take (k * 2) = prows (l.take k) := by
  induction l generalizing k with
  | nil => simp [prows]
  | cons t l ih =>
    cases k with
    | zero => simp [prows]
    | succ k =>
      have e : (k + 1) * 2 = k * 2 + 1 + 1 := by omega
      rw [e]
      show (.int .i64 t.2.2.1 :: .slice t.1 t.2.2.2.length t.2.1 :: prows l : List Value).take (k * 2 + 1 + 1) = .int .i64 t.2.2.1 :: .slice t.1 t.2.2.2.length t.2.1 :: prows (l.take k)
      simp only [List.take_succ_cons, ih k]
theorem prows_get {l : List Row} {k : Nat} {x : Row} (h : l[k]? = some x) : ((prows l).drop (k * 2)).take 2 = [.int .i64 x.2.2.1, .slice x.1 x.2.2.2.length x.2.1] := by
  rw [prows_drop, List.drop_eq_getElem_cons (List.getElem?_eq_some_iff.1 h).1]
  have := (List.getElem?_eq_some_iff.1 h).2
  rw [this]
  simp [prows, prow]
theorem prows_left {l : List Row} {k : Nat} {x : Row} (h : l[k]? = some x) : (prows l)[k * 2]? = some (.int .i64 x.2.2.1) := by
  have := prows_get h
  have h2 : (((prows l).drop (k * 2)).take 2)[0]? = some (.int .i64 x.2.2.1) := by rw [this]; rfl
  simpa [List.getElem?_take, List.getElem?_drop] using h2
theorem prows_right {l : List Row} {k : Nat} {x : Row} (h : l[k]? = some x) : (prows l)[k * 2 + 1]? = some (.slice x.1 x.2.2.2.length x.2.1) := by
  have := prows_get h
  have h2 : (((prows l).drop (k * 2)).take 2)[1]? = some (.slice x.1 x.2.2.2.length x.2.1) := by rw [this]; rfl
  simpa [List.getElem?_take, List.getElem?_drop] using h2
theorem prows_one (l : List Row) : ∀ v, v ∈ prows l → v.oneCell' = true := by
  intro v hv
  simp only [prows, prow, List.mem_flatMap, List.mem_cons, List.not_mem_nil, or_false] at hv
  obtain ⟨_, _, rfl | rfl⟩ := hv <;> rfl
/-- The right sides of the rows lie in E. -/
def RowsE (E : Env) (rows : List Row) : Prop := ∀ r, r ∈ rows → SlE E 1 r.1 r.2.2.2.length (i64s r.2.2.2)
theorem RowsE.mono {E E' : Env} {rows : List Row} (h : RowsE E rows) (hE : E.Le E') : RowsE E' rows := fun r hr => (h r hr).mono hE
theorem RowsE.get {E : Env} {rows : List Row} (h : RowsE E rows) {k : Nat} {x : Row} (hx : rows[k]? = some x) : SlE E 1 x.1 x.2.2.2.length (i64s x.2.2.2) := h x (List.mem_of_getElem? hx)
def PsE (E : Env) (a : Option Addr) (n : Nat) (ps : List Pr) : Prop := ∃ rows : List Row, rows.map (·.2.2) = ps ∧ SlE E 2 a n (prows rows) ∧ RowsE E rows
theorem PsE.mono {E E' : Env} {a : Option Addr} {n : Nat} {ps : List Pr} (h : PsE E a n ps) (hE : E.Le E') : PsE E' a n ps := by
  obtain ⟨rows, h1, h2, h3⟩ := h
  exact ⟨rows, h1, h2.mono hE, h3.mono hE⟩
theorem SlE.nR {E : Env} {a : Option Addr} {n : Nat} {rows : List Row} (h : SlE E 2 a n (prows rows)) : n = rows.length := by have := h.1; rw [prows_len] at this; omega
theorem PsE.len {E : Env} {a : Option Addr} {n : Nat} {ps : List Pr} (h : PsE E a n ps) : n = ps.length := by
  obtain ⟨rows, rfl, h2, _⟩ := h
  rw [List.length_map]; exact h2.nR
/-- A grammar as a value. -/
def GrE (E : Env) (v : Value) (g : Gr) : Prop := ∃ tp tc np nc pp pc, v = .agg #[.int .i64 g.k, .slice tp g.toks.length tc, .string (S g.sep), .slice np g.names.length nc, .int .i64 g.start, .slice pp g.prods.length pc] ∧
  SlE E 1 tp g.toks.length (strs g.toks) ∧ SlE E 1 np g.names.length (strs g.names) ∧ PsE E pp g.prods.length g.prods ∧ g.toks.length ≤ tc ∧ g.names.length ≤ nc ∧ g.prods.length ≤ pc
theorem GrE.mono {E E' : Env} {v : Value} {g : Gr} (h : GrE E v g) (hE : E.Le E') : GrE E' v g := by
  obtain ⟨tp, tc, np, nc, pp, pc, h0, h1, h2, h3, h4⟩ := h
  exact ⟨tp, tc, np, nc, pp, pc, h0, h1.mono hE, h2.mono hE, h3.mono hE, h4⟩
theorem GrE.mk {E : Env} {g : Gr} {tp np pp : Option Addr} {tc nc pc : Nat} (h1 : SlE E 1 tp g.toks.length (strs g.toks)) (h2 : SlE E 1 np g.names.length (strs g.names)) (h3 : PsE E pp g.prods.length g.prods) (h4 : g.toks.length ≤ tc) (h5 : g.names.length ≤ nc) (h6 : g.prods.length ≤ pc) :
    GrE E (.agg #[.int .i64 g.k, .slice tp g.toks.length tc, .string (S g.sep), .slice np g.names.length nc, .int .i64 g.start, .slice pp g.prods.length pc]) g := ⟨tp, tc, np, nc, pp, pc, rfl, h1, h2, h3, h4, h5, h6⟩
/-- A light grammar. -/
structure Light (g : Gr) : Prop where
  t : g.toks.length ≤ 10
  n : g.names.length ≤ 10
  p : g.prods.length ≤ 30
  sep : g.sep.length ≤ 40
  ts : ∀ s, s ∈ g.toks → s.length ≤ 40
  ns : ∀ s, s ∈ g.names → s.length ≤ 40
  ps : ∀ p, p ∈ g.prods → p.2.length ≤ 8
def lightB (g : Gr) : Bool := decide (g.toks.length ≤ 10) && decide (g.names.length ≤ 10) && decide (g.prods.length ≤ 30) && decide (g.sep.length ≤ 40) && g.toks.all (fun s => decide (s.length ≤ 40)) && g.names.all (fun s => decide (s.length ≤ 40)) && g.prods.all (fun p => decide (p.2.length ≤ 8))
theorem lightB_iff {g : Gr} : lightB g = true ↔ Light g := by
  simp only [lightB, Bool.and_eq_true, decide_eq_true_eq, List.all_eq_true]
  exact ⟨fun ⟨⟨⟨⟨⟨⟨h1, h2⟩, h3⟩, h4⟩, h5⟩, h6⟩, h7⟩ => ⟨h1, h2, h3, h4, h5, h6, h7⟩, fun ⟨h1, h2, h3, h4, h5, h6, h7⟩ => ⟨⟨⟨⟨⟨⟨h1, h2⟩, h3⟩, h4⟩, h5⟩, h6⟩, h7⟩⟩
end Go.Proofs.Ytaoinojdijbhaaa
namespace Go.Proofs.Ytaoinojdijbhaaa
open Go.RowKit Go.WideShapes Go.ChangeShapes
variable {H : Type} {enc : TypeId × Value → H} {P : Program} {W : World} {sp : Nat → Bool} {held : Bool}
theorem open_textsC {t e : TypeId} {fuel : Nat} {cs : List Value} {x : DataW H × List MemPlace} (ht : P.underlying t = some (.slice e)) (he : P.underlying e = some .string) (hc : P.cellsOf e = 1) (hd : DataW.trod enc P W 0 sp held fuel t cs = some x) :
    ∃ a c, ∃ xs : List (List UInt8), cs = [.slice a xs.length c] ∧ SlE (Env.of W) 1 a xs.length (xs.map fun s => .string (S s)) ∧ (∀ s, s ∈ xs → s.length ≤ 9223372036854775807) ∧ xs.length ≤ 9223372036854775807 ∧ xs.length ≤ c := by
  obtain ⟨a, c, xs, h1, h2, h3, h4, h5⟩ := open_sl (fun s : List UInt8 => [.string (S s)]) (fun s => s.length ≤ 9223372036854775807) ht (by omega)
    (fun m cs y h => by obtain ⟨s, h1, _, h3⟩ := DataW.trod_string he h; exact ⟨s.data.toList, h1, by have : s.data.toList.length = s.size := rfl; simp only [maxLen] at h3; omega⟩) (fun _ => hc.symm) hd
  rw [hc, show (xs.flatMap fun s : List UInt8 => [Value.string (S s)]) = xs.map fun s => .string (S s) from flatMap_one _ _] at h2
  exact ⟨a, c, xs, h1, h2, h3, by simp only [maxLen] at h5; omega, h4⟩
theorem open_prods {t e u v : TypeId} {fs : Array Field} {fuel : Nat} {cs : List Value} {x : DataW H × List MemPlace} (ht : P.underlying t = some (.slice e)) (he : P.underlying e = some (.struct fs)) (hu : P.underlying u = some (.int .i64)) (hv : P.underlying v = some (.slice u))
    (hf0 : (fs[0]?).map (fun f => (f.type, f.offset)) = some (u, 0)) (hf1 : (fs[1]?).map (fun f => (f.type, f.offset)) = some (v, 1)) (hc : P.cellsOf e = 2) (hcu : P.cellsOf u = 1) (hcv : P.cellsOf v = 1) (hd : DataW.trod enc P W 0 sp held fuel t cs = some x) :
    ∃ a c, ∃ xs : List Row, cs = [.slice a xs.length c] ∧ SlE (Env.of W) 2 a xs.length (prows xs) ∧ RowsE (Env.of W) xs ∧ (∀ r, r ∈ xs → (-9223372036854775808 ≤ r.2.2.1 ∧ r.2.2.1 ≤ 9223372036854775807) ∧ (∀ n, n ∈ r.2.2.2 → -9223372036854775808 ≤ n ∧ n ≤ 9223372036854775807) ∧ r.2.2.2.length ≤ 9223372036854775807) ∧ xs.length ≤ 9223372036854775807 ∧ xs.length ≤ c := by
  obtain ⟨a, c, xs, h1, h2, h3, h4, h5⟩ := open_sl prow (fun r => SlE (Env.of W) 1 r.1 r.2.2.2.length (i64s r.2.2.2) ∧ (-9223372036854775808 ≤ r.2.2.1 ∧ r.2.2.1 ≤ 9223372036854775807) ∧ (∀ n, n ∈ r.2.2.2 → -9223372036854775808 ≤ n ∧ n ≤ 9223372036854775807) ∧ r.2.2.2.length ≤ 9223372036854775807) ht (by omega)
    (fun m cs y h => by
      obtain ⟨_, _, _, _, hl, _, _⟩ := DataW.trod_struct he h
      rw [hc] at hl
      obtain ⟨v0, r0, rfl, hr0⟩ := list_cons hl
      obtain ⟨v1, r1, rfl, hr1⟩ := list_cons hr0
      obtain rfl := List.eq_nil_of_length_eq_zero hr1
      obtain ⟨n0, y0, hd0⟩ := struct_field he h 0 u 0 1 hf0 hcu
      obtain ⟨n1, y1, hd1⟩ := struct_field he h 1 v 1 1 hf1 hcv
      obtain ⟨l, e0, _, w0⟩ := DataW.trod_int hu hd0
      obtain ⟨rp, rc, r, e1, hr1, hr2, hr3, hr4⟩ := open_sl (fun n : Int => [.int .i64 n]) (fun n => (Lit.int .i64 n).wf = true) hv (by omega)
        (fun m cs y h => by obtain ⟨n, h1, _, h3⟩ := DataW.trod_int hu h; exact ⟨n, h1, h3⟩) (fun _ => hcu.symm) hd1
      rw [hcu, show (r.flatMap fun n : Int => [Value.int .i64 n]) = i64s r from flatMap_one _ _] at hr1
      refine ⟨(rp, rc, (l, r)), ?_, hr1, wf_i64 w0, fun n hn => wf_i64 (hr2 n hn), by simp only [maxLen] at hr4; show r.length ≤ _; omega⟩
      have e0' : v0 = .int .i64 l := by simpa using e0
      have e1' : v1 = .slice rp r.length rc := by simpa using e1
      rw [e0', e1']; rfl) (fun _ => hc.symm) hd
  rw [hc] at h2
  exact ⟨a, c, xs, h1, h2, fun r hr => (h3 r hr).1, fun r hr => (h3 r hr).2, by simp only [maxLen] at h5; omega, h4⟩
theorem GrE.arg {E : Env} {k start : Int} {sep : List UInt8} {toks names : List (List UInt8)} {rows : List Row} {tp np pp : Option Addr} {tc nc pc : Nat} (h1 : SlE E 1 tp toks.length (strs toks)) (h3 : SlE E 1 np names.length (strs names)) (h5 : SlE E 2 pp rows.length (prows rows)) (r5 : RowsE E rows) (g1 : toks.length ≤ tc) (g3 : names.length ≤ nc) (g5 : rows.length ≤ pc) :
    GrE E (.agg #[.int .i64 k, .slice tp toks.length tc, .string (S sep), .slice np names.length nc, .int .i64 start, .slice pp rows.length pc]) ⟨k, toks, sep, names, start, rows.map (·.2.2)⟩ :=
  ⟨tp, tc, np, nc, pp, pc, by rw [List.length_map], h1, h3, ⟨rows, rfl, by rw [List.length_map]; exact h5, r5⟩, g1, g3, by rw [List.length_map]; exact g5⟩
end Go.Proofs.Ytaoinojdijbhaaa
