/-
  What the program says of its types and functions, as instances for the layer. Written by a program of ours (inst.py).
-/
import Derived.Test.YtmkgdljgiajoiaaSep7
import Derived.Test.YtmkgdljgiajoiaaProg
set_option linter.unusedSimpArgs false
set_option linter.unusedVariables false
namespace Go.Proofs.Ytmkgdljgiajoiaa
open Go.Proofs Go.RowKit
instance ty0 : Ty Try.prog 0 (Go.TypeDesc.tuple #[]) 1 false := ⟨Try.underlying0, Try.isAgg0, Try.sizeOf0⟩
instance zero0 : Zero Try.prog 0 (Go.Value.tuple #[]) #[Go.Value.tuple #[]] := ⟨Try.zeroValue0, rfl⟩
instance ty1 : Ty Try.prog 1 (Go.TypeDesc.func #[] #[] false) 1 false := ⟨Try.underlying1, Try.isAgg1, Try.sizeOf1⟩
instance zero1 : Zero Try.prog 1 (Go.Value.nilFunc) #[Go.Value.nilFunc] := ⟨Try.zeroValue1, rfl⟩
instance ty2 : Ty Try.prog 2 (Go.TypeDesc.int Go.IntKind.i64) 1 false := ⟨Try.underlying2, Try.isAgg2, Try.sizeOf2⟩
instance zero2 : Zero Try.prog 2 (Go.Value.int Go.IntKind.i64 0) #[Go.Value.int Go.IntKind.i64 0] := ⟨Try.zeroValue2, rfl⟩
instance ty3 : Ty Try.prog 3 (Go.TypeDesc.int Go.IntKind.i64) 1 false := ⟨Try.underlying3, Try.isAgg3, Try.sizeOf3⟩
instance zero3 : Zero Try.prog 3 (Go.Value.int Go.IntKind.i64 0) #[Go.Value.int Go.IntKind.i64 0] := ⟨Try.zeroValue3, rfl⟩
instance ty4 : Ty Try.prog 4 (Go.TypeDesc.bool) 1 false := ⟨Try.underlying4, Try.isAgg4, Try.sizeOf4⟩
instance zero4 : Zero Try.prog 4 (Go.Value.bool false) #[Go.Value.bool false] := ⟨Try.zeroValue4, rfl⟩
instance ty5 : Ty Try.prog 5 (Go.TypeDesc.int Go.IntKind.u8) 1 false := ⟨Try.underlying5, Try.isAgg5, Try.sizeOf5⟩
instance zero5 : Zero Try.prog 5 (Go.Value.int Go.IntKind.u8 0) #[Go.Value.int Go.IntKind.u8 0] := ⟨Try.zeroValue5, rfl⟩
instance ty6 : Ty Try.prog 6 (Go.TypeDesc.int Go.IntKind.u8) 1 false := ⟨Try.underlying6, Try.isAgg6, Try.sizeOf6⟩
instance zero6 : Zero Try.prog 6 (Go.Value.int Go.IntKind.u8 0) #[Go.Value.int Go.IntKind.u8 0] := ⟨Try.zeroValue6, rfl⟩
instance ty7 : Ty Try.prog 7 (Go.TypeDesc.struct #[{ name := "x", type := 2, offset := 0, embedded := false, tag := "", pkgPath := "runtime", byteOffset := 0 }, { name := "y", type := 3, offset := 1, embedded := false, tag := "", pkgPath := "runtime", byteOffset := 8 }, { name := "signed", type := 4, offset := 2, embedded := false, tag := "", pkgPath := "runtime", byteOffset := 16 }, { name := "code", type := 6, offset := 3, embedded := false, tag := "", pkgPath := "runtime", byteOffset := 17 }]) 4 true := ⟨Try.underlying7, Try.isAgg7, Try.sizeOf7⟩
instance zero7 : Zero Try.prog 7 (Go.Value.agg #[Go.Value.int Go.IntKind.i64 0, Go.Value.int Go.IntKind.i64 0, Go.Value.bool false, Go.Value.int Go.IntKind.u8 0]) #[Go.Value.int Go.IntKind.i64 0, Go.Value.int Go.IntKind.i64 0, Go.Value.bool false, Go.Value.int Go.IntKind.u8 0] := ⟨Try.zeroValue7, rfl⟩
instance ty8 : Ty Try.prog 8 (Go.TypeDesc.struct #[{ name := "x", type := 2, offset := 0, embedded := false, tag := "", pkgPath := "runtime", byteOffset := 0 }, { name := "y", type := 3, offset := 1, embedded := false, tag := "", pkgPath := "runtime", byteOffset := 8 }, { name := "signed", type := 4, offset := 2, embedded := false, tag := "", pkgPath := "runtime", byteOffset := 16 }, { name := "code", type := 6, offset := 3, embedded := false, tag := "", pkgPath := "runtime", byteOffset := 17 }]) 4 true := ⟨Try.underlying8, Try.isAgg8, Try.sizeOf8⟩
instance zero8 : Zero Try.prog 8 (Go.Value.agg #[Go.Value.int Go.IntKind.i64 0, Go.Value.int Go.IntKind.i64 0, Go.Value.bool false, Go.Value.int Go.IntKind.u8 0]) #[Go.Value.int Go.IntKind.i64 0, Go.Value.int Go.IntKind.i64 0, Go.Value.bool false, Go.Value.int Go.IntKind.u8 0] := ⟨Try.zeroValue8, rfl⟩
instance ty9 : Ty Try.prog 9 (Go.TypeDesc.string) 1 false := ⟨Try.underlying9, Try.isAgg9, Try.sizeOf9⟩
instance zero9 : Zero Try.prog 9 (Go.Value.string { data := #[] }) #[Go.Value.string { data := #[] }] := ⟨Try.zeroValue9, rfl⟩
instance ty10 : Ty Try.prog 10 (Go.TypeDesc.string) 1 false := ⟨Try.underlying10, Try.isAgg10, Try.sizeOf10⟩
instance zero10 : Zero Try.prog 10 (Go.Value.string { data := #[] }) #[Go.Value.string { data := #[] }] := ⟨Try.zeroValue10, rfl⟩
instance ty11 : Ty Try.prog 11 (Go.TypeDesc.string) 1 false := ⟨Try.underlying11, Try.isAgg11, Try.sizeOf11⟩
instance zero11 : Zero Try.prog 11 (Go.Value.string { data := #[] }) #[Go.Value.string { data := #[] }] := ⟨Try.zeroValue11, rfl⟩
instance ty12 : Ty Try.prog 12 (Go.TypeDesc.int Go.IntKind.u64) 1 false := ⟨Try.underlying12, Try.isAgg12, Try.sizeOf12⟩
instance zero12 : Zero Try.prog 12 (Go.Value.int Go.IntKind.u64 0) #[Go.Value.int Go.IntKind.u64 0] := ⟨Try.zeroValue12, rfl⟩
instance ty13 : Ty Try.prog 13 (Go.TypeDesc.struct #[{ name := "msg", type := 9, offset := 0, embedded := false, tag := "", pkgPath := "runtime", byteOffset := 0 }, { name := "addr", type := 12, offset := 1, embedded := false, tag := "", pkgPath := "runtime", byteOffset := 16 }]) 2 true := ⟨Try.underlying13, Try.isAgg13, Try.sizeOf13⟩
instance zero13 : Zero Try.prog 13 (Go.Value.agg #[Go.Value.string { data := #[] }, Go.Value.int Go.IntKind.u64 0]) #[Go.Value.string { data := #[] }, Go.Value.int Go.IntKind.u64 0] := ⟨Try.zeroValue13, rfl⟩
instance ty14 : Ty Try.prog 14 (Go.TypeDesc.struct #[{ name := "msg", type := 9, offset := 0, embedded := false, tag := "", pkgPath := "runtime", byteOffset := 0 }, { name := "addr", type := 12, offset := 1, embedded := false, tag := "", pkgPath := "runtime", byteOffset := 16 }]) 2 true := ⟨Try.underlying14, Try.isAgg14, Try.sizeOf14⟩
instance zero14 : Zero Try.prog 14 (Go.Value.agg #[Go.Value.string { data := #[] }, Go.Value.int Go.IntKind.u64 0]) #[Go.Value.string { data := #[] }, Go.Value.int Go.IntKind.u64 0] := ⟨Try.zeroValue14, rfl⟩
instance ty15 : Ty Try.prog 15 (Go.TypeDesc.pointer 58) 1 false := ⟨Try.underlying15, Try.isAgg15, Try.sizeOf15⟩
instance zero15 : Zero Try.prog 15 (Go.Value.pointer none) #[Go.Value.pointer none] := ⟨Try.zeroValue15, rfl⟩
instance ty16 : Ty Try.prog 16 (Go.TypeDesc.pointer 61) 1 false := ⟨Try.underlying16, Try.isAgg16, Try.sizeOf16⟩
instance zero16 : Zero Try.prog 16 (Go.Value.pointer none) #[Go.Value.pointer none] := ⟨Try.zeroValue16, rfl⟩
instance ty17 : Ty Try.prog 17 (Go.TypeDesc.pointer 71) 1 false := ⟨Try.underlying17, Try.isAgg17, Try.sizeOf17⟩
instance zero17 : Zero Try.prog 17 (Go.Value.pointer none) #[Go.Value.pointer none] := ⟨Try.zeroValue17, rfl⟩
instance ty18 : Ty Try.prog 18 (Go.TypeDesc.struct #[{ name := "typ", type := 17, offset := 0, embedded := false, tag := "", pkgPath := "internal/runtime/maps", byteOffset := 0 }]) 1 true := ⟨Try.underlying18, Try.isAgg18, Try.sizeOf18⟩
instance zero18 : Zero Try.prog 18 (Go.Value.agg #[Go.Value.pointer none]) #[Go.Value.pointer none] := ⟨Try.zeroValue18, rfl⟩
instance ty19 : Ty Try.prog 19 (Go.TypeDesc.struct #[{ name := "typ", type := 17, offset := 0, embedded := false, tag := "", pkgPath := "internal/runtime/maps", byteOffset := 0 }]) 1 true := ⟨Try.underlying19, Try.isAgg19, Try.sizeOf19⟩
instance zero19 : Zero Try.prog 19 (Go.Value.agg #[Go.Value.pointer none]) #[Go.Value.pointer none] := ⟨Try.zeroValue19, rfl⟩
instance ty20 : Ty Try.prog 20 (Go.TypeDesc.interface #[]) 1 false := ⟨Try.underlying20, Try.isAgg20, Try.sizeOf20⟩
instance zero20 : Zero Try.prog 20 (Go.Value.nilIface) #[Go.Value.nilIface] := ⟨Try.zeroValue20, rfl⟩
instance ty21 : Ty Try.prog 21 (Go.TypeDesc.int Go.IntKind.i32) 1 false := ⟨Try.underlying21, Try.isAgg21, Try.sizeOf21⟩
instance zero21 : Zero Try.prog 21 (Go.Value.int Go.IntKind.i32 0) #[Go.Value.int Go.IntKind.i32 0] := ⟨Try.zeroValue21, rfl⟩
instance ty22 : Ty Try.prog 22 (Go.TypeDesc.int Go.IntKind.u64) 1 false := ⟨Try.underlying22, Try.isAgg22, Try.sizeOf22⟩
instance zero22 : Zero Try.prog 22 (Go.Value.int Go.IntKind.u64 0) #[Go.Value.int Go.IntKind.u64 0] := ⟨Try.zeroValue22, rfl⟩
instance ty23 : Ty Try.prog 23 (Go.TypeDesc.func #[22] #[9] false) 1 false := ⟨Try.underlying23, Try.isAgg23, Try.sizeOf23⟩
instance zero23 : Zero Try.prog 23 (Go.Value.nilFunc) #[Go.Value.nilFunc] := ⟨Try.zeroValue23, rfl⟩
instance ty24 : Ty Try.prog 24 (Go.TypeDesc.func #[22] #[3] false) 1 false := ⟨Try.underlying24, Try.isAgg24, Try.sizeOf24⟩
instance zero24 : Zero Try.prog 24 (Go.Value.nilFunc) #[Go.Value.nilFunc] := ⟨Try.zeroValue24, rfl⟩
instance ty25 : Ty Try.prog 25 (Go.TypeDesc.func #[2] #[22] false) 1 false := ⟨Try.underlying25, Try.isAgg25, Try.sizeOf25⟩
instance zero25 : Zero Try.prog 25 (Go.Value.nilFunc) #[Go.Value.nilFunc] := ⟨Try.zeroValue25, rfl⟩
instance ty26 : Ty Try.prog 26 (Go.TypeDesc.func #[22] #[2] false) 1 false := ⟨Try.underlying26, Try.isAgg26, Try.sizeOf26⟩
instance zero26 : Zero Try.prog 26 (Go.Value.nilFunc) #[Go.Value.nilFunc] := ⟨Try.zeroValue26, rfl⟩
instance ty27 : Ty Try.prog 27 (Go.TypeDesc.func #[] #[4] false) 1 false := ⟨Try.underlying27, Try.isAgg27, Try.sizeOf27⟩
instance zero27 : Zero Try.prog 27 (Go.Value.nilFunc) #[Go.Value.nilFunc] := ⟨Try.zeroValue27, rfl⟩
instance ty28 : Ty Try.prog 28 (Go.TypeDesc.func #[22, 2] #[4] false) 1 false := ⟨Try.underlying28, Try.isAgg28, Try.sizeOf28⟩
instance zero28 : Zero Try.prog 28 (Go.Value.nilFunc) #[Go.Value.nilFunc] := ⟨Try.zeroValue28, rfl⟩
instance ty29 : Ty Try.prog 29 (Go.TypeDesc.int Go.IntKind.i64) 1 false := ⟨Try.underlying29, Try.isAgg29, Try.sizeOf29⟩
instance zero29 : Zero Try.prog 29 (Go.Value.int Go.IntKind.i64 0) #[Go.Value.int Go.IntKind.i64 0] := ⟨Try.zeroValue29, rfl⟩
instance ty30 : Ty Try.prog 30 (Go.TypeDesc.struct #[{ name := "Err", type := 29, offset := 0, embedded := false, tag := "", pkgPath := "", byteOffset := 0 }, { name := "At", type := 3, offset := 1, embedded := false, tag := "", pkgPath := "", byteOffset := 8 }]) 2 true := ⟨Try.underlying30, Try.isAgg30, Try.sizeOf30⟩
instance zero30 : Zero Try.prog 30 (Go.Value.agg #[Go.Value.int Go.IntKind.i64 0, Go.Value.int Go.IntKind.i64 0]) #[Go.Value.int Go.IntKind.i64 0, Go.Value.int Go.IntKind.i64 0] := ⟨Try.zeroValue30, rfl⟩
instance ty31 : Ty Try.prog 31 (Go.TypeDesc.struct #[{ name := "Err", type := 29, offset := 0, embedded := false, tag := "", pkgPath := "", byteOffset := 0 }, { name := "At", type := 3, offset := 1, embedded := false, tag := "", pkgPath := "", byteOffset := 8 }]) 2 true := ⟨Try.underlying31, Try.isAgg31, Try.sizeOf31⟩
instance zero31 : Zero Try.prog 31 (Go.Value.agg #[Go.Value.int Go.IntKind.i64 0, Go.Value.int Go.IntKind.i64 0]) #[Go.Value.int Go.IntKind.i64 0, Go.Value.int Go.IntKind.i64 0] := ⟨Try.zeroValue31, rfl⟩
instance ty32 : Ty Try.prog 32 (Go.TypeDesc.tuple #[22, 3, 31]) 1 false := ⟨Try.underlying32, Try.isAgg32, Try.sizeOf32⟩
instance zero32 : Zero Try.prog 32 (Go.Value.tuple #[Go.Value.int Go.IntKind.u64 0, Go.Value.int Go.IntKind.i64 0, Go.Value.agg #[Go.Value.int Go.IntKind.i64 0, Go.Value.int Go.IntKind.i64 0]]) #[Go.Value.tuple #[Go.Value.int Go.IntKind.u64 0, Go.Value.int Go.IntKind.i64 0, Go.Value.agg #[Go.Value.int Go.IntKind.i64 0, Go.Value.int Go.IntKind.i64 0]]] := ⟨Try.zeroValue32, rfl⟩
instance ty33 : Ty Try.prog 33 (Go.TypeDesc.func #[9, 3] #[22, 3, 31] false) 1 false := ⟨Try.underlying33, Try.isAgg33, Try.sizeOf33⟩
instance zero33 : Zero Try.prog 33 (Go.Value.nilFunc) #[Go.Value.nilFunc] := ⟨Try.zeroValue33, rfl⟩
instance ty34 : Ty Try.prog 34 (Go.TypeDesc.tuple #[22, 31]) 1 false := ⟨Try.underlying34, Try.isAgg34, Try.sizeOf34⟩
instance zero34 : Zero Try.prog 34 (Go.Value.tuple #[Go.Value.int Go.IntKind.u64 0, Go.Value.agg #[Go.Value.int Go.IntKind.i64 0, Go.Value.int Go.IntKind.i64 0]]) #[Go.Value.tuple #[Go.Value.int Go.IntKind.u64 0, Go.Value.agg #[Go.Value.int Go.IntKind.i64 0, Go.Value.int Go.IntKind.i64 0]]] := ⟨Try.zeroValue34, rfl⟩
instance ty35 : Ty Try.prog 35 (Go.TypeDesc.func #[9] #[22, 31] false) 1 false := ⟨Try.underlying35, Try.isAgg35, Try.sizeOf35⟩
instance zero35 : Zero Try.prog 35 (Go.Value.nilFunc) #[Go.Value.nilFunc] := ⟨Try.zeroValue35, rfl⟩
instance ty36 : Ty Try.prog 36 (Go.TypeDesc.func #[9, 3, 22] #[22, 3, 31] false) 1 false := ⟨Try.underlying36, Try.isAgg36, Try.sizeOf36⟩
instance zero36 : Zero Try.prog 36 (Go.Value.nilFunc) #[Go.Value.nilFunc] := ⟨Try.zeroValue36, rfl⟩
instance ty37 : Ty Try.prog 37 (Go.TypeDesc.func #[9, 3, 22] #[4] false) 1 false := ⟨Try.underlying37, Try.isAgg37, Try.sizeOf37⟩
instance zero37 : Zero Try.prog 37 (Go.Value.nilFunc) #[Go.Value.nilFunc] := ⟨Try.zeroValue37, rfl⟩
instance ty38 : Ty Try.prog 38 (Go.TypeDesc.slice 22) 1 false := ⟨Try.underlying38, Try.isAgg38, Try.sizeOf38⟩
instance zero38 : Zero Try.prog 38 (Go.Value.slice none 0 0) #[Go.Value.slice none 0 0] := ⟨Try.zeroValue38, rfl⟩
instance ty39 : Ty Try.prog 39 (Go.TypeDesc.tuple #[38, 31]) 1 false := ⟨Try.underlying39, Try.isAgg39, Try.sizeOf39⟩
instance zero39 : Zero Try.prog 39 (Go.Value.tuple #[Go.Value.slice none 0 0, Go.Value.agg #[Go.Value.int Go.IntKind.i64 0, Go.Value.int Go.IntKind.i64 0]]) #[Go.Value.tuple #[Go.Value.slice none 0 0, Go.Value.agg #[Go.Value.int Go.IntKind.i64 0, Go.Value.int Go.IntKind.i64 0]]] := ⟨Try.zeroValue39, rfl⟩
instance ty40 : Ty Try.prog 40 (Go.TypeDesc.func #[9, 3] #[38, 31] false) 1 false := ⟨Try.underlying40, Try.isAgg40, Try.sizeOf40⟩
instance zero40 : Zero Try.prog 40 (Go.Value.nilFunc) #[Go.Value.nilFunc] := ⟨Try.zeroValue40, rfl⟩
instance ty41 : Ty Try.prog 41 (Go.TypeDesc.func #[38] #[9] false) 1 false := ⟨Try.underlying41, Try.isAgg41, Try.sizeOf41⟩
instance zero41 : Zero Try.prog 41 (Go.Value.nilFunc) #[Go.Value.nilFunc] := ⟨Try.zeroValue41, rfl⟩
instance ty42 : Ty Try.prog 42 (Go.TypeDesc.func #[38, 9, 3] #[4] false) 1 false := ⟨Try.underlying42, Try.isAgg42, Try.sizeOf42⟩
instance zero42 : Zero Try.prog 42 (Go.Value.nilFunc) #[Go.Value.nilFunc] := ⟨Try.zeroValue42, rfl⟩
instance ty43 : Ty Try.prog 43 (Go.TypeDesc.func #[9, 3, 22, 3] #[4] false) 1 false := ⟨Try.underlying43, Try.isAgg43, Try.sizeOf43⟩
instance zero43 : Zero Try.prog 43 (Go.Value.nilFunc) #[Go.Value.nilFunc] := ⟨Try.zeroValue43, rfl⟩
instance ty44 : Ty Try.prog 44 (Go.TypeDesc.func #[9, 29, 3] #[4] false) 1 false := ⟨Try.underlying44, Try.isAgg44, Try.sizeOf44⟩
instance zero44 : Zero Try.prog 44 (Go.Value.nilFunc) #[Go.Value.nilFunc] := ⟨Try.zeroValue44, rfl⟩
instance ty45 : Ty Try.prog 45 (Go.TypeDesc.int Go.IntKind.u64) 1 false := ⟨Try.underlying45, Try.isAgg45, Try.sizeOf45⟩
instance zero45 : Zero Try.prog 45 (Go.Value.int Go.IntKind.u64 0) #[Go.Value.int Go.IntKind.u64 0] := ⟨Try.zeroValue45, rfl⟩
instance ty46 : Ty Try.prog 46 (Go.TypeDesc.func #[22, 9, 9] #[4] false) 1 false := ⟨Try.underlying46, Try.isAgg46, Try.sizeOf46⟩
instance zero46 : Zero Try.prog 46 (Go.Value.nilFunc) #[Go.Value.nilFunc] := ⟨Try.zeroValue46, rfl⟩
instance ty47 : Ty Try.prog 47 (Go.TypeDesc.func #[38, 38] #[4] false) 1 false := ⟨Try.underlying47, Try.isAgg47, Try.sizeOf47⟩
instance zero47 : Zero Try.prog 47 (Go.Value.nilFunc) #[Go.Value.nilFunc] := ⟨Try.zeroValue47, rfl⟩
instance ty48 : Ty Try.prog 48 (Go.TypeDesc.func #[2] #[2] false) 1 false := ⟨Try.underlying48, Try.isAgg48, Try.sizeOf48⟩
instance zero48 : Zero Try.prog 48 (Go.Value.nilFunc) #[Go.Value.nilFunc] := ⟨Try.zeroValue48, rfl⟩
instance ty49 : Ty Try.prog 49 (Go.TypeDesc.func #[2, 2] #[4] false) 1 false := ⟨Try.underlying49, Try.isAgg49, Try.sizeOf49⟩
instance zero49 : Zero Try.prog 49 (Go.Value.nilFunc) #[Go.Value.nilFunc] := ⟨Try.zeroValue49, rfl⟩
instance ty50 : Ty Try.prog 50 (Go.TypeDesc.slice 5) 1 false := ⟨Try.underlying50, Try.isAgg50, Try.sizeOf50⟩
instance zero50 : Zero Try.prog 50 (Go.Value.slice none 0 0) #[Go.Value.slice none 0 0] := ⟨Try.zeroValue50, rfl⟩
instance ty51 : Ty Try.prog 51 (Go.TypeDesc.func #[55] #[] false) 1 false := ⟨Try.underlying51, Try.isAgg51, Try.sizeOf51⟩
instance zero51 : Zero Try.prog 51 (Go.Value.nilFunc) #[Go.Value.nilFunc] := ⟨Try.zeroValue51, rfl⟩
instance ty52 : Ty Try.prog 52 (Go.TypeDesc.func #[55] #[] false) 1 false := ⟨Try.underlying52, Try.isAgg52, Try.sizeOf52⟩
instance zero52 : Zero Try.prog 52 (Go.Value.nilFunc) #[Go.Value.nilFunc] := ⟨Try.zeroValue52, rfl⟩
instance ty53 : Ty Try.prog 53 (Go.TypeDesc.func #[22] #[52] false) 1 false := ⟨Try.underlying53, Try.isAgg53, Try.sizeOf53⟩
instance zero53 : Zero Try.prog 53 (Go.Value.nilFunc) #[Go.Value.nilFunc] := ⟨Try.zeroValue53, rfl⟩
instance ty54 : Ty Try.prog 54 (Go.TypeDesc.func #[29, 3] #[22, 3, 31] false) 1 false := ⟨Try.underlying54, Try.isAgg54, Try.sizeOf54⟩
instance zero54 : Zero Try.prog 54 (Go.Value.nilFunc) #[Go.Value.nilFunc] := ⟨Try.zeroValue54, rfl⟩
instance ty55 : Ty Try.prog 55 (Go.TypeDesc.func #[5] #[4] false) 1 false := ⟨Try.underlying55, Try.isAgg55, Try.sizeOf55⟩
instance zero55 : Zero Try.prog 55 (Go.Value.nilFunc) #[Go.Value.nilFunc] := ⟨Try.zeroValue55, rfl⟩
instance ty56 : Ty Try.prog 56 (Go.TypeDesc.func #[] #[9] false) 1 false := ⟨Try.underlying56, Try.isAgg56, Try.sizeOf56⟩
instance zero56 : Zero Try.prog 56 (Go.Value.nilFunc) #[Go.Value.nilFunc] := ⟨Try.zeroValue56, rfl⟩
instance ty57 : Ty Try.prog 57 (Go.TypeDesc.struct #[{ name := "_interface", type := 17, offset := 0, embedded := false, tag := "", pkgPath := "runtime", byteOffset := 0 }, { name := "concrete", type := 17, offset := 1, embedded := false, tag := "", pkgPath := "runtime", byteOffset := 8 }, { name := "asserted", type := 17, offset := 2, embedded := false, tag := "", pkgPath := "runtime", byteOffset := 16 }, { name := "missingMethod", type := 9, offset := 3, embedded := false, tag := "", pkgPath := "runtime", byteOffset := 24 }]) 4 true := ⟨Try.underlying57, Try.isAgg57, Try.sizeOf57⟩
instance zero57 : Zero Try.prog 57 (Go.Value.agg #[Go.Value.pointer none, Go.Value.pointer none, Go.Value.pointer none, Go.Value.string { data := #[] }]) #[Go.Value.pointer none, Go.Value.pointer none, Go.Value.pointer none, Go.Value.string { data := #[] }] := ⟨Try.zeroValue57, rfl⟩
instance ty58 : Ty Try.prog 58 (Go.TypeDesc.struct #[{ name := "_interface", type := 17, offset := 0, embedded := false, tag := "", pkgPath := "runtime", byteOffset := 0 }, { name := "concrete", type := 17, offset := 1, embedded := false, tag := "", pkgPath := "runtime", byteOffset := 8 }, { name := "asserted", type := 17, offset := 2, embedded := false, tag := "", pkgPath := "runtime", byteOffset := 16 }, { name := "missingMethod", type := 9, offset := 3, embedded := false, tag := "", pkgPath := "runtime", byteOffset := 24 }]) 4 true := ⟨Try.underlying58, Try.isAgg58, Try.sizeOf58⟩
instance zero58 : Zero Try.prog 58 (Go.Value.agg #[Go.Value.pointer none, Go.Value.pointer none, Go.Value.pointer none, Go.Value.string { data := #[] }]) #[Go.Value.pointer none, Go.Value.pointer none, Go.Value.pointer none, Go.Value.string { data := #[] }] := ⟨Try.zeroValue58, rfl⟩
instance ty59 : Ty Try.prog 59 (Go.TypeDesc.array 0 16) 0 true := ⟨Try.underlying59, Try.isAgg59, Try.sizeOf59⟩
instance zero59 : Zero Try.prog 59 (Go.Value.agg #[]) #[] := ⟨Try.zeroValue59, rfl⟩
instance ty60 : Ty Try.prog 60 (Go.TypeDesc.struct #[{ name := "_", type := 59, offset := 0, embedded := false, tag := "", pkgPath := "runtime", byteOffset := 0 }]) 0 true := ⟨Try.underlying60, Try.isAgg60, Try.sizeOf60⟩
instance zero60 : Zero Try.prog 60 (Go.Value.agg #[]) #[] := ⟨Try.zeroValue60, rfl⟩
instance ty61 : Ty Try.prog 61 (Go.TypeDesc.struct #[{ name := "_", type := 59, offset := 0, embedded := false, tag := "", pkgPath := "runtime", byteOffset := 0 }]) 0 true := ⟨Try.underlying61, Try.isAgg61, Try.sizeOf61⟩
instance zero61 : Zero Try.prog 61 (Go.Value.agg #[]) #[] := ⟨Try.zeroValue61, rfl⟩
instance ty62 : Ty Try.prog 62 (Go.TypeDesc.func #[] #[3] false) 1 false := ⟨Try.underlying62, Try.isAgg62, Try.sizeOf62⟩
instance zero62 : Zero Try.prog 62 (Go.Value.nilFunc) #[Go.Value.nilFunc] := ⟨Try.zeroValue62, rfl⟩
instance ty63 : Ty Try.prog 63 (Go.TypeDesc.int Go.IntKind.u32) 1 false := ⟨Try.underlying63, Try.isAgg63, Try.sizeOf63⟩
instance zero63 : Zero Try.prog 63 (Go.Value.int Go.IntKind.u32 0) #[Go.Value.int Go.IntKind.u32 0] := ⟨Try.zeroValue63, rfl⟩
instance ty64 : Ty Try.prog 64 (Go.TypeDesc.int Go.IntKind.u8) 1 false := ⟨Try.underlying64, Try.isAgg64, Try.sizeOf64⟩
instance zero64 : Zero Try.prog 64 (Go.Value.int Go.IntKind.u8 0) #[Go.Value.int Go.IntKind.u8 0] := ⟨Try.zeroValue64, rfl⟩
instance ty65 : Ty Try.prog 65 (Go.TypeDesc.int Go.IntKind.u8) 1 false := ⟨Try.underlying65, Try.isAgg65, Try.sizeOf65⟩
instance zero65 : Zero Try.prog 65 (Go.Value.int Go.IntKind.u8 0) #[Go.Value.int Go.IntKind.u8 0] := ⟨Try.zeroValue65, rfl⟩
instance ty66 : Ty Try.prog 66 (Go.TypeDesc.func #[72, 72] #[4] false) 1 false := ⟨Try.underlying66, Try.isAgg66, Try.sizeOf66⟩
instance zero66 : Zero Try.prog 66 (Go.Value.nilFunc) #[Go.Value.nilFunc] := ⟨Try.zeroValue66, rfl⟩
instance ty67 : Ty Try.prog 67 (Go.TypeDesc.pointer 5) 1 false := ⟨Try.underlying67, Try.isAgg67, Try.sizeOf67⟩
instance zero67 : Zero Try.prog 67 (Go.Value.pointer none) #[Go.Value.pointer none] := ⟨Try.zeroValue67, rfl⟩
instance ty68 : Ty Try.prog 68 (Go.TypeDesc.int Go.IntKind.i32) 1 false := ⟨Try.underlying68, Try.isAgg68, Try.sizeOf68⟩
instance zero68 : Zero Try.prog 68 (Go.Value.int Go.IntKind.i32 0) #[Go.Value.int Go.IntKind.i32 0] := ⟨Try.zeroValue68, rfl⟩
instance ty69 : Ty Try.prog 69 (Go.TypeDesc.int Go.IntKind.i32) 1 false := ⟨Try.underlying69, Try.isAgg69, Try.sizeOf69⟩
instance zero69 : Zero Try.prog 69 (Go.Value.int Go.IntKind.i32 0) #[Go.Value.int Go.IntKind.i32 0] := ⟨Try.zeroValue69, rfl⟩
instance ty70 : Ty Try.prog 70 (Go.TypeDesc.struct #[{ name := "Size_", type := 12, offset := 0, embedded := false, tag := "", pkgPath := "", byteOffset := 0 }, { name := "PtrBytes", type := 12, offset := 1, embedded := false, tag := "", pkgPath := "", byteOffset := 8 }, { name := "Hash", type := 63, offset := 2, embedded := false, tag := "", pkgPath := "", byteOffset := 16 }, { name := "TFlag", type := 64, offset := 3, embedded := false, tag := "", pkgPath := "", byteOffset := 20 }, { name := "Align_", type := 5, offset := 4, embedded := false, tag := "", pkgPath := "", byteOffset := 21 }, { name := "FieldAlign_", type := 5, offset := 5, embedded := false, tag := "", pkgPath := "", byteOffset := 22 }, { name := "Kind_", type := 65, offset := 6, embedded := false, tag := "", pkgPath := "", byteOffset := 23 }, { name := "Equal", type := 66, offset := 7, embedded := false, tag := "", pkgPath := "", byteOffset := 24 }, { name := "GCData", type := 67, offset := 8, embedded := false, tag := "", pkgPath := "", byteOffset := 32 }, { name := "Str", type := 68, offset := 9, embedded := false, tag := "", pkgPath := "", byteOffset := 40 }, { name := "PtrToThis", type := 69, offset := 10, embedded := false, tag := "", pkgPath := "", byteOffset := 44 }]) 11 true := ⟨Try.underlying70, Try.isAgg70, Try.sizeOf70⟩
instance zero70 : Zero Try.prog 70 (Go.Value.agg #[Go.Value.int Go.IntKind.u64 0, Go.Value.int Go.IntKind.u64 0, Go.Value.int Go.IntKind.u32 0, Go.Value.int Go.IntKind.u8 0, Go.Value.int Go.IntKind.u8 0, Go.Value.int Go.IntKind.u8 0, Go.Value.int Go.IntKind.u8 0, Go.Value.nilFunc, Go.Value.pointer none, Go.Value.int Go.IntKind.i32 0, Go.Value.int Go.IntKind.i32 0]) #[Go.Value.int Go.IntKind.u64 0, Go.Value.int Go.IntKind.u64 0, Go.Value.int Go.IntKind.u32 0, Go.Value.int Go.IntKind.u8 0, Go.Value.int Go.IntKind.u8 0, Go.Value.int Go.IntKind.u8 0, Go.Value.int Go.IntKind.u8 0, Go.Value.nilFunc, Go.Value.pointer none, Go.Value.int Go.IntKind.i32 0, Go.Value.int Go.IntKind.i32 0] := ⟨Try.zeroValue70, rfl⟩
instance ty71 : Ty Try.prog 71 (Go.TypeDesc.struct #[{ name := "Size_", type := 12, offset := 0, embedded := false, tag := "", pkgPath := "", byteOffset := 0 }, { name := "PtrBytes", type := 12, offset := 1, embedded := false, tag := "", pkgPath := "", byteOffset := 8 }, { name := "Hash", type := 63, offset := 2, embedded := false, tag := "", pkgPath := "", byteOffset := 16 }, { name := "TFlag", type := 64, offset := 3, embedded := false, tag := "", pkgPath := "", byteOffset := 20 }, { name := "Align_", type := 5, offset := 4, embedded := false, tag := "", pkgPath := "", byteOffset := 21 }, { name := "FieldAlign_", type := 5, offset := 5, embedded := false, tag := "", pkgPath := "", byteOffset := 22 }, { name := "Kind_", type := 65, offset := 6, embedded := false, tag := "", pkgPath := "", byteOffset := 23 }, { name := "Equal", type := 66, offset := 7, embedded := false, tag := "", pkgPath := "", byteOffset := 24 }, { name := "GCData", type := 67, offset := 8, embedded := false, tag := "", pkgPath := "", byteOffset := 32 }, { name := "Str", type := 68, offset := 9, embedded := false, tag := "", pkgPath := "", byteOffset := 40 }, { name := "PtrToThis", type := 69, offset := 10, embedded := false, tag := "", pkgPath := "", byteOffset := 44 }]) 11 true := ⟨Try.underlying71, Try.isAgg71, Try.sizeOf71⟩
instance zero71 : Zero Try.prog 71 (Go.Value.agg #[Go.Value.int Go.IntKind.u64 0, Go.Value.int Go.IntKind.u64 0, Go.Value.int Go.IntKind.u32 0, Go.Value.int Go.IntKind.u8 0, Go.Value.int Go.IntKind.u8 0, Go.Value.int Go.IntKind.u8 0, Go.Value.int Go.IntKind.u8 0, Go.Value.nilFunc, Go.Value.pointer none, Go.Value.int Go.IntKind.i32 0, Go.Value.int Go.IntKind.i32 0]) #[Go.Value.int Go.IntKind.u64 0, Go.Value.int Go.IntKind.u64 0, Go.Value.int Go.IntKind.u32 0, Go.Value.int Go.IntKind.u8 0, Go.Value.int Go.IntKind.u8 0, Go.Value.int Go.IntKind.u8 0, Go.Value.int Go.IntKind.u8 0, Go.Value.nilFunc, Go.Value.pointer none, Go.Value.int Go.IntKind.i32 0, Go.Value.int Go.IntKind.i32 0] := ⟨Try.zeroValue71, rfl⟩
instance ty72 : Ty Try.prog 72 (Go.TypeDesc.unsafePointer) 1 false := ⟨Try.underlying72, Try.isAgg72, Try.sizeOf72⟩
instance zero72 : Zero Try.prog 72 (Go.Value.pointer none) #[Go.Value.pointer none] := ⟨Try.zeroValue72, rfl⟩
instance ent2 : Ent Try.prog 2 := ⟨Try.call2⟩
instance ent3 : Ent Try.prog 3 := ⟨Try.call3⟩
instance ent4 : Ent Try.prog 4 := ⟨Try.call4⟩
instance ent5 : Ent Try.prog 5 := ⟨Try.call5⟩
instance ent6 : Ent Try.prog 6 := ⟨Try.call6⟩
instance ent7 : Ent Try.prog 7 := ⟨Try.call7⟩
instance ent8 : Ent Try.prog 8 := ⟨Try.call8⟩
instance ent9 : Ent Try.prog 9 := ⟨Try.call9⟩
instance ent10 : Ent Try.prog 10 := ⟨Try.call10⟩
instance ent11 : Ent Try.prog 11 := ⟨Try.call11⟩
instance ent12 : Ent Try.prog 12 := ⟨Try.call12⟩
instance ent13 : Ent Try.prog 13 := ⟨Try.call13⟩
instance ent14 : Ent Try.prog 14 := ⟨Try.call14⟩
instance ent15 : Ent Try.prog 15 := ⟨Try.call15⟩
instance ent16 : Ent Try.prog 16 := ⟨Try.call16⟩
instance ent17 : Ent Try.prog 17 := ⟨Try.call17⟩
instance ent18 : Ent Try.prog 18 := ⟨Try.call18⟩
instance ent19 : Ent Try.prog 19 := ⟨Try.call19⟩
instance ent20 : Ent Try.prog 20 := ⟨Try.call20⟩
instance ent21 : Ent Try.prog 21 := ⟨Try.call21⟩
instance ent22 : Ent Try.prog 22 := ⟨Try.call22⟩
instance ent23 : Ent Try.prog 23 := ⟨Try.call23⟩
instance ent24 : Ent Try.prog 24 := ⟨Try.call24⟩
instance ent25 : Ent Try.prog 25 := ⟨Try.call25⟩
instance ent26 : Ent Try.prog 26 := ⟨Try.call26⟩
instance ent27 : Ent Try.prog 27 := ⟨Try.call27⟩
instance ent28 : Ent Try.prog 28 := ⟨Try.call28⟩
instance ent29 : Ent Try.prog 29 := ⟨Try.call29⟩
instance ent30 : Ent Try.prog 30 := ⟨Try.call30⟩
instance ent31 : Ent Try.prog 31 := ⟨Try.call31⟩
instance ent32 : Ent Try.prog 32 := ⟨Try.call32⟩
instance ent33 : Ent Try.prog 33 := ⟨Try.call33⟩
instance ent34 : Ent Try.prog 34 := ⟨Try.call34⟩
instance ent35 : Ent Try.prog 35 := ⟨Try.call35⟩
instance places7 : Places Try.prog 7 [(0, 1), (1, 1), (2, 1), (3, 1)] := ⟨⟨_, Try.underlying7, fun w => by simp [go_sem]⟩⟩
instance fld7_0 : Fld Try.prog 7 0 0 2 := ⟨⟨_, _, Try.underlying7, rfl, rfl, rfl⟩⟩
instance fld7_1 : Fld Try.prog 7 1 1 3 := ⟨⟨_, _, Try.underlying7, rfl, rfl, rfl⟩⟩
instance fld7_2 : Fld Try.prog 7 2 2 4 := ⟨⟨_, _, Try.underlying7, rfl, rfl, rfl⟩⟩
instance fld7_3 : Fld Try.prog 7 3 3 6 := ⟨⟨_, _, Try.underlying7, rfl, rfl, rfl⟩⟩
instance places8 : Places Try.prog 8 [(0, 1), (1, 1), (2, 1), (3, 1)] := ⟨⟨_, Try.underlying8, fun w => by simp [go_sem]⟩⟩
instance fld8_0 : Fld Try.prog 8 0 0 2 := ⟨⟨_, _, Try.underlying8, rfl, rfl, rfl⟩⟩
instance fld8_1 : Fld Try.prog 8 1 1 3 := ⟨⟨_, _, Try.underlying8, rfl, rfl, rfl⟩⟩
instance fld8_2 : Fld Try.prog 8 2 2 4 := ⟨⟨_, _, Try.underlying8, rfl, rfl, rfl⟩⟩
instance fld8_3 : Fld Try.prog 8 3 3 6 := ⟨⟨_, _, Try.underlying8, rfl, rfl, rfl⟩⟩
instance places13 : Places Try.prog 13 [(0, 1), (1, 1)] := ⟨⟨_, Try.underlying13, fun w => by simp [go_sem]⟩⟩
instance fld13_0 : Fld Try.prog 13 0 0 9 := ⟨⟨_, _, Try.underlying13, rfl, rfl, rfl⟩⟩
instance fld13_1 : Fld Try.prog 13 1 1 12 := ⟨⟨_, _, Try.underlying13, rfl, rfl, rfl⟩⟩
instance places14 : Places Try.prog 14 [(0, 1), (1, 1)] := ⟨⟨_, Try.underlying14, fun w => by simp [go_sem]⟩⟩
instance fld14_0 : Fld Try.prog 14 0 0 9 := ⟨⟨_, _, Try.underlying14, rfl, rfl, rfl⟩⟩
instance fld14_1 : Fld Try.prog 14 1 1 12 := ⟨⟨_, _, Try.underlying14, rfl, rfl, rfl⟩⟩
instance places18 : Places Try.prog 18 [(0, 1)] := ⟨⟨_, Try.underlying18, fun w => by simp [go_sem]⟩⟩
instance fld18_0 : Fld Try.prog 18 0 0 17 := ⟨⟨_, _, Try.underlying18, rfl, rfl, rfl⟩⟩
instance places19 : Places Try.prog 19 [(0, 1)] := ⟨⟨_, Try.underlying19, fun w => by simp [go_sem]⟩⟩
instance fld19_0 : Fld Try.prog 19 0 0 17 := ⟨⟨_, _, Try.underlying19, rfl, rfl, rfl⟩⟩
instance places30 : Places Try.prog 30 [(0, 1), (1, 1)] := ⟨⟨_, Try.underlying30, fun w => by simp [go_sem]⟩⟩
instance fld30_0 : Fld Try.prog 30 0 0 29 := ⟨⟨_, _, Try.underlying30, rfl, rfl, rfl⟩⟩
instance fld30_1 : Fld Try.prog 30 1 1 3 := ⟨⟨_, _, Try.underlying30, rfl, rfl, rfl⟩⟩
instance places31 : Places Try.prog 31 [(0, 1), (1, 1)] := ⟨⟨_, Try.underlying31, fun w => by simp [go_sem]⟩⟩
instance fld31_0 : Fld Try.prog 31 0 0 29 := ⟨⟨_, _, Try.underlying31, rfl, rfl, rfl⟩⟩
instance fld31_1 : Fld Try.prog 31 1 1 3 := ⟨⟨_, _, Try.underlying31, rfl, rfl, rfl⟩⟩
instance places57 : Places Try.prog 57 [(0, 1), (1, 1), (2, 1), (3, 1)] := ⟨⟨_, Try.underlying57, fun w => by simp [go_sem]⟩⟩
instance fld57_0 : Fld Try.prog 57 0 0 17 := ⟨⟨_, _, Try.underlying57, rfl, rfl, rfl⟩⟩
instance fld57_1 : Fld Try.prog 57 1 1 17 := ⟨⟨_, _, Try.underlying57, rfl, rfl, rfl⟩⟩
instance fld57_2 : Fld Try.prog 57 2 2 17 := ⟨⟨_, _, Try.underlying57, rfl, rfl, rfl⟩⟩
instance fld57_3 : Fld Try.prog 57 3 3 9 := ⟨⟨_, _, Try.underlying57, rfl, rfl, rfl⟩⟩
instance places58 : Places Try.prog 58 [(0, 1), (1, 1), (2, 1), (3, 1)] := ⟨⟨_, Try.underlying58, fun w => by simp [go_sem]⟩⟩
instance fld58_0 : Fld Try.prog 58 0 0 17 := ⟨⟨_, _, Try.underlying58, rfl, rfl, rfl⟩⟩
instance fld58_1 : Fld Try.prog 58 1 1 17 := ⟨⟨_, _, Try.underlying58, rfl, rfl, rfl⟩⟩
instance fld58_2 : Fld Try.prog 58 2 2 17 := ⟨⟨_, _, Try.underlying58, rfl, rfl, rfl⟩⟩
instance fld58_3 : Fld Try.prog 58 3 3 9 := ⟨⟨_, _, Try.underlying58, rfl, rfl, rfl⟩⟩
instance places60 : Places Try.prog 60 [(0, 0)] := ⟨⟨_, Try.underlying60, fun w => by simp [go_sem]⟩⟩
instance fld60_0 : Fld Try.prog 60 0 0 59 := ⟨⟨_, _, Try.underlying60, rfl, rfl, rfl⟩⟩
instance places61 : Places Try.prog 61 [(0, 0)] := ⟨⟨_, Try.underlying61, fun w => by simp [go_sem]⟩⟩
instance fld61_0 : Fld Try.prog 61 0 0 59 := ⟨⟨_, _, Try.underlying61, rfl, rfl, rfl⟩⟩
instance places70 : Places Try.prog 70 [(0, 1), (1, 1), (2, 1), (3, 1), (4, 1), (5, 1), (6, 1), (7, 1), (8, 1), (9, 1), (10, 1)] := ⟨⟨_, Try.underlying70, fun w => by simp [go_sem]⟩⟩
instance fld70_0 : Fld Try.prog 70 0 0 12 := ⟨⟨_, _, Try.underlying70, rfl, rfl, rfl⟩⟩
instance fld70_1 : Fld Try.prog 70 1 1 12 := ⟨⟨_, _, Try.underlying70, rfl, rfl, rfl⟩⟩
instance fld70_2 : Fld Try.prog 70 2 2 63 := ⟨⟨_, _, Try.underlying70, rfl, rfl, rfl⟩⟩
instance fld70_3 : Fld Try.prog 70 3 3 64 := ⟨⟨_, _, Try.underlying70, rfl, rfl, rfl⟩⟩
instance fld70_4 : Fld Try.prog 70 4 4 5 := ⟨⟨_, _, Try.underlying70, rfl, rfl, rfl⟩⟩
instance fld70_5 : Fld Try.prog 70 5 5 5 := ⟨⟨_, _, Try.underlying70, rfl, rfl, rfl⟩⟩
instance fld70_6 : Fld Try.prog 70 6 6 65 := ⟨⟨_, _, Try.underlying70, rfl, rfl, rfl⟩⟩
instance fld70_7 : Fld Try.prog 70 7 7 66 := ⟨⟨_, _, Try.underlying70, rfl, rfl, rfl⟩⟩
instance fld70_8 : Fld Try.prog 70 8 8 67 := ⟨⟨_, _, Try.underlying70, rfl, rfl, rfl⟩⟩
instance fld70_9 : Fld Try.prog 70 9 9 68 := ⟨⟨_, _, Try.underlying70, rfl, rfl, rfl⟩⟩
instance fld70_10 : Fld Try.prog 70 10 10 69 := ⟨⟨_, _, Try.underlying70, rfl, rfl, rfl⟩⟩
instance places71 : Places Try.prog 71 [(0, 1), (1, 1), (2, 1), (3, 1), (4, 1), (5, 1), (6, 1), (7, 1), (8, 1), (9, 1), (10, 1)] := ⟨⟨_, Try.underlying71, fun w => by simp [go_sem]⟩⟩
instance fld71_0 : Fld Try.prog 71 0 0 12 := ⟨⟨_, _, Try.underlying71, rfl, rfl, rfl⟩⟩
instance fld71_1 : Fld Try.prog 71 1 1 12 := ⟨⟨_, _, Try.underlying71, rfl, rfl, rfl⟩⟩
instance fld71_2 : Fld Try.prog 71 2 2 63 := ⟨⟨_, _, Try.underlying71, rfl, rfl, rfl⟩⟩
instance fld71_3 : Fld Try.prog 71 3 3 64 := ⟨⟨_, _, Try.underlying71, rfl, rfl, rfl⟩⟩
instance fld71_4 : Fld Try.prog 71 4 4 5 := ⟨⟨_, _, Try.underlying71, rfl, rfl, rfl⟩⟩
instance fld71_5 : Fld Try.prog 71 5 5 5 := ⟨⟨_, _, Try.underlying71, rfl, rfl, rfl⟩⟩
instance fld71_6 : Fld Try.prog 71 6 6 65 := ⟨⟨_, _, Try.underlying71, rfl, rfl, rfl⟩⟩
instance fld71_7 : Fld Try.prog 71 7 7 66 := ⟨⟨_, _, Try.underlying71, rfl, rfl, rfl⟩⟩
instance fld71_8 : Fld Try.prog 71 8 8 67 := ⟨⟨_, _, Try.underlying71, rfl, rfl, rfl⟩⟩
instance fld71_9 : Fld Try.prog 71 9 9 68 := ⟨⟨_, _, Try.underlying71, rfl, rfl, rfl⟩⟩
instance fld71_10 : Fld Try.prog 71 10 10 69 := ⟨⟨_, _, Try.underlying71, rfl, rfl, rfl⟩⟩
instance inf0 : Inf Try.prog 0 (Go.Value.tuple #[]) 1 0 := ⟨⟨Try.t0, Try.type0, rfl, rfl, rfl, rfl⟩⟩
instance inf1 : Inf Try.prog 1 (Go.Value.nilFunc) 1 8 := ⟨⟨Try.t1, Try.type1, rfl, rfl, rfl, rfl⟩⟩
instance inf2 : Inf Try.prog 2 (Go.Value.int Go.IntKind.i64 0) 1 8 := ⟨⟨Try.t2, Try.type2, rfl, rfl, rfl, rfl⟩⟩
instance inf3 : Inf Try.prog 3 (Go.Value.int Go.IntKind.i64 0) 1 8 := ⟨⟨Try.t3, Try.type3, rfl, rfl, rfl, rfl⟩⟩
instance inf4 : Inf Try.prog 4 (Go.Value.bool false) 1 1 := ⟨⟨Try.t4, Try.type4, rfl, rfl, rfl, rfl⟩⟩
instance inf5 : Inf Try.prog 5 (Go.Value.int Go.IntKind.u8 0) 1 1 := ⟨⟨Try.t5, Try.type5, rfl, rfl, rfl, rfl⟩⟩
instance inf6 : Inf Try.prog 6 (Go.Value.int Go.IntKind.u8 0) 1 1 := ⟨⟨Try.t6, Try.type6, rfl, rfl, rfl, rfl⟩⟩
instance inf7 : Inf Try.prog 7 (Go.Value.agg #[Go.Value.int Go.IntKind.i64 0, Go.Value.int Go.IntKind.i64 0, Go.Value.bool false, Go.Value.int Go.IntKind.u8 0]) 4 24 := ⟨⟨Try.t7, Try.type7, rfl, rfl, rfl, rfl⟩⟩
instance inf8 : Inf Try.prog 8 (Go.Value.agg #[Go.Value.int Go.IntKind.i64 0, Go.Value.int Go.IntKind.i64 0, Go.Value.bool false, Go.Value.int Go.IntKind.u8 0]) 4 24 := ⟨⟨Try.t8, Try.type8, rfl, rfl, rfl, rfl⟩⟩
instance inf9 : Inf Try.prog 9 (Go.Value.string { data := #[] }) 1 16 := ⟨⟨Try.t9, Try.type9, rfl, rfl, rfl, rfl⟩⟩
instance inf10 : Inf Try.prog 10 (Go.Value.string { data := #[] }) 1 16 := ⟨⟨Try.t10, Try.type10, rfl, rfl, rfl, rfl⟩⟩
instance inf11 : Inf Try.prog 11 (Go.Value.string { data := #[] }) 1 16 := ⟨⟨Try.t11, Try.type11, rfl, rfl, rfl, rfl⟩⟩
instance inf12 : Inf Try.prog 12 (Go.Value.int Go.IntKind.u64 0) 1 8 := ⟨⟨Try.t12, Try.type12, rfl, rfl, rfl, rfl⟩⟩
instance inf13 : Inf Try.prog 13 (Go.Value.agg #[Go.Value.string { data := #[] }, Go.Value.int Go.IntKind.u64 0]) 2 24 := ⟨⟨Try.t13, Try.type13, rfl, rfl, rfl, rfl⟩⟩
instance inf14 : Inf Try.prog 14 (Go.Value.agg #[Go.Value.string { data := #[] }, Go.Value.int Go.IntKind.u64 0]) 2 24 := ⟨⟨Try.t14, Try.type14, rfl, rfl, rfl, rfl⟩⟩
instance inf15 : Inf Try.prog 15 (Go.Value.pointer none) 1 8 := ⟨⟨Try.t15, Try.type15, rfl, rfl, rfl, rfl⟩⟩
instance inf16 : Inf Try.prog 16 (Go.Value.pointer none) 1 8 := ⟨⟨Try.t16, Try.type16, rfl, rfl, rfl, rfl⟩⟩
instance inf17 : Inf Try.prog 17 (Go.Value.pointer none) 1 8 := ⟨⟨Try.t17, Try.type17, rfl, rfl, rfl, rfl⟩⟩
instance inf18 : Inf Try.prog 18 (Go.Value.agg #[Go.Value.pointer none]) 1 8 := ⟨⟨Try.t18, Try.type18, rfl, rfl, rfl, rfl⟩⟩
instance inf19 : Inf Try.prog 19 (Go.Value.agg #[Go.Value.pointer none]) 1 8 := ⟨⟨Try.t19, Try.type19, rfl, rfl, rfl, rfl⟩⟩
instance inf20 : Inf Try.prog 20 (Go.Value.nilIface) 1 16 := ⟨⟨Try.t20, Try.type20, rfl, rfl, rfl, rfl⟩⟩
instance inf21 : Inf Try.prog 21 (Go.Value.int Go.IntKind.i32 0) 1 4 := ⟨⟨Try.t21, Try.type21, rfl, rfl, rfl, rfl⟩⟩
instance inf22 : Inf Try.prog 22 (Go.Value.int Go.IntKind.u64 0) 1 8 := ⟨⟨Try.t22, Try.type22, rfl, rfl, rfl, rfl⟩⟩
instance inf23 : Inf Try.prog 23 (Go.Value.nilFunc) 1 8 := ⟨⟨Try.t23, Try.type23, rfl, rfl, rfl, rfl⟩⟩
instance inf24 : Inf Try.prog 24 (Go.Value.nilFunc) 1 8 := ⟨⟨Try.t24, Try.type24, rfl, rfl, rfl, rfl⟩⟩
instance inf25 : Inf Try.prog 25 (Go.Value.nilFunc) 1 8 := ⟨⟨Try.t25, Try.type25, rfl, rfl, rfl, rfl⟩⟩
instance inf26 : Inf Try.prog 26 (Go.Value.nilFunc) 1 8 := ⟨⟨Try.t26, Try.type26, rfl, rfl, rfl, rfl⟩⟩
instance inf27 : Inf Try.prog 27 (Go.Value.nilFunc) 1 8 := ⟨⟨Try.t27, Try.type27, rfl, rfl, rfl, rfl⟩⟩
instance inf28 : Inf Try.prog 28 (Go.Value.nilFunc) 1 8 := ⟨⟨Try.t28, Try.type28, rfl, rfl, rfl, rfl⟩⟩
instance inf29 : Inf Try.prog 29 (Go.Value.int Go.IntKind.i64 0) 1 8 := ⟨⟨Try.t29, Try.type29, rfl, rfl, rfl, rfl⟩⟩
instance inf30 : Inf Try.prog 30 (Go.Value.agg #[Go.Value.int Go.IntKind.i64 0, Go.Value.int Go.IntKind.i64 0]) 2 16 := ⟨⟨Try.t30, Try.type30, rfl, rfl, rfl, rfl⟩⟩
instance inf31 : Inf Try.prog 31 (Go.Value.agg #[Go.Value.int Go.IntKind.i64 0, Go.Value.int Go.IntKind.i64 0]) 2 16 := ⟨⟨Try.t31, Try.type31, rfl, rfl, rfl, rfl⟩⟩
instance inf32 : Inf Try.prog 32 (Go.Value.tuple #[Go.Value.int Go.IntKind.u64 0, Go.Value.int Go.IntKind.i64 0, Go.Value.agg #[Go.Value.int Go.IntKind.i64 0, Go.Value.int Go.IntKind.i64 0]]) 1 0 := ⟨⟨Try.t32, Try.type32, rfl, rfl, rfl, rfl⟩⟩
instance inf33 : Inf Try.prog 33 (Go.Value.nilFunc) 1 8 := ⟨⟨Try.t33, Try.type33, rfl, rfl, rfl, rfl⟩⟩
instance inf34 : Inf Try.prog 34 (Go.Value.tuple #[Go.Value.int Go.IntKind.u64 0, Go.Value.agg #[Go.Value.int Go.IntKind.i64 0, Go.Value.int Go.IntKind.i64 0]]) 1 0 := ⟨⟨Try.t34, Try.type34, rfl, rfl, rfl, rfl⟩⟩
instance inf35 : Inf Try.prog 35 (Go.Value.nilFunc) 1 8 := ⟨⟨Try.t35, Try.type35, rfl, rfl, rfl, rfl⟩⟩
instance inf36 : Inf Try.prog 36 (Go.Value.nilFunc) 1 8 := ⟨⟨Try.t36, Try.type36, rfl, rfl, rfl, rfl⟩⟩
instance inf37 : Inf Try.prog 37 (Go.Value.nilFunc) 1 8 := ⟨⟨Try.t37, Try.type37, rfl, rfl, rfl, rfl⟩⟩
instance inf38 : Inf Try.prog 38 (Go.Value.slice none 0 0) 1 24 := ⟨⟨Try.t38, Try.type38, rfl, rfl, rfl, rfl⟩⟩
instance inf39 : Inf Try.prog 39 (Go.Value.tuple #[Go.Value.slice none 0 0, Go.Value.agg #[Go.Value.int Go.IntKind.i64 0, Go.Value.int Go.IntKind.i64 0]]) 1 0 := ⟨⟨Try.t39, Try.type39, rfl, rfl, rfl, rfl⟩⟩
instance inf40 : Inf Try.prog 40 (Go.Value.nilFunc) 1 8 := ⟨⟨Try.t40, Try.type40, rfl, rfl, rfl, rfl⟩⟩
instance inf41 : Inf Try.prog 41 (Go.Value.nilFunc) 1 8 := ⟨⟨Try.t41, Try.type41, rfl, rfl, rfl, rfl⟩⟩
instance inf42 : Inf Try.prog 42 (Go.Value.nilFunc) 1 8 := ⟨⟨Try.t42, Try.type42, rfl, rfl, rfl, rfl⟩⟩
instance inf43 : Inf Try.prog 43 (Go.Value.nilFunc) 1 8 := ⟨⟨Try.t43, Try.type43, rfl, rfl, rfl, rfl⟩⟩
instance inf44 : Inf Try.prog 44 (Go.Value.nilFunc) 1 8 := ⟨⟨Try.t44, Try.type44, rfl, rfl, rfl, rfl⟩⟩
instance inf45 : Inf Try.prog 45 (Go.Value.int Go.IntKind.u64 0) 1 8 := ⟨⟨Try.t45, Try.type45, rfl, rfl, rfl, rfl⟩⟩
instance inf46 : Inf Try.prog 46 (Go.Value.nilFunc) 1 8 := ⟨⟨Try.t46, Try.type46, rfl, rfl, rfl, rfl⟩⟩
instance inf47 : Inf Try.prog 47 (Go.Value.nilFunc) 1 8 := ⟨⟨Try.t47, Try.type47, rfl, rfl, rfl, rfl⟩⟩
instance inf48 : Inf Try.prog 48 (Go.Value.nilFunc) 1 8 := ⟨⟨Try.t48, Try.type48, rfl, rfl, rfl, rfl⟩⟩
instance inf49 : Inf Try.prog 49 (Go.Value.nilFunc) 1 8 := ⟨⟨Try.t49, Try.type49, rfl, rfl, rfl, rfl⟩⟩
instance inf50 : Inf Try.prog 50 (Go.Value.slice none 0 0) 1 24 := ⟨⟨Try.t50, Try.type50, rfl, rfl, rfl, rfl⟩⟩
instance inf51 : Inf Try.prog 51 (Go.Value.nilFunc) 1 8 := ⟨⟨Try.t51, Try.type51, rfl, rfl, rfl, rfl⟩⟩
instance inf52 : Inf Try.prog 52 (Go.Value.nilFunc) 1 8 := ⟨⟨Try.t52, Try.type52, rfl, rfl, rfl, rfl⟩⟩
instance inf53 : Inf Try.prog 53 (Go.Value.nilFunc) 1 8 := ⟨⟨Try.t53, Try.type53, rfl, rfl, rfl, rfl⟩⟩
instance inf54 : Inf Try.prog 54 (Go.Value.nilFunc) 1 8 := ⟨⟨Try.t54, Try.type54, rfl, rfl, rfl, rfl⟩⟩
instance inf55 : Inf Try.prog 55 (Go.Value.nilFunc) 1 8 := ⟨⟨Try.t55, Try.type55, rfl, rfl, rfl, rfl⟩⟩
instance inf56 : Inf Try.prog 56 (Go.Value.nilFunc) 1 8 := ⟨⟨Try.t56, Try.type56, rfl, rfl, rfl, rfl⟩⟩
instance inf57 : Inf Try.prog 57 (Go.Value.agg #[Go.Value.pointer none, Go.Value.pointer none, Go.Value.pointer none, Go.Value.string { data := #[] }]) 4 40 := ⟨⟨Try.t57, Try.type57, rfl, rfl, rfl, rfl⟩⟩
instance inf58 : Inf Try.prog 58 (Go.Value.agg #[Go.Value.pointer none, Go.Value.pointer none, Go.Value.pointer none, Go.Value.string { data := #[] }]) 4 40 := ⟨⟨Try.t58, Try.type58, rfl, rfl, rfl, rfl⟩⟩
instance inf59 : Inf Try.prog 59 (Go.Value.agg #[]) 0 0 := ⟨⟨Try.t59, Try.type59, rfl, rfl, rfl, rfl⟩⟩
instance inf60 : Inf Try.prog 60 (Go.Value.agg #[]) 0 0 := ⟨⟨Try.t60, Try.type60, rfl, rfl, rfl, rfl⟩⟩
instance inf61 : Inf Try.prog 61 (Go.Value.agg #[]) 0 0 := ⟨⟨Try.t61, Try.type61, rfl, rfl, rfl, rfl⟩⟩
instance inf62 : Inf Try.prog 62 (Go.Value.nilFunc) 1 8 := ⟨⟨Try.t62, Try.type62, rfl, rfl, rfl, rfl⟩⟩
instance inf63 : Inf Try.prog 63 (Go.Value.int Go.IntKind.u32 0) 1 4 := ⟨⟨Try.t63, Try.type63, rfl, rfl, rfl, rfl⟩⟩
instance inf64 : Inf Try.prog 64 (Go.Value.int Go.IntKind.u8 0) 1 1 := ⟨⟨Try.t64, Try.type64, rfl, rfl, rfl, rfl⟩⟩
instance inf65 : Inf Try.prog 65 (Go.Value.int Go.IntKind.u8 0) 1 1 := ⟨⟨Try.t65, Try.type65, rfl, rfl, rfl, rfl⟩⟩
instance inf66 : Inf Try.prog 66 (Go.Value.nilFunc) 1 8 := ⟨⟨Try.t66, Try.type66, rfl, rfl, rfl, rfl⟩⟩
instance inf67 : Inf Try.prog 67 (Go.Value.pointer none) 1 8 := ⟨⟨Try.t67, Try.type67, rfl, rfl, rfl, rfl⟩⟩
instance inf68 : Inf Try.prog 68 (Go.Value.int Go.IntKind.i32 0) 1 4 := ⟨⟨Try.t68, Try.type68, rfl, rfl, rfl, rfl⟩⟩
instance inf69 : Inf Try.prog 69 (Go.Value.int Go.IntKind.i32 0) 1 4 := ⟨⟨Try.t69, Try.type69, rfl, rfl, rfl, rfl⟩⟩
instance inf70 : Inf Try.prog 70 (Go.Value.agg #[Go.Value.int Go.IntKind.u64 0, Go.Value.int Go.IntKind.u64 0, Go.Value.int Go.IntKind.u32 0, Go.Value.int Go.IntKind.u8 0, Go.Value.int Go.IntKind.u8 0, Go.Value.int Go.IntKind.u8 0, Go.Value.int Go.IntKind.u8 0, Go.Value.nilFunc, Go.Value.pointer none, Go.Value.int Go.IntKind.i32 0, Go.Value.int Go.IntKind.i32 0]) 11 48 := ⟨⟨Try.t70, Try.type70, rfl, rfl, rfl, rfl⟩⟩
instance inf71 : Inf Try.prog 71 (Go.Value.agg #[Go.Value.int Go.IntKind.u64 0, Go.Value.int Go.IntKind.u64 0, Go.Value.int Go.IntKind.u32 0, Go.Value.int Go.IntKind.u8 0, Go.Value.int Go.IntKind.u8 0, Go.Value.int Go.IntKind.u8 0, Go.Value.int Go.IntKind.u8 0, Go.Value.nilFunc, Go.Value.pointer none, Go.Value.int Go.IntKind.i32 0, Go.Value.int Go.IntKind.i32 0]) 11 48 := ⟨⟨Try.t71, Try.type71, rfl, rfl, rfl, rfl⟩⟩
instance inf72 : Inf Try.prog 72 (Go.Value.pointer none) 1 8 := ⟨⟨Try.t72, Try.type72, rfl, rfl, rfl, rfl⟩⟩
theorem V_aeql_7 {fs : List (Nat × Value)} {E : Env} {L : List Res} {o : Oper} {x y : Operand} {u : TypeId} {a0 : Int} {a1 : Int} {a2 : Bool} {a3 : Int} {b0 : Int} {b1 : Int} {b2 : Bool} {b3 : Int} (ho : o.op = .binOp .eql 7 x y u) (hx : ev fs x = some (.agg #[.int .i64 a0, .int .i64 a1, .bool a2, .int .u8 a3])) (hy : ev fs y = some (.agg #[.int .i64 b0, .int .i64 b1, .bool b2, .int .u8 b3])) : Val Try.prog o fs E L (.bool (decide (a0 = b0 ∧ a1 = b1 ∧ a2 = b2 ∧ a3 = b3))) :=
  V_bin ho hx hy fun w => ⟨by simp [go_sem], by
    by_cases h0 : a0 = b0 <;> by_cases h1 : a1 = b1 <;> by_cases h2 : a2 = b2 <;> by_cases h3 : a3 = b3 <;> simp [go_sem, Op.eqFields, S_toList, h0, h1, h2, h3]⟩
theorem V_aneq_7 {fs : List (Nat × Value)} {E : Env} {L : List Res} {o : Oper} {x y : Operand} {u : TypeId} {a0 : Int} {a1 : Int} {a2 : Bool} {a3 : Int} {b0 : Int} {b1 : Int} {b2 : Bool} {b3 : Int} (ho : o.op = .binOp .neq 7 x y u) (hx : ev fs x = some (.agg #[.int .i64 a0, .int .i64 a1, .bool a2, .int .u8 a3])) (hy : ev fs y = some (.agg #[.int .i64 b0, .int .i64 b1, .bool b2, .int .u8 b3])) : Val Try.prog o fs E L (.bool (decide (¬ (a0 = b0 ∧ a1 = b1 ∧ a2 = b2 ∧ a3 = b3)))) :=
  V_bin ho hx hy fun w => ⟨by simp [go_sem], by
    by_cases h0 : a0 = b0 <;> by_cases h1 : a1 = b1 <;> by_cases h2 : a2 = b2 <;> by_cases h3 : a3 = b3 <;> simp [go_sem, Op.eqFields, S_toList, h0, h1, h2, h3]⟩
theorem V_aeql_8 {fs : List (Nat × Value)} {E : Env} {L : List Res} {o : Oper} {x y : Operand} {u : TypeId} {a0 : Int} {a1 : Int} {a2 : Bool} {a3 : Int} {b0 : Int} {b1 : Int} {b2 : Bool} {b3 : Int} (ho : o.op = .binOp .eql 8 x y u) (hx : ev fs x = some (.agg #[.int .i64 a0, .int .i64 a1, .bool a2, .int .u8 a3])) (hy : ev fs y = some (.agg #[.int .i64 b0, .int .i64 b1, .bool b2, .int .u8 b3])) : Val Try.prog o fs E L (.bool (decide (a0 = b0 ∧ a1 = b1 ∧ a2 = b2 ∧ a3 = b3))) :=
  V_bin ho hx hy fun w => ⟨by simp [go_sem], by
    by_cases h0 : a0 = b0 <;> by_cases h1 : a1 = b1 <;> by_cases h2 : a2 = b2 <;> by_cases h3 : a3 = b3 <;> simp [go_sem, Op.eqFields, S_toList, h0, h1, h2, h3]⟩
theorem V_aneq_8 {fs : List (Nat × Value)} {E : Env} {L : List Res} {o : Oper} {x y : Operand} {u : TypeId} {a0 : Int} {a1 : Int} {a2 : Bool} {a3 : Int} {b0 : Int} {b1 : Int} {b2 : Bool} {b3 : Int} (ho : o.op = .binOp .neq 8 x y u) (hx : ev fs x = some (.agg #[.int .i64 a0, .int .i64 a1, .bool a2, .int .u8 a3])) (hy : ev fs y = some (.agg #[.int .i64 b0, .int .i64 b1, .bool b2, .int .u8 b3])) : Val Try.prog o fs E L (.bool (decide (¬ (a0 = b0 ∧ a1 = b1 ∧ a2 = b2 ∧ a3 = b3)))) :=
  V_bin ho hx hy fun w => ⟨by simp [go_sem], by
    by_cases h0 : a0 = b0 <;> by_cases h1 : a1 = b1 <;> by_cases h2 : a2 = b2 <;> by_cases h3 : a3 = b3 <;> simp [go_sem, Op.eqFields, S_toList, h0, h1, h2, h3]⟩
theorem V_aeql_30 {fs : List (Nat × Value)} {E : Env} {L : List Res} {o : Oper} {x y : Operand} {u : TypeId} {a0 : Int} {a1 : Int} {b0 : Int} {b1 : Int} (ho : o.op = .binOp .eql 30 x y u) (hx : ev fs x = some (.agg #[.int .i64 a0, .int .i64 a1])) (hy : ev fs y = some (.agg #[.int .i64 b0, .int .i64 b1])) : Val Try.prog o fs E L (.bool (decide (a0 = b0 ∧ a1 = b1))) :=
  V_bin ho hx hy fun w => ⟨by simp [go_sem], by
    by_cases h0 : a0 = b0 <;> by_cases h1 : a1 = b1 <;> simp [go_sem, Op.eqFields, S_toList, h0, h1]⟩
theorem V_aneq_30 {fs : List (Nat × Value)} {E : Env} {L : List Res} {o : Oper} {x y : Operand} {u : TypeId} {a0 : Int} {a1 : Int} {b0 : Int} {b1 : Int} (ho : o.op = .binOp .neq 30 x y u) (hx : ev fs x = some (.agg #[.int .i64 a0, .int .i64 a1])) (hy : ev fs y = some (.agg #[.int .i64 b0, .int .i64 b1])) : Val Try.prog o fs E L (.bool (decide (¬ (a0 = b0 ∧ a1 = b1)))) :=
  V_bin ho hx hy fun w => ⟨by simp [go_sem], by
    by_cases h0 : a0 = b0 <;> by_cases h1 : a1 = b1 <;> simp [go_sem, Op.eqFields, S_toList, h0, h1]⟩
theorem V_aeql_31 {fs : List (Nat × Value)} {E : Env} {L : List Res} {o : Oper} {x y : Operand} {u : TypeId} {a0 : Int} {a1 : Int} {b0 : Int} {b1 : Int} (ho : o.op = .binOp .eql 31 x y u) (hx : ev fs x = some (.agg #[.int .i64 a0, .int .i64 a1])) (hy : ev fs y = some (.agg #[.int .i64 b0, .int .i64 b1])) : Val Try.prog o fs E L (.bool (decide (a0 = b0 ∧ a1 = b1))) :=
  V_bin ho hx hy fun w => ⟨by simp [go_sem], by
    by_cases h0 : a0 = b0 <;> by_cases h1 : a1 = b1 <;> simp [go_sem, Op.eqFields, S_toList, h0, h1]⟩
theorem V_aneq_31 {fs : List (Nat × Value)} {E : Env} {L : List Res} {o : Oper} {x y : Operand} {u : TypeId} {a0 : Int} {a1 : Int} {b0 : Int} {b1 : Int} (ho : o.op = .binOp .neq 31 x y u) (hx : ev fs x = some (.agg #[.int .i64 a0, .int .i64 a1])) (hy : ev fs y = some (.agg #[.int .i64 b0, .int .i64 b1])) : Val Try.prog o fs E L (.bool (decide (¬ (a0 = b0 ∧ a1 = b1)))) :=
  V_bin ho hx hy fun w => ⟨by simp [go_sem], by
    by_cases h0 : a0 = b0 <;> by_cases h1 : a1 = b1 <;> simp [go_sem, Op.eqFields, S_toList, h0, h1]⟩
theorem mixed : Try.prog.follows .mixedOrders = true := by kernel_rfl
end Go.Proofs.Ytmkgdljgiajoiaa
