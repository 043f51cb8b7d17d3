/-
  Rules and contracts, packed: Inst, K1, R1, R2, R3, R4, R5.
-/
import Derived.Test.YtimiokmgnclggaaProg
import Derived.Test.YtimiokmgnclggaaQ2
set_option maxHeartbeats 1000000
set_option linter.unusedSimpArgs false
set_option linter.unusedVariables false
set_option maxRecDepth 20000
namespace Go.Proofs.Ytimiokmgnclggaa
open Go.Proofs Go.RowKit
instance ty0 : Ty Try.prog 0 (Go.TypeDesc.tuple #[]) 1 false := ⟨Try.underlying0, Try.isAgg0, Try.sizeOf0⟩
instance zero0 : Zero Try.prog 0 (Go.Value.tuple #[]) #[Go.Value.tuple #[]] := ⟨Try.zeroValue0, rfl⟩
instance ty1 : Ty Try.prog 1 (Go.TypeDesc.func #[] #[] false) 1 false := ⟨Try.underlying1, Try.isAgg1, Try.sizeOf1⟩
instance zero1 : Zero Try.prog 1 (Go.Value.nilFunc) #[Go.Value.nilFunc] := ⟨Try.zeroValue1, rfl⟩
instance ty2 : Ty Try.prog 2 (Go.TypeDesc.int Go.IntKind.i64) 1 false := ⟨Try.underlying2, Try.isAgg2, Try.sizeOf2⟩
instance zero2 : Zero Try.prog 2 (Go.Value.int Go.IntKind.i64 0) #[Go.Value.int Go.IntKind.i64 0] := ⟨Try.zeroValue2, rfl⟩
instance ty3 : Ty Try.prog 3 (Go.TypeDesc.int Go.IntKind.i64) 1 false := ⟨Try.underlying3, Try.isAgg3, Try.sizeOf3⟩
instance zero3 : Zero Try.prog 3 (Go.Value.int Go.IntKind.i64 0) #[Go.Value.int Go.IntKind.i64 0] := ⟨Try.zeroValue3, rfl⟩
instance ty4 : Ty Try.prog 4 (Go.TypeDesc.bool) 1 false := ⟨Try.underlying4, Try.isAgg4, Try.sizeOf4⟩
instance zero4 : Zero Try.prog 4 (Go.Value.bool false) #[Go.Value.bool false] := ⟨Try.zeroValue4, rfl⟩
instance ty5 : Ty Try.prog 5 (Go.TypeDesc.int Go.IntKind.u8) 1 false := ⟨Try.underlying5, Try.isAgg5, Try.sizeOf5⟩
instance zero5 : Zero Try.prog 5 (Go.Value.int Go.IntKind.u8 0) #[Go.Value.int Go.IntKind.u8 0] := ⟨Try.zeroValue5, rfl⟩
instance ty6 : Ty Try.prog 6 (Go.TypeDesc.int Go.IntKind.u8) 1 false := ⟨Try.underlying6, Try.isAgg6, Try.sizeOf6⟩
instance zero6 : Zero Try.prog 6 (Go.Value.int Go.IntKind.u8 0) #[Go.Value.int Go.IntKind.u8 0] := ⟨Try.zeroValue6, rfl⟩
instance ty7 : Ty Try.prog 7 (Go.TypeDesc.struct #[{ name := "x", type := 2, offset := 0, embedded := false, tag := "", pkgPath := "runtime", byteOffset := 0 }, { name := "y", type := 3, offset := 1, embedded := false, tag := "", pkgPath := "runtime", byteOffset := 8 }, { name := "signed", type := 4, offset := 2, embedded := false, tag := "", pkgPath := "runtime", byteOffset := 16 }, { name := "code", type := 6, offset := 3, embedded := false, tag := "", pkgPath := "runtime", byteOffset := 17 }]) 4 true := ⟨Try.underlying7, Try.isAgg7, Try.sizeOf7⟩
instance zero7 : Zero Try.prog 7 (Go.Value.agg #[Go.Value.int Go.IntKind.i64 0, Go.Value.int Go.IntKind.i64 0, Go.Value.bool false, Go.Value.int Go.IntKind.u8 0]) #[Go.Value.int Go.IntKind.i64 0, Go.Value.int Go.IntKind.i64 0, Go.Value.bool false, Go.Value.int Go.IntKind.u8 0] := ⟨Try.zeroValue7, rfl⟩
instance ty8 : Ty Try.prog 8 (Go.TypeDesc.struct #[{ name := "x", type := 2, offset := 0, embedded := false, tag := "", pkgPath := "runtime", byteOffset := 0 }, { name := "y", type := 3, offset := 1, embedded := false, tag := "", pkgPath := "runtime", byteOffset := 8 }, { name := "signed", type := 4, offset := 2, embedded := false, tag := "", pkgPath := "runtime", byteOffset := 16 }, { name := "code", type := 6, offset := 3, embedded := false, tag := "", pkgPath := "runtime", byteOffset := 17 }]) 4 true := ⟨Try.underlying8, Try.isAgg8, Try.sizeOf8⟩
instance zero8 : Zero Try.prog 8 (Go.Value.agg #[Go.Value.int Go.IntKind.i64 0, Go.Value.int Go.IntKind.i64 0, Go.Value.bool false, Go.Value.int Go.IntKind.u8 0]) #[Go.Value.int Go.IntKind.i64 0, Go.Value.int Go.IntKind.i64 0, Go.Value.bool false, Go.Value.int Go.IntKind.u8 0] := ⟨Try.zeroValue8, rfl⟩
instance ty9 : Ty Try.prog 9 (Go.TypeDesc.string) 1 false := ⟨Try.underlying9, Try.isAgg9, Try.sizeOf9⟩
instance zero9 : Zero Try.prog 9 (Go.Value.string { data := #[] }) #[Go.Value.string { data := #[] }] := ⟨Try.zeroValue9, rfl⟩
instance ty10 : Ty Try.prog 10 (Go.TypeDesc.string) 1 false := ⟨Try.underlying10, Try.isAgg10, Try.sizeOf10⟩
instance zero10 : Zero Try.prog 10 (Go.Value.string { data := #[] }) #[Go.Value.string { data := #[] }] := ⟨Try.zeroValue10, rfl⟩
instance ty11 : Ty Try.prog 11 (Go.TypeDesc.string) 1 false := ⟨Try.underlying11, Try.isAgg11, Try.sizeOf11⟩
instance zero11 : Zero Try.prog 11 (Go.Value.string { data := #[] }) #[Go.Value.string { data := #[] }] := ⟨Try.zeroValue11, rfl⟩
instance ty12 : Ty Try.prog 12 (Go.TypeDesc.int Go.IntKind.u64) 1 false := ⟨Try.underlying12, Try.isAgg12, Try.sizeOf12⟩
instance zero12 : Zero Try.prog 12 (Go.Value.int Go.IntKind.u64 0) #[Go.Value.int Go.IntKind.u64 0] := ⟨Try.zeroValue12, rfl⟩
instance ty13 : Ty Try.prog 13 (Go.TypeDesc.struct #[{ name := "msg", type := 9, offset := 0, embedded := false, tag := "", pkgPath := "runtime", byteOffset := 0 }, { name := "addr", type := 12, offset := 1, embedded := false, tag := "", pkgPath := "runtime", byteOffset := 16 }]) 2 true := ⟨Try.underlying13, Try.isAgg13, Try.sizeOf13⟩
instance zero13 : Zero Try.prog 13 (Go.Value.agg #[Go.Value.string { data := #[] }, Go.Value.int Go.IntKind.u64 0]) #[Go.Value.string { data := #[] }, Go.Value.int Go.IntKind.u64 0] := ⟨Try.zeroValue13, rfl⟩
instance ty14 : Ty Try.prog 14 (Go.TypeDesc.struct #[{ name := "msg", type := 9, offset := 0, embedded := false, tag := "", pkgPath := "runtime", byteOffset := 0 }, { name := "addr", type := 12, offset := 1, embedded := false, tag := "", pkgPath := "runtime", byteOffset := 16 }]) 2 true := ⟨Try.underlying14, Try.isAgg14, Try.sizeOf14⟩
instance zero14 : Zero Try.prog 14 (Go.Value.agg #[Go.Value.string { data := #[] }, Go.Value.int Go.IntKind.u64 0]) #[Go.Value.string { data := #[] }, Go.Value.int Go.IntKind.u64 0] := ⟨Try.zeroValue14, rfl⟩
instance ty15 : Ty Try.prog 15 (Go.TypeDesc.pointer 117) 1 false := ⟨Try.underlying15, Try.isAgg15, Try.sizeOf15⟩
instance zero15 : Zero Try.prog 15 (Go.Value.pointer none) #[Go.Value.pointer none] := ⟨Try.zeroValue15, rfl⟩
instance ty16 : Ty Try.prog 16 (Go.TypeDesc.pointer 120) 1 false := ⟨Try.underlying16, Try.isAgg16, Try.sizeOf16⟩
instance zero16 : Zero Try.prog 16 (Go.Value.pointer none) #[Go.Value.pointer none] := ⟨Try.zeroValue16, rfl⟩
instance ty17 : Ty Try.prog 17 (Go.TypeDesc.pointer 129) 1 false := ⟨Try.underlying17, Try.isAgg17, Try.sizeOf17⟩
instance zero17 : Zero Try.prog 17 (Go.Value.pointer none) #[Go.Value.pointer none] := ⟨Try.zeroValue17, rfl⟩
instance ty18 : Ty Try.prog 18 (Go.TypeDesc.struct #[{ name := "typ", type := 17, offset := 0, embedded := false, tag := "", pkgPath := "internal/runtime/maps", byteOffset := 0 }]) 1 true := ⟨Try.underlying18, Try.isAgg18, Try.sizeOf18⟩
instance zero18 : Zero Try.prog 18 (Go.Value.agg #[Go.Value.pointer none]) #[Go.Value.pointer none] := ⟨Try.zeroValue18, rfl⟩
instance ty19 : Ty Try.prog 19 (Go.TypeDesc.struct #[{ name := "typ", type := 17, offset := 0, embedded := false, tag := "", pkgPath := "internal/runtime/maps", byteOffset := 0 }]) 1 true := ⟨Try.underlying19, Try.isAgg19, Try.sizeOf19⟩
instance zero19 : Zero Try.prog 19 (Go.Value.agg #[Go.Value.pointer none]) #[Go.Value.pointer none] := ⟨Try.zeroValue19, rfl⟩
instance ty20 : Ty Try.prog 20 (Go.TypeDesc.interface #[]) 1 false := ⟨Try.underlying20, Try.isAgg20, Try.sizeOf20⟩
instance zero20 : Zero Try.prog 20 (Go.Value.nilIface) #[Go.Value.nilIface] := ⟨Try.zeroValue20, rfl⟩
instance ty21 : Ty Try.prog 21 (Go.TypeDesc.int Go.IntKind.i32) 1 false := ⟨Try.underlying21, Try.isAgg21, Try.sizeOf21⟩
instance zero21 : Zero Try.prog 21 (Go.Value.int Go.IntKind.i32 0) #[Go.Value.int Go.IntKind.i32 0] := ⟨Try.zeroValue21, rfl⟩
instance ty22 : Ty Try.prog 22 (Go.TypeDesc.struct #[{ name := "Depth", type := 3, offset := 0, embedded := false, tag := "", pkgPath := "", byteOffset := 0 }, { name := "Queue", type := 3, offset := 1, embedded := false, tag := "", pkgPath := "", byteOffset := 8 }, { name := "Start", type := 3, offset := 2, embedded := false, tag := "", pkgPath := "", byteOffset := 16 }, { name := "Record", type := 3, offset := 3, embedded := false, tag := "", pkgPath := "", byteOffset := 24 }]) 4 true := ⟨Try.underlying22, Try.isAgg22, Try.sizeOf22⟩
instance zero22 : Zero Try.prog 22 (Go.Value.agg #[Go.Value.int Go.IntKind.i64 0, Go.Value.int Go.IntKind.i64 0, Go.Value.int Go.IntKind.i64 0, Go.Value.int Go.IntKind.i64 0]) #[Go.Value.int Go.IntKind.i64 0, Go.Value.int Go.IntKind.i64 0, Go.Value.int Go.IntKind.i64 0, Go.Value.int Go.IntKind.i64 0] := ⟨Try.zeroValue22, rfl⟩
instance ty23 : Ty Try.prog 23 (Go.TypeDesc.struct #[{ name := "Depth", type := 3, offset := 0, embedded := false, tag := "", pkgPath := "", byteOffset := 0 }, { name := "Queue", type := 3, offset := 1, embedded := false, tag := "", pkgPath := "", byteOffset := 8 }, { name := "Start", type := 3, offset := 2, embedded := false, tag := "", pkgPath := "", byteOffset := 16 }, { name := "Record", type := 3, offset := 3, embedded := false, tag := "", pkgPath := "", byteOffset := 24 }]) 4 true := ⟨Try.underlying23, Try.isAgg23, Try.sizeOf23⟩
instance zero23 : Zero Try.prog 23 (Go.Value.agg #[Go.Value.int Go.IntKind.i64 0, Go.Value.int Go.IntKind.i64 0, Go.Value.int Go.IntKind.i64 0, Go.Value.int Go.IntKind.i64 0]) #[Go.Value.int Go.IntKind.i64 0, Go.Value.int Go.IntKind.i64 0, Go.Value.int Go.IntKind.i64 0, Go.Value.int Go.IntKind.i64 0] := ⟨Try.zeroValue23, rfl⟩
instance ty24 : Ty Try.prog 24 (Go.TypeDesc.slice 49) 1 false := ⟨Try.underlying24, Try.isAgg24, Try.sizeOf24⟩
instance zero24 : Zero Try.prog 24 (Go.Value.slice none 0 0) #[Go.Value.slice none 0 0] := ⟨Try.zeroValue24, rfl⟩
instance ty25 : Ty Try.prog 25 (Go.TypeDesc.struct #[{ name := "Tokens", type := 24, offset := 0, embedded := false, tag := "", pkgPath := "", byteOffset := 0 }, { name := "End", type := 3, offset := 1, embedded := false, tag := "", pkgPath := "", byteOffset := 24 }, { name := "EndAt", type := 3, offset := 2, embedded := false, tag := "", pkgPath := "", byteOffset := 32 }]) 3 true := ⟨Try.underlying25, Try.isAgg25, Try.sizeOf25⟩
instance zero25 : Zero Try.prog 25 (Go.Value.agg #[Go.Value.slice none 0 0, Go.Value.int Go.IntKind.i64 0, Go.Value.int Go.IntKind.i64 0]) #[Go.Value.slice none 0 0, Go.Value.int Go.IntKind.i64 0, Go.Value.int Go.IntKind.i64 0] := ⟨Try.zeroValue25, rfl⟩
instance ty26 : Ty Try.prog 26 (Go.TypeDesc.struct #[{ name := "Tokens", type := 24, offset := 0, embedded := false, tag := "", pkgPath := "", byteOffset := 0 }, { name := "End", type := 3, offset := 1, embedded := false, tag := "", pkgPath := "", byteOffset := 24 }, { name := "EndAt", type := 3, offset := 2, embedded := false, tag := "", pkgPath := "", byteOffset := 32 }]) 3 true := ⟨Try.underlying26, Try.isAgg26, Try.sizeOf26⟩
instance zero26 : Zero Try.prog 26 (Go.Value.agg #[Go.Value.slice none 0 0, Go.Value.int Go.IntKind.i64 0, Go.Value.int Go.IntKind.i64 0]) #[Go.Value.slice none 0 0, Go.Value.int Go.IntKind.i64 0, Go.Value.int Go.IntKind.i64 0] := ⟨Try.zeroValue26, rfl⟩
instance ty27 : Ty Try.prog 27 (Go.TypeDesc.slice 47) 1 false := ⟨Try.underlying27, Try.isAgg27, Try.sizeOf27⟩
instance zero27 : Zero Try.prog 27 (Go.Value.slice none 0 0) #[Go.Value.slice none 0 0] := ⟨Try.zeroValue27, rfl⟩
instance ty28 : Ty Try.prog 28 (Go.TypeDesc.struct #[{ name := "State", type := 3, offset := 0, embedded := false, tag := "", pkgPath := "", byteOffset := 0 }, { name := "Record", type := 3, offset := 1, embedded := false, tag := "", pkgPath := "", byteOffset := 8 }, { name := "At", type := 3, offset := 2, embedded := false, tag := "", pkgPath := "", byteOffset := 16 }, { name := "Part", type := 9, offset := 3, embedded := false, tag := "", pkgPath := "", byteOffset := 24 }, { name := "Ring", type := 26, offset := 4, embedded := false, tag := "", pkgPath := "", byteOffset := 40 }, { name := "Begun", type := 4, offset := 7, embedded := false, tag := "", pkgPath := "", byteOffset := 80 }, { name := "Stack", type := 27, offset := 8, embedded := false, tag := "", pkgPath := "", byteOffset := 88 }]) 9 true := ⟨Try.underlying28, Try.isAgg28, Try.sizeOf28⟩
instance zero28 : Zero Try.prog 28 (Go.Value.agg #[Go.Value.int Go.IntKind.i64 0, Go.Value.int Go.IntKind.i64 0, Go.Value.int Go.IntKind.i64 0, Go.Value.string { data := #[] }, Go.Value.slice none 0 0, Go.Value.int Go.IntKind.i64 0, Go.Value.int Go.IntKind.i64 0, Go.Value.bool false, Go.Value.slice none 0 0]) #[Go.Value.int Go.IntKind.i64 0, Go.Value.int Go.IntKind.i64 0, Go.Value.int Go.IntKind.i64 0, Go.Value.string { data := #[] }, Go.Value.slice none 0 0, Go.Value.int Go.IntKind.i64 0, Go.Value.int Go.IntKind.i64 0, Go.Value.bool false, Go.Value.slice none 0 0] := ⟨Try.zeroValue28, rfl⟩
instance ty29 : Ty Try.prog 29 (Go.TypeDesc.struct #[{ name := "State", type := 3, offset := 0, embedded := false, tag := "", pkgPath := "", byteOffset := 0 }, { name := "Record", type := 3, offset := 1, embedded := false, tag := "", pkgPath := "", byteOffset := 8 }, { name := "At", type := 3, offset := 2, embedded := false, tag := "", pkgPath := "", byteOffset := 16 }, { name := "Part", type := 9, offset := 3, embedded := false, tag := "", pkgPath := "", byteOffset := 24 }, { name := "Ring", type := 26, offset := 4, embedded := false, tag := "", pkgPath := "", byteOffset := 40 }, { name := "Begun", type := 4, offset := 7, embedded := false, tag := "", pkgPath := "", byteOffset := 80 }, { name := "Stack", type := 27, offset := 8, embedded := false, tag := "", pkgPath := "", byteOffset := 88 }]) 9 true := ⟨Try.underlying29, Try.isAgg29, Try.sizeOf29⟩
instance zero29 : Zero Try.prog 29 (Go.Value.agg #[Go.Value.int Go.IntKind.i64 0, Go.Value.int Go.IntKind.i64 0, Go.Value.int Go.IntKind.i64 0, Go.Value.string { data := #[] }, Go.Value.slice none 0 0, Go.Value.int Go.IntKind.i64 0, Go.Value.int Go.IntKind.i64 0, Go.Value.bool false, Go.Value.slice none 0 0]) #[Go.Value.int Go.IntKind.i64 0, Go.Value.int Go.IntKind.i64 0, Go.Value.int Go.IntKind.i64 0, Go.Value.string { data := #[] }, Go.Value.slice none 0 0, Go.Value.int Go.IntKind.i64 0, Go.Value.int Go.IntKind.i64 0, Go.Value.bool false, Go.Value.slice none 0 0] := ⟨Try.zeroValue29, rfl⟩
instance ty30 : Ty Try.prog 30 (Go.TypeDesc.func #[29] #[4] false) 1 false := ⟨Try.underlying30, Try.isAgg30, Try.sizeOf30⟩
instance zero30 : Zero Try.prog 30 (Go.Value.nilFunc) #[Go.Value.nilFunc] := ⟨Try.zeroValue30, rfl⟩
instance ty31 : Ty Try.prog 31 (Go.TypeDesc.func #[] #[4] false) 1 false := ⟨Try.underlying31, Try.isAgg31, Try.sizeOf31⟩
instance zero31 : Zero Try.prog 31 (Go.Value.nilFunc) #[Go.Value.nilFunc] := ⟨Try.zeroValue31, rfl⟩
instance ty32 : Ty Try.prog 32 (Go.TypeDesc.int Go.IntKind.i64) 1 false := ⟨Try.underlying32, Try.isAgg32, Try.sizeOf32⟩
instance zero32 : Zero Try.prog 32 (Go.Value.int Go.IntKind.i64 0) #[Go.Value.int Go.IntKind.i64 0] := ⟨Try.zeroValue32, rfl⟩
instance ty33 : Ty Try.prog 33 (Go.TypeDesc.tuple #[29, 32]) 1 false := ⟨Try.underlying33, Try.isAgg33, Try.sizeOf33⟩
instance zero33 : Zero Try.prog 33 (Go.Value.tuple #[Go.Value.agg #[Go.Value.int Go.IntKind.i64 0, Go.Value.int Go.IntKind.i64 0, Go.Value.int Go.IntKind.i64 0, Go.Value.string { data := #[] }, Go.Value.slice none 0 0, Go.Value.int Go.IntKind.i64 0, Go.Value.int Go.IntKind.i64 0, Go.Value.bool false, Go.Value.slice none 0 0], Go.Value.int Go.IntKind.i64 0]) #[Go.Value.tuple #[Go.Value.agg #[Go.Value.int Go.IntKind.i64 0, Go.Value.int Go.IntKind.i64 0, Go.Value.int Go.IntKind.i64 0, Go.Value.string { data := #[] }, Go.Value.slice none 0 0, Go.Value.int Go.IntKind.i64 0, Go.Value.int Go.IntKind.i64 0, Go.Value.bool false, Go.Value.slice none 0 0], Go.Value.int Go.IntKind.i64 0]] := ⟨Try.zeroValue33, rfl⟩
instance ty34 : Ty Try.prog 34 (Go.TypeDesc.func #[23] #[29, 32] false) 1 false := ⟨Try.underlying34, Try.isAgg34, Try.sizeOf34⟩
instance zero34 : Zero Try.prog 34 (Go.Value.nilFunc) #[Go.Value.nilFunc] := ⟨Try.zeroValue34, rfl⟩
instance ty35 : Ty Try.prog 35 (Go.TypeDesc.func #[23] #[32] false) 1 false := ⟨Try.underlying35, Try.isAgg35, Try.sizeOf35⟩
instance zero35 : Zero Try.prog 35 (Go.Value.nilFunc) #[Go.Value.nilFunc] := ⟨Try.zeroValue35, rfl⟩
instance ty36 : Ty Try.prog 36 (Go.TypeDesc.func #[29, 29] #[4] false) 1 false := ⟨Try.underlying36, Try.isAgg36, Try.sizeOf36⟩
instance zero36 : Zero Try.prog 36 (Go.Value.nilFunc) #[Go.Value.nilFunc] := ⟨Try.zeroValue36, rfl⟩
instance ty37 : Ty Try.prog 37 (Go.TypeDesc.func #[23, 29, 29] #[4] false) 1 false := ⟨Try.underlying37, Try.isAgg37, Try.sizeOf37⟩
instance zero37 : Zero Try.prog 37 (Go.Value.nilFunc) #[Go.Value.nilFunc] := ⟨Try.zeroValue37, rfl⟩
instance ty38 : Ty Try.prog 38 (Go.TypeDesc.slice 9) 1 false := ⟨Try.underlying38, Try.isAgg38, Try.sizeOf38⟩
instance zero38 : Zero Try.prog 38 (Go.Value.slice none 0 0) #[Go.Value.slice none 0 0] := ⟨Try.zeroValue38, rfl⟩
instance ty39 : Ty Try.prog 39 (Go.TypeDesc.slice 59) 1 false := ⟨Try.underlying39, Try.isAgg39, Try.sizeOf39⟩
instance zero39 : Zero Try.prog 39 (Go.Value.slice none 0 0) #[Go.Value.slice none 0 0] := ⟨Try.zeroValue39, rfl⟩
instance ty40 : Ty Try.prog 40 (Go.TypeDesc.struct #[{ name := "K", type := 3, offset := 0, embedded := false, tag := "", pkgPath := "", byteOffset := 0 }, { name := "Tokens", type := 38, offset := 1, embedded := false, tag := "", pkgPath := "", byteOffset := 8 }, { name := "Sep", type := 9, offset := 2, embedded := false, tag := "", pkgPath := "", byteOffset := 32 }, { name := "Names", type := 38, offset := 3, embedded := false, tag := "", pkgPath := "", byteOffset := 48 }, { name := "Start", type := 3, offset := 4, embedded := false, tag := "", pkgPath := "", byteOffset := 72 }, { name := "Prods", type := 39, offset := 5, embedded := false, tag := "", pkgPath := "", byteOffset := 80 }]) 6 true := ⟨Try.underlying40, Try.isAgg40, Try.sizeOf40⟩
instance zero40 : Zero Try.prog 40 (Go.Value.agg #[Go.Value.int Go.IntKind.i64 0, Go.Value.slice none 0 0, Go.Value.string { data := #[] }, Go.Value.slice none 0 0, Go.Value.int Go.IntKind.i64 0, Go.Value.slice none 0 0]) #[Go.Value.int Go.IntKind.i64 0, Go.Value.slice none 0 0, Go.Value.string { data := #[] }, Go.Value.slice none 0 0, Go.Value.int Go.IntKind.i64 0, Go.Value.slice none 0 0] := ⟨Try.zeroValue40, rfl⟩
instance ty41 : Ty Try.prog 41 (Go.TypeDesc.struct #[{ name := "K", type := 3, offset := 0, embedded := false, tag := "", pkgPath := "", byteOffset := 0 }, { name := "Tokens", type := 38, offset := 1, embedded := false, tag := "", pkgPath := "", byteOffset := 8 }, { name := "Sep", type := 9, offset := 2, embedded := false, tag := "", pkgPath := "", byteOffset := 32 }, { name := "Names", type := 38, offset := 3, embedded := false, tag := "", pkgPath := "", byteOffset := 48 }, { name := "Start", type := 3, offset := 4, embedded := false, tag := "", pkgPath := "", byteOffset := 72 }, { name := "Prods", type := 39, offset := 5, embedded := false, tag := "", pkgPath := "", byteOffset := 80 }]) 6 true := ⟨Try.underlying41, Try.isAgg41, Try.sizeOf41⟩
instance zero41 : Zero Try.prog 41 (Go.Value.agg #[Go.Value.int Go.IntKind.i64 0, Go.Value.slice none 0 0, Go.Value.string { data := #[] }, Go.Value.slice none 0 0, Go.Value.int Go.IntKind.i64 0, Go.Value.slice none 0 0]) #[Go.Value.int Go.IntKind.i64 0, Go.Value.slice none 0 0, Go.Value.string { data := #[] }, Go.Value.slice none 0 0, Go.Value.int Go.IntKind.i64 0, Go.Value.slice none 0 0] := ⟨Try.zeroValue41, rfl⟩
instance ty42 : Ty Try.prog 42 (Go.TypeDesc.func #[] #[41] false) 1 false := ⟨Try.underlying42, Try.isAgg42, Try.sizeOf42⟩
instance zero42 : Zero Try.prog 42 (Go.Value.nilFunc) #[Go.Value.nilFunc] := ⟨Try.zeroValue42, rfl⟩
instance ty43 : Ty Try.prog 43 (Go.TypeDesc.func #[] #[23] false) 1 false := ⟨Try.underlying43, Try.isAgg43, Try.sizeOf43⟩
instance zero43 : Zero Try.prog 43 (Go.Value.nilFunc) #[Go.Value.nilFunc] := ⟨Try.zeroValue43, rfl⟩
instance ty44 : Ty Try.prog 44 (Go.TypeDesc.func #[4, 27] #[29] true) 1 false := ⟨Try.underlying44, Try.isAgg44, Try.sizeOf44⟩
instance zero44 : Zero Try.prog 44 (Go.Value.nilFunc) #[Go.Value.nilFunc] := ⟨Try.zeroValue44, rfl⟩
instance ty45 : Ty Try.prog 45 (Go.TypeDesc.func #[29, 3, 3, 3] #[4] false) 1 false := ⟨Try.underlying45, Try.isAgg45, Try.sizeOf45⟩
instance zero45 : Zero Try.prog 45 (Go.Value.nilFunc) #[Go.Value.nilFunc] := ⟨Try.zeroValue45, rfl⟩
instance ty46 : Ty Try.prog 46 (Go.TypeDesc.struct #[{ name := "Prod", type := 3, offset := 0, embedded := false, tag := "", pkgPath := "", byteOffset := 0 }, { name := "Dot", type := 3, offset := 1, embedded := false, tag := "", pkgPath := "", byteOffset := 8 }]) 2 true := ⟨Try.underlying46, Try.isAgg46, Try.sizeOf46⟩
instance zero46 : Zero Try.prog 46 (Go.Value.agg #[Go.Value.int Go.IntKind.i64 0, Go.Value.int Go.IntKind.i64 0]) #[Go.Value.int Go.IntKind.i64 0, Go.Value.int Go.IntKind.i64 0] := ⟨Try.zeroValue46, rfl⟩
instance ty47 : Ty Try.prog 47 (Go.TypeDesc.struct #[{ name := "Prod", type := 3, offset := 0, embedded := false, tag := "", pkgPath := "", byteOffset := 0 }, { name := "Dot", type := 3, offset := 1, embedded := false, tag := "", pkgPath := "", byteOffset := 8 }]) 2 true := ⟨Try.underlying47, Try.isAgg47, Try.sizeOf47⟩
instance zero47 : Zero Try.prog 47 (Go.Value.agg #[Go.Value.int Go.IntKind.i64 0, Go.Value.int Go.IntKind.i64 0]) #[Go.Value.int Go.IntKind.i64 0, Go.Value.int Go.IntKind.i64 0] := ⟨Try.zeroValue47, rfl⟩
instance ty48 : Ty Try.prog 48 (Go.TypeDesc.struct #[{ name := "Symbol", type := 3, offset := 0, embedded := false, tag := "", pkgPath := "", byteOffset := 0 }, { name := "Text", type := 9, offset := 1, embedded := false, tag := "", pkgPath := "", byteOffset := 8 }, { name := "At", type := 3, offset := 2, embedded := false, tag := "", pkgPath := "", byteOffset := 24 }]) 3 true := ⟨Try.underlying48, Try.isAgg48, Try.sizeOf48⟩
instance zero48 : Zero Try.prog 48 (Go.Value.agg #[Go.Value.int Go.IntKind.i64 0, Go.Value.string { data := #[] }, Go.Value.int Go.IntKind.i64 0]) #[Go.Value.int Go.IntKind.i64 0, Go.Value.string { data := #[] }, Go.Value.int Go.IntKind.i64 0] := ⟨Try.zeroValue48, rfl⟩
instance ty49 : Ty Try.prog 49 (Go.TypeDesc.struct #[{ name := "Symbol", type := 3, offset := 0, embedded := false, tag := "", pkgPath := "", byteOffset := 0 }, { name := "Text", type := 9, offset := 1, embedded := false, tag := "", pkgPath := "", byteOffset := 8 }, { name := "At", type := 3, offset := 2, embedded := false, tag := "", pkgPath := "", byteOffset := 24 }]) 3 true := ⟨Try.underlying49, Try.isAgg49, Try.sizeOf49⟩
instance zero49 : Zero Try.prog 49 (Go.Value.agg #[Go.Value.int Go.IntKind.i64 0, Go.Value.string { data := #[] }, Go.Value.int Go.IntKind.i64 0]) #[Go.Value.int Go.IntKind.i64 0, Go.Value.string { data := #[] }, Go.Value.int Go.IntKind.i64 0] := ⟨Try.zeroValue49, rfl⟩
instance ty50 : Ty Try.prog 50 (Go.TypeDesc.func #[41, 29] #[32] false) 1 false := ⟨Try.underlying50, Try.isAgg50, Try.sizeOf50⟩
instance zero50 : Zero Try.prog 50 (Go.Value.nilFunc) #[Go.Value.nilFunc] := ⟨Try.zeroValue50, rfl⟩
instance ty51 : Ty Try.prog 51 (Go.TypeDesc.tuple #[3, 32]) 1 false := ⟨Try.underlying51, Try.isAgg51, Try.sizeOf51⟩
instance zero51 : Zero Try.prog 51 (Go.Value.tuple #[Go.Value.int Go.IntKind.i64 0, Go.Value.int Go.IntKind.i64 0]) #[Go.Value.tuple #[Go.Value.int Go.IntKind.i64 0, Go.Value.int Go.IntKind.i64 0]] := ⟨Try.zeroValue51, rfl⟩
instance ty52 : Ty Try.prog 52 (Go.TypeDesc.func #[41, 29] #[3, 32] false) 1 false := ⟨Try.underlying52, Try.isAgg52, Try.sizeOf52⟩
instance zero52 : Zero Try.prog 52 (Go.Value.nilFunc) #[Go.Value.nilFunc] := ⟨Try.zeroValue52, rfl⟩
instance ty53 : Ty Try.prog 53 (Go.TypeDesc.func #[3] #[4] false) 1 false := ⟨Try.underlying53, Try.isAgg53, Try.sizeOf53⟩
instance zero53 : Zero Try.prog 53 (Go.Value.nilFunc) #[Go.Value.nilFunc] := ⟨Try.zeroValue53, rfl⟩
instance ty54 : Ty Try.prog 54 (Go.TypeDesc.func #[26, 26] #[4] false) 1 false := ⟨Try.underlying54, Try.isAgg54, Try.sizeOf54⟩
instance zero54 : Zero Try.prog 54 (Go.Value.nilFunc) #[Go.Value.nilFunc] := ⟨Try.zeroValue54, rfl⟩
instance ty55 : Ty Try.prog 55 (Go.TypeDesc.func #[27, 27] #[4] false) 1 false := ⟨Try.underlying55, Try.isAgg55, Try.sizeOf55⟩
instance zero55 : Zero Try.prog 55 (Go.Value.nilFunc) #[Go.Value.nilFunc] := ⟨Try.zeroValue55, rfl⟩
instance ty56 : Ty Try.prog 56 (Go.TypeDesc.func #[24, 24] #[4] false) 1 false := ⟨Try.underlying56, Try.isAgg56, Try.sizeOf56⟩
instance zero56 : Zero Try.prog 56 (Go.Value.nilFunc) #[Go.Value.nilFunc] := ⟨Try.zeroValue56, rfl⟩
instance ty57 : Ty Try.prog 57 (Go.TypeDesc.slice 3) 1 false := ⟨Try.underlying57, Try.isAgg57, Try.sizeOf57⟩
instance zero57 : Zero Try.prog 57 (Go.Value.slice none 0 0) #[Go.Value.slice none 0 0] := ⟨Try.zeroValue57, rfl⟩
instance ty58 : Ty Try.prog 58 (Go.TypeDesc.struct #[{ name := "Left", type := 3, offset := 0, embedded := false, tag := "", pkgPath := "", byteOffset := 0 }, { name := "Right", type := 57, offset := 1, embedded := false, tag := "", pkgPath := "", byteOffset := 8 }]) 2 true := ⟨Try.underlying58, Try.isAgg58, Try.sizeOf58⟩
instance zero58 : Zero Try.prog 58 (Go.Value.agg #[Go.Value.int Go.IntKind.i64 0, Go.Value.slice none 0 0]) #[Go.Value.int Go.IntKind.i64 0, Go.Value.slice none 0 0] := ⟨Try.zeroValue58, rfl⟩
instance ty59 : Ty Try.prog 59 (Go.TypeDesc.struct #[{ name := "Left", type := 3, offset := 0, embedded := false, tag := "", pkgPath := "", byteOffset := 0 }, { name := "Right", type := 57, offset := 1, embedded := false, tag := "", pkgPath := "", byteOffset := 8 }]) 2 true := ⟨Try.underlying59, Try.isAgg59, Try.sizeOf59⟩
instance zero59 : Zero Try.prog 59 (Go.Value.agg #[Go.Value.int Go.IntKind.i64 0, Go.Value.slice none 0 0]) #[Go.Value.int Go.IntKind.i64 0, Go.Value.slice none 0 0] := ⟨Try.zeroValue59, rfl⟩
instance ty60 : Ty Try.prog 60 (Go.TypeDesc.tuple #[3, 3, 32]) 1 false := ⟨Try.underlying60, Try.isAgg60, Try.sizeOf60⟩
instance zero60 : Zero Try.prog 60 (Go.Value.tuple #[Go.Value.int Go.IntKind.i64 0, Go.Value.int Go.IntKind.i64 0, Go.Value.int Go.IntKind.i64 0]) #[Go.Value.tuple #[Go.Value.int Go.IntKind.i64 0, Go.Value.int Go.IntKind.i64 0, Go.Value.int Go.IntKind.i64 0]] := ⟨Try.zeroValue60, rfl⟩
instance ty61 : Ty Try.prog 61 (Go.TypeDesc.func #[41, 29] #[3, 3, 32] false) 1 false := ⟨Try.underlying61, Try.isAgg61, Try.sizeOf61⟩
instance zero61 : Zero Try.prog 61 (Go.Value.nilFunc) #[Go.Value.nilFunc] := ⟨Try.zeroValue61, rfl⟩
instance ty62 : Ty Try.prog 62 (Go.TypeDesc.tuple #[4, 32]) 1 false := ⟨Try.underlying62, Try.isAgg62, Try.sizeOf62⟩
instance zero62 : Zero Try.prog 62 (Go.Value.tuple #[Go.Value.bool false, Go.Value.int Go.IntKind.i64 0]) #[Go.Value.tuple #[Go.Value.bool false, Go.Value.int Go.IntKind.i64 0]] := ⟨Try.zeroValue62, rfl⟩
instance ty63 : Ty Try.prog 63 (Go.TypeDesc.func #[41, 29] #[4, 32] false) 1 false := ⟨Try.underlying63, Try.isAgg63, Try.sizeOf63⟩
instance zero63 : Zero Try.prog 63 (Go.Value.nilFunc) #[Go.Value.nilFunc] := ⟨Try.zeroValue63, rfl⟩
instance ty64 : Ty Try.prog 64 (Go.TypeDesc.func #[41] #[32] false) 1 false := ⟨Try.underlying64, Try.isAgg64, Try.sizeOf64⟩
instance zero64 : Zero Try.prog 64 (Go.Value.nilFunc) #[Go.Value.nilFunc] := ⟨Try.zeroValue64, rfl⟩
instance ty65 : Ty Try.prog 65 (Go.TypeDesc.struct #[{ name := "Config", type := 29, offset := 0, embedded := true, tag := "", pkgPath := "", byteOffset := 0 }, { name := "g", type := 41, offset := 9, embedded := false, tag := "", pkgPath := "stenotype/config", byteOffset := 112 }]) 15 true := ⟨Try.underlying65, Try.isAgg65, Try.sizeOf65⟩
instance zero65 : Zero Try.prog 65 (Go.Value.agg #[Go.Value.int Go.IntKind.i64 0, Go.Value.int Go.IntKind.i64 0, Go.Value.int Go.IntKind.i64 0, Go.Value.string { data := #[] }, Go.Value.slice none 0 0, Go.Value.int Go.IntKind.i64 0, Go.Value.int Go.IntKind.i64 0, Go.Value.bool false, Go.Value.slice none 0 0, Go.Value.int Go.IntKind.i64 0, Go.Value.slice none 0 0, Go.Value.string { data := #[] }, Go.Value.slice none 0 0, Go.Value.int Go.IntKind.i64 0, Go.Value.slice none 0 0]) #[Go.Value.int Go.IntKind.i64 0, Go.Value.int Go.IntKind.i64 0, Go.Value.int Go.IntKind.i64 0, Go.Value.string { data := #[] }, Go.Value.slice none 0 0, Go.Value.int Go.IntKind.i64 0, Go.Value.int Go.IntKind.i64 0, Go.Value.bool false, Go.Value.slice none 0 0, Go.Value.int Go.IntKind.i64 0, Go.Value.slice none 0 0, Go.Value.string { data := #[] }, Go.Value.slice none 0 0, Go.Value.int Go.IntKind.i64 0, Go.Value.slice none 0 0] := ⟨Try.zeroValue65, rfl⟩
instance ty66 : Ty Try.prog 66 (Go.TypeDesc.struct #[{ name := "Config", type := 29, offset := 0, embedded := true, tag := "", pkgPath := "", byteOffset := 0 }, { name := "g", type := 41, offset := 9, embedded := false, tag := "", pkgPath := "stenotype/config", byteOffset := 112 }]) 15 true := ⟨Try.underlying66, Try.isAgg66, Try.sizeOf66⟩
instance zero66 : Zero Try.prog 66 (Go.Value.agg #[Go.Value.int Go.IntKind.i64 0, Go.Value.int Go.IntKind.i64 0, Go.Value.int Go.IntKind.i64 0, Go.Value.string { data := #[] }, Go.Value.slice none 0 0, Go.Value.int Go.IntKind.i64 0, Go.Value.int Go.IntKind.i64 0, Go.Value.bool false, Go.Value.slice none 0 0, Go.Value.int Go.IntKind.i64 0, Go.Value.slice none 0 0, Go.Value.string { data := #[] }, Go.Value.slice none 0 0, Go.Value.int Go.IntKind.i64 0, Go.Value.slice none 0 0]) #[Go.Value.int Go.IntKind.i64 0, Go.Value.int Go.IntKind.i64 0, Go.Value.int Go.IntKind.i64 0, Go.Value.string { data := #[] }, Go.Value.slice none 0 0, Go.Value.int Go.IntKind.i64 0, Go.Value.int Go.IntKind.i64 0, Go.Value.bool false, Go.Value.slice none 0 0, Go.Value.int Go.IntKind.i64 0, Go.Value.slice none 0 0, Go.Value.string { data := #[] }, Go.Value.slice none 0 0, Go.Value.int Go.IntKind.i64 0, Go.Value.slice none 0 0] := ⟨Try.zeroValue66, rfl⟩
instance ty67 : Ty Try.prog 67 (Go.TypeDesc.func #[] #[32] false) 1 false := ⟨Try.underlying67, Try.isAgg67, Try.sizeOf67⟩
instance zero67 : Zero Try.prog 67 (Go.Value.nilFunc) #[Go.Value.nilFunc] := ⟨Try.zeroValue67, rfl⟩
instance ty68 : Ty Try.prog 68 (Go.TypeDesc.array 8 67) 8 true := ⟨Try.underlying68, Try.isAgg68, Try.sizeOf68⟩
instance zero68 : Zero Try.prog 68 (Go.Value.agg #[Go.Value.nilFunc, Go.Value.nilFunc, Go.Value.nilFunc, Go.Value.nilFunc, Go.Value.nilFunc, Go.Value.nilFunc, Go.Value.nilFunc, Go.Value.nilFunc]) #[Go.Value.nilFunc, Go.Value.nilFunc, Go.Value.nilFunc, Go.Value.nilFunc, Go.Value.nilFunc, Go.Value.nilFunc, Go.Value.nilFunc, Go.Value.nilFunc] := ⟨Try.zeroValue68, rfl⟩
instance ty69 : Ty Try.prog 69 (Go.TypeDesc.func #[3, 3, 26] #[3, 32] false) 1 false := ⟨Try.underlying69, Try.isAgg69, Try.sizeOf69⟩
instance zero69 : Zero Try.prog 69 (Go.Value.nilFunc) #[Go.Value.nilFunc] := ⟨Try.zeroValue69, rfl⟩
instance ty70 : Ty Try.prog 70 (Go.TypeDesc.func #[41, 27] #[3, 3, 32] false) 1 false := ⟨Try.underlying70, Try.isAgg70, Try.sizeOf70⟩
instance zero70 : Zero Try.prog 70 (Go.Value.nilFunc) #[Go.Value.nilFunc] := ⟨Try.zeroValue70, rfl⟩
instance ty71 : Ty Try.prog 71 (Go.TypeDesc.slice 64) 1 false := ⟨Try.underlying71, Try.isAgg71, Try.sizeOf71⟩
instance zero71 : Zero Try.prog 71 (Go.Value.slice none 0 0) #[Go.Value.slice none 0 0] := ⟨Try.zeroValue71, rfl⟩
instance ty72 : Ty Try.prog 72 (Go.TypeDesc.func #[3, 3, 26] #[32] false) 1 false := ⟨Try.underlying72, Try.isAgg72, Try.sizeOf72⟩
instance zero72 : Zero Try.prog 72 (Go.Value.nilFunc) #[Go.Value.nilFunc] := ⟨Try.zeroValue72, rfl⟩
instance ty73 : Ty Try.prog 73 (Go.TypeDesc.func #[24, 74] #[4] false) 1 false := ⟨Try.underlying73, Try.isAgg73, Try.sizeOf73⟩
instance zero73 : Zero Try.prog 73 (Go.Value.nilFunc) #[Go.Value.nilFunc] := ⟨Try.zeroValue73, rfl⟩
instance ty74 : Ty Try.prog 74 (Go.TypeDesc.func #[49] #[4] false) 1 false := ⟨Try.underlying74, Try.isAgg74, Try.sizeOf74⟩
instance zero74 : Zero Try.prog 74 (Go.Value.nilFunc) #[Go.Value.nilFunc] := ⟨Try.zeroValue74, rfl⟩
instance ty75 : Ty Try.prog 75 (Go.TypeDesc.func #[9, 3] #[4, 32] false) 1 false := ⟨Try.underlying75, Try.isAgg75, Try.sizeOf75⟩
instance zero75 : Zero Try.prog 75 (Go.Value.nilFunc) #[Go.Value.nilFunc] := ⟨Try.zeroValue75, rfl⟩
instance ty76 : Ty Try.prog 76 (Go.TypeDesc.func #[49] #[3] false) 1 false := ⟨Try.underlying76, Try.isAgg76, Try.sizeOf76⟩
instance zero76 : Zero Try.prog 76 (Go.Value.nilFunc) #[Go.Value.nilFunc] := ⟨Try.zeroValue76, rfl⟩
instance ty77 : Ty Try.prog 77 (Go.TypeDesc.func #[41, 27] #[32] false) 1 false := ⟨Try.underlying77, Try.isAgg77, Try.sizeOf77⟩
instance zero77 : Zero Try.prog 77 (Go.Value.nilFunc) #[Go.Value.nilFunc] := ⟨Try.zeroValue77, rfl⟩
instance ty78 : Ty Try.prog 78 (Go.TypeDesc.int Go.IntKind.i64) 1 false := ⟨Try.underlying78, Try.isAgg78, Try.sizeOf78⟩
instance zero78 : Zero Try.prog 78 (Go.Value.int Go.IntKind.i64 0) #[Go.Value.int Go.IntKind.i64 0] := ⟨Try.zeroValue78, rfl⟩
instance ty79 : Ty Try.prog 79 (Go.TypeDesc.tuple #[78, 3]) 1 false := ⟨Try.underlying79, Try.isAgg79, Try.sizeOf79⟩
instance zero79 : Zero Try.prog 79 (Go.Value.tuple #[Go.Value.int Go.IntKind.i64 0, Go.Value.int Go.IntKind.i64 0]) #[Go.Value.tuple #[Go.Value.int Go.IntKind.i64 0, Go.Value.int Go.IntKind.i64 0]] := ⟨Try.zeroValue79, rfl⟩
instance ty80 : Ty Try.prog 80 (Go.TypeDesc.func #[41, 27] #[78, 3] false) 1 false := ⟨Try.underlying80, Try.isAgg80, Try.sizeOf80⟩
instance zero80 : Zero Try.prog 80 (Go.Value.nilFunc) #[Go.Value.nilFunc] := ⟨Try.zeroValue80, rfl⟩
instance ty81 : Ty Try.prog 81 (Go.TypeDesc.func #[] #[3] false) 1 false := ⟨Try.underlying81, Try.isAgg81, Try.sizeOf81⟩
instance zero81 : Zero Try.prog 81 (Go.Value.nilFunc) #[Go.Value.nilFunc] := ⟨Try.zeroValue81, rfl⟩
instance ty82 : Ty Try.prog 82 (Go.TypeDesc.func #[109] #[] false) 1 false := ⟨Try.underlying82, Try.isAgg82, Try.sizeOf82⟩
instance zero82 : Zero Try.prog 82 (Go.Value.nilFunc) #[Go.Value.nilFunc] := ⟨Try.zeroValue82, rfl⟩
instance ty83 : Ty Try.prog 83 (Go.TypeDesc.func #[109] #[] false) 1 false := ⟨Try.underlying83, Try.isAgg83, Try.sizeOf83⟩
instance zero83 : Zero Try.prog 83 (Go.Value.nilFunc) #[Go.Value.nilFunc] := ⟨Try.zeroValue83, rfl⟩
instance ty84 : Ty Try.prog 84 (Go.TypeDesc.func #[41] #[83] false) 1 false := ⟨Try.underlying84, Try.isAgg84, Try.sizeOf84⟩
instance zero84 : Zero Try.prog 84 (Go.Value.nilFunc) #[Go.Value.nilFunc] := ⟨Try.zeroValue84, rfl⟩
instance ty85 : Ty Try.prog 85 (Go.TypeDesc.func #[9] #[4] false) 1 false := ⟨Try.underlying85, Try.isAgg85, Try.sizeOf85⟩
instance zero85 : Zero Try.prog 85 (Go.Value.nilFunc) #[Go.Value.nilFunc] := ⟨Try.zeroValue85, rfl⟩
instance ty86 : Ty Try.prog 86 (Go.TypeDesc.map 9 4) 1 false := ⟨Try.underlying86, Try.isAgg86, Try.sizeOf86⟩
instance zero86 : Zero Try.prog 86 (Go.Value.map none) #[Go.Value.map none] := ⟨Try.zeroValue86, rfl⟩
instance ty87 : Ty Try.prog 87 (Go.TypeDesc.func #[41, 3] #[4] false) 1 false := ⟨Try.underlying87, Try.isAgg87, Try.sizeOf87⟩
instance zero87 : Zero Try.prog 87 (Go.Value.nilFunc) #[Go.Value.nilFunc] := ⟨Try.zeroValue87, rfl⟩
instance ty88 : Ty Try.prog 88 (Go.TypeDesc.func #[57, 53] #[4] false) 1 false := ⟨Try.underlying88, Try.isAgg88, Try.sizeOf88⟩
instance zero88 : Zero Try.prog 88 (Go.Value.nilFunc) #[Go.Value.nilFunc] := ⟨Try.zeroValue88, rfl⟩
instance ty89 : Ty Try.prog 89 (Go.TypeDesc.func #[39, 90] #[4] false) 1 false := ⟨Try.underlying89, Try.isAgg89, Try.sizeOf89⟩
instance zero89 : Zero Try.prog 89 (Go.Value.nilFunc) #[Go.Value.nilFunc] := ⟨Try.zeroValue89, rfl⟩
instance ty90 : Ty Try.prog 90 (Go.TypeDesc.func #[59] #[4] false) 1 false := ⟨Try.underlying90, Try.isAgg90, Try.sizeOf90⟩
instance zero90 : Zero Try.prog 90 (Go.Value.nilFunc) #[Go.Value.nilFunc] := ⟨Try.zeroValue90, rfl⟩
instance ty91 : Ty Try.prog 91 (Go.TypeDesc.func #[49, 3] #[32] false) 1 false := ⟨Try.underlying91, Try.isAgg91, Try.sizeOf91⟩
instance zero91 : Zero Try.prog 91 (Go.Value.nilFunc) #[Go.Value.nilFunc] := ⟨Try.zeroValue91, rfl⟩
instance ty92 : Ty Try.prog 92 (Go.TypeDesc.func #[24, 74] #[3] false) 1 false := ⟨Try.underlying92, Try.isAgg92, Try.sizeOf92⟩
instance zero92 : Zero Try.prog 92 (Go.Value.nilFunc) #[Go.Value.nilFunc] := ⟨Try.zeroValue92, rfl⟩
instance ty93 : Ty Try.prog 93 (Go.TypeDesc.pointer 97) 1 false := ⟨Try.underlying93, Try.isAgg93, Try.sizeOf93⟩
instance zero93 : Zero Try.prog 93 (Go.Value.pointer none) #[Go.Value.pointer none] := ⟨Try.zeroValue93, rfl⟩
instance ty94 : Ty Try.prog 94 (Go.TypeDesc.tuple #[93, 3, 32]) 1 false := ⟨Try.underlying94, Try.isAgg94, Try.sizeOf94⟩
instance zero94 : Zero Try.prog 94 (Go.Value.tuple #[Go.Value.pointer none, Go.Value.int Go.IntKind.i64 0, Go.Value.int Go.IntKind.i64 0]) #[Go.Value.tuple #[Go.Value.pointer none, Go.Value.int Go.IntKind.i64 0, Go.Value.int Go.IntKind.i64 0]] := ⟨Try.zeroValue94, rfl⟩
instance ty95 : Ty Try.prog 95 (Go.TypeDesc.func #[9, 3] #[93, 3, 32] false) 1 false := ⟨Try.underlying95, Try.isAgg95, Try.sizeOf95⟩
instance zero95 : Zero Try.prog 95 (Go.Value.nilFunc) #[Go.Value.nilFunc] := ⟨Try.zeroValue95, rfl⟩
instance ty96 : Ty Try.prog 96 (Go.TypeDesc.struct #[{ name := "state", type := 3, offset := 0, embedded := false, tag := "", pkgPath := "stenotype/token", byteOffset := 0 }, { name := "left", type := 3, offset := 1, embedded := false, tag := "", pkgPath := "stenotype/token", byteOffset := 8 }, { name := "t", type := 49, offset := 2, embedded := false, tag := "", pkgPath := "stenotype/token", byteOffset := 16 }]) 5 true := ⟨Try.underlying96, Try.isAgg96, Try.sizeOf96⟩
instance zero96 : Zero Try.prog 96 (Go.Value.agg #[Go.Value.int Go.IntKind.i64 0, Go.Value.int Go.IntKind.i64 0, Go.Value.int Go.IntKind.i64 0, Go.Value.string { data := #[] }, Go.Value.int Go.IntKind.i64 0]) #[Go.Value.int Go.IntKind.i64 0, Go.Value.int Go.IntKind.i64 0, Go.Value.int Go.IntKind.i64 0, Go.Value.string { data := #[] }, Go.Value.int Go.IntKind.i64 0] := ⟨Try.zeroValue96, rfl⟩
instance ty97 : Ty Try.prog 97 (Go.TypeDesc.struct #[{ name := "state", type := 3, offset := 0, embedded := false, tag := "", pkgPath := "stenotype/token", byteOffset := 0 }, { name := "left", type := 3, offset := 1, embedded := false, tag := "", pkgPath := "stenotype/token", byteOffset := 8 }, { name := "t", type := 49, offset := 2, embedded := false, tag := "", pkgPath := "stenotype/token", byteOffset := 16 }]) 5 true := ⟨Try.underlying97, Try.isAgg97, Try.sizeOf97⟩
instance zero97 : Zero Try.prog 97 (Go.Value.agg #[Go.Value.int Go.IntKind.i64 0, Go.Value.int Go.IntKind.i64 0, Go.Value.int Go.IntKind.i64 0, Go.Value.string { data := #[] }, Go.Value.int Go.IntKind.i64 0]) #[Go.Value.int Go.IntKind.i64 0, Go.Value.int Go.IntKind.i64 0, Go.Value.int Go.IntKind.i64 0, Go.Value.string { data := #[] }, Go.Value.int Go.IntKind.i64 0] := ⟨Try.zeroValue97, rfl⟩
instance ty98 : Ty Try.prog 98 (Go.TypeDesc.func #[108] #[] false) 1 false := ⟨Try.underlying98, Try.isAgg98, Try.sizeOf98⟩
instance zero98 : Zero Try.prog 98 (Go.Value.nilFunc) #[Go.Value.nilFunc] := ⟨Try.zeroValue98, rfl⟩
instance ty99 : Ty Try.prog 99 (Go.TypeDesc.func #[108] #[] false) 1 false := ⟨Try.underlying99, Try.isAgg99, Try.sizeOf99⟩
instance zero99 : Zero Try.prog 99 (Go.Value.nilFunc) #[Go.Value.nilFunc] := ⟨Try.zeroValue99, rfl⟩
instance ty100 : Ty Try.prog 100 (Go.TypeDesc.func #[27] #[99] false) 1 false := ⟨Try.underlying100, Try.isAgg100, Try.sizeOf100⟩
instance zero100 : Zero Try.prog 100 (Go.Value.nilFunc) #[Go.Value.nilFunc] := ⟨Try.zeroValue100, rfl⟩
instance ty101 : Ty Try.prog 101 (Go.TypeDesc.array 4 3) 4 true := ⟨Try.underlying101, Try.isAgg101, Try.sizeOf101⟩
instance zero101 : Zero Try.prog 101 (Go.Value.agg #[Go.Value.int Go.IntKind.i64 0, Go.Value.int Go.IntKind.i64 0, Go.Value.int Go.IntKind.i64 0, Go.Value.int Go.IntKind.i64 0]) #[Go.Value.int Go.IntKind.i64 0, Go.Value.int Go.IntKind.i64 0, Go.Value.int Go.IntKind.i64 0, Go.Value.int Go.IntKind.i64 0] := ⟨Try.zeroValue101, rfl⟩
instance ty102 : Ty Try.prog 102 (Go.TypeDesc.func #[39] #[83] false) 1 false := ⟨Try.underlying102, Try.isAgg102, Try.sizeOf102⟩
instance zero102 : Zero Try.prog 102 (Go.Value.nilFunc) #[Go.Value.nilFunc] := ⟨Try.zeroValue102, rfl⟩
instance ty103 : Ty Try.prog 103 (Go.TypeDesc.func #[9] #[32] false) 1 false := ⟨Try.underlying103, Try.isAgg103, Try.sizeOf103⟩
instance zero103 : Zero Try.prog 103 (Go.Value.nilFunc) #[Go.Value.nilFunc] := ⟨Try.zeroValue103, rfl⟩
instance ty104 : Ty Try.prog 104 (Go.TypeDesc.func #[57, 53] #[3] false) 1 false := ⟨Try.underlying104, Try.isAgg104, Try.sizeOf104⟩
instance zero104 : Zero Try.prog 104 (Go.Value.nilFunc) #[Go.Value.nilFunc] := ⟨Try.zeroValue104, rfl⟩
instance ty105 : Ty Try.prog 105 (Go.TypeDesc.func #[39, 90] #[3] false) 1 false := ⟨Try.underlying105, Try.isAgg105, Try.sizeOf105⟩
instance zero105 : Zero Try.prog 105 (Go.Value.nilFunc) #[Go.Value.nilFunc] := ⟨Try.zeroValue105, rfl⟩
instance ty106 : Ty Try.prog 106 (Go.TypeDesc.func #[49, 3] #[4] false) 1 false := ⟨Try.underlying106, Try.isAgg106, Try.sizeOf106⟩
instance zero106 : Zero Try.prog 106 (Go.Value.nilFunc) #[Go.Value.nilFunc] := ⟨Try.zeroValue106, rfl⟩
instance ty107 : Ty Try.prog 107 (Go.TypeDesc.func #[5, 3] #[32] false) 1 false := ⟨Try.underlying107, Try.isAgg107, Try.sizeOf107⟩
instance zero107 : Zero Try.prog 107 (Go.Value.nilFunc) #[Go.Value.nilFunc] := ⟨Try.zeroValue107, rfl⟩
instance ty108 : Ty Try.prog 108 (Go.TypeDesc.func #[3, 47] #[4] false) 1 false := ⟨Try.underlying108, Try.isAgg108, Try.sizeOf108⟩
instance zero108 : Zero Try.prog 108 (Go.Value.nilFunc) #[Go.Value.nilFunc] := ⟨Try.zeroValue108, rfl⟩
instance ty109 : Ty Try.prog 109 (Go.TypeDesc.func #[3, 59] #[4] false) 1 false := ⟨Try.underlying109, Try.isAgg109, Try.sizeOf109⟩
instance zero109 : Zero Try.prog 109 (Go.Value.nilFunc) #[Go.Value.nilFunc] := ⟨Try.zeroValue109, rfl⟩
instance ty110 : Ty Try.prog 110 (Go.TypeDesc.slice 5) 1 false := ⟨Try.underlying110, Try.isAgg110, Try.sizeOf110⟩
instance zero110 : Zero Try.prog 110 (Go.Value.slice none 0 0) #[Go.Value.slice none 0 0] := ⟨Try.zeroValue110, rfl⟩
instance ty111 : Ty Try.prog 111 (Go.TypeDesc.func #[21] #[4] false) 1 false := ⟨Try.underlying111, Try.isAgg111, Try.sizeOf111⟩
instance zero111 : Zero Try.prog 111 (Go.Value.nilFunc) #[Go.Value.nilFunc] := ⟨Try.zeroValue111, rfl⟩
instance ty112 : Ty Try.prog 112 (Go.TypeDesc.array 4 9) 4 true := ⟨Try.underlying112, Try.isAgg112, Try.sizeOf112⟩
instance zero112 : Zero Try.prog 112 (Go.Value.agg #[Go.Value.string { data := #[] }, Go.Value.string { data := #[] }, Go.Value.string { data := #[] }, Go.Value.string { data := #[] }]) #[Go.Value.string { data := #[] }, Go.Value.string { data := #[] }, Go.Value.string { data := #[] }, Go.Value.string { data := #[] }] := ⟨Try.zeroValue112, rfl⟩
instance ty113 : Ty Try.prog 113 (Go.TypeDesc.func #[38, 9] #[4] false) 1 false := ⟨Try.underlying113, Try.isAgg113, Try.sizeOf113⟩
instance zero113 : Zero Try.prog 113 (Go.Value.nilFunc) #[Go.Value.nilFunc] := ⟨Try.zeroValue113, rfl⟩
instance ty114 : Ty Try.prog 114 (Go.TypeDesc.func #[38, 9] #[3] false) 1 false := ⟨Try.underlying114, Try.isAgg114, Try.sizeOf114⟩
instance zero114 : Zero Try.prog 114 (Go.Value.nilFunc) #[Go.Value.nilFunc] := ⟨Try.zeroValue114, rfl⟩
instance ty115 : Ty Try.prog 115 (Go.TypeDesc.func #[] #[9] false) 1 false := ⟨Try.underlying115, Try.isAgg115, Try.sizeOf115⟩
instance zero115 : Zero Try.prog 115 (Go.Value.nilFunc) #[Go.Value.nilFunc] := ⟨Try.zeroValue115, rfl⟩
instance ty116 : Ty Try.prog 116 (Go.TypeDesc.struct #[{ name := "_interface", type := 17, offset := 0, embedded := false, tag := "", pkgPath := "runtime", byteOffset := 0 }, { name := "concrete", type := 17, offset := 1, embedded := false, tag := "", pkgPath := "runtime", byteOffset := 8 }, { name := "asserted", type := 17, offset := 2, embedded := false, tag := "", pkgPath := "runtime", byteOffset := 16 }, { name := "missingMethod", type := 9, offset := 3, embedded := false, tag := "", pkgPath := "runtime", byteOffset := 24 }]) 4 true := ⟨Try.underlying116, Try.isAgg116, Try.sizeOf116⟩
instance zero116 : Zero Try.prog 116 (Go.Value.agg #[Go.Value.pointer none, Go.Value.pointer none, Go.Value.pointer none, Go.Value.string { data := #[] }]) #[Go.Value.pointer none, Go.Value.pointer none, Go.Value.pointer none, Go.Value.string { data := #[] }] := ⟨Try.zeroValue116, rfl⟩
instance ty117 : Ty Try.prog 117 (Go.TypeDesc.struct #[{ name := "_interface", type := 17, offset := 0, embedded := false, tag := "", pkgPath := "runtime", byteOffset := 0 }, { name := "concrete", type := 17, offset := 1, embedded := false, tag := "", pkgPath := "runtime", byteOffset := 8 }, { name := "asserted", type := 17, offset := 2, embedded := false, tag := "", pkgPath := "runtime", byteOffset := 16 }, { name := "missingMethod", type := 9, offset := 3, embedded := false, tag := "", pkgPath := "runtime", byteOffset := 24 }]) 4 true := ⟨Try.underlying117, Try.isAgg117, Try.sizeOf117⟩
instance zero117 : Zero Try.prog 117 (Go.Value.agg #[Go.Value.pointer none, Go.Value.pointer none, Go.Value.pointer none, Go.Value.string { data := #[] }]) #[Go.Value.pointer none, Go.Value.pointer none, Go.Value.pointer none, Go.Value.string { data := #[] }] := ⟨Try.zeroValue117, rfl⟩
instance ty118 : Ty Try.prog 118 (Go.TypeDesc.array 0 16) 0 true := ⟨Try.underlying118, Try.isAgg118, Try.sizeOf118⟩
instance zero118 : Zero Try.prog 118 (Go.Value.agg #[]) #[] := ⟨Try.zeroValue118, rfl⟩
instance ty119 : Ty Try.prog 119 (Go.TypeDesc.struct #[{ name := "_", type := 118, offset := 0, embedded := false, tag := "", pkgPath := "runtime", byteOffset := 0 }]) 0 true := ⟨Try.underlying119, Try.isAgg119, Try.sizeOf119⟩
instance zero119 : Zero Try.prog 119 (Go.Value.agg #[]) #[] := ⟨Try.zeroValue119, rfl⟩
instance ty120 : Ty Try.prog 120 (Go.TypeDesc.struct #[{ name := "_", type := 118, offset := 0, embedded := false, tag := "", pkgPath := "runtime", byteOffset := 0 }]) 0 true := ⟨Try.underlying120, Try.isAgg120, Try.sizeOf120⟩
instance zero120 : Zero Try.prog 120 (Go.Value.agg #[]) #[] := ⟨Try.zeroValue120, rfl⟩
instance ty121 : Ty Try.prog 121 (Go.TypeDesc.int Go.IntKind.u32) 1 false := ⟨Try.underlying121, Try.isAgg121, Try.sizeOf121⟩
instance zero121 : Zero Try.prog 121 (Go.Value.int Go.IntKind.u32 0) #[Go.Value.int Go.IntKind.u32 0] := ⟨Try.zeroValue121, rfl⟩
instance ty122 : Ty Try.prog 122 (Go.TypeDesc.int Go.IntKind.u8) 1 false := ⟨Try.underlying122, Try.isAgg122, Try.sizeOf122⟩
instance zero122 : Zero Try.prog 122 (Go.Value.int Go.IntKind.u8 0) #[Go.Value.int Go.IntKind.u8 0] := ⟨Try.zeroValue122, rfl⟩
instance ty123 : Ty Try.prog 123 (Go.TypeDesc.int Go.IntKind.u8) 1 false := ⟨Try.underlying123, Try.isAgg123, Try.sizeOf123⟩
instance zero123 : Zero Try.prog 123 (Go.Value.int Go.IntKind.u8 0) #[Go.Value.int Go.IntKind.u8 0] := ⟨Try.zeroValue123, rfl⟩
instance ty124 : Ty Try.prog 124 (Go.TypeDesc.func #[130, 130] #[4] false) 1 false := ⟨Try.underlying124, Try.isAgg124, Try.sizeOf124⟩
instance zero124 : Zero Try.prog 124 (Go.Value.nilFunc) #[Go.Value.nilFunc] := ⟨Try.zeroValue124, rfl⟩
instance ty125 : Ty Try.prog 125 (Go.TypeDesc.pointer 5) 1 false := ⟨Try.underlying125, Try.isAgg125, Try.sizeOf125⟩
instance zero125 : Zero Try.prog 125 (Go.Value.pointer none) #[Go.Value.pointer none] := ⟨Try.zeroValue125, rfl⟩
instance ty126 : Ty Try.prog 126 (Go.TypeDesc.int Go.IntKind.i32) 1 false := ⟨Try.underlying126, Try.isAgg126, Try.sizeOf126⟩
instance zero126 : Zero Try.prog 126 (Go.Value.int Go.IntKind.i32 0) #[Go.Value.int Go.IntKind.i32 0] := ⟨Try.zeroValue126, rfl⟩
instance ty127 : Ty Try.prog 127 (Go.TypeDesc.int Go.IntKind.i32) 1 false := ⟨Try.underlying127, Try.isAgg127, Try.sizeOf127⟩
instance zero127 : Zero Try.prog 127 (Go.Value.int Go.IntKind.i32 0) #[Go.Value.int Go.IntKind.i32 0] := ⟨Try.zeroValue127, rfl⟩
instance ty128 : Ty Try.prog 128 (Go.TypeDesc.struct #[{ name := "Size_", type := 12, offset := 0, embedded := false, tag := "", pkgPath := "", byteOffset := 0 }, { name := "PtrBytes", type := 12, offset := 1, embedded := false, tag := "", pkgPath := "", byteOffset := 8 }, { name := "Hash", type := 121, offset := 2, embedded := false, tag := "", pkgPath := "", byteOffset := 16 }, { name := "TFlag", type := 122, offset := 3, embedded := false, tag := "", pkgPath := "", byteOffset := 20 }, { name := "Align_", type := 5, offset := 4, embedded := false, tag := "", pkgPath := "", byteOffset := 21 }, { name := "FieldAlign_", type := 5, offset := 5, embedded := false, tag := "", pkgPath := "", byteOffset := 22 }, { name := "Kind_", type := 123, offset := 6, embedded := false, tag := "", pkgPath := "", byteOffset := 23 }, { name := "Equal", type := 124, offset := 7, embedded := false, tag := "", pkgPath := "", byteOffset := 24 }, { name := "GCData", type := 125, offset := 8, embedded := false, tag := "", pkgPath := "", byteOffset := 32 }, { name := "Str", type := 126, offset := 9, embedded := false, tag := "", pkgPath := "", byteOffset := 40 }, { name := "PtrToThis", type := 127, offset := 10, embedded := false, tag := "", pkgPath := "", byteOffset := 44 }]) 11 true := ⟨Try.underlying128, Try.isAgg128, Try.sizeOf128⟩
instance zero128 : Zero Try.prog 128 (Go.Value.agg #[Go.Value.int Go.IntKind.u64 0, Go.Value.int Go.IntKind.u64 0, Go.Value.int Go.IntKind.u32 0, Go.Value.int Go.IntKind.u8 0, Go.Value.int Go.IntKind.u8 0, Go.Value.int Go.IntKind.u8 0, Go.Value.int Go.IntKind.u8 0, Go.Value.nilFunc, Go.Value.pointer none, Go.Value.int Go.IntKind.i32 0, Go.Value.int Go.IntKind.i32 0]) #[Go.Value.int Go.IntKind.u64 0, Go.Value.int Go.IntKind.u64 0, Go.Value.int Go.IntKind.u32 0, Go.Value.int Go.IntKind.u8 0, Go.Value.int Go.IntKind.u8 0, Go.Value.int Go.IntKind.u8 0, Go.Value.int Go.IntKind.u8 0, Go.Value.nilFunc, Go.Value.pointer none, Go.Value.int Go.IntKind.i32 0, Go.Value.int Go.IntKind.i32 0] := ⟨Try.zeroValue128, rfl⟩
instance ty129 : Ty Try.prog 129 (Go.TypeDesc.struct #[{ name := "Size_", type := 12, offset := 0, embedded := false, tag := "", pkgPath := "", byteOffset := 0 }, { name := "PtrBytes", type := 12, offset := 1, embedded := false, tag := "", pkgPath := "", byteOffset := 8 }, { name := "Hash", type := 121, offset := 2, embedded := false, tag := "", pkgPath := "", byteOffset := 16 }, { name := "TFlag", type := 122, offset := 3, embedded := false, tag := "", pkgPath := "", byteOffset := 20 }, { name := "Align_", type := 5, offset := 4, embedded := false, tag := "", pkgPath := "", byteOffset := 21 }, { name := "FieldAlign_", type := 5, offset := 5, embedded := false, tag := "", pkgPath := "", byteOffset := 22 }, { name := "Kind_", type := 123, offset := 6, embedded := false, tag := "", pkgPath := "", byteOffset := 23 }, { name := "Equal", type := 124, offset := 7, embedded := false, tag := "", pkgPath := "", byteOffset := 24 }, { name := "GCData", type := 125, offset := 8, embedded := false, tag := "", pkgPath := "", byteOffset := 32 }, { name := "Str", type := 126, offset := 9, embedded := false, tag := "", pkgPath := "", byteOffset := 40 }, { name := "PtrToThis", type := 127, offset := 10, embedded := false, tag := "", pkgPath := "", byteOffset := 44 }]) 11 true := ⟨Try.underlying129, Try.isAgg129, Try.sizeOf129⟩
instance zero129 : Zero Try.prog 129 (Go.Value.agg #[Go.Value.int Go.IntKind.u64 0, Go.Value.int Go.IntKind.u64 0, Go.Value.int Go.IntKind.u32 0, Go.Value.int Go.IntKind.u8 0, Go.Value.int Go.IntKind.u8 0, Go.Value.int Go.IntKind.u8 0, Go.Value.int Go.IntKind.u8 0, Go.Value.nilFunc, Go.Value.pointer none, Go.Value.int Go.IntKind.i32 0, Go.Value.int Go.IntKind.i32 0]) #[Go.Value.int Go.IntKind.u64 0, Go.Value.int Go.IntKind.u64 0, Go.Value.int Go.IntKind.u32 0, Go.Value.int Go.IntKind.u8 0, Go.Value.int Go.IntKind.u8 0, Go.Value.int Go.IntKind.u8 0, Go.Value.int Go.IntKind.u8 0, Go.Value.nilFunc, Go.Value.pointer none, Go.Value.int Go.IntKind.i32 0, Go.Value.int Go.IntKind.i32 0] := ⟨Try.zeroValue129, rfl⟩
instance ty130 : Ty Try.prog 130 (Go.TypeDesc.unsafePointer) 1 false := ⟨Try.underlying130, Try.isAgg130, Try.sizeOf130⟩
instance zero130 : Zero Try.prog 130 (Go.Value.pointer none) #[Go.Value.pointer none] := ⟨Try.zeroValue130, rfl⟩
instance ent2 : Ent Try.prog 2 := ⟨Try.call2⟩
instance ent3 : Ent Try.prog 3 := ⟨Try.call3⟩
instance ent4 : Ent Try.prog 4 := ⟨Try.call4⟩
instance ent5 : Ent Try.prog 5 := ⟨Try.call5⟩
instance ent6 : Ent Try.prog 6 := ⟨Try.call6⟩
instance ent7 : Ent Try.prog 7 := ⟨Try.call7⟩
instance ent8 : Ent Try.prog 8 := ⟨Try.call8⟩
instance ent9 : Ent Try.prog 9 := ⟨Try.call9⟩
instance ent10 : Ent Try.prog 10 := ⟨Try.call10⟩
instance ent11 : Ent Try.prog 11 := ⟨Try.call11⟩
instance ent12 : Ent Try.prog 12 := ⟨Try.call12⟩
instance ent13 : Ent Try.prog 13 := ⟨Try.call13⟩
instance ent14 : Ent Try.prog 14 := ⟨Try.call14⟩
instance ent15 : Ent Try.prog 15 := ⟨Try.call15⟩
instance ent16 : Ent Try.prog 16 := ⟨Try.call16⟩
instance ent17 : Ent Try.prog 17 := ⟨Try.call17⟩
instance ent18 : Ent Try.prog 18 := ⟨Try.call18⟩
instance ent19 : Ent Try.prog 19 := ⟨Try.call19⟩
instance ent20 : Ent Try.prog 20 := ⟨Try.call20⟩
instance ent21 : Ent Try.prog 21 := ⟨Try.call21⟩
instance ent22 : Ent Try.prog 22 := ⟨Try.call22⟩
instance ent23 : Ent Try.prog 23 := ⟨Try.call23⟩
instance ent24 : Ent Try.prog 24 := ⟨Try.call24⟩
instance ent25 : Ent Try.prog 25 := ⟨Try.call25⟩
instance ent26 : Ent Try.prog 26 := ⟨Try.call26⟩
instance ent27 : Ent Try.prog 27 := ⟨Try.call27⟩
instance ent28 : Ent Try.prog 28 := ⟨Try.call28⟩
instance ent29 : Ent Try.prog 29 := ⟨Try.call29⟩
instance ent30 : Ent Try.prog 30 := ⟨Try.call30⟩
instance ent31 : Ent Try.prog 31 := ⟨Try.call31⟩
instance ent32 : Ent Try.prog 32 := ⟨Try.call32⟩
instance ent33 : Ent Try.prog 33 := ⟨Try.call33⟩
instance ent34 : Ent Try.prog 34 := ⟨Try.call34⟩
instance ent35 : Ent Try.prog 35 := ⟨Try.call35⟩
instance ent36 : Ent Try.prog 36 := ⟨Try.call36⟩
instance ent37 : Ent Try.prog 37 := ⟨Try.call37⟩
instance ent38 : Ent Try.prog 38 := ⟨Try.call38⟩
instance ent39 : Ent Try.prog 39 := ⟨Try.call39⟩
instance ent40 : Ent Try.prog 40 := ⟨Try.call40⟩
instance ent41 : Ent Try.prog 41 := ⟨Try.call41⟩
instance ent42 : Ent Try.prog 42 := ⟨Try.call42⟩
instance ent43 : Ent Try.prog 43 := ⟨Try.call43⟩
instance ent44 : Ent Try.prog 44 := ⟨Try.call44⟩
instance ent45 : Ent Try.prog 45 := ⟨Try.call45⟩
instance ent46 : Ent Try.prog 46 := ⟨Try.call46⟩
instance ent47 : Ent Try.prog 47 := ⟨Try.call47⟩
instance ent48 : Ent Try.prog 48 := ⟨Try.call48⟩
instance ent49 : Ent Try.prog 49 := ⟨Try.call49⟩
instance ent50 : Ent Try.prog 50 := ⟨Try.call50⟩
instance ent51 : Ent Try.prog 51 := ⟨Try.call51⟩
instance ent52 : Ent Try.prog 52 := ⟨Try.call52⟩
instance ent53 : Ent Try.prog 53 := ⟨Try.call53⟩
instance ent54 : Ent Try.prog 54 := ⟨Try.call54⟩
instance ent55 : Ent Try.prog 55 := ⟨Try.call55⟩
instance ent56 : Ent Try.prog 56 := ⟨Try.call56⟩
instance ent57 : Ent Try.prog 57 := ⟨Try.call57⟩
instance ent58 : Ent Try.prog 58 := ⟨Try.call58⟩
instance ent59 : Ent Try.prog 59 := ⟨Try.call59⟩
instance ent60 : Ent Try.prog 60 := ⟨Try.call60⟩
instance ent61 : Ent Try.prog 61 := ⟨Try.call61⟩
instance ent62 : Ent Try.prog 62 := ⟨Try.call62⟩
instance ent63 : Ent Try.prog 63 := ⟨Try.call63⟩
instance ent64 : Ent Try.prog 64 := ⟨Try.call64⟩
instance ent65 : Ent Try.prog 65 := ⟨Try.call65⟩
instance ent66 : Ent Try.prog 66 := ⟨Try.call66⟩
instance ent67 : Ent Try.prog 67 := ⟨Try.call67⟩
instance ent68 : Ent Try.prog 68 := ⟨Try.call68⟩
instance ent69 : Ent Try.prog 69 := ⟨Try.call69⟩
instance ent70 : Ent Try.prog 70 := ⟨Try.call70⟩
instance ent71 : Ent Try.prog 71 := ⟨Try.call71⟩
instance ent72 : Ent Try.prog 72 := ⟨Try.call72⟩
instance ent73 : Ent Try.prog 73 := ⟨Try.call73⟩
instance ent74 : Ent Try.prog 74 := ⟨Try.call74⟩
instance ent75 : Ent Try.prog 75 := ⟨Try.call75⟩
instance ent76 : Ent Try.prog 76 := ⟨Try.call76⟩
instance ent77 : Ent Try.prog 77 := ⟨Try.call77⟩
instance ent78 : Ent Try.prog 78 := ⟨Try.call78⟩
instance ent79 : Ent Try.prog 79 := ⟨Try.call79⟩
instance ent80 : Ent Try.prog 80 := ⟨Try.call80⟩
instance ent81 : Ent Try.prog 81 := ⟨Try.call81⟩
instance ent82 : Ent Try.prog 82 := ⟨Try.call82⟩
instance ent83 : Ent Try.prog 83 := ⟨Try.call83⟩
instance ent84 : Ent Try.prog 84 := ⟨Try.call84⟩
instance ent85 : Ent Try.prog 85 := ⟨Try.call85⟩
instance ent86 : Ent Try.prog 86 := ⟨Try.call86⟩
instance ent87 : Ent Try.prog 87 := ⟨Try.call87⟩
instance ent88 : Ent Try.prog 88 := ⟨Try.call88⟩
instance ent89 : Ent Try.prog 89 := ⟨Try.call89⟩
instance ent90 : Ent Try.prog 90 := ⟨Try.call90⟩
instance places7 : Places Try.prog 7 [(0, 1), (1, 1), (2, 1), (3, 1)] := ⟨⟨_, Try.underlying7, fun w => by simp [go_sem]⟩⟩
instance fld7_0 : Fld Try.prog 7 0 0 2 := ⟨⟨_, _, Try.underlying7, rfl, rfl, rfl⟩⟩
instance fld7_1 : Fld Try.prog 7 1 1 3 := ⟨⟨_, _, Try.underlying7, rfl, rfl, rfl⟩⟩
instance fld7_2 : Fld Try.prog 7 2 2 4 := ⟨⟨_, _, Try.underlying7, rfl, rfl, rfl⟩⟩
instance fld7_3 : Fld Try.prog 7 3 3 6 := ⟨⟨_, _, Try.underlying7, rfl, rfl, rfl⟩⟩
instance places8 : Places Try.prog 8 [(0, 1), (1, 1), (2, 1), (3, 1)] := ⟨⟨_, Try.underlying8, fun w => by simp [go_sem]⟩⟩
instance fld8_0 : Fld Try.prog 8 0 0 2 := ⟨⟨_, _, Try.underlying8, rfl, rfl, rfl⟩⟩
instance fld8_1 : Fld Try.prog 8 1 1 3 := ⟨⟨_, _, Try.underlying8, rfl, rfl, rfl⟩⟩
instance fld8_2 : Fld Try.prog 8 2 2 4 := ⟨⟨_, _, Try.underlying8, rfl, rfl, rfl⟩⟩
instance fld8_3 : Fld Try.prog 8 3 3 6 := ⟨⟨_, _, Try.underlying8, rfl, rfl, rfl⟩⟩
instance places13 : Places Try.prog 13 [(0, 1), (1, 1)] := ⟨⟨_, Try.underlying13, fun w => by simp [go_sem]⟩⟩
instance fld13_0 : Fld Try.prog 13 0 0 9 := ⟨⟨_, _, Try.underlying13, rfl, rfl, rfl⟩⟩
instance fld13_1 : Fld Try.prog 13 1 1 12 := ⟨⟨_, _, Try.underlying13, rfl, rfl, rfl⟩⟩
instance places14 : Places Try.prog 14 [(0, 1), (1, 1)] := ⟨⟨_, Try.underlying14, fun w => by simp [go_sem]⟩⟩
instance fld14_0 : Fld Try.prog 14 0 0 9 := ⟨⟨_, _, Try.underlying14, rfl, rfl, rfl⟩⟩
instance fld14_1 : Fld Try.prog 14 1 1 12 := ⟨⟨_, _, Try.underlying14, rfl, rfl, rfl⟩⟩
instance places18 : Places Try.prog 18 [(0, 1)] := ⟨⟨_, Try.underlying18, fun w => by simp [go_sem]⟩⟩
instance fld18_0 : Fld Try.prog 18 0 0 17 := ⟨⟨_, _, Try.underlying18, rfl, rfl, rfl⟩⟩
instance places19 : Places Try.prog 19 [(0, 1)] := ⟨⟨_, Try.underlying19, fun w => by simp [go_sem]⟩⟩
instance fld19_0 : Fld Try.prog 19 0 0 17 := ⟨⟨_, _, Try.underlying19, rfl, rfl, rfl⟩⟩
instance places22 : Places Try.prog 22 [(0, 1), (1, 1), (2, 1), (3, 1)] := ⟨⟨_, Try.underlying22, fun w => by simp [go_sem]⟩⟩
instance fld22_0 : Fld Try.prog 22 0 0 3 := ⟨⟨_, _, Try.underlying22, rfl, rfl, rfl⟩⟩
instance fld22_1 : Fld Try.prog 22 1 1 3 := ⟨⟨_, _, Try.underlying22, rfl, rfl, rfl⟩⟩
instance fld22_2 : Fld Try.prog 22 2 2 3 := ⟨⟨_, _, Try.underlying22, rfl, rfl, rfl⟩⟩
instance fld22_3 : Fld Try.prog 22 3 3 3 := ⟨⟨_, _, Try.underlying22, rfl, rfl, rfl⟩⟩
instance places23 : Places Try.prog 23 [(0, 1), (1, 1), (2, 1), (3, 1)] := ⟨⟨_, Try.underlying23, fun w => by simp [go_sem]⟩⟩
instance fld23_0 : Fld Try.prog 23 0 0 3 := ⟨⟨_, _, Try.underlying23, rfl, rfl, rfl⟩⟩
instance fld23_1 : Fld Try.prog 23 1 1 3 := ⟨⟨_, _, Try.underlying23, rfl, rfl, rfl⟩⟩
instance fld23_2 : Fld Try.prog 23 2 2 3 := ⟨⟨_, _, Try.underlying23, rfl, rfl, rfl⟩⟩
instance fld23_3 : Fld Try.prog 23 3 3 3 := ⟨⟨_, _, Try.underlying23, rfl, rfl, rfl⟩⟩
instance places25 : Places Try.prog 25 [(0, 1), (1, 1), (2, 1)] := ⟨⟨_, Try.underlying25, fun w => by simp [go_sem]⟩⟩
instance fld25_0 : Fld Try.prog 25 0 0 24 := ⟨⟨_, _, Try.underlying25, rfl, rfl, rfl⟩⟩
instance fld25_1 : Fld Try.prog 25 1 1 3 := ⟨⟨_, _, Try.underlying25, rfl, rfl, rfl⟩⟩
instance fld25_2 : Fld Try.prog 25 2 2 3 := ⟨⟨_, _, Try.underlying25, rfl, rfl, rfl⟩⟩
instance places26 : Places Try.prog 26 [(0, 1), (1, 1), (2, 1)] := ⟨⟨_, Try.underlying26, fun w => by simp [go_sem]⟩⟩
instance fld26_0 : Fld Try.prog 26 0 0 24 := ⟨⟨_, _, Try.underlying26, rfl, rfl, rfl⟩⟩
instance fld26_1 : Fld Try.prog 26 1 1 3 := ⟨⟨_, _, Try.underlying26, rfl, rfl, rfl⟩⟩
instance fld26_2 : Fld Try.prog 26 2 2 3 := ⟨⟨_, _, Try.underlying26, rfl, rfl, rfl⟩⟩
instance places28 : Places Try.prog 28 [(0, 1), (1, 1), (2, 1), (3, 1), (4, 3), (7, 1), (8, 1)] := ⟨⟨_, Try.underlying28, fun w => by simp [go_sem]⟩⟩
instance fld28_0 : Fld Try.prog 28 0 0 3 := ⟨⟨_, _, Try.underlying28, rfl, rfl, rfl⟩⟩
instance fld28_1 : Fld Try.prog 28 1 1 3 := ⟨⟨_, _, Try.underlying28, rfl, rfl, rfl⟩⟩
instance fld28_2 : Fld Try.prog 28 2 2 3 := ⟨⟨_, _, Try.underlying28, rfl, rfl, rfl⟩⟩
instance fld28_3 : Fld Try.prog 28 3 3 9 := ⟨⟨_, _, Try.underlying28, rfl, rfl, rfl⟩⟩
instance fld28_4 : Fld Try.prog 28 4 4 26 := ⟨⟨_, _, Try.underlying28, rfl, rfl, rfl⟩⟩
instance fld28_5 : Fld Try.prog 28 5 7 4 := ⟨⟨_, _, Try.underlying28, rfl, rfl, rfl⟩⟩
instance fld28_6 : Fld Try.prog 28 6 8 27 := ⟨⟨_, _, Try.underlying28, rfl, rfl, rfl⟩⟩
instance places29 : Places Try.prog 29 [(0, 1), (1, 1), (2, 1), (3, 1), (4, 3), (7, 1), (8, 1)] := ⟨⟨_, Try.underlying29, fun w => by simp [go_sem]⟩⟩
instance fld29_0 : Fld Try.prog 29 0 0 3 := ⟨⟨_, _, Try.underlying29, rfl, rfl, rfl⟩⟩
instance fld29_1 : Fld Try.prog 29 1 1 3 := ⟨⟨_, _, Try.underlying29, rfl, rfl, rfl⟩⟩
instance fld29_2 : Fld Try.prog 29 2 2 3 := ⟨⟨_, _, Try.underlying29, rfl, rfl, rfl⟩⟩
instance fld29_3 : Fld Try.prog 29 3 3 9 := ⟨⟨_, _, Try.underlying29, rfl, rfl, rfl⟩⟩
instance fld29_4 : Fld Try.prog 29 4 4 26 := ⟨⟨_, _, Try.underlying29, rfl, rfl, rfl⟩⟩
instance fld29_5 : Fld Try.prog 29 5 7 4 := ⟨⟨_, _, Try.underlying29, rfl, rfl, rfl⟩⟩
instance fld29_6 : Fld Try.prog 29 6 8 27 := ⟨⟨_, _, Try.underlying29, rfl, rfl, rfl⟩⟩
instance places40 : Places Try.prog 40 [(0, 1), (1, 1), (2, 1), (3, 1), (4, 1), (5, 1)] := ⟨⟨_, Try.underlying40, fun w => by simp [go_sem]⟩⟩
instance fld40_0 : Fld Try.prog 40 0 0 3 := ⟨⟨_, _, Try.underlying40, rfl, rfl, rfl⟩⟩
instance fld40_1 : Fld Try.prog 40 1 1 38 := ⟨⟨_, _, Try.underlying40, rfl, rfl, rfl⟩⟩
instance fld40_2 : Fld Try.prog 40 2 2 9 := ⟨⟨_, _, Try.underlying40, rfl, rfl, rfl⟩⟩
instance fld40_3 : Fld Try.prog 40 3 3 38 := ⟨⟨_, _, Try.underlying40, rfl, rfl, rfl⟩⟩
instance fld40_4 : Fld Try.prog 40 4 4 3 := ⟨⟨_, _, Try.underlying40, rfl, rfl, rfl⟩⟩
instance fld40_5 : Fld Try.prog 40 5 5 39 := ⟨⟨_, _, Try.underlying40, rfl, rfl, rfl⟩⟩
instance places41 : Places Try.prog 41 [(0, 1), (1, 1), (2, 1), (3, 1), (4, 1), (5, 1)] := ⟨⟨_, Try.underlying41, fun w => by simp [go_sem]⟩⟩
instance fld41_0 : Fld Try.prog 41 0 0 3 := ⟨⟨_, _, Try.underlying41, rfl, rfl, rfl⟩⟩
instance fld41_1 : Fld Try.prog 41 1 1 38 := ⟨⟨_, _, Try.underlying41, rfl, rfl, rfl⟩⟩
instance fld41_2 : Fld Try.prog 41 2 2 9 := ⟨⟨_, _, Try.underlying41, rfl, rfl, rfl⟩⟩
instance fld41_3 : Fld Try.prog 41 3 3 38 := ⟨⟨_, _, Try.underlying41, rfl, rfl, rfl⟩⟩
instance fld41_4 : Fld Try.prog 41 4 4 3 := ⟨⟨_, _, Try.underlying41, rfl, rfl, rfl⟩⟩
instance fld41_5 : Fld Try.prog 41 5 5 39 := ⟨⟨_, _, Try.underlying41, rfl, rfl, rfl⟩⟩
instance places46 : Places Try.prog 46 [(0, 1), (1, 1)] := ⟨⟨_, Try.underlying46, fun w => by simp [go_sem]⟩⟩
instance fld46_0 : Fld Try.prog 46 0 0 3 := ⟨⟨_, _, Try.underlying46, rfl, rfl, rfl⟩⟩
instance fld46_1 : Fld Try.prog 46 1 1 3 := ⟨⟨_, _, Try.underlying46, rfl, rfl, rfl⟩⟩
instance places47 : Places Try.prog 47 [(0, 1), (1, 1)] := ⟨⟨_, Try.underlying47, fun w => by simp [go_sem]⟩⟩
instance fld47_0 : Fld Try.prog 47 0 0 3 := ⟨⟨_, _, Try.underlying47, rfl, rfl, rfl⟩⟩
instance fld47_1 : Fld Try.prog 47 1 1 3 := ⟨⟨_, _, Try.underlying47, rfl, rfl, rfl⟩⟩
instance places48 : Places Try.prog 48 [(0, 1), (1, 1), (2, 1)] := ⟨⟨_, Try.underlying48, fun w => by simp [go_sem]⟩⟩
instance fld48_0 : Fld Try.prog 48 0 0 3 := ⟨⟨_, _, Try.underlying48, rfl, rfl, rfl⟩⟩
instance fld48_1 : Fld Try.prog 48 1 1 9 := ⟨⟨_, _, Try.underlying48, rfl, rfl, rfl⟩⟩
instance fld48_2 : Fld Try.prog 48 2 2 3 := ⟨⟨_, _, Try.underlying48, rfl, rfl, rfl⟩⟩
instance places49 : Places Try.prog 49 [(0, 1), (1, 1), (2, 1)] := ⟨⟨_, Try.underlying49, fun w => by simp [go_sem]⟩⟩
instance fld49_0 : Fld Try.prog 49 0 0 3 := ⟨⟨_, _, Try.underlying49, rfl, rfl, rfl⟩⟩
instance fld49_1 : Fld Try.prog 49 1 1 9 := ⟨⟨_, _, Try.underlying49, rfl, rfl, rfl⟩⟩
instance fld49_2 : Fld Try.prog 49 2 2 3 := ⟨⟨_, _, Try.underlying49, rfl, rfl, rfl⟩⟩
instance places58 : Places Try.prog 58 [(0, 1), (1, 1)] := ⟨⟨_, Try.underlying58, fun w => by simp [go_sem]⟩⟩
instance fld58_0 : Fld Try.prog 58 0 0 3 := ⟨⟨_, _, Try.underlying58, rfl, rfl, rfl⟩⟩
instance fld58_1 : Fld Try.prog 58 1 1 57 := ⟨⟨_, _, Try.underlying58, rfl, rfl, rfl⟩⟩
instance places59 : Places Try.prog 59 [(0, 1), (1, 1)] := ⟨⟨_, Try.underlying59, fun w => by simp [go_sem]⟩⟩
instance fld59_0 : Fld Try.prog 59 0 0 3 := ⟨⟨_, _, Try.underlying59, rfl, rfl, rfl⟩⟩
instance fld59_1 : Fld Try.prog 59 1 1 57 := ⟨⟨_, _, Try.underlying59, rfl, rfl, rfl⟩⟩
instance places65 : Places Try.prog 65 [(0, 9), (9, 6)] := ⟨⟨_, Try.underlying65, fun w => by simp [go_sem]⟩⟩
instance fld65_0 : Fld Try.prog 65 0 0 29 := ⟨⟨_, _, Try.underlying65, rfl, rfl, rfl⟩⟩
instance fld65_1 : Fld Try.prog 65 1 9 41 := ⟨⟨_, _, Try.underlying65, rfl, rfl, rfl⟩⟩
instance places66 : Places Try.prog 66 [(0, 9), (9, 6)] := ⟨⟨_, Try.underlying66, fun w => by simp [go_sem]⟩⟩
instance fld66_0 : Fld Try.prog 66 0 0 29 := ⟨⟨_, _, Try.underlying66, rfl, rfl, rfl⟩⟩
instance fld66_1 : Fld Try.prog 66 1 9 41 := ⟨⟨_, _, Try.underlying66, rfl, rfl, rfl⟩⟩
instance places96 : Places Try.prog 96 [(0, 1), (1, 1), (2, 3)] := ⟨⟨_, Try.underlying96, fun w => by simp [go_sem]⟩⟩
instance fld96_0 : Fld Try.prog 96 0 0 3 := ⟨⟨_, _, Try.underlying96, rfl, rfl, rfl⟩⟩
instance fld96_1 : Fld Try.prog 96 1 1 3 := ⟨⟨_, _, Try.underlying96, rfl, rfl, rfl⟩⟩
instance fld96_2 : Fld Try.prog 96 2 2 49 := ⟨⟨_, _, Try.underlying96, rfl, rfl, rfl⟩⟩
instance places97 : Places Try.prog 97 [(0, 1), (1, 1), (2, 3)] := ⟨⟨_, Try.underlying97, fun w => by simp [go_sem]⟩⟩
instance fld97_0 : Fld Try.prog 97 0 0 3 := ⟨⟨_, _, Try.underlying97, rfl, rfl, rfl⟩⟩
instance fld97_1 : Fld Try.prog 97 1 1 3 := ⟨⟨_, _, Try.underlying97, rfl, rfl, rfl⟩⟩
instance fld97_2 : Fld Try.prog 97 2 2 49 := ⟨⟨_, _, Try.underlying97, rfl, rfl, rfl⟩⟩
instance places116 : Places Try.prog 116 [(0, 1), (1, 1), (2, 1), (3, 1)] := ⟨⟨_, Try.underlying116, fun w => by simp [go_sem]⟩⟩
instance fld116_0 : Fld Try.prog 116 0 0 17 := ⟨⟨_, _, Try.underlying116, rfl, rfl, rfl⟩⟩
instance fld116_1 : Fld Try.prog 116 1 1 17 := ⟨⟨_, _, Try.underlying116, rfl, rfl, rfl⟩⟩
instance fld116_2 : Fld Try.prog 116 2 2 17 := ⟨⟨_, _, Try.underlying116, rfl, rfl, rfl⟩⟩
instance fld116_3 : Fld Try.prog 116 3 3 9 := ⟨⟨_, _, Try.underlying116, rfl, rfl, rfl⟩⟩
instance places117 : Places Try.prog 117 [(0, 1), (1, 1), (2, 1), (3, 1)] := ⟨⟨_, Try.underlying117, fun w => by simp [go_sem]⟩⟩
instance fld117_0 : Fld Try.prog 117 0 0 17 := ⟨⟨_, _, Try.underlying117, rfl, rfl, rfl⟩⟩
instance fld117_1 : Fld Try.prog 117 1 1 17 := ⟨⟨_, _, Try.underlying117, rfl, rfl, rfl⟩⟩
instance fld117_2 : Fld Try.prog 117 2 2 17 := ⟨⟨_, _, Try.underlying117, rfl, rfl, rfl⟩⟩
instance fld117_3 : Fld Try.prog 117 3 3 9 := ⟨⟨_, _, Try.underlying117, rfl, rfl, rfl⟩⟩
instance places119 : Places Try.prog 119 [(0, 0)] := ⟨⟨_, Try.underlying119, fun w => by simp [go_sem]⟩⟩
instance fld119_0 : Fld Try.prog 119 0 0 118 := ⟨⟨_, _, Try.underlying119, rfl, rfl, rfl⟩⟩
instance places120 : Places Try.prog 120 [(0, 0)] := ⟨⟨_, Try.underlying120, fun w => by simp [go_sem]⟩⟩
instance fld120_0 : Fld Try.prog 120 0 0 118 := ⟨⟨_, _, Try.underlying120, rfl, rfl, rfl⟩⟩
instance places128 : Places Try.prog 128 [(0, 1), (1, 1), (2, 1), (3, 1), (4, 1), (5, 1), (6, 1), (7, 1), (8, 1), (9, 1), (10, 1)] := ⟨⟨_, Try.underlying128, fun w => by simp [go_sem]⟩⟩
instance fld128_0 : Fld Try.prog 128 0 0 12 := ⟨⟨_, _, Try.underlying128, rfl, rfl, rfl⟩⟩
instance fld128_1 : Fld Try.prog 128 1 1 12 := ⟨⟨_, _, Try.underlying128, rfl, rfl, rfl⟩⟩
instance fld128_2 : Fld Try.prog 128 2 2 121 := ⟨⟨_, _, Try.underlying128, rfl, rfl, rfl⟩⟩
instance fld128_3 : Fld Try.prog 128 3 3 122 := ⟨⟨_, _, Try.underlying128, rfl, rfl, rfl⟩⟩
instance fld128_4 : Fld Try.prog 128 4 4 5 := ⟨⟨_, _, Try.underlying128, rfl, rfl, rfl⟩⟩
instance fld128_5 : Fld Try.prog 128 5 5 5 := ⟨⟨_, _, Try.underlying128, rfl, rfl, rfl⟩⟩
instance fld128_6 : Fld Try.prog 128 6 6 123 := ⟨⟨_, _, Try.underlying128, rfl, rfl, rfl⟩⟩
instance fld128_7 : Fld Try.prog 128 7 7 124 := ⟨⟨_, _, Try.underlying128, rfl, rfl, rfl⟩⟩
instance fld128_8 : Fld Try.prog 128 8 8 125 := ⟨⟨_, _, Try.underlying128, rfl, rfl, rfl⟩⟩
instance fld128_9 : Fld Try.prog 128 9 9 126 := ⟨⟨_, _, Try.underlying128, rfl, rfl, rfl⟩⟩
instance fld128_10 : Fld Try.prog 128 10 10 127 := ⟨⟨_, _, Try.underlying128, rfl, rfl, rfl⟩⟩
instance places129 : Places Try.prog 129 [(0, 1), (1, 1), (2, 1), (3, 1), (4, 1), (5, 1), (6, 1), (7, 1), (8, 1), (9, 1), (10, 1)] := ⟨⟨_, Try.underlying129, fun w => by simp [go_sem]⟩⟩
instance fld129_0 : Fld Try.prog 129 0 0 12 := ⟨⟨_, _, Try.underlying129, rfl, rfl, rfl⟩⟩
instance fld129_1 : Fld Try.prog 129 1 1 12 := ⟨⟨_, _, Try.underlying129, rfl, rfl, rfl⟩⟩
instance fld129_2 : Fld Try.prog 129 2 2 121 := ⟨⟨_, _, Try.underlying129, rfl, rfl, rfl⟩⟩
instance fld129_3 : Fld Try.prog 129 3 3 122 := ⟨⟨_, _, Try.underlying129, rfl, rfl, rfl⟩⟩
instance fld129_4 : Fld Try.prog 129 4 4 5 := ⟨⟨_, _, Try.underlying129, rfl, rfl, rfl⟩⟩
instance fld129_5 : Fld Try.prog 129 5 5 5 := ⟨⟨_, _, Try.underlying129, rfl, rfl, rfl⟩⟩
instance fld129_6 : Fld Try.prog 129 6 6 123 := ⟨⟨_, _, Try.underlying129, rfl, rfl, rfl⟩⟩
instance fld129_7 : Fld Try.prog 129 7 7 124 := ⟨⟨_, _, Try.underlying129, rfl, rfl, rfl⟩⟩
instance fld129_8 : Fld Try.prog 129 8 8 125 := ⟨⟨_, _, Try.underlying129, rfl, rfl, rfl⟩⟩
instance fld129_9 : Fld Try.prog 129 9 9 126 := ⟨⟨_, _, Try.underlying129, rfl, rfl, rfl⟩⟩
instance fld129_10 : Fld Try.prog 129 10 10 127 := ⟨⟨_, _, Try.underlying129, rfl, rfl, rfl⟩⟩
instance inf0 : Inf Try.prog 0 (Go.Value.tuple #[]) 1 0 := ⟨⟨Try.t0, Try.type0, rfl, rfl, rfl, rfl⟩⟩
instance inf1 : Inf Try.prog 1 (Go.Value.nilFunc) 1 8 := ⟨⟨Try.t1, Try.type1, rfl, rfl, rfl, rfl⟩⟩
instance inf2 : Inf Try.prog 2 (Go.Value.int Go.IntKind.i64 0) 1 8 := ⟨⟨Try.t2, Try.type2, rfl, rfl, rfl, rfl⟩⟩
instance inf3 : Inf Try.prog 3 (Go.Value.int Go.IntKind.i64 0) 1 8 := ⟨⟨Try.t3, Try.type3, rfl, rfl, rfl, rfl⟩⟩
instance inf4 : Inf Try.prog 4 (Go.Value.bool false) 1 1 := ⟨⟨Try.t4, Try.type4, rfl, rfl, rfl, rfl⟩⟩
instance inf5 : Inf Try.prog 5 (Go.Value.int Go.IntKind.u8 0) 1 1 := ⟨⟨Try.t5, Try.type5, rfl, rfl, rfl, rfl⟩⟩
instance inf6 : Inf Try.prog 6 (Go.Value.int Go.IntKind.u8 0) 1 1 := ⟨⟨Try.t6, Try.type6, rfl, rfl, rfl, rfl⟩⟩
instance inf7 : Inf Try.prog 7 (Go.Value.agg #[Go.Value.int Go.IntKind.i64 0, Go.Value.int Go.IntKind.i64 0, Go.Value.bool false, Go.Value.int Go.IntKind.u8 0]) 4 24 := ⟨⟨Try.t7, Try.type7, rfl, rfl, rfl, rfl⟩⟩
instance inf8 : Inf Try.prog 8 (Go.Value.agg #[Go.Value.int Go.IntKind.i64 0, Go.Value.int Go.IntKind.i64 0, Go.Value.bool false, Go.Value.int Go.IntKind.u8 0]) 4 24 := ⟨⟨Try.t8, Try.type8, rfl, rfl, rfl, rfl⟩⟩
instance inf9 : Inf Try.prog 9 (Go.Value.string { data := #[] }) 1 16 := ⟨⟨Try.t9, Try.type9, rfl, rfl, rfl, rfl⟩⟩
instance inf10 : Inf Try.prog 10 (Go.Value.string { data := #[] }) 1 16 := ⟨⟨Try.t10, Try.type10, rfl, rfl, rfl, rfl⟩⟩
instance inf11 : Inf Try.prog 11 (Go.Value.string { data := #[] }) 1 16 := ⟨⟨Try.t11, Try.type11, rfl, rfl, rfl, rfl⟩⟩
instance inf12 : Inf Try.prog 12 (Go.Value.int Go.IntKind.u64 0) 1 8 := ⟨⟨Try.t12, Try.type12, rfl, rfl, rfl, rfl⟩⟩
instance inf13 : Inf Try.prog 13 (Go.Value.agg #[Go.Value.string { data := #[] }, Go.Value.int Go.IntKind.u64 0]) 2 24 := ⟨⟨Try.t13, Try.type13, rfl, rfl, rfl, rfl⟩⟩
instance inf14 : Inf Try.prog 14 (Go.Value.agg #[Go.Value.string { data := #[] }, Go.Value.int Go.IntKind.u64 0]) 2 24 := ⟨⟨Try.t14, Try.type14, rfl, rfl, rfl, rfl⟩⟩
instance inf15 : Inf Try.prog 15 (Go.Value.pointer none) 1 8 := ⟨⟨Try.t15, Try.type15, rfl, rfl, rfl, rfl⟩⟩
instance inf16 : Inf Try.prog 16 (Go.Value.pointer none) 1 8 := ⟨⟨Try.t16, Try.type16, rfl, rfl, rfl, rfl⟩⟩
instance inf17 : Inf Try.prog 17 (Go.Value.pointer none) 1 8 := ⟨⟨Try.t17, Try.type17, rfl, rfl, rfl, rfl⟩⟩
instance inf18 : Inf Try.prog 18 (Go.Value.agg #[Go.Value.pointer none]) 1 8 := ⟨⟨Try.t18, Try.type18, rfl, rfl, rfl, rfl⟩⟩
instance inf19 : Inf Try.prog 19 (Go.Value.agg #[Go.Value.pointer none]) 1 8 := ⟨⟨Try.t19, Try.type19, rfl, rfl, rfl, rfl⟩⟩
instance inf20 : Inf Try.prog 20 (Go.Value.nilIface) 1 16 := ⟨⟨Try.t20, Try.type20, rfl, rfl, rfl, rfl⟩⟩
instance inf21 : Inf Try.prog 21 (Go.Value.int Go.IntKind.i32 0) 1 4 := ⟨⟨Try.t21, Try.type21, rfl, rfl, rfl, rfl⟩⟩
instance inf22 : Inf Try.prog 22 (Go.Value.agg #[Go.Value.int Go.IntKind.i64 0, Go.Value.int Go.IntKind.i64 0, Go.Value.int Go.IntKind.i64 0, Go.Value.int Go.IntKind.i64 0]) 4 32 := ⟨⟨Try.t22, Try.type22, rfl, rfl, rfl, rfl⟩⟩
instance inf23 : Inf Try.prog 23 (Go.Value.agg #[Go.Value.int Go.IntKind.i64 0, Go.Value.int Go.IntKind.i64 0, Go.Value.int Go.IntKind.i64 0, Go.Value.int Go.IntKind.i64 0]) 4 32 := ⟨⟨Try.t23, Try.type23, rfl, rfl, rfl, rfl⟩⟩
instance inf24 : Inf Try.prog 24 (Go.Value.slice none 0 0) 1 24 := ⟨⟨Try.t24, Try.type24, rfl, rfl, rfl, rfl⟩⟩
instance inf25 : Inf Try.prog 25 (Go.Value.agg #[Go.Value.slice none 0 0, Go.Value.int Go.IntKind.i64 0, Go.Value.int Go.IntKind.i64 0]) 3 40 := ⟨⟨Try.t25, Try.type25, rfl, rfl, rfl, rfl⟩⟩
instance inf26 : Inf Try.prog 26 (Go.Value.agg #[Go.Value.slice none 0 0, Go.Value.int Go.IntKind.i64 0, Go.Value.int Go.IntKind.i64 0]) 3 40 := ⟨⟨Try.t26, Try.type26, rfl, rfl, rfl, rfl⟩⟩
instance inf27 : Inf Try.prog 27 (Go.Value.slice none 0 0) 1 24 := ⟨⟨Try.t27, Try.type27, rfl, rfl, rfl, rfl⟩⟩
instance inf28 : Inf Try.prog 28 (Go.Value.agg #[Go.Value.int Go.IntKind.i64 0, Go.Value.int Go.IntKind.i64 0, Go.Value.int Go.IntKind.i64 0, Go.Value.string { data := #[] }, Go.Value.slice none 0 0, Go.Value.int Go.IntKind.i64 0, Go.Value.int Go.IntKind.i64 0, Go.Value.bool false, Go.Value.slice none 0 0]) 9 112 := ⟨⟨Try.t28, Try.type28, rfl, rfl, rfl, rfl⟩⟩
instance inf29 : Inf Try.prog 29 (Go.Value.agg #[Go.Value.int Go.IntKind.i64 0, Go.Value.int Go.IntKind.i64 0, Go.Value.int Go.IntKind.i64 0, Go.Value.string { data := #[] }, Go.Value.slice none 0 0, Go.Value.int Go.IntKind.i64 0, Go.Value.int Go.IntKind.i64 0, Go.Value.bool false, Go.Value.slice none 0 0]) 9 112 := ⟨⟨Try.t29, Try.type29, rfl, rfl, rfl, rfl⟩⟩
instance inf30 : Inf Try.prog 30 (Go.Value.nilFunc) 1 8 := ⟨⟨Try.t30, Try.type30, rfl, rfl, rfl, rfl⟩⟩
instance inf31 : Inf Try.prog 31 (Go.Value.nilFunc) 1 8 := ⟨⟨Try.t31, Try.type31, rfl, rfl, rfl, rfl⟩⟩
instance inf32 : Inf Try.prog 32 (Go.Value.int Go.IntKind.i64 0) 1 8 := ⟨⟨Try.t32, Try.type32, rfl, rfl, rfl, rfl⟩⟩
instance inf33 : Inf Try.prog 33 (Go.Value.tuple #[Go.Value.agg #[Go.Value.int Go.IntKind.i64 0, Go.Value.int Go.IntKind.i64 0, Go.Value.int Go.IntKind.i64 0, Go.Value.string { data := #[] }, Go.Value.slice none 0 0, Go.Value.int Go.IntKind.i64 0, Go.Value.int Go.IntKind.i64 0, Go.Value.bool false, Go.Value.slice none 0 0], Go.Value.int Go.IntKind.i64 0]) 1 0 := ⟨⟨Try.t33, Try.type33, rfl, rfl, rfl, rfl⟩⟩
instance inf34 : Inf Try.prog 34 (Go.Value.nilFunc) 1 8 := ⟨⟨Try.t34, Try.type34, rfl, rfl, rfl, rfl⟩⟩
instance inf35 : Inf Try.prog 35 (Go.Value.nilFunc) 1 8 := ⟨⟨Try.t35, Try.type35, rfl, rfl, rfl, rfl⟩⟩
instance inf36 : Inf Try.prog 36 (Go.Value.nilFunc) 1 8 := ⟨⟨Try.t36, Try.type36, rfl, rfl, rfl, rfl⟩⟩
instance inf37 : Inf Try.prog 37 (Go.Value.nilFunc) 1 8 := ⟨⟨Try.t37, Try.type37, rfl, rfl, rfl, rfl⟩⟩
instance inf38 : Inf Try.prog 38 (Go.Value.slice none 0 0) 1 24 := ⟨⟨Try.t38, Try.type38, rfl, rfl, rfl, rfl⟩⟩
instance inf39 : Inf Try.prog 39 (Go.Value.slice none 0 0) 1 24 := ⟨⟨Try.t39, Try.type39, rfl, rfl, rfl, rfl⟩⟩
instance inf40 : Inf Try.prog 40 (Go.Value.agg #[Go.Value.int Go.IntKind.i64 0, Go.Value.slice none 0 0, Go.Value.string { data := #[] }, Go.Value.slice none 0 0, Go.Value.int Go.IntKind.i64 0, Go.Value.slice none 0 0]) 6 104 := ⟨⟨Try.t40, Try.type40, rfl, rfl, rfl, rfl⟩⟩
instance inf41 : Inf Try.prog 41 (Go.Value.agg #[Go.Value.int Go.IntKind.i64 0, Go.Value.slice none 0 0, Go.Value.string { data := #[] }, Go.Value.slice none 0 0, Go.Value.int Go.IntKind.i64 0, Go.Value.slice none 0 0]) 6 104 := ⟨⟨Try.t41, Try.type41, rfl, rfl, rfl, rfl⟩⟩
instance inf42 : Inf Try.prog 42 (Go.Value.nilFunc) 1 8 := ⟨⟨Try.t42, Try.type42, rfl, rfl, rfl, rfl⟩⟩
instance inf43 : Inf Try.prog 43 (Go.Value.nilFunc) 1 8 := ⟨⟨Try.t43, Try.type43, rfl, rfl, rfl, rfl⟩⟩
instance inf44 : Inf Try.prog 44 (Go.Value.nilFunc) 1 8 := ⟨⟨Try.t44, Try.type44, rfl, rfl, rfl, rfl⟩⟩
instance inf45 : Inf Try.prog 45 (Go.Value.nilFunc) 1 8 := ⟨⟨Try.t45, Try.type45, rfl, rfl, rfl, rfl⟩⟩
instance inf46 : Inf Try.prog 46 (Go.Value.agg #[Go.Value.int Go.IntKind.i64 0, Go.Value.int Go.IntKind.i64 0]) 2 16 := ⟨⟨Try.t46, Try.type46, rfl, rfl, rfl, rfl⟩⟩
instance inf47 : Inf Try.prog 47 (Go.Value.agg #[Go.Value.int Go.IntKind.i64 0, Go.Value.int Go.IntKind.i64 0]) 2 16 := ⟨⟨Try.t47, Try.type47, rfl, rfl, rfl, rfl⟩⟩
instance inf48 : Inf Try.prog 48 (Go.Value.agg #[Go.Value.int Go.IntKind.i64 0, Go.Value.string { data := #[] }, Go.Value.int Go.IntKind.i64 0]) 3 32 := ⟨⟨Try.t48, Try.type48, rfl, rfl, rfl, rfl⟩⟩
instance inf49 : Inf Try.prog 49 (Go.Value.agg #[Go.Value.int Go.IntKind.i64 0, Go.Value.string { data := #[] }, Go.Value.int Go.IntKind.i64 0]) 3 32 := ⟨⟨Try.t49, Try.type49, rfl, rfl, rfl, rfl⟩⟩
instance inf50 : Inf Try.prog 50 (Go.Value.nilFunc) 1 8 := ⟨⟨Try.t50, Try.type50, rfl, rfl, rfl, rfl⟩⟩
instance inf51 : Inf Try.prog 51 (Go.Value.tuple #[Go.Value.int Go.IntKind.i64 0, Go.Value.int Go.IntKind.i64 0]) 1 0 := ⟨⟨Try.t51, Try.type51, rfl, rfl, rfl, rfl⟩⟩
instance inf52 : Inf Try.prog 52 (Go.Value.nilFunc) 1 8 := ⟨⟨Try.t52, Try.type52, rfl, rfl, rfl, rfl⟩⟩
instance inf53 : Inf Try.prog 53 (Go.Value.nilFunc) 1 8 := ⟨⟨Try.t53, Try.type53, rfl, rfl, rfl, rfl⟩⟩
instance inf54 : Inf Try.prog 54 (Go.Value.nilFunc) 1 8 := ⟨⟨Try.t54, Try.type54, rfl, rfl, rfl, rfl⟩⟩
instance inf55 : Inf Try.prog 55 (Go.Value.nilFunc) 1 8 := ⟨⟨Try.t55, Try.type55, rfl, rfl, rfl, rfl⟩⟩
instance inf56 : Inf Try.prog 56 (Go.Value.nilFunc) 1 8 := ⟨⟨Try.t56, Try.type56, rfl, rfl, rfl, rfl⟩⟩
instance inf57 : Inf Try.prog 57 (Go.Value.slice none 0 0) 1 24 := ⟨⟨Try.t57, Try.type57, rfl, rfl, rfl, rfl⟩⟩
instance inf58 : Inf Try.prog 58 (Go.Value.agg #[Go.Value.int Go.IntKind.i64 0, Go.Value.slice none 0 0]) 2 32 := ⟨⟨Try.t58, Try.type58, rfl, rfl, rfl, rfl⟩⟩
instance inf59 : Inf Try.prog 59 (Go.Value.agg #[Go.Value.int Go.IntKind.i64 0, Go.Value.slice none 0 0]) 2 32 := ⟨⟨Try.t59, Try.type59, rfl, rfl, rfl, rfl⟩⟩
instance inf60 : Inf Try.prog 60 (Go.Value.tuple #[Go.Value.int Go.IntKind.i64 0, Go.Value.int Go.IntKind.i64 0, Go.Value.int Go.IntKind.i64 0]) 1 0 := ⟨⟨Try.t60, Try.type60, rfl, rfl, rfl, rfl⟩⟩
instance inf61 : Inf Try.prog 61 (Go.Value.nilFunc) 1 8 := ⟨⟨Try.t61, Try.type61, rfl, rfl, rfl, rfl⟩⟩
instance inf62 : Inf Try.prog 62 (Go.Value.tuple #[Go.Value.bool false, Go.Value.int Go.IntKind.i64 0]) 1 0 := ⟨⟨Try.t62, Try.type62, rfl, rfl, rfl, rfl⟩⟩
instance inf63 : Inf Try.prog 63 (Go.Value.nilFunc) 1 8 := ⟨⟨Try.t63, Try.type63, rfl, rfl, rfl, rfl⟩⟩
instance inf64 : Inf Try.prog 64 (Go.Value.nilFunc) 1 8 := ⟨⟨Try.t64, Try.type64, rfl, rfl, rfl, rfl⟩⟩
instance inf65 : Inf Try.prog 65 (Go.Value.agg #[Go.Value.int Go.IntKind.i64 0, Go.Value.int Go.IntKind.i64 0, Go.Value.int Go.IntKind.i64 0, Go.Value.string { data := #[] }, Go.Value.slice none 0 0, Go.Value.int Go.IntKind.i64 0, Go.Value.int Go.IntKind.i64 0, Go.Value.bool false, Go.Value.slice none 0 0, Go.Value.int Go.IntKind.i64 0, Go.Value.slice none 0 0, Go.Value.string { data := #[] }, Go.Value.slice none 0 0, Go.Value.int Go.IntKind.i64 0, Go.Value.slice none 0 0]) 15 216 := ⟨⟨Try.t65, Try.type65, rfl, rfl, rfl, rfl⟩⟩
instance inf66 : Inf Try.prog 66 (Go.Value.agg #[Go.Value.int Go.IntKind.i64 0, Go.Value.int Go.IntKind.i64 0, Go.Value.int Go.IntKind.i64 0, Go.Value.string { data := #[] }, Go.Value.slice none 0 0, Go.Value.int Go.IntKind.i64 0, Go.Value.int Go.IntKind.i64 0, Go.Value.bool false, Go.Value.slice none 0 0, Go.Value.int Go.IntKind.i64 0, Go.Value.slice none 0 0, Go.Value.string { data := #[] }, Go.Value.slice none 0 0, Go.Value.int Go.IntKind.i64 0, Go.Value.slice none 0 0]) 15 216 := ⟨⟨Try.t66, Try.type66, rfl, rfl, rfl, rfl⟩⟩
instance inf67 : Inf Try.prog 67 (Go.Value.nilFunc) 1 8 := ⟨⟨Try.t67, Try.type67, rfl, rfl, rfl, rfl⟩⟩
instance inf68 : Inf Try.prog 68 (Go.Value.agg #[Go.Value.nilFunc, Go.Value.nilFunc, Go.Value.nilFunc, Go.Value.nilFunc, Go.Value.nilFunc, Go.Value.nilFunc, Go.Value.nilFunc, Go.Value.nilFunc]) 8 64 := ⟨⟨Try.t68, Try.type68, rfl, rfl, rfl, rfl⟩⟩
instance inf69 : Inf Try.prog 69 (Go.Value.nilFunc) 1 8 := ⟨⟨Try.t69, Try.type69, rfl, rfl, rfl, rfl⟩⟩
instance inf70 : Inf Try.prog 70 (Go.Value.nilFunc) 1 8 := ⟨⟨Try.t70, Try.type70, rfl, rfl, rfl, rfl⟩⟩
instance inf71 : Inf Try.prog 71 (Go.Value.slice none 0 0) 1 24 := ⟨⟨Try.t71, Try.type71, rfl, rfl, rfl, rfl⟩⟩
instance inf72 : Inf Try.prog 72 (Go.Value.nilFunc) 1 8 := ⟨⟨Try.t72, Try.type72, rfl, rfl, rfl, rfl⟩⟩
instance inf73 : Inf Try.prog 73 (Go.Value.nilFunc) 1 8 := ⟨⟨Try.t73, Try.type73, rfl, rfl, rfl, rfl⟩⟩
instance inf74 : Inf Try.prog 74 (Go.Value.nilFunc) 1 8 := ⟨⟨Try.t74, Try.type74, rfl, rfl, rfl, rfl⟩⟩
instance inf75 : Inf Try.prog 75 (Go.Value.nilFunc) 1 8 := ⟨⟨Try.t75, Try.type75, rfl, rfl, rfl, rfl⟩⟩
instance inf76 : Inf Try.prog 76 (Go.Value.nilFunc) 1 8 := ⟨⟨Try.t76, Try.type76, rfl, rfl, rfl, rfl⟩⟩
instance inf77 : Inf Try.prog 77 (Go.Value.nilFunc) 1 8 := ⟨⟨Try.t77, Try.type77, rfl, rfl, rfl, rfl⟩⟩
instance inf78 : Inf Try.prog 78 (Go.Value.int Go.IntKind.i64 0) 1 8 := ⟨⟨Try.t78, Try.type78, rfl, rfl, rfl, rfl⟩⟩
instance inf79 : Inf Try.prog 79 (Go.Value.tuple #[Go.Value.int Go.IntKind.i64 0, Go.Value.int Go.IntKind.i64 0]) 1 0 := ⟨⟨Try.t79, Try.type79, rfl, rfl, rfl, rfl⟩⟩
instance inf80 : Inf Try.prog 80 (Go.Value.nilFunc) 1 8 := ⟨⟨Try.t80, Try.type80, rfl, rfl, rfl, rfl⟩⟩
instance inf81 : Inf Try.prog 81 (Go.Value.nilFunc) 1 8 := ⟨⟨Try.t81, Try.type81, rfl, rfl, rfl, rfl⟩⟩
instance inf82 : Inf Try.prog 82 (Go.Value.nilFunc) 1 8 := ⟨⟨Try.t82, Try.type82, rfl, rfl, rfl, rfl⟩⟩
instance inf83 : Inf Try.prog 83 (Go.Value.nilFunc) 1 8 := ⟨⟨Try.t83, Try.type83, rfl, rfl, rfl, rfl⟩⟩
instance inf84 : Inf Try.prog 84 (Go.Value.nilFunc) 1 8 := ⟨⟨Try.t84, Try.type84, rfl, rfl, rfl, rfl⟩⟩
instance inf85 : Inf Try.prog 85 (Go.Value.nilFunc) 1 8 := ⟨⟨Try.t85, Try.type85, rfl, rfl, rfl, rfl⟩⟩
instance inf86 : Inf Try.prog 86 (Go.Value.map none) 1 8 := ⟨⟨Try.t86, Try.type86, rfl, rfl, rfl, rfl⟩⟩
instance inf87 : Inf Try.prog 87 (Go.Value.nilFunc) 1 8 := ⟨⟨Try.t87, Try.type87, rfl, rfl, rfl, rfl⟩⟩
instance inf88 : Inf Try.prog 88 (Go.Value.nilFunc) 1 8 := ⟨⟨Try.t88, Try.type88, rfl, rfl, rfl, rfl⟩⟩
instance inf89 : Inf Try.prog 89 (Go.Value.nilFunc) 1 8 := ⟨⟨Try.t89, Try.type89, rfl, rfl, rfl, rfl⟩⟩
instance inf90 : Inf Try.prog 90 (Go.Value.nilFunc) 1 8 := ⟨⟨Try.t90, Try.type90, rfl, rfl, rfl, rfl⟩⟩
instance inf91 : Inf Try.prog 91 (Go.Value.nilFunc) 1 8 := ⟨⟨Try.t91, Try.type91, rfl, rfl, rfl, rfl⟩⟩
instance inf92 : Inf Try.prog 92 (Go.Value.nilFunc) 1 8 := ⟨⟨Try.t92, Try.type92, rfl, rfl, rfl, rfl⟩⟩
instance inf93 : Inf Try.prog 93 (Go.Value.pointer none) 1 8 := ⟨⟨Try.t93, Try.type93, rfl, rfl, rfl, rfl⟩⟩
instance inf94 : Inf Try.prog 94 (Go.Value.tuple #[Go.Value.pointer none, Go.Value.int Go.IntKind.i64 0, Go.Value.int Go.IntKind.i64 0]) 1 0 := ⟨⟨Try.t94, Try.type94, rfl, rfl, rfl, rfl⟩⟩
instance inf95 : Inf Try.prog 95 (Go.Value.nilFunc) 1 8 := ⟨⟨Try.t95, Try.type95, rfl, rfl, rfl, rfl⟩⟩
instance inf96 : Inf Try.prog 96 (Go.Value.agg #[Go.Value.int Go.IntKind.i64 0, Go.Value.int Go.IntKind.i64 0, Go.Value.int Go.IntKind.i64 0, Go.Value.string { data := #[] }, Go.Value.int Go.IntKind.i64 0]) 5 48 := ⟨⟨Try.t96, Try.type96, rfl, rfl, rfl, rfl⟩⟩
instance inf97 : Inf Try.prog 97 (Go.Value.agg #[Go.Value.int Go.IntKind.i64 0, Go.Value.int Go.IntKind.i64 0, Go.Value.int Go.IntKind.i64 0, Go.Value.string { data := #[] }, Go.Value.int Go.IntKind.i64 0]) 5 48 := ⟨⟨Try.t97, Try.type97, rfl, rfl, rfl, rfl⟩⟩
instance inf98 : Inf Try.prog 98 (Go.Value.nilFunc) 1 8 := ⟨⟨Try.t98, Try.type98, rfl, rfl, rfl, rfl⟩⟩
instance inf99 : Inf Try.prog 99 (Go.Value.nilFunc) 1 8 := ⟨⟨Try.t99, Try.type99, rfl, rfl, rfl, rfl⟩⟩
instance inf100 : Inf Try.prog 100 (Go.Value.nilFunc) 1 8 := ⟨⟨Try.t100, Try.type100, rfl, rfl, rfl, rfl⟩⟩
instance inf101 : Inf Try.prog 101 (Go.Value.agg #[Go.Value.int Go.IntKind.i64 0, Go.Value.int Go.IntKind.i64 0, Go.Value.int Go.IntKind.i64 0, Go.Value.int Go.IntKind.i64 0]) 4 32 := ⟨⟨Try.t101, Try.type101, rfl, rfl, rfl, rfl⟩⟩
instance inf102 : Inf Try.prog 102 (Go.Value.nilFunc) 1 8 := ⟨⟨Try.t102, Try.type102, rfl, rfl, rfl, rfl⟩⟩
instance inf103 : Inf Try.prog 103 (Go.Value.nilFunc) 1 8 := ⟨⟨Try.t103, Try.type103, rfl, rfl, rfl, rfl⟩⟩
instance inf104 : Inf Try.prog 104 (Go.Value.nilFunc) 1 8 := ⟨⟨Try.t104, Try.type104, rfl, rfl, rfl, rfl⟩⟩
instance inf105 : Inf Try.prog 105 (Go.Value.nilFunc) 1 8 := ⟨⟨Try.t105, Try.type105, rfl, rfl, rfl, rfl⟩⟩
instance inf106 : Inf Try.prog 106 (Go.Value.nilFunc) 1 8 := ⟨⟨Try.t106, Try.type106, rfl, rfl, rfl, rfl⟩⟩
instance inf107 : Inf Try.prog 107 (Go.Value.nilFunc) 1 8 := ⟨⟨Try.t107, Try.type107, rfl, rfl, rfl, rfl⟩⟩
instance inf108 : Inf Try.prog 108 (Go.Value.nilFunc) 1 8 := ⟨⟨Try.t108, Try.type108, rfl, rfl, rfl, rfl⟩⟩
instance inf109 : Inf Try.prog 109 (Go.Value.nilFunc) 1 8 := ⟨⟨Try.t109, Try.type109, rfl, rfl, rfl, rfl⟩⟩
instance inf110 : Inf Try.prog 110 (Go.Value.slice none 0 0) 1 24 := ⟨⟨Try.t110, Try.type110, rfl, rfl, rfl, rfl⟩⟩
instance inf111 : Inf Try.prog 111 (Go.Value.nilFunc) 1 8 := ⟨⟨Try.t111, Try.type111, rfl, rfl, rfl, rfl⟩⟩
instance inf112 : Inf Try.prog 112 (Go.Value.agg #[Go.Value.string { data := #[] }, Go.Value.string { data := #[] }, Go.Value.string { data := #[] }, Go.Value.string { data := #[] }]) 4 64 := ⟨⟨Try.t112, Try.type112, rfl, rfl, rfl, rfl⟩⟩
instance inf113 : Inf Try.prog 113 (Go.Value.nilFunc) 1 8 := ⟨⟨Try.t113, Try.type113, rfl, rfl, rfl, rfl⟩⟩
instance inf114 : Inf Try.prog 114 (Go.Value.nilFunc) 1 8 := ⟨⟨Try.t114, Try.type114, rfl, rfl, rfl, rfl⟩⟩
instance inf115 : Inf Try.prog 115 (Go.Value.nilFunc) 1 8 := ⟨⟨Try.t115, Try.type115, rfl, rfl, rfl, rfl⟩⟩
instance inf116 : Inf Try.prog 116 (Go.Value.agg #[Go.Value.pointer none, Go.Value.pointer none, Go.Value.pointer none, Go.Value.string { data := #[] }]) 4 40 := ⟨⟨Try.t116, Try.type116, rfl, rfl, rfl, rfl⟩⟩
instance inf117 : Inf Try.prog 117 (Go.Value.agg #[Go.Value.pointer none, Go.Value.pointer none, Go.Value.pointer none, Go.Value.string { data := #[] }]) 4 40 := ⟨⟨Try.t117, Try.type117, rfl, rfl, rfl, rfl⟩⟩
instance inf118 : Inf Try.prog 118 (Go.Value.agg #[]) 0 0 := ⟨⟨Try.t118, Try.type118, rfl, rfl, rfl, rfl⟩⟩
instance inf119 : Inf Try.prog 119 (Go.Value.agg #[]) 0 0 := ⟨⟨Try.t119, Try.type119, rfl, rfl, rfl, rfl⟩⟩
instance inf120 : Inf Try.prog 120 (Go.Value.agg #[]) 0 0 := ⟨⟨Try.t120, Try.type120, rfl, rfl, rfl, rfl⟩⟩
instance inf121 : Inf Try.prog 121 (Go.Value.int Go.IntKind.u32 0) 1 4 := ⟨⟨Try.t121, Try.type121, rfl, rfl, rfl, rfl⟩⟩
instance inf122 : Inf Try.prog 122 (Go.Value.int Go.IntKind.u8 0) 1 1 := ⟨⟨Try.t122, Try.type122, rfl, rfl, rfl, rfl⟩⟩
instance inf123 : Inf Try.prog 123 (Go.Value.int Go.IntKind.u8 0) 1 1 := ⟨⟨Try.t123, Try.type123, rfl, rfl, rfl, rfl⟩⟩
instance inf124 : Inf Try.prog 124 (Go.Value.nilFunc) 1 8 := ⟨⟨Try.t124, Try.type124, rfl, rfl, rfl, rfl⟩⟩
instance inf125 : Inf Try.prog 125 (Go.Value.pointer none) 1 8 := ⟨⟨Try.t125, Try.type125, rfl, rfl, rfl, rfl⟩⟩
instance inf126 : Inf Try.prog 126 (Go.Value.int Go.IntKind.i32 0) 1 4 := ⟨⟨Try.t126, Try.type126, rfl, rfl, rfl, rfl⟩⟩
instance inf127 : Inf Try.prog 127 (Go.Value.int Go.IntKind.i32 0) 1 4 := ⟨⟨Try.t127, Try.type127, rfl, rfl, rfl, rfl⟩⟩
instance inf128 : Inf Try.prog 128 (Go.Value.agg #[Go.Value.int Go.IntKind.u64 0, Go.Value.int Go.IntKind.u64 0, Go.Value.int Go.IntKind.u32 0, Go.Value.int Go.IntKind.u8 0, Go.Value.int Go.IntKind.u8 0, Go.Value.int Go.IntKind.u8 0, Go.Value.int Go.IntKind.u8 0, Go.Value.nilFunc, Go.Value.pointer none, Go.Value.int Go.IntKind.i32 0, Go.Value.int Go.IntKind.i32 0]) 11 48 := ⟨⟨Try.t128, Try.type128, rfl, rfl, rfl, rfl⟩⟩
instance inf129 : Inf Try.prog 129 (Go.Value.agg #[Go.Value.int Go.IntKind.u64 0, Go.Value.int Go.IntKind.u64 0, Go.Value.int Go.IntKind.u32 0, Go.Value.int Go.IntKind.u8 0, Go.Value.int Go.IntKind.u8 0, Go.Value.int Go.IntKind.u8 0, Go.Value.int Go.IntKind.u8 0, Go.Value.nilFunc, Go.Value.pointer none, Go.Value.int Go.IntKind.i32 0, Go.Value.int Go.IntKind.i32 0]) 11 48 := ⟨⟨Try.t129, Try.type129, rfl, rfl, rfl, rfl⟩⟩
instance inf130 : Inf Try.prog 130 (Go.Value.pointer none) 1 8 := ⟨⟨Try.t130, Try.type130, rfl, rfl, rfl, rfl⟩⟩
theorem V_aneq_47 {fs : List (Nat × Value)} {E : Env} {L : List Res} {o : Oper} {x y : Operand} {u : TypeId} {a0 : Int} {a1 : Int} {b0 : Int} {b1 : Int} (ho : o.op = .binOp .neq 47 x y u) (hx : ev fs x = some (.agg #[.int .i64 a0, .int .i64 a1])) (hy : ev fs y = some (.agg #[.int .i64 b0, .int .i64 b1])) : Val Try.prog o fs E L (.bool (decide (¬ (a0 = b0 ∧ a1 = b1)))) :=
  V_bin ho hx hy fun w => ⟨by simp [go_sem], by
    by_cases h0 : a0 = b0 <;> by_cases h1 : a1 = b1 <;> simp [go_sem, Op.eqFields, S_toList, h0, h1]⟩
theorem V_aneq_49 {fs : List (Nat × Value)} {E : Env} {L : List Res} {o : Oper} {x y : Operand} {u : TypeId} {a0 : Int} {a1 : List UInt8} {a2 : Int} {b0 : Int} {b1 : List UInt8} {b2 : Int} (ho : o.op = .binOp .neq 49 x y u) (hx : ev fs x = some (.agg #[.int .i64 a0, .string (S a1), .int .i64 a2])) (hy : ev fs y = some (.agg #[.int .i64 b0, .string (S b1), .int .i64 b2])) : Val Try.prog o fs E L (.bool (decide (¬ (a0 = b0 ∧ a1 = b1 ∧ a2 = b2)))) :=
  V_bin ho hx hy fun w => ⟨by simp [go_sem], by
    by_cases h0 : a0 = b0 <;> by_cases h1 : a1 = b1 <;> by_cases h2 : a2 = b2 <;> simp [go_sem, Op.eqFields, S_toList, h0, h1, h2]⟩
theorem mixed : Try.prog.follows .mixedOrders = true := by kernel_rfl
end Go.Proofs.Ytimiokmgnclggaa
set_option linter.unusedSimpArgs false
set_option linter.unusedVariables false
set_option maxHeartbeats 2000000
set_option maxRecDepth 20000
namespace Go.Proofs.Ytimiokmgnclggaa
open Go.RowKit

/-! The kit's small functions: lists of numbers and of strings. -/
def i64s (l : List Int) : List Value := l.map fun n => .int .i64 n
theorem i64s_get {l : List Int} {k : Nat} {n : Int} (h : l[k]? = some n) : (i64s l)[k]? = some (.int .i64 n) := by simp [i64s, h]
def strs (l : List (List UInt8)) : List Value := l.map fun s => .string (S s)
theorem strs_get {l : List (List UInt8)} {k : Nat} {s : List UInt8} (h : l[k]? = some s) : (strs l)[k]? = some (.string (S s)) := by simp [strs, h]
theorem take_next {α : Type} {xs ys : List α} {k : Nat} (h : xs.take k = ys.take k) (hx : k < xs.length) (hy : k < ys.length) (e : xs[k] = ys[k]) : xs.take (k + 1) = ys.take (k + 1) := by
  rw [List.take_succ_eq_append_getElem hx, List.take_succ_eq_append_getElem hy, h, e]
theorem SlE.nI {E : Env} {p : Option Addr} {n : Nat} {xs : List Int} (h : SlE E 1 p n (i64s xs)) : n = xs.length := by have := h.1; simp [i64s] at this; exact this.symm
theorem SlE.nS {E : Env} {p : Option Addr} {n : Nat} {xs : List (List UInt8)} (h : SlE E 1 p n (strs xs)) : n = xs.length := by have := h.1; simp [strs] at this; exact this.symm
end Go.Proofs.Ytimiokmgnclggaa
set_option linter.unusedSimpArgs false
set_option linter.unusedVariables false
set_option maxHeartbeats 2000000
set_option maxRecDepth 20000
namespace Go.Proofs.Ytimiokmgnclggaa
open Go.RowKit

/-- A token. -/
structure Tok where
  sym : Int
  text : List UInt8
  at' : Int
@[reducible] def Tok.cells (t : Tok) : List Value := [.int .i64 t.sym, .string (S t.text), .int .i64 t.at']
@[reducible] def Tok.v (t : Tok) : Value := .agg #[.int .i64 t.sym, .string (S t.text), .int .i64 t.at']
def toks (l : List Tok) : List Value := l.flatMap Tok.cells
theorem toks_len (l : List Tok) : (toks l).length = l.length * 3 := by
  induction l with
  | nil => rfl
  | cons t l ih => simp only [toks, List.flatMap_cons, List.length_append, List.length_cons, List.length_nil] at *; omega
theorem toks_drop (l : List Tok) (k : Nat) : (toks l).drop (k * 3) = toks (l.drop k) := by
  induction l generalizing k with
  | nil => simp [toks]
  | cons t l ih =>
    cases k with
    | zero => simp
    | succ k =>
      have e : (k + 1) * 3 = k * 3 + 3 := by omega
      rw [e]
      show (Tok.cells t ++ toks l).drop (k * 3 + 3) = _
      rw [Nat.add_comm, ← List.drop_drop]
      simpa [Tok.cells] using ih k
theorem toks_get {l : List Tok} {k : Nat} {t : Tok} (h : l[k]? = some t) : ((toks l).drop (k * 3)).take 3 = t.cells := by
  rw [toks_drop, List.drop_eq_getElem_cons (List.getElem?_eq_some_iff.1 h).1]
  have := (List.getElem?_eq_some_iff.1 h).2
  rw [this]
  simp [toks, Tok.cells]
theorem SlE.nilT {E : Env} : SlE E 3 none 0 (toks []) := SlE.nil
theorem SlE.nT {E : Env} {p : Option Addr} {n : Nat} {xs : List Tok} (h : SlE E 3 p n (toks xs)) : n = xs.length := by have := h.1; rw [toks_len] at this; omega

/-- A token that is right, and no separator. -/
def tokB (terms : Int) (t : Tok) : Bool := decide (0 ≤ t.sym) && decide (t.sym < terms) && decide (t.text.length ≤ 24) && decide (0 ≤ t.at') && decide (t.at' ≤ 1099511627776)
theorem tokB_iff {terms : Int} {t : Tok} : tokB terms t = true ↔ 0 ≤ t.sym ∧ t.sym < terms ∧ t.text.length ≤ 24 ∧ 0 ≤ t.at' ∧ t.at' ≤ 1099511627776 := by simp [tokB, and_assoc]
def tbeh (t : Tok) : Int := t.at' + (2 + t.text.length)

section
variable (E : Env) (L : List Res)
theorem ranged_call (n : Int) : CallV Try.prog 72 #[.int .i64 n] E L (.bool (decide (1 ≤ n) && decide (n ≤ 8))) := by
  refine CallS.toV (CallS.intro (l := [.int .i64 n]) _ Try.func72 rfl Try.ntmps72 rfl ?_)
  refine G_seq (G_region ?_)
  refine G_val (V_assign rfl rfl) rfl rfl (.none rfl) ?_
  refine G_end (X_then (G_seq (G_region ?_)))
  refine G_val (V_move rfl rfl) rfl rfl (.none rfl) ?_
  refine G_val (V_geq rfl rfl rfl) rfl rfl (.none rfl) ?_
  refine G_val (V_move rfl rfl) rfl rfl (.none rfl) ?_
  apply G_joinAnd 3 5 8 rfl
  · intro H1
    dsimp only [List.take]
    simp only [Bool.and_eq_true, Bool.or_eq_true, Bool.not_eq_true', Bool.not_eq_false', Bool.and_eq_false_iff, Bool.or_eq_false_iff, Bool.not_not, decide_eq_true_eq, decide_eq_false_iff_not, ne_eq, Decidable.not_not, Bool.decide_eq_true] at H1
    refine G_val (V_move rfl rfl) rfl rfl (.yes rfl rfl rfl rfl) ?_
    refine G_val (V_leq rfl rfl rfl) rfl rfl (.yes rfl rfl rfl rfl) ?_
    refine G_val (V_pick_t rfl rfl rfl) rfl rfl (.none rfl) ?_
    refine G_end ?_
    exact JQ_end 3 rfl rfl (by kernel_rfl)
  · intro H2
    dsimp only [List.take]
    simp only [Bool.and_eq_true, Bool.or_eq_true, Bool.not_eq_true', Bool.not_eq_false', Bool.and_eq_false_iff, Bool.or_eq_false_iff, Bool.not_not, decide_eq_true_eq, decide_eq_false_iff_not, ne_eq, Decidable.not_not, Bool.decide_eq_true] at H2
    refine G_stay (.no rfl rfl rfl rfl) rfl rfl ?_
    refine G_stay (.no rfl rfl rfl rfl) rfl rfl ?_
    refine G_val (V_pick_f rfl rfl rfl) rfl rfl (.none rfl) ?_
    refine G_end ?_
    exact JQ_end 3 rfl rfl (by kernel_rfl)
  dsimp only [List.drop]
  refine G_val (V_assign rfl rfl) rfl rfl (.none rfl) ?_
  refine G_end (X_then (G_ret ?_))
  refine G_leaveS (.nil _) (by exact (.cons (.tmp rfl) (.nil))) rfl ?_ ?_
  · exact (.refl _)
  exact ⟨rfl, rfl⟩
theorem counts_call (n : Int) : CallV Try.prog 86 #[.int .i64 n] E L (.bool (decide (0 ≤ n) && decide (n ≤ 1099511627776))) := by
  refine CallS.toV (CallS.intro (l := [.int .i64 n]) _ Try.func86 rfl Try.ntmps86 rfl ?_)
  refine G_seq (G_region ?_)
  refine G_val (V_assign rfl rfl) rfl rfl (.none rfl) ?_
  refine G_end (X_then (G_seq (G_region ?_)))
  refine G_val (V_move rfl rfl) rfl rfl (.none rfl) ?_
  refine G_val (V_geq rfl rfl rfl) rfl rfl (.none rfl) ?_
  refine G_val (V_move rfl rfl) rfl rfl (.none rfl) ?_
  apply G_joinAnd 3 5 8 rfl
  · intro H1
    dsimp only [List.take]
    simp only [Bool.and_eq_true, Bool.or_eq_true, Bool.not_eq_true', Bool.not_eq_false', Bool.and_eq_false_iff, Bool.or_eq_false_iff, Bool.not_not, decide_eq_true_eq, decide_eq_false_iff_not, ne_eq, Decidable.not_not, Bool.decide_eq_true] at H1
    refine G_val (V_move rfl rfl) rfl rfl (.yes rfl rfl rfl rfl) ?_
    refine G_val (V_leq rfl rfl rfl) rfl rfl (.yes rfl rfl rfl rfl) ?_
    refine G_val (V_pick_t rfl rfl rfl) rfl rfl (.none rfl) ?_
    refine G_end ?_
    exact JQ_end 3 rfl rfl (by kernel_rfl)
  · intro H2
    dsimp only [List.take]
    simp only [Bool.and_eq_true, Bool.or_eq_true, Bool.not_eq_true', Bool.not_eq_false', Bool.and_eq_false_iff, Bool.or_eq_false_iff, Bool.not_not, decide_eq_true_eq, decide_eq_false_iff_not, ne_eq, Decidable.not_not, Bool.decide_eq_true] at H2
    refine G_stay (.no rfl rfl rfl rfl) rfl rfl ?_
    refine G_stay (.no rfl rfl rfl rfl) rfl rfl ?_
    refine G_val (V_pick_f rfl rfl rfl) rfl rfl (.none rfl) ?_
    refine G_end ?_
    exact JQ_end 3 rfl rfl (by kernel_rfl)
  dsimp only [List.drop]
  refine G_val (V_assign rfl rfl) rfl rfl (.none rfl) ?_
  refine G_end (X_then (G_ret ?_))
  refine G_leaveS (.nil _) (by exact (.cons (.tmp rfl) (.nil))) rfl ?_ ?_
  · exact (.refl _)
  exact ⟨rfl, rfl⟩
theorem TokCheck_call (a : Int) (s : List UInt8) (b terms : Int) (h0 : 1 ≤ terms) (h1 : terms ≤ 8) (ht : tokB terms ⟨a, s, b⟩ = true) : CallV Try.prog 79 #[.agg #[.int .i64 a, .string (S s), .int .i64 b], .int .i64 terms] E L (.int .i64 0) := by
  refine CallS.toV (CallS.intro (l := [.agg #[.int .i64 a, .string (S s), .int .i64 b], .int .i64 terms]) _ Try.func79 rfl Try.ntmps79 rfl ?_)
  obtain ⟨h2, h3, h4, h5, h6⟩ := tokB_iff.1 ht
  simp only at h2 h3 h4 h5 h6
  have e1 : (decide (1 ≤ terms) && decide (terms ≤ 8)) = true := by simp [h0, h1]
  have e2 : (decide (0 ≤ b) && decide (b ≤ 1099511627776)) = true := by simp [h5, h6]
  refine G_seq (G_region ?_)
  (refine G_boxA rfl rfl rfl rfl (.none rfl) ?_; intro b2)
  refine G_val (V_assign rfl rfl) rfl rfl (.none rfl) ?_
  refine G_end (X_then (G_seq (G_block (G_seq (G_region ?_)))))
  refine G_val (V_move rfl rfl) rfl rfl (.none rfl) ?_
  refine G_callv (k := 72) (.mk rfl rfl rfl rfl) rfl rfl (.none rfl) (ranged_call _ _ _) ?_
  refine G_val (V_not rfl rfl) rfl rfl (.none rfl) ?_
  refine G_val (V_assign rfl rfl) rfl rfl (.none rfl) ?_
  refine G_end (X_then ?_)
  refine G_cond_f rfl (by simp [*]; done) ?_
  refine G_seq (G_region ?_)
  refine G_val (V_fieldAddr rfl rfl (by decide)) rfl rfl (.none rfl) ?_
  refine G_val (V_load rfl rfl (Cell.own (.head _) rfl)) rfl rfl (.none rfl) ?_
  refine G_val (V_lss rfl rfl rfl) rfl rfl (.none rfl) ?_
  refine G_val (V_move rfl rfl) rfl rfl (.none rfl) ?_
  refine G.bool_f 13 rfl (decide_eq_false (by omega)) ?_
  refine G_val (V_fieldAddr rfl rfl (by decide)) rfl rfl (.yes rfl rfl rfl rfl) ?_
  refine G_val (V_load rfl rfl (Cell.own (.head _) rfl)) rfl rfl (.yes rfl rfl rfl rfl) ?_
  refine G_val (V_move rfl rfl) rfl rfl (.yes rfl rfl rfl rfl) ?_
  refine G_val (V_gtr rfl rfl rfl) rfl rfl (.yes rfl rfl rfl rfl) ?_
  refine G_val (V_pick_f rfl rfl rfl) rfl rfl (.none rfl) ?_
  refine G_val (V_assign rfl rfl) rfl rfl (.none rfl) ?_
  refine G_end (X_then ?_)
  refine G_cond_f rfl (decide_eq_false (by omega)) ?_
  refine G_seq (G_region ?_)
  refine G_val (V_fieldAddr rfl rfl (by decide)) rfl rfl (.none rfl) ?_
  refine G_val (V_load rfl rfl (Cell.own (.head _) rfl)) rfl rfl (.none rfl) ?_
  refine G_val (V_len rfl rfl) rfl rfl (.none rfl) ?_
  refine G_val (V_gtr rfl rfl rfl) rfl rfl (.none rfl) ?_
  refine G_val (V_assign rfl rfl) rfl rfl (.none rfl) ?_
  refine G_end (X_then ?_)
  refine G_cond_f rfl (decide_eq_false (by omega)) ?_
  refine G_seq (G_region ?_)
  refine G_val (V_fieldAddr rfl rfl (by decide)) rfl rfl (.none rfl) ?_
  refine G_val (V_load rfl rfl (Cell.own (.head _) rfl)) rfl rfl (.none rfl) ?_
  refine G_callv (k := 86) (.mk rfl rfl rfl rfl) rfl rfl (.none rfl) (counts_call _ _ _) ?_
  refine G_val (V_not rfl rfl) rfl rfl (.none rfl) ?_
  refine G_val (V_assign rfl rfl) rfl rfl (.none rfl) ?_
  refine G_end (X_then ?_)
  refine G_cond_f rfl (by simp [*]; done) ?_
  refine G_skip (X_block (X_then (G_seq (G_region ?_))))
  refine G_val (V_assign rfl rfl) rfl rfl (.none rfl) ?_
  refine G_end (X_then (G_ret ?_))
  refine G_leaveS (.drop _ (.nil _)) (by exact (.cons (.tmp rfl) (.nil))) rfl ?_ ?_
  · exact (.refl _)
  exact ⟨(by kernel_rfl), rfl⟩
theorem Separates_call (a : Int) (s : List UInt8) (b terms : Int) (h0 : 1 ≤ terms) (h1 : terms ≤ 8) (ht : tokB terms ⟨a, s, b⟩ = true) : CallV Try.prog 80 #[.agg #[.int .i64 a, .string (S s), .int .i64 b], .int .i64 terms] E L (.bool false) := by
  refine CallS.toV (CallS.intro (l := [.agg #[.int .i64 a, .string (S s), .int .i64 b], .int .i64 terms]) _ Try.func80 rfl Try.ntmps80 rfl ?_)
  obtain ⟨h2, h3, h4, h5, h6⟩ := tokB_iff.1 ht
  simp only at h2 h3 h4 h5 h6
  have h7 : ¬ a = terms := by omega
  refine G_seq (G_region ?_)
  (refine G_boxA rfl rfl rfl rfl (.none rfl) ?_; intro b2)
  refine G_val (V_assign rfl rfl) rfl rfl (.none rfl) ?_
  refine G_end (X_then (G_seq (G_region ?_)))
  refine G_val (V_loadA rfl rfl (Cells.own (.head _)) rfl) rfl rfl (.none rfl) ?_
  refine G_val (V_move rfl rfl) rfl rfl (.none rfl) ?_
  refine G_callv (k := 79) (.mk rfl rfl rfl rfl) rfl rfl (.none rfl) (TokCheck_call _ _ _ _ _ _ (by assumption) (by assumption) (by assumption)) ?_
  refine G_val (V_eql rfl rfl rfl) rfl rfl (.none rfl) ?_
  refine G_val (V_move rfl rfl) rfl rfl (.none rfl) ?_
  refine G.bool_t 9 rfl (by kernel_rfl) ?_
  refine G_val (V_fieldAddr rfl rfl (by decide)) rfl rfl (.yes rfl rfl rfl rfl) ?_
  refine G_val (V_load rfl rfl (Cell.own (.head _) rfl)) rfl rfl (.yes rfl rfl rfl rfl) ?_
  refine G_val (V_move rfl rfl) rfl rfl (.yes rfl rfl rfl rfl) ?_
  refine G_val (V_eql rfl rfl rfl) rfl rfl (.yes rfl rfl rfl rfl) ?_
  refine G_val (V_pick_t rfl rfl rfl) rfl rfl (.none rfl) ?_
  refine G_val (V_assign rfl rfl) rfl rfl (.none rfl) ?_
  refine G_end (X_then (G_ret ?_))
  refine G_leaveS (.drop _ (.nil _)) (by exact (.cons (.tmp rfl) (.nil))) rfl ?_ ?_
  · exact (.refl _)
  exact ⟨(by (simp [resVal, *]; done)), (by rfl)⟩
theorem right_call (a : Int) (s : List UInt8) (b terms : Int) (h0 : 1 ≤ terms) (h1 : terms ≤ 8) (ht : tokB terms ⟨a, s, b⟩ = true) : CallV Try.prog 69 #[.agg #[.int .i64 a, .string (S s), .int .i64 b], .int .i64 terms] E L (.int .i64 0) := by
  refine CallS.toV (CallS.intro (l := [.agg #[.int .i64 a, .string (S s), .int .i64 b], .int .i64 terms]) _ Try.func69 rfl Try.ntmps69 rfl ?_)
  refine G_seq (G_region ?_)
  (refine G_boxA rfl rfl rfl rfl (.none rfl) ?_; intro b2)
  refine G_val (V_assign rfl rfl) rfl rfl (.none rfl) ?_
  refine G_end (X_then (G_seq (G_region ?_)))
  refine G_val (V_loadA rfl rfl (Cells.own (.head _)) rfl) rfl rfl (.none rfl) ?_
  refine G_val (V_move rfl rfl) rfl rfl (.none rfl) ?_
  refine G_callv (k := 79) (.mk rfl rfl rfl rfl) rfl rfl (.none rfl) (TokCheck_call _ _ _ _ _ _ (by assumption) (by assumption) (by assumption)) ?_
  refine G_val (V_assign rfl rfl) rfl rfl (.none rfl) ?_
  refine G_end (X_then (G_seq (G_seq (G_region ?_))))
  refine G_val (V_move rfl rfl) rfl rfl (.none rfl) ?_
  refine G_val (V_eql rfl rfl rfl) rfl rfl (.none rfl) ?_
  refine G_val (V_move rfl rfl) rfl rfl (.none rfl) ?_
  refine G.bool_t 11 rfl (by kernel_rfl) ?_
  refine G_val (V_loadA rfl rfl (Cells.own (.head _)) rfl) rfl rfl (.yes rfl rfl rfl rfl) ?_
  refine G_val (V_move rfl rfl) rfl rfl (.yes rfl rfl rfl rfl) ?_
  refine G_callv (k := 80) (.mk rfl rfl rfl rfl) rfl rfl (.yes rfl rfl rfl rfl) (Separates_call _ _ _ _ _ _ (by assumption) (by assumption) (by assumption)) ?_
  refine G_val (V_pick_t rfl rfl rfl) rfl rfl (.none rfl) ?_
  refine G_end (X_then ?_)
  refine G_cond_f rfl rfl ?_
  refine G_skip (X_then (G_seq (G_region ?_)))
  refine G_val (V_move rfl rfl) rfl rfl (.none rfl) ?_
  refine G_val (V_assign rfl rfl) rfl rfl (.none rfl) ?_
  refine G_end (X_then (G_ret ?_))
  refine G_leaveS (.drop _ (.nil _)) (by exact (.cons (.tmp rfl) (.nil))) rfl ?_ ?_
  · exact (.refl _)
  exact ⟨(by kernel_rfl), rfl⟩
theorem TokSize_call (a : Int) (s : List UInt8) (b : Int) (hs : s.length ≤ 1000000) : CallV Try.prog 56 #[.agg #[.int .i64 a, .string (S s), .int .i64 b]] E L (.int .i64 (2 + s.length)) := by
  refine CallS.toV (CallS.intro (l := [.agg #[.int .i64 a, .string (S s), .int .i64 b]]) _ Try.func56 rfl Try.ntmps56 rfl ?_)
  refine G_seq (G_region ?_)
  (refine G_boxA rfl rfl rfl rfl (.none rfl) ?_; intro b1)
  refine G_val (V_assign rfl rfl) rfl rfl (.none rfl) ?_
  refine G_end (X_then (G_seq (G_region ?_)))
  refine G_val (V_fieldAddr rfl rfl (by decide)) rfl rfl (.none rfl) ?_
  refine G_val (V_load rfl rfl (Cell.own (.head _) rfl)) rfl rfl (.none rfl) ?_
  refine G_val (V_len rfl rfl) rfl rfl (.none rfl) ?_
  refine G_val (V_add_i64 rfl rfl rfl (by omega) (by omega)) rfl rfl (.none rfl) ?_
  refine G_val (V_assign rfl rfl) rfl rfl (.none rfl) ?_
  refine G_end (X_then (G_ret ?_))
  refine G_leaveS (.drop _ (.nil _)) (by exact (.cons (.tmp rfl) (.nil))) rfl ?_ ?_
  · exact (.refl _)
  exact ⟨rfl, rfl⟩
theorem behind_call (a : Int) (s : List UInt8) (b : Int) (hs : s.length ≤ 1000000) (hb : 0 ≤ b) (hb2 : b ≤ 1099511627776) : CallV Try.prog 70 #[.agg #[.int .i64 a, .string (S s), .int .i64 b]] E L (.int .i64 (b + (2 + s.length))) := by
  refine CallS.toV (CallS.intro (l := [.agg #[.int .i64 a, .string (S s), .int .i64 b]]) _ Try.func70 rfl Try.ntmps70 rfl ?_)
  refine G_seq (G_region ?_)
  (refine G_boxA rfl rfl rfl rfl (.none rfl) ?_; intro b1)
  refine G_val (V_assign rfl rfl) rfl rfl (.none rfl) ?_
  refine G_end (X_then (G_seq ?_))
  refine G_draw mixed (by kernel_rfl) ?_
  refine Q_val (V_fieldAddr rfl rfl (by decide)) rfl rfl (.none rfl) ?_
  refine Q_val (V_load rfl rfl (Cell.own (.head _) rfl)) rfl rfl (.none rfl) ?_
  refine Q_val (V_loadA rfl rfl (Cells.own (.head _)) rfl) rfl rfl (.none rfl) ?_
  refine Q_callv (k := 56) (.mk rfl rfl rfl rfl) rfl rfl (.none rfl) (TokSize_call _ _ _ _ _ (by assumption)) ?_
  refine Q_val (V_add_i64 rfl rfl rfl (by omega) (by omega)) rfl rfl (.none rfl) ?_
  refine Q_val (V_assign rfl rfl) rfl rfl (.none rfl) ?_
  refine Q_end ?_
  refine X_then (G_ret ?_)
  refine G_leaveS (.drop _ (.nil _)) (by exact (.cons (.tmp rfl) (.nil))) rfl ?_ ?_
  · exact (.refl _)
  exact ⟨rfl, rfl⟩
end
end Go.Proofs.Ytimiokmgnclggaa
set_option linter.unusedSimpArgs false
set_option linter.unusedVariables false
set_option maxHeartbeats 2000000
set_option maxRecDepth 20000
namespace Go.Proofs.Ytimiokmgnclggaa
open Go.RowKit

def tendF (b : Int) (l : List Tok) : Int := l.foldl (fun _ t => tbeh t) b
/-- Where the last token ends. -/
def tend (l : List Tok) : Int := tendF 0 l
theorem tendF_snoc (b : Int) (l : List Tok) (t : Tok) : tendF b (l ++ [t]) = tbeh t := by simp [tendF]
theorem tend_snoc (l : List Tok) (t : Tok) : tend (l ++ [t]) = tbeh t := tendF_snoc 0 l t
theorem tend_take (l : List Tok) (k : Nat) (h : k < l.length) : tend (l.take (k + 1)) = tbeh l[k] := by
  rw [List.take_succ_eq_append_getElem h, tend_snoc]
def ordB : Int → List Tok → Bool
  | _, [] => true
  | b, t :: l => decide (b ≤ t.at') && ordB (tbeh t) l
theorem ordB_spec : ∀ (l : List Tok) (b : Int), ordB b l = true → ∀ k, (h : k < l.length) → tendF b (l.take k) ≤ l[k].at' := by
  intro l
  induction l with
  | nil => intro b _ k h; cases h
  | cons t l ih =>
    intro b h k hk
    simp only [ordB, Bool.and_eq_true, decide_eq_true_eq] at h
    cases k with
    | zero => simpa [tendF] using h.1
    | succ k => exact ih (tbeh t) h.2 k (by simpa using hk)
/-- A ring that is right. -/
def gringB (k terms : Int) (l : List Tok) (e ea : Int) : Bool :=
  decide (1 ≤ k) && decide (k ≤ 4) && decide (1 ≤ terms) && decide (terms ≤ 8) && decide ((l.length : Int) ≤ k) && l.all (tokB terms) && ordB 0 l &&
  decide (0 ≤ e) && decide (e ≤ 2) && decide (0 ≤ ea) && decide (ea ≤ 1099511627776) && (decide (e ≠ 0) || decide (ea = 0)) && (decide (e = 0) || decide (l.length = 0) || decide (tend l ≤ ea))
structure Gring (k terms : Int) (l : List Tok) (e ea : Int) : Prop where
  k1 : 1 ≤ k
  k4 : k ≤ 4
  t1 : 1 ≤ terms
  t8 : terms ≤ 8
  len : (l.length : Int) ≤ k
  tok : ∀ t, t ∈ l → tokB terms t = true
  ord : ordB 0 l = true
  e0 : 0 ≤ e
  e2 : e ≤ 2
  a0 : 0 ≤ ea
  a1 : ea ≤ 1099511627776
  no : e ≠ 0 ∨ ea = 0
  fin : e = 0 ∨ l.length = 0 ∨ tend l ≤ ea
theorem gring_iff {k terms : Int} {l : List Tok} {e ea : Int} : gringB k terms l e ea = true ↔ Gring k terms l e ea := by
  simp only [gringB, Bool.and_eq_true, Bool.or_eq_true, decide_eq_true_eq, List.all_eq_true]
  constructor
  · rintro ⟨⟨⟨⟨⟨⟨⟨⟨⟨⟨⟨⟨h1, h2⟩, h3⟩, h4⟩, h5⟩, h6⟩, h7⟩, h8⟩, h9⟩, h10⟩, h11⟩, h12⟩, h13⟩
    exact ⟨h1, h2, h3, h4, h5, h6, h7, h8, h9, h10, h11, h12, by rcases h13 with (h | h) | h; exact .inl h; exact .inr (.inl h); exact .inr (.inr h)⟩
  · rintro ⟨h1, h2, h3, h4, h5, h6, h7, h8, h9, h10, h11, h12, h13⟩
    exact ⟨⟨⟨⟨⟨⟨⟨⟨⟨⟨⟨⟨h1, h2⟩, h3⟩, h4⟩, h5⟩, h6⟩, h7⟩, h8⟩, h9⟩, h10⟩, h11⟩, h12⟩, by rcases h13 with h | h | h; exact .inl (.inl h); exact .inl (.inr h); exact .inr h⟩
theorem tend_bound {terms : Int} {l : List Tok} (h : ∀ t, t ∈ l → tokB terms t = true) : 0 ≤ tend l ∧ tend l ≤ 1099511627802 := by
  rcases List.eq_nil_or_concat l with rfl | ⟨r, t, rfl⟩
  · simp [tend, tendF]
  · have h1 := tokB_iff.1 (h t (by simp))
    rw [List.concat_eq_append, tend_snoc, tbeh]
    omega

theorem Check_call (E : Env) (L : List Res) (k terms : Int) (p : Option Addr) (n c : Nat) (l : List Tok) (hl : SlE E 3 p n (toks l)) (e ea : Int) (hg : gringB k terms l e ea = true) :
    CallV Try.prog 52 #[.int .i64 k, .int .i64 terms, .agg #[.slice p n c, .int .i64 e, .int .i64 ea]] E L (.int .i64 0) := by
  have e1 := hl.nT
  subst e1
  refine CallS.toV (CallS.intro (l := [.int .i64 k, .int .i64 terms, .agg #[.slice p l.length c, .int .i64 e, .int .i64 ea]]) _ Try.func52 rfl Try.ntmps52 rfl ?_)
  obtain ⟨h1, h2, h3, h4, h5, h6, h7, h8, h9, h10, h11, h12, h13⟩ := gring_iff.1 hg
  refine G_seq (G_region ?_)
  (refine G_boxA rfl rfl rfl rfl (.none rfl) ?_; intro b5)
  refine G_val (V_assign rfl rfl) rfl rfl (.none rfl) ?_
  refine G_end (X_then (G_seq (G_block (G_seq (G_region ?_)))))
  refine G_val (V_move rfl rfl) rfl rfl (.none rfl) ?_
  refine G_val (V_lss rfl rfl rfl) rfl rfl (.none rfl) ?_
  refine G_val (V_move rfl rfl) rfl rfl (.none rfl) ?_
  refine G.bool_f 14 rfl (decide_eq_false (by omega)) ?_
  refine G_val (V_move rfl rfl) rfl rfl (.yes rfl rfl rfl rfl) ?_
  refine G_val (V_gtr rfl rfl rfl) rfl rfl (.yes rfl rfl rfl rfl) ?_
  refine G_val (V_pick_f rfl rfl rfl) rfl rfl (.none rfl) ?_
  refine G_val (V_move rfl rfl) rfl rfl (.none rfl) ?_
  refine G.bool_f 18 rfl (decide_eq_false (by omega)) ?_
  refine G_val (V_move rfl rfl) rfl rfl (.yes rfl rfl rfl rfl) ?_
  refine G_val (V_lss rfl rfl rfl) rfl rfl (.yes rfl rfl rfl rfl) ?_
  refine G_val (V_pick_f rfl rfl rfl) rfl rfl (.none rfl) ?_
  refine G_val (V_move rfl rfl) rfl rfl (.none rfl) ?_
  refine G.bool_f 22 rfl (decide_eq_false (by omega)) ?_
  refine G_val (V_move rfl rfl) rfl rfl (.yes rfl rfl rfl rfl) ?_
  refine G_val (V_gtr rfl rfl rfl) rfl rfl (.yes rfl rfl rfl rfl) ?_
  refine G_val (V_pick_f rfl rfl rfl) rfl rfl (.none rfl) ?_
  refine G_val (V_assign rfl rfl) rfl rfl (.none rfl) ?_
  refine G_end (X_then ?_)
  refine G_cond_f rfl (decide_eq_false (by omega)) ?_
  refine G_seq (G_region ?_)
  refine G_val (V_fieldAddr rfl rfl (by decide)) rfl rfl (.none rfl) ?_
  refine G_val (V_load rfl rfl (Cell.own (.head _) rfl)) rfl rfl (.none rfl) ?_
  refine G_val (V_lenS rfl rfl) rfl rfl (.none rfl) ?_
  refine G_val (V_move rfl rfl) rfl rfl (.none rfl) ?_
  refine G_val (V_gtr rfl rfl rfl) rfl rfl (.none rfl) ?_
  refine G_val (V_assign rfl rfl) rfl rfl (.none rfl) ?_
  refine G_end (X_then ?_)
  refine G_cond_f rfl (decide_eq_false (by omega)) ?_
  refine G_skip (X_block (X_then (G_seq (G_region ?_))))
  refine G_val (V_assign rfl rfl) rfl rfl (.none rfl) ?_
  refine G_end (X_then (G_seq (G_seq (G_region ?_))))
  refine G_val (V_fieldAddr rfl rfl (by decide)) rfl rfl (.none rfl) ?_
  refine G_val (V_load rfl rfl (Cell.own (.head _) rfl)) rfl rfl (.none rfl) ?_
  refine G_val (V_lenS rfl rfl) rfl rfl (.none rfl) ?_
  refine G_val (V_move rfl rfl) rfl rfl (.none rfl) ?_
  refine G_end (X_then (G_block ?_))
  refine G_loop (α := Nat) (fun i => [(0, .int .i64 k), (1, .int .i64 terms), (5, .pointer (some ⟨b5, 0, none⟩)), (7, .int .i64 (tend (l.take i))), (33, .slice p l.length c), (34, .int .i64 l.length), (35, .int .i64 i)]) (fun _ => E)
    (fun _ => .blk b5 (.cells #[.slice p l.length c, .int .i64 e, .int .i64 ea] 26 (0, 0)) :: L) (fun i => i ≤ l.length) (fun i => l.length - i) 0 (Nat.zero_le _) ⟨rfl, rfl, rfl, rfl, rfl, rfl, rfl, trivial⟩ rfl rfl ?_
  intro i hi
  by_cases hlt : i < l.length
  · have hx := toks_get (List.getElem?_eq_getElem hlt)
    have ht := h6 _ (List.getElem_mem hlt)
    obtain ⟨q1, q2, q3, q4, q5⟩ := tokB_iff.1 ht
    have ho : tend (l.take i) ≤ l[i].at' := ordB_spec l 0 h7 i hlt
    refine G_seq (G_region ?_)
    refine G_val (V_lss rfl rfl rfl) rfl rfl (.none rfl) ?_
    refine G_end (X_then (G_seq ?_))
    refine G_cond_t rfl (decide_eq_true (by omega)) ?_
    refine G_skip (X_then (G_seq (G_block (G_seq (G_region ?_)))))
    refine G_val (V_move rfl rfl) rfl rfl (.none rfl) ?_
    refine G_val (V_idxAddr rfl rfl rfl (SlE.rd (by assumption)) (by omega) (by omega)) rfl rfl (.none rfl) ?_
    refine G_val (V_loadAS rfl rfl (SlE.rd (by assumption)) (by assumption) (by simp) (by rfl)) rfl rfl (.none rfl) ?_
    (refine G_alloc rfl rfl rfl (.none rfl) ?_; intro b9)
    refine G_val (V_assign rfl rfl) rfl rfl (.none rfl) ?_
    refine G_storeA rfl rfl rfl rfl (by simp [Value.oneCell']) rfl (.none rfl) (.head _ _ _) rfl ?_
    refine G_end (X_then (G_seq (G_seq (G_region ?_))))
    refine G_val (V_loadA rfl rfl (Cells.own (.head _)) rfl) rfl rfl (.none rfl) ?_
    refine G_val (V_move rfl rfl) rfl rfl (.none rfl) ?_
    refine G_callv (k := 69) (.mk rfl rfl rfl rfl) rfl rfl (.none rfl) (right_call _ _ _ _ _ _ (by assumption) (by assumption) (by assumption)) ?_
    refine G_val (V_assign rfl rfl) rfl rfl (.none rfl) ?_
    refine G_end (X_then (G_seq (G_region ?_)))
    refine G_val (V_move rfl rfl) rfl rfl (.none rfl) ?_
    refine G_val (V_neq rfl rfl rfl) rfl rfl (.none rfl) ?_
    refine G_end (X_then ?_)
    refine G_cond_f rfl (by kernel_rfl) ?_
    refine G_skip (X_then (G_seq (G_seq (G_region ?_))))
    refine G_val (V_move rfl rfl) rfl rfl (.none rfl) ?_
    refine G_val (V_gtr rfl rfl rfl) rfl rfl (.none rfl) ?_
    refine G_val (V_move rfl rfl) rfl rfl (.none rfl) ?_
    apply G_joinAnd 5 48 53 rfl
    · intro H1
      dsimp only [List.take]
      simp only [Bool.and_eq_true, Bool.or_eq_true, Bool.not_eq_true', Bool.not_eq_false', Bool.and_eq_false_iff, Bool.or_eq_false_iff, Bool.not_not, decide_eq_true_eq, decide_eq_false_iff_not, ne_eq, Decidable.not_not, Bool.decide_eq_true] at H1
      refine G_val (V_fieldAddr rfl rfl (by decide)) rfl rfl (.yes rfl rfl rfl rfl) ?_
      refine G_val (V_load rfl rfl (Cell.own (.head _) rfl)) rfl rfl (.yes rfl rfl rfl rfl) ?_
      refine G_val (V_move rfl rfl) rfl rfl (.yes rfl rfl rfl rfl) ?_
      refine G_val (V_lss rfl rfl rfl) rfl rfl (.yes rfl rfl rfl rfl) ?_
      refine G_val (V_pick_t rfl rfl rfl) rfl rfl (.none rfl) ?_
      refine G_end ?_
      exact JQ_end 5 rfl rfl (by kernel_rfl)
    · intro H2
      dsimp only [List.take]
      simp only [Bool.and_eq_true, Bool.or_eq_true, Bool.not_eq_true', Bool.not_eq_false', Bool.and_eq_false_iff, Bool.or_eq_false_iff, Bool.not_not, decide_eq_true_eq, decide_eq_false_iff_not, ne_eq, Decidable.not_not, Bool.decide_eq_true] at H2
      refine G_stay (.no rfl rfl rfl rfl) rfl rfl ?_
      refine G_stay (.no rfl rfl rfl rfl) rfl rfl ?_
      refine G_stay (.no rfl rfl rfl rfl) rfl rfl ?_
      refine G_stay (.no rfl rfl rfl rfl) rfl rfl ?_
      refine G_val (V_pick_f rfl rfl rfl) rfl rfl (.none rfl) ?_
      refine G_end ?_
      exact JQ_end 5 rfl rfl (by kernel_rfl)
    dsimp only [List.drop]
    refine G_end (X_then ?_)
    refine G_cond_f rfl (by simp [*]; done) ?_
    refine G_skip (X_then (G_region ?_))
    refine G_val (V_loadA rfl rfl (Cells.own (.head _)) rfl) rfl rfl (.none rfl) ?_
    refine G_callv (k := 70) (.mk rfl rfl rfl rfl) rfl rfl (.none rfl) (behind_call _ _ _ _ _ (by omega) (by assumption) (by assumption)) ?_
    refine G_val (V_assign rfl rfl) rfl rfl (.none rfl) ?_
    refine G_end (X_block (X_then (G_region ?_)))
    refine G_val (V_add_i64 rfl rfl rfl (by omega) (by omega)) rfl rfl (.none rfl) ?_
    refine G_val (V_move rfl rfl) rfl rfl (.none rfl) ?_
    refine G_end (X_then ?_)
    refine G.drop ?_
    exact G_again (i + 1) (by omega) (by omega) ⟨rfl, rfl, rfl, by rw [tend_take l i hlt]; rfl, rfl, rfl, rfl, trivial⟩ rfl rfl
  have hie : i = l.length := by omega
  subst hie
  rw [List.take_length]
  have htb := tend_bound h6
  refine G_seq (G_region ?_)
  refine G_val (V_lss rfl rfl rfl) rfl rfl (.none rfl) ?_
  refine G_end (X_then (G_seq ?_))
  refine G_cond_f rfl (decide_eq_false (by omega)) ?_
  refine G_exit (X_then_exit (X_then_exit (X_block_hit (X_then (G_seq (G_block (G_seq (G_region ?_))))))))
  refine G_val (V_fieldAddr rfl rfl (by decide)) rfl rfl (.none rfl) ?_
  refine G_val (V_load rfl rfl (Cell.own (.head _) rfl)) rfl rfl (.none rfl) ?_
  refine G_val (V_lss rfl rfl rfl) rfl rfl (.none rfl) ?_
  refine G_val (V_move rfl rfl) rfl rfl (.none rfl) ?_
  refine G.bool_f 61 rfl (decide_eq_false (by omega)) ?_
  refine G_val (V_fieldAddr rfl rfl (by decide)) rfl rfl (.yes rfl rfl rfl rfl) ?_
  refine G_val (V_load rfl rfl (Cell.own (.head _) rfl)) rfl rfl (.yes rfl rfl rfl rfl) ?_
  refine G_val (V_gtr rfl rfl rfl) rfl rfl (.yes rfl rfl rfl rfl) ?_
  refine G_val (V_pick_f rfl rfl rfl) rfl rfl (.none rfl) ?_
  refine G_val (V_move rfl rfl) rfl rfl (.none rfl) ?_
  refine G.bool_f 66 rfl (decide_eq_false (by omega)) ?_
  refine G_val (V_fieldAddr rfl rfl (by decide)) rfl rfl (.yes rfl rfl rfl rfl) ?_
  refine G_val (V_load rfl rfl (Cell.own (.head _) rfl)) rfl rfl (.yes rfl rfl rfl rfl) ?_
  refine G_val (V_lss rfl rfl rfl) rfl rfl (.yes rfl rfl rfl rfl) ?_
  refine G_val (V_pick_f rfl rfl rfl) rfl rfl (.none rfl) ?_
  refine G_val (V_move rfl rfl) rfl rfl (.none rfl) ?_
  refine G.bool_f 71 rfl (decide_eq_false (by omega)) ?_
  refine G_val (V_fieldAddr rfl rfl (by decide)) rfl rfl (.yes rfl rfl rfl rfl) ?_
  refine G_val (V_load rfl rfl (Cell.own (.head _) rfl)) rfl rfl (.yes rfl rfl rfl rfl) ?_
  refine G_val (V_gtr rfl rfl rfl) rfl rfl (.yes rfl rfl rfl rfl) ?_
  refine G_val (V_pick_f rfl rfl rfl) rfl rfl (.none rfl) ?_
  refine G_val (V_move rfl rfl) rfl rfl (.none rfl) ?_
  refine G.bool_f 76 rfl (decide_eq_false (by omega)) ?_
  refine G_val (V_fieldAddr rfl rfl (by decide)) rfl rfl (.yes rfl rfl rfl rfl) ?_
  refine G_val (V_load rfl rfl (Cell.own (.head _) rfl)) rfl rfl (.yes rfl rfl rfl rfl) ?_
  refine G_val (V_eql rfl rfl rfl) rfl rfl (.yes rfl rfl rfl rfl) ?_
  refine G_val (V_move rfl rfl) rfl rfl (.yes rfl rfl rfl rfl) ?_
  apply G_joinAnd 4 80 84 rfl
  · intro H1
    dsimp only [List.take]
    simp only [Bool.and_eq_true, Bool.or_eq_true, Bool.not_eq_true', Bool.not_eq_false', Bool.and_eq_false_iff, Bool.or_eq_false_iff, Bool.not_not, decide_eq_true_eq, decide_eq_false_iff_not, ne_eq, Decidable.not_not, Bool.decide_eq_true] at H1
    refine G_val (V_fieldAddr rfl rfl (by decide)) rfl rfl (.yes rfl rfl rfl rfl) ?_
    refine G_val (V_load rfl rfl (Cell.own (.head _) rfl)) rfl rfl (.yes rfl rfl rfl rfl) ?_
    refine G_val (V_neq rfl rfl rfl) rfl rfl (.yes rfl rfl rfl rfl) ?_
    refine G_val (V_pick_t rfl rfl rfl) rfl rfl (.yes rfl rfl rfl rfl) ?_
    refine G_end ?_
    exact JQ_end 4 rfl rfl (by kernel_rfl)
  · intro H2
    dsimp only [List.take]
    simp only [Bool.and_eq_true, Bool.or_eq_true, Bool.not_eq_true', Bool.not_eq_false', Bool.and_eq_false_iff, Bool.or_eq_false_iff, Bool.not_not, decide_eq_true_eq, decide_eq_false_iff_not, ne_eq, Decidable.not_not, Bool.decide_eq_true] at H2
    refine G_stay (.no rfl rfl rfl rfl) rfl rfl ?_
    refine G_stay (.no rfl rfl rfl rfl) rfl rfl ?_
    refine G_stay (.no rfl rfl rfl rfl) rfl rfl ?_
    refine G_val (V_pick_f rfl rfl rfl) rfl rfl (.yes rfl rfl rfl rfl) ?_
    refine G_end ?_
    exact JQ_end 4 rfl rfl (by kernel_rfl)
  dsimp only [List.drop]
  refine G_val (V_pick_f rfl rfl rfl) rfl rfl (.none rfl) ?_
  refine G_val (V_assign rfl rfl) rfl rfl (.none rfl) ?_
  refine G_end (X_then ?_)
  refine G_cond rfl (fun H3 => ?_) (fun H3 => ?_)
  · simp only [Bool.and_eq_true, Bool.or_eq_true, Bool.not_eq_true', Bool.not_eq_false', Bool.and_eq_false_iff, Bool.or_eq_false_iff, Bool.not_not, decide_eq_true_eq, decide_eq_false_iff_not, ne_eq, Decidable.not_not, Bool.decide_eq_true] at H3
    (exfalso; omega)
  simp only [Bool.and_eq_true, Bool.or_eq_true, Bool.not_eq_true', Bool.not_eq_false', Bool.and_eq_false_iff, Bool.or_eq_false_iff, Bool.not_not, decide_eq_true_eq, decide_eq_false_iff_not, ne_eq, Decidable.not_not, Bool.decide_eq_true] at H3
  refine G_seq (G_region ?_)
  refine G_val (V_fieldAddr rfl rfl (by decide)) rfl rfl (.none rfl) ?_
  refine G_val (V_load rfl rfl (Cell.own (.head _) rfl)) rfl rfl (.none rfl) ?_
  refine G_val (V_neq rfl rfl rfl) rfl rfl (.none rfl) ?_
  refine G_val (V_move rfl rfl) rfl rfl (.none rfl) ?_
  apply G_joinAnd 5 90 95 rfl
  · intro H4
    dsimp only [List.take]
    simp only [Bool.and_eq_true, Bool.or_eq_true, Bool.not_eq_true', Bool.not_eq_false', Bool.and_eq_false_iff, Bool.or_eq_false_iff, Bool.not_not, decide_eq_true_eq, decide_eq_false_iff_not, ne_eq, Decidable.not_not, Bool.decide_eq_true] at H4
    refine G_val (V_fieldAddr rfl rfl (by decide)) rfl rfl (.yes rfl rfl rfl rfl) ?_
    refine G_val (V_load rfl rfl (Cell.own (.head _) rfl)) rfl rfl (.yes rfl rfl rfl rfl) ?_
    refine G_val (V_lenS rfl rfl) rfl rfl (.yes rfl rfl rfl rfl) ?_
    refine G_val (V_gtr rfl rfl rfl) rfl rfl (.yes rfl rfl rfl rfl) ?_
    refine G_val (V_pick_t rfl rfl rfl) rfl rfl (.none rfl) ?_
    refine G_end ?_
    exact JQ_end 5 rfl rfl (by kernel_rfl)
  · intro H5
    dsimp only [List.take]
    simp only [Bool.and_eq_true, Bool.or_eq_true, Bool.not_eq_true', Bool.not_eq_false', Bool.and_eq_false_iff, Bool.or_eq_false_iff, Bool.not_not, decide_eq_true_eq, decide_eq_false_iff_not, ne_eq, Decidable.not_not, Bool.decide_eq_true] at H5
    refine G_stay (.no rfl rfl rfl rfl) rfl rfl ?_
    refine G_stay (.no rfl rfl rfl rfl) rfl rfl ?_
    refine G_stay (.no rfl rfl rfl rfl) rfl rfl ?_
    refine G_stay (.no rfl rfl rfl rfl) rfl rfl ?_
    refine G_val (V_pick_f rfl rfl rfl) rfl rfl (.none rfl) ?_
    refine G_end ?_
    exact JQ_end 5 rfl rfl (by kernel_rfl)
  dsimp only [List.drop]
  refine G_val (V_move rfl rfl) rfl rfl (.none rfl) ?_
  apply G_joinAnd 5 96 101 rfl
  · intro H6
    dsimp only [List.take]
    simp only [Bool.and_eq_true, Bool.or_eq_true, Bool.not_eq_true', Bool.not_eq_false', Bool.and_eq_false_iff, Bool.or_eq_false_iff, Bool.not_not, decide_eq_true_eq, decide_eq_false_iff_not, ne_eq, Decidable.not_not, Bool.decide_eq_true] at H6
    refine G_val (V_fieldAddr rfl rfl (by decide)) rfl rfl (.yes rfl rfl rfl rfl) ?_
    refine G_val (V_load rfl rfl (Cell.own (.head _) rfl)) rfl rfl (.yes rfl rfl rfl rfl) ?_
    refine G_val (V_move rfl rfl) rfl rfl (.yes rfl rfl rfl rfl) ?_
    refine G_val (V_lss rfl rfl rfl) rfl rfl (.yes rfl rfl rfl rfl) ?_
    refine G_val (V_pick_t rfl rfl rfl) rfl rfl (.none rfl) ?_
    refine G_end ?_
    exact JQ_end 5 rfl rfl (by kernel_rfl)
  · intro H7
    dsimp only [List.take]
    simp only [Bool.and_eq_true, Bool.or_eq_true, Bool.not_eq_true', Bool.not_eq_false', Bool.and_eq_false_iff, Bool.or_eq_false_iff, Bool.not_not, decide_eq_true_eq, decide_eq_false_iff_not, ne_eq, Decidable.not_not, Bool.decide_eq_true] at H7
    refine G_stay (.no rfl rfl rfl rfl) rfl rfl ?_
    refine G_stay (.no rfl rfl rfl rfl) rfl rfl ?_
    refine G_stay (.no rfl rfl rfl rfl) rfl rfl ?_
    refine G_stay (.no rfl rfl rfl rfl) rfl rfl ?_
    refine G_val (V_pick_f rfl rfl rfl) rfl rfl (.none rfl) ?_
    refine G_end ?_
    exact JQ_end 5 rfl rfl (by kernel_rfl)
  dsimp only [List.drop]
  refine G_val (V_assign rfl rfl) rfl rfl (.none rfl) ?_
  refine G_end (X_then ?_)
  refine G_cond rfl (fun H8 => ?_) (fun H8 => ?_)
  · simp only [Bool.and_eq_true, Bool.or_eq_true, Bool.not_eq_true', Bool.not_eq_false', Bool.and_eq_false_iff, Bool.or_eq_false_iff, Bool.not_not, decide_eq_true_eq, decide_eq_false_iff_not, ne_eq, Decidable.not_not, Bool.decide_eq_true] at H8
    (exfalso; omega)
  simp only [Bool.and_eq_true, Bool.or_eq_true, Bool.not_eq_true', Bool.not_eq_false', Bool.and_eq_false_iff, Bool.or_eq_false_iff, Bool.not_not, decide_eq_true_eq, decide_eq_false_iff_not, ne_eq, Decidable.not_not, Bool.decide_eq_true] at H8
  refine G_skip (X_block (X_then (G_seq (G_region ?_))))
  refine G_val (V_assign rfl rfl) rfl rfl (.none rfl) ?_
  refine G_end (X_then (G_ret ?_))
  refine G_leaveS (.drop _ (.nil _)) (by exact (.cons (.tmp rfl) (.nil))) rfl ?_ ?_
  · exact (.refl _)
  exact ⟨(by kernel_rfl), rfl⟩
end Go.Proofs.Ytimiokmgnclggaa
set_option linter.unusedSimpArgs false
set_option linter.unusedVariables false
set_option maxHeartbeats 2000000
set_option maxRecDepth 20000
namespace Go.Proofs.Ytimiokmgnclggaa
open Go.RowKit

section
variable (E : Env) (L : List Res) (k terms : Int) (p : Option Addr) (n c : Nat) (e ea : Int)
end
end Go.Proofs.Ytimiokmgnclggaa
set_option linter.unusedSimpArgs false
set_option linter.unusedVariables false
set_option maxHeartbeats 2000000
set_option maxRecDepth 20000
namespace Go.Proofs.Ytimiokmgnclggaa
open Go.RowKit

section
variable (E : Env) (L : List Res) (k terms : Int) (p : Option Addr) (n c : Nat) (e ea : Int)
end
end Go.Proofs.Ytimiokmgnclggaa
set_option linter.unusedSimpArgs false
set_option linter.unusedVariables false
set_option maxHeartbeats 2000000
set_option maxRecDepth 20000
namespace Go.Proofs.Ytimiokmgnclggaa
open Go.RowKit

end Go.Proofs.Ytimiokmgnclggaa
