/-
  Rules and contracts, packed: Inst.
-/
import Derived.Test.YtjhehanknkonnaaGreatDoorProg
import Derived.Test.YtjhehanknkonnaaGreatDoorQ3
set_option maxHeartbeats 1000000
set_option linter.unusedSimpArgs false
set_option linter.unusedVariables false
set_option maxRecDepth 20000
namespace Go.Proofs.YtjhehanknkonnaaGreatDoor
open Go.Proofs Go.RowKit
instance ty0 : Ty Tryz.prog 0 (Go.TypeDesc.tuple #[]) 1 false := ⟨Tryz.underlying0, Tryz.isAgg0, Tryz.sizeOf0⟩
instance zero0 : Zero Tryz.prog 0 (Go.Value.tuple #[]) #[Go.Value.tuple #[]] := ⟨Tryz.zeroValue0, rfl⟩
instance ty1 : Ty Tryz.prog 1 (Go.TypeDesc.func #[] #[] false) 1 false := ⟨Tryz.underlying1, Tryz.isAgg1, Tryz.sizeOf1⟩
instance zero1 : Zero Tryz.prog 1 (Go.Value.nilFunc) #[Go.Value.nilFunc] := ⟨Tryz.zeroValue1, rfl⟩
instance ty2 : Ty Tryz.prog 2 (Go.TypeDesc.int Go.IntKind.i64) 1 false := ⟨Tryz.underlying2, Tryz.isAgg2, Tryz.sizeOf2⟩
instance zero2 : Zero Tryz.prog 2 (Go.Value.int Go.IntKind.i64 0) #[Go.Value.int Go.IntKind.i64 0] := ⟨Tryz.zeroValue2, rfl⟩
instance ty3 : Ty Tryz.prog 3 (Go.TypeDesc.int Go.IntKind.i64) 1 false := ⟨Tryz.underlying3, Tryz.isAgg3, Tryz.sizeOf3⟩
instance zero3 : Zero Tryz.prog 3 (Go.Value.int Go.IntKind.i64 0) #[Go.Value.int Go.IntKind.i64 0] := ⟨Tryz.zeroValue3, rfl⟩
instance ty4 : Ty Tryz.prog 4 (Go.TypeDesc.bool) 1 false := ⟨Tryz.underlying4, Tryz.isAgg4, Tryz.sizeOf4⟩
instance zero4 : Zero Tryz.prog 4 (Go.Value.bool false) #[Go.Value.bool false] := ⟨Tryz.zeroValue4, rfl⟩
instance ty5 : Ty Tryz.prog 5 (Go.TypeDesc.int Go.IntKind.u8) 1 false := ⟨Tryz.underlying5, Tryz.isAgg5, Tryz.sizeOf5⟩
instance zero5 : Zero Tryz.prog 5 (Go.Value.int Go.IntKind.u8 0) #[Go.Value.int Go.IntKind.u8 0] := ⟨Tryz.zeroValue5, rfl⟩
instance ty6 : Ty Tryz.prog 6 (Go.TypeDesc.int Go.IntKind.u8) 1 false := ⟨Tryz.underlying6, Tryz.isAgg6, Tryz.sizeOf6⟩
instance zero6 : Zero Tryz.prog 6 (Go.Value.int Go.IntKind.u8 0) #[Go.Value.int Go.IntKind.u8 0] := ⟨Tryz.zeroValue6, rfl⟩
instance ty7 : Ty Tryz.prog 7 (Go.TypeDesc.struct #[{ name := "x", type := 2, offset := 0, embedded := false, tag := "", pkgPath := "runtime", byteOffset := 0 }, { name := "y", type := 3, offset := 1, embedded := false, tag := "", pkgPath := "runtime", byteOffset := 8 }, { name := "signed", type := 4, offset := 2, embedded := false, tag := "", pkgPath := "runtime", byteOffset := 16 }, { name := "code", type := 6, offset := 3, embedded := false, tag := "", pkgPath := "runtime", byteOffset := 17 }]) 4 true := ⟨Tryz.underlying7, Tryz.isAgg7, Tryz.sizeOf7⟩
instance zero7 : Zero Tryz.prog 7 (Go.Value.agg #[Go.Value.int Go.IntKind.i64 0, Go.Value.int Go.IntKind.i64 0, Go.Value.bool false, Go.Value.int Go.IntKind.u8 0]) #[Go.Value.int Go.IntKind.i64 0, Go.Value.int Go.IntKind.i64 0, Go.Value.bool false, Go.Value.int Go.IntKind.u8 0] := ⟨Tryz.zeroValue7, rfl⟩
instance ty8 : Ty Tryz.prog 8 (Go.TypeDesc.struct #[{ name := "x", type := 2, offset := 0, embedded := false, tag := "", pkgPath := "runtime", byteOffset := 0 }, { name := "y", type := 3, offset := 1, embedded := false, tag := "", pkgPath := "runtime", byteOffset := 8 }, { name := "signed", type := 4, offset := 2, embedded := false, tag := "", pkgPath := "runtime", byteOffset := 16 }, { name := "code", type := 6, offset := 3, embedded := false, tag := "", pkgPath := "runtime", byteOffset := 17 }]) 4 true := ⟨Tryz.underlying8, Tryz.isAgg8, Tryz.sizeOf8⟩
instance zero8 : Zero Tryz.prog 8 (Go.Value.agg #[Go.Value.int Go.IntKind.i64 0, Go.Value.int Go.IntKind.i64 0, Go.Value.bool false, Go.Value.int Go.IntKind.u8 0]) #[Go.Value.int Go.IntKind.i64 0, Go.Value.int Go.IntKind.i64 0, Go.Value.bool false, Go.Value.int Go.IntKind.u8 0] := ⟨Tryz.zeroValue8, rfl⟩
instance ty9 : Ty Tryz.prog 9 (Go.TypeDesc.string) 1 false := ⟨Tryz.underlying9, Tryz.isAgg9, Tryz.sizeOf9⟩
instance zero9 : Zero Tryz.prog 9 (Go.Value.string { data := #[] }) #[Go.Value.string { data := #[] }] := ⟨Tryz.zeroValue9, rfl⟩
instance ty10 : Ty Tryz.prog 10 (Go.TypeDesc.string) 1 false := ⟨Tryz.underlying10, Tryz.isAgg10, Tryz.sizeOf10⟩
instance zero10 : Zero Tryz.prog 10 (Go.Value.string { data := #[] }) #[Go.Value.string { data := #[] }] := ⟨Tryz.zeroValue10, rfl⟩
instance ty11 : Ty Tryz.prog 11 (Go.TypeDesc.string) 1 false := ⟨Tryz.underlying11, Tryz.isAgg11, Tryz.sizeOf11⟩
instance zero11 : Zero Tryz.prog 11 (Go.Value.string { data := #[] }) #[Go.Value.string { data := #[] }] := ⟨Tryz.zeroValue11, rfl⟩
instance ty12 : Ty Tryz.prog 12 (Go.TypeDesc.int Go.IntKind.u64) 1 false := ⟨Tryz.underlying12, Tryz.isAgg12, Tryz.sizeOf12⟩
instance zero12 : Zero Tryz.prog 12 (Go.Value.int Go.IntKind.u64 0) #[Go.Value.int Go.IntKind.u64 0] := ⟨Tryz.zeroValue12, rfl⟩
instance ty13 : Ty Tryz.prog 13 (Go.TypeDesc.struct #[{ name := "msg", type := 9, offset := 0, embedded := false, tag := "", pkgPath := "runtime", byteOffset := 0 }, { name := "addr", type := 12, offset := 1, embedded := false, tag := "", pkgPath := "runtime", byteOffset := 16 }]) 2 true := ⟨Tryz.underlying13, Tryz.isAgg13, Tryz.sizeOf13⟩
instance zero13 : Zero Tryz.prog 13 (Go.Value.agg #[Go.Value.string { data := #[] }, Go.Value.int Go.IntKind.u64 0]) #[Go.Value.string { data := #[] }, Go.Value.int Go.IntKind.u64 0] := ⟨Tryz.zeroValue13, rfl⟩
instance ty14 : Ty Tryz.prog 14 (Go.TypeDesc.struct #[{ name := "msg", type := 9, offset := 0, embedded := false, tag := "", pkgPath := "runtime", byteOffset := 0 }, { name := "addr", type := 12, offset := 1, embedded := false, tag := "", pkgPath := "runtime", byteOffset := 16 }]) 2 true := ⟨Tryz.underlying14, Tryz.isAgg14, Tryz.sizeOf14⟩
instance zero14 : Zero Tryz.prog 14 (Go.Value.agg #[Go.Value.string { data := #[] }, Go.Value.int Go.IntKind.u64 0]) #[Go.Value.string { data := #[] }, Go.Value.int Go.IntKind.u64 0] := ⟨Tryz.zeroValue14, rfl⟩
instance ty15 : Ty Tryz.prog 15 (Go.TypeDesc.pointer 210) 1 false := ⟨Tryz.underlying15, Tryz.isAgg15, Tryz.sizeOf15⟩
instance zero15 : Zero Tryz.prog 15 (Go.Value.pointer none) #[Go.Value.pointer none] := ⟨Tryz.zeroValue15, rfl⟩
instance ty16 : Ty Tryz.prog 16 (Go.TypeDesc.pointer 213) 1 false := ⟨Tryz.underlying16, Tryz.isAgg16, Tryz.sizeOf16⟩
instance zero16 : Zero Tryz.prog 16 (Go.Value.pointer none) #[Go.Value.pointer none] := ⟨Tryz.zeroValue16, rfl⟩
instance ty17 : Ty Tryz.prog 17 (Go.TypeDesc.pointer 220) 1 false := ⟨Tryz.underlying17, Tryz.isAgg17, Tryz.sizeOf17⟩
instance zero17 : Zero Tryz.prog 17 (Go.Value.pointer none) #[Go.Value.pointer none] := ⟨Tryz.zeroValue17, rfl⟩
instance ty18 : Ty Tryz.prog 18 (Go.TypeDesc.struct #[{ name := "typ", type := 17, offset := 0, embedded := false, tag := "", pkgPath := "internal/runtime/maps", byteOffset := 0 }]) 1 true := ⟨Tryz.underlying18, Tryz.isAgg18, Tryz.sizeOf18⟩
instance zero18 : Zero Tryz.prog 18 (Go.Value.agg #[Go.Value.pointer none]) #[Go.Value.pointer none] := ⟨Tryz.zeroValue18, rfl⟩
instance ty19 : Ty Tryz.prog 19 (Go.TypeDesc.struct #[{ name := "typ", type := 17, offset := 0, embedded := false, tag := "", pkgPath := "internal/runtime/maps", byteOffset := 0 }]) 1 true := ⟨Tryz.underlying19, Tryz.isAgg19, Tryz.sizeOf19⟩
instance zero19 : Zero Tryz.prog 19 (Go.Value.agg #[Go.Value.pointer none]) #[Go.Value.pointer none] := ⟨Tryz.zeroValue19, rfl⟩
instance ty20 : Ty Tryz.prog 20 (Go.TypeDesc.interface #[]) 1 false := ⟨Tryz.underlying20, Tryz.isAgg20, Tryz.sizeOf20⟩
instance zero20 : Zero Tryz.prog 20 (Go.Value.nilIface) #[Go.Value.nilIface] := ⟨Tryz.zeroValue20, rfl⟩
instance ty21 : Ty Tryz.prog 21 (Go.TypeDesc.int Go.IntKind.i32) 1 false := ⟨Tryz.underlying21, Tryz.isAgg21, Tryz.sizeOf21⟩
instance zero21 : Zero Tryz.prog 21 (Go.Value.int Go.IntKind.i32 0) #[Go.Value.int Go.IntKind.i32 0] := ⟨Tryz.zeroValue21, rfl⟩
instance ty22 : Ty Tryz.prog 22 (Go.TypeDesc.slice 28) 1 false := ⟨Tryz.underlying22, Tryz.isAgg22, Tryz.sizeOf22⟩
instance zero22 : Zero Tryz.prog 22 (Go.Value.slice none 0 0) #[Go.Value.slice none 0 0] := ⟨Tryz.zeroValue22, rfl⟩
instance ty23 : Ty Tryz.prog 23 (Go.TypeDesc.func #[22] #[4] false) 1 false := ⟨Tryz.underlying23, Tryz.isAgg23, Tryz.sizeOf23⟩
instance zero23 : Zero Tryz.prog 23 (Go.Value.nilFunc) #[Go.Value.nilFunc] := ⟨Tryz.zeroValue23, rfl⟩
instance ty24 : Ty Tryz.prog 24 (Go.TypeDesc.func #[] #[4] false) 1 false := ⟨Tryz.underlying24, Tryz.isAgg24, Tryz.sizeOf24⟩
instance zero24 : Zero Tryz.prog 24 (Go.Value.nilFunc) #[Go.Value.nilFunc] := ⟨Tryz.zeroValue24, rfl⟩
instance ty25 : Ty Tryz.prog 25 (Go.TypeDesc.int Go.IntKind.i64) 1 false := ⟨Tryz.underlying25, Tryz.isAgg25, Tryz.sizeOf25⟩
instance zero25 : Zero Tryz.prog 25 (Go.Value.int Go.IntKind.i64 0) #[Go.Value.int Go.IntKind.i64 0] := ⟨Tryz.zeroValue25, rfl⟩
instance ty26 : Ty Tryz.prog 26 (Go.TypeDesc.func #[28] #[25] false) 1 false := ⟨Tryz.underlying26, Tryz.isAgg26, Tryz.sizeOf26⟩
instance zero26 : Zero Tryz.prog 26 (Go.Value.nilFunc) #[Go.Value.nilFunc] := ⟨Tryz.zeroValue26, rfl⟩
instance ty27 : Ty Tryz.prog 27 (Go.TypeDesc.struct #[{ name := "Kind", type := 3, offset := 0, embedded := false, tag := "", pkgPath := "", byteOffset := 0 }, { name := "Symbol", type := 3, offset := 1, embedded := false, tag := "", pkgPath := "", byteOffset := 8 }, { name := "Prod", type := 3, offset := 2, embedded := false, tag := "", pkgPath := "", byteOffset := 16 }, { name := "Record", type := 3, offset := 3, embedded := false, tag := "", pkgPath := "", byteOffset := 24 }, { name := "At", type := 3, offset := 4, embedded := false, tag := "", pkgPath := "", byteOffset := 32 }, { name := "Text", type := 9, offset := 5, embedded := false, tag := "", pkgPath := "", byteOffset := 40 }, { name := "Err", type := 25, offset := 6, embedded := false, tag := "", pkgPath := "", byteOffset := 56 }]) 7 true := ⟨Tryz.underlying27, Tryz.isAgg27, Tryz.sizeOf27⟩
instance zero27 : Zero Tryz.prog 27 (Go.Value.agg #[Go.Value.int Go.IntKind.i64 0, Go.Value.int Go.IntKind.i64 0, Go.Value.int Go.IntKind.i64 0, Go.Value.int Go.IntKind.i64 0, Go.Value.int Go.IntKind.i64 0, Go.Value.string { data := #[] }, Go.Value.int Go.IntKind.i64 0]) #[Go.Value.int Go.IntKind.i64 0, Go.Value.int Go.IntKind.i64 0, Go.Value.int Go.IntKind.i64 0, Go.Value.int Go.IntKind.i64 0, Go.Value.int Go.IntKind.i64 0, Go.Value.string { data := #[] }, Go.Value.int Go.IntKind.i64 0] := ⟨Tryz.zeroValue27, rfl⟩
instance ty28 : Ty Tryz.prog 28 (Go.TypeDesc.struct #[{ name := "Kind", type := 3, offset := 0, embedded := false, tag := "", pkgPath := "", byteOffset := 0 }, { name := "Symbol", type := 3, offset := 1, embedded := false, tag := "", pkgPath := "", byteOffset := 8 }, { name := "Prod", type := 3, offset := 2, embedded := false, tag := "", pkgPath := "", byteOffset := 16 }, { name := "Record", type := 3, offset := 3, embedded := false, tag := "", pkgPath := "", byteOffset := 24 }, { name := "At", type := 3, offset := 4, embedded := false, tag := "", pkgPath := "", byteOffset := 32 }, { name := "Text", type := 9, offset := 5, embedded := false, tag := "", pkgPath := "", byteOffset := 40 }, { name := "Err", type := 25, offset := 6, embedded := false, tag := "", pkgPath := "", byteOffset := 56 }]) 7 true := ⟨Tryz.underlying28, Tryz.isAgg28, Tryz.sizeOf28⟩
instance zero28 : Zero Tryz.prog 28 (Go.Value.agg #[Go.Value.int Go.IntKind.i64 0, Go.Value.int Go.IntKind.i64 0, Go.Value.int Go.IntKind.i64 0, Go.Value.int Go.IntKind.i64 0, Go.Value.int Go.IntKind.i64 0, Go.Value.string { data := #[] }, Go.Value.int Go.IntKind.i64 0]) #[Go.Value.int Go.IntKind.i64 0, Go.Value.int Go.IntKind.i64 0, Go.Value.int Go.IntKind.i64 0, Go.Value.int Go.IntKind.i64 0, Go.Value.int Go.IntKind.i64 0, Go.Value.string { data := #[] }, Go.Value.int Go.IntKind.i64 0] := ⟨Tryz.zeroValue28, rfl⟩
instance ty29 : Ty Tryz.prog 29 (Go.TypeDesc.tuple #[9, 25]) 1 false := ⟨Tryz.underlying29, Tryz.isAgg29, Tryz.sizeOf29⟩
instance zero29 : Zero Tryz.prog 29 (Go.Value.tuple #[Go.Value.string { data := #[] }, Go.Value.int Go.IntKind.i64 0]) #[Go.Value.tuple #[Go.Value.string { data := #[] }, Go.Value.int Go.IntKind.i64 0]] := ⟨Tryz.zeroValue29, rfl⟩
instance ty30 : Ty Tryz.prog 30 (Go.TypeDesc.func #[28] #[9, 25] false) 1 false := ⟨Tryz.underlying30, Tryz.isAgg30, Tryz.sizeOf30⟩
instance zero30 : Zero Tryz.prog 30 (Go.Value.nilFunc) #[Go.Value.nilFunc] := ⟨Tryz.zeroValue30, rfl⟩
instance ty31 : Ty Tryz.prog 31 (Go.TypeDesc.func #[22] #[9, 25] false) 1 false := ⟨Tryz.underlying31, Tryz.isAgg31, Tryz.sizeOf31⟩
instance zero31 : Zero Tryz.prog 31 (Go.Value.nilFunc) #[Go.Value.nilFunc] := ⟨Tryz.zeroValue31, rfl⟩
instance ty32 : Ty Tryz.prog 32 (Go.TypeDesc.func #[3] #[9, 25] false) 1 false := ⟨Tryz.underlying32, Tryz.isAgg32, Tryz.sizeOf32⟩
instance zero32 : Zero Tryz.prog 32 (Go.Value.nilFunc) #[Go.Value.nilFunc] := ⟨Tryz.zeroValue32, rfl⟩
instance ty33 : Ty Tryz.prog 33 (Go.TypeDesc.func #[22, 22] #[4] false) 1 false := ⟨Tryz.underlying33, Tryz.isAgg33, Tryz.sizeOf33⟩
instance zero33 : Zero Tryz.prog 33 (Go.Value.nilFunc) #[Go.Value.nilFunc] := ⟨Tryz.zeroValue33, rfl⟩
instance ty34 : Ty Tryz.prog 34 (Go.TypeDesc.func #[22, 3] #[4] false) 1 false := ⟨Tryz.underlying34, Tryz.isAgg34, Tryz.sizeOf34⟩
instance zero34 : Zero Tryz.prog 34 (Go.Value.nilFunc) #[Go.Value.nilFunc] := ⟨Tryz.zeroValue34, rfl⟩
instance ty35 : Ty Tryz.prog 35 (Go.TypeDesc.struct #[{ name := "Err", type := 25, offset := 0, embedded := false, tag := "", pkgPath := "", byteOffset := 0 }, { name := "At", type := 3, offset := 1, embedded := false, tag := "", pkgPath := "", byteOffset := 8 }]) 2 true := ⟨Tryz.underlying35, Tryz.isAgg35, Tryz.sizeOf35⟩
instance zero35 : Zero Tryz.prog 35 (Go.Value.agg #[Go.Value.int Go.IntKind.i64 0, Go.Value.int Go.IntKind.i64 0]) #[Go.Value.int Go.IntKind.i64 0, Go.Value.int Go.IntKind.i64 0] := ⟨Tryz.zeroValue35, rfl⟩
instance ty36 : Ty Tryz.prog 36 (Go.TypeDesc.struct #[{ name := "Err", type := 25, offset := 0, embedded := false, tag := "", pkgPath := "", byteOffset := 0 }, { name := "At", type := 3, offset := 1, embedded := false, tag := "", pkgPath := "", byteOffset := 8 }]) 2 true := ⟨Tryz.underlying36, Tryz.isAgg36, Tryz.sizeOf36⟩
instance zero36 : Zero Tryz.prog 36 (Go.Value.agg #[Go.Value.int Go.IntKind.i64 0, Go.Value.int Go.IntKind.i64 0]) #[Go.Value.int Go.IntKind.i64 0, Go.Value.int Go.IntKind.i64 0] := ⟨Tryz.zeroValue36, rfl⟩
instance ty37 : Ty Tryz.prog 37 (Go.TypeDesc.tuple #[28, 3, 36]) 1 false := ⟨Tryz.underlying37, Tryz.isAgg37, Tryz.sizeOf37⟩
instance zero37 : Zero Tryz.prog 37 (Go.Value.tuple #[Go.Value.agg #[Go.Value.int Go.IntKind.i64 0, Go.Value.int Go.IntKind.i64 0, Go.Value.int Go.IntKind.i64 0, Go.Value.int Go.IntKind.i64 0, Go.Value.int Go.IntKind.i64 0, Go.Value.string { data := #[] }, Go.Value.int Go.IntKind.i64 0], Go.Value.int Go.IntKind.i64 0, Go.Value.agg #[Go.Value.int Go.IntKind.i64 0, Go.Value.int Go.IntKind.i64 0]]) #[Go.Value.tuple #[Go.Value.agg #[Go.Value.int Go.IntKind.i64 0, Go.Value.int Go.IntKind.i64 0, Go.Value.int Go.IntKind.i64 0, Go.Value.int Go.IntKind.i64 0, Go.Value.int Go.IntKind.i64 0, Go.Value.string { data := #[] }, Go.Value.int Go.IntKind.i64 0], Go.Value.int Go.IntKind.i64 0, Go.Value.agg #[Go.Value.int Go.IntKind.i64 0, Go.Value.int Go.IntKind.i64 0]]] := ⟨Tryz.zeroValue37, rfl⟩
instance ty38 : Ty Tryz.prog 38 (Go.TypeDesc.func #[9, 3] #[28, 3, 36] false) 1 false := ⟨Tryz.underlying38, Tryz.isAgg38, Tryz.sizeOf38⟩
instance zero38 : Zero Tryz.prog 38 (Go.Value.nilFunc) #[Go.Value.nilFunc] := ⟨Tryz.zeroValue38, rfl⟩
instance ty39 : Ty Tryz.prog 39 (Go.TypeDesc.tuple #[28, 36]) 1 false := ⟨Tryz.underlying39, Tryz.isAgg39, Tryz.sizeOf39⟩
instance zero39 : Zero Tryz.prog 39 (Go.Value.tuple #[Go.Value.agg #[Go.Value.int Go.IntKind.i64 0, Go.Value.int Go.IntKind.i64 0, Go.Value.int Go.IntKind.i64 0, Go.Value.int Go.IntKind.i64 0, Go.Value.int Go.IntKind.i64 0, Go.Value.string { data := #[] }, Go.Value.int Go.IntKind.i64 0], Go.Value.agg #[Go.Value.int Go.IntKind.i64 0, Go.Value.int Go.IntKind.i64 0]]) #[Go.Value.tuple #[Go.Value.agg #[Go.Value.int Go.IntKind.i64 0, Go.Value.int Go.IntKind.i64 0, Go.Value.int Go.IntKind.i64 0, Go.Value.int Go.IntKind.i64 0, Go.Value.int Go.IntKind.i64 0, Go.Value.string { data := #[] }, Go.Value.int Go.IntKind.i64 0], Go.Value.agg #[Go.Value.int Go.IntKind.i64 0, Go.Value.int Go.IntKind.i64 0]]] := ⟨Tryz.zeroValue39, rfl⟩
instance ty40 : Ty Tryz.prog 40 (Go.TypeDesc.func #[9] #[28, 36] false) 1 false := ⟨Tryz.underlying40, Tryz.isAgg40, Tryz.sizeOf40⟩
instance zero40 : Zero Tryz.prog 40 (Go.Value.nilFunc) #[Go.Value.nilFunc] := ⟨Tryz.zeroValue40, rfl⟩
instance ty41 : Ty Tryz.prog 41 (Go.TypeDesc.tuple #[22, 36]) 1 false := ⟨Tryz.underlying41, Tryz.isAgg41, Tryz.sizeOf41⟩
instance zero41 : Zero Tryz.prog 41 (Go.Value.tuple #[Go.Value.slice none 0 0, Go.Value.agg #[Go.Value.int Go.IntKind.i64 0, Go.Value.int Go.IntKind.i64 0]]) #[Go.Value.tuple #[Go.Value.slice none 0 0, Go.Value.agg #[Go.Value.int Go.IntKind.i64 0, Go.Value.int Go.IntKind.i64 0]]] := ⟨Tryz.zeroValue41, rfl⟩
instance ty42 : Ty Tryz.prog 42 (Go.TypeDesc.func #[9] #[22, 36] false) 1 false := ⟨Tryz.underlying42, Tryz.isAgg42, Tryz.sizeOf42⟩
instance zero42 : Zero Tryz.prog 42 (Go.Value.nilFunc) #[Go.Value.nilFunc] := ⟨Tryz.zeroValue42, rfl⟩
instance ty43 : Ty Tryz.prog 43 (Go.TypeDesc.func #[9, 3] #[4] false) 1 false := ⟨Tryz.underlying43, Tryz.isAgg43, Tryz.sizeOf43⟩
instance zero43 : Zero Tryz.prog 43 (Go.Value.nilFunc) #[Go.Value.nilFunc] := ⟨Tryz.zeroValue43, rfl⟩
instance ty44 : Ty Tryz.prog 44 (Go.TypeDesc.func #[] #[22] false) 1 false := ⟨Tryz.underlying44, Tryz.isAgg44, Tryz.sizeOf44⟩
instance zero44 : Zero Tryz.prog 44 (Go.Value.nilFunc) #[Go.Value.nilFunc] := ⟨Tryz.zeroValue44, rfl⟩
instance ty45 : Ty Tryz.prog 45 (Go.TypeDesc.func #[3] #[4] false) 1 false := ⟨Tryz.underlying45, Tryz.isAgg45, Tryz.sizeOf45⟩
instance zero45 : Zero Tryz.prog 45 (Go.Value.nilFunc) #[Go.Value.nilFunc] := ⟨Tryz.zeroValue45, rfl⟩
instance ty46 : Ty Tryz.prog 46 (Go.TypeDesc.slice 9) 1 false := ⟨Tryz.underlying46, Tryz.isAgg46, Tryz.sizeOf46⟩
instance zero46 : Zero Tryz.prog 46 (Go.Value.slice none 0 0) #[Go.Value.slice none 0 0] := ⟨Tryz.zeroValue46, rfl⟩
instance ty47 : Ty Tryz.prog 47 (Go.TypeDesc.func #[] #[46] false) 1 false := ⟨Tryz.underlying47, Tryz.isAgg47, Tryz.sizeOf47⟩
instance zero47 : Zero Tryz.prog 47 (Go.Value.nilFunc) #[Go.Value.nilFunc] := ⟨Tryz.zeroValue47, rfl⟩
instance ty48 : Ty Tryz.prog 48 (Go.TypeDesc.func #[3, 3, 3, 9] #[28] false) 1 false := ⟨Tryz.underlying48, Tryz.isAgg48, Tryz.sizeOf48⟩
instance zero48 : Zero Tryz.prog 48 (Go.Value.nilFunc) #[Go.Value.nilFunc] := ⟨Tryz.zeroValue48, rfl⟩
instance ty49 : Ty Tryz.prog 49 (Go.TypeDesc.func #[3, 3, 3, 9, 3] #[4] false) 1 false := ⟨Tryz.underlying49, Tryz.isAgg49, Tryz.sizeOf49⟩
instance zero49 : Zero Tryz.prog 49 (Go.Value.nilFunc) #[Go.Value.nilFunc] := ⟨Tryz.zeroValue49, rfl⟩
instance ty50 : Ty Tryz.prog 50 (Go.TypeDesc.func #[3, 3, 3, 9, 3, 3] #[4] false) 1 false := ⟨Tryz.underlying50, Tryz.isAgg50, Tryz.sizeOf50⟩
instance zero50 : Zero Tryz.prog 50 (Go.Value.nilFunc) #[Go.Value.nilFunc] := ⟨Tryz.zeroValue50, rfl⟩
instance ty51 : Ty Tryz.prog 51 (Go.TypeDesc.slice 3) 1 false := ⟨Tryz.underlying51, Tryz.isAgg51, Tryz.sizeOf51⟩
instance zero51 : Zero Tryz.prog 51 (Go.Value.slice none 0 0) #[Go.Value.slice none 0 0] := ⟨Tryz.zeroValue51, rfl⟩
instance ty52 : Ty Tryz.prog 52 (Go.TypeDesc.func #[51, 3, 9] #[4] false) 1 false := ⟨Tryz.underlying52, Tryz.isAgg52, Tryz.sizeOf52⟩
instance zero52 : Zero Tryz.prog 52 (Go.Value.nilFunc) #[Go.Value.nilFunc] := ⟨Tryz.zeroValue52, rfl⟩
instance ty53 : Ty Tryz.prog 53 (Go.TypeDesc.int Go.IntKind.i64) 1 false := ⟨Tryz.underlying53, Tryz.isAgg53, Tryz.sizeOf53⟩
instance zero53 : Zero Tryz.prog 53 (Go.Value.int Go.IntKind.i64 0) #[Go.Value.int Go.IntKind.i64 0] := ⟨Tryz.zeroValue53, rfl⟩
instance ty54 : Ty Tryz.prog 54 (Go.TypeDesc.func #[] #[51] false) 1 false := ⟨Tryz.underlying54, Tryz.isAgg54, Tryz.sizeOf54⟩
instance zero54 : Zero Tryz.prog 54 (Go.Value.nilFunc) #[Go.Value.nilFunc] := ⟨Tryz.zeroValue54, rfl⟩
instance ty55 : Ty Tryz.prog 55 (Go.TypeDesc.func #[51, 3] #[4] false) 1 false := ⟨Tryz.underlying55, Tryz.isAgg55, Tryz.sizeOf55⟩
instance zero55 : Zero Tryz.prog 55 (Go.Value.nilFunc) #[Go.Value.nilFunc] := ⟨Tryz.zeroValue55, rfl⟩
instance ty56 : Ty Tryz.prog 56 (Go.TypeDesc.func #[28] #[4] false) 1 false := ⟨Tryz.underlying56, Tryz.isAgg56, Tryz.sizeOf56⟩
instance zero56 : Zero Tryz.prog 56 (Go.Value.nilFunc) #[Go.Value.nilFunc] := ⟨Tryz.zeroValue56, rfl⟩
instance ty57 : Ty Tryz.prog 57 (Go.TypeDesc.func #[3, 3] #[4] false) 1 false := ⟨Tryz.underlying57, Tryz.isAgg57, Tryz.sizeOf57⟩
instance zero57 : Zero Tryz.prog 57 (Go.Value.nilFunc) #[Go.Value.nilFunc] := ⟨Tryz.zeroValue57, rfl⟩
instance ty58 : Ty Tryz.prog 58 (Go.TypeDesc.pointer 65) 1 false := ⟨Tryz.underlying58, Tryz.isAgg58, Tryz.sizeOf58⟩
instance zero58 : Zero Tryz.prog 58 (Go.Value.pointer none) #[Go.Value.pointer none] := ⟨Tryz.zeroValue58, rfl⟩
instance ty59 : Ty Tryz.prog 59 (Go.TypeDesc.struct #[{ name := "S", type := 9, offset := 0, embedded := false, tag := "", pkgPath := "", byteOffset := 0 }, { name := "Most", type := 3, offset := 1, embedded := false, tag := "", pkgPath := "", byteOffset := 16 }, { name := "Err", type := 25, offset := 2, embedded := false, tag := "", pkgPath := "", byteOffset := 24 }]) 3 true := ⟨Tryz.underlying59, Tryz.isAgg59, Tryz.sizeOf59⟩
instance zero59 : Zero Tryz.prog 59 (Go.Value.agg #[Go.Value.string { data := #[] }, Go.Value.int Go.IntKind.i64 0, Go.Value.int Go.IntKind.i64 0]) #[Go.Value.string { data := #[] }, Go.Value.int Go.IntKind.i64 0, Go.Value.int Go.IntKind.i64 0] := ⟨Tryz.zeroValue59, rfl⟩
instance ty60 : Ty Tryz.prog 60 (Go.TypeDesc.struct #[{ name := "S", type := 9, offset := 0, embedded := false, tag := "", pkgPath := "", byteOffset := 0 }, { name := "Most", type := 3, offset := 1, embedded := false, tag := "", pkgPath := "", byteOffset := 16 }, { name := "Err", type := 25, offset := 2, embedded := false, tag := "", pkgPath := "", byteOffset := 24 }]) 3 true := ⟨Tryz.underlying60, Tryz.isAgg60, Tryz.sizeOf60⟩
instance zero60 : Zero Tryz.prog 60 (Go.Value.agg #[Go.Value.string { data := #[] }, Go.Value.int Go.IntKind.i64 0, Go.Value.int Go.IntKind.i64 0]) #[Go.Value.string { data := #[] }, Go.Value.int Go.IntKind.i64 0, Go.Value.int Go.IntKind.i64 0] := ⟨Tryz.zeroValue60, rfl⟩
instance ty61 : Ty Tryz.prog 61 (Go.TypeDesc.func #[60, 63] #[60] false) 1 false := ⟨Tryz.underlying61, Tryz.isAgg61, Tryz.sizeOf61⟩
instance zero61 : Zero Tryz.prog 61 (Go.Value.nilFunc) #[Go.Value.nilFunc] := ⟨Tryz.zeroValue61, rfl⟩
instance ty62 : Ty Tryz.prog 62 (Go.TypeDesc.func #[3] #[60] false) 1 false := ⟨Tryz.underlying62, Tryz.isAgg62, Tryz.sizeOf62⟩
instance zero62 : Zero Tryz.prog 62 (Go.Value.nilFunc) #[Go.Value.nilFunc] := ⟨Tryz.zeroValue62, rfl⟩
instance ty63 : Ty Tryz.prog 63 (Go.TypeDesc.int Go.IntKind.u64) 1 false := ⟨Tryz.underlying63, Tryz.isAgg63, Tryz.sizeOf63⟩
instance zero63 : Zero Tryz.prog 63 (Go.Value.int Go.IntKind.u64 0) #[Go.Value.int Go.IntKind.u64 0] := ⟨Tryz.zeroValue63, rfl⟩
instance ty64 : Ty Tryz.prog 64 (Go.TypeDesc.struct #[{ name := "w", type := 60, offset := 0, embedded := false, tag := "", pkgPath := "stenotype/event", byteOffset := 0 }, { name := "e", type := 28, offset := 3, embedded := false, tag := "", pkgPath := "stenotype/event", byteOffset := 32 }]) 10 true := ⟨Tryz.underlying64, Tryz.isAgg64, Tryz.sizeOf64⟩
instance zero64 : Zero Tryz.prog 64 (Go.Value.agg #[Go.Value.string { data := #[] }, Go.Value.int Go.IntKind.i64 0, Go.Value.int Go.IntKind.i64 0, Go.Value.int Go.IntKind.i64 0, Go.Value.int Go.IntKind.i64 0, Go.Value.int Go.IntKind.i64 0, Go.Value.int Go.IntKind.i64 0, Go.Value.int Go.IntKind.i64 0, Go.Value.string { data := #[] }, Go.Value.int Go.IntKind.i64 0]) #[Go.Value.string { data := #[] }, Go.Value.int Go.IntKind.i64 0, Go.Value.int Go.IntKind.i64 0, Go.Value.int Go.IntKind.i64 0, Go.Value.int Go.IntKind.i64 0, Go.Value.int Go.IntKind.i64 0, Go.Value.int Go.IntKind.i64 0, Go.Value.int Go.IntKind.i64 0, Go.Value.string { data := #[] }, Go.Value.int Go.IntKind.i64 0] := ⟨Tryz.zeroValue64, rfl⟩
instance ty65 : Ty Tryz.prog 65 (Go.TypeDesc.struct #[{ name := "w", type := 60, offset := 0, embedded := false, tag := "", pkgPath := "stenotype/event", byteOffset := 0 }, { name := "e", type := 28, offset := 3, embedded := false, tag := "", pkgPath := "stenotype/event", byteOffset := 32 }]) 10 true := ⟨Tryz.underlying65, Tryz.isAgg65, Tryz.sizeOf65⟩
instance zero65 : Zero Tryz.prog 65 (Go.Value.agg #[Go.Value.string { data := #[] }, Go.Value.int Go.IntKind.i64 0, Go.Value.int Go.IntKind.i64 0, Go.Value.int Go.IntKind.i64 0, Go.Value.int Go.IntKind.i64 0, Go.Value.int Go.IntKind.i64 0, Go.Value.int Go.IntKind.i64 0, Go.Value.int Go.IntKind.i64 0, Go.Value.string { data := #[] }, Go.Value.int Go.IntKind.i64 0]) #[Go.Value.string { data := #[] }, Go.Value.int Go.IntKind.i64 0, Go.Value.int Go.IntKind.i64 0, Go.Value.int Go.IntKind.i64 0, Go.Value.int Go.IntKind.i64 0, Go.Value.int Go.IntKind.i64 0, Go.Value.int Go.IntKind.i64 0, Go.Value.int Go.IntKind.i64 0, Go.Value.string { data := #[] }, Go.Value.int Go.IntKind.i64 0] := ⟨Tryz.zeroValue65, rfl⟩
instance ty66 : Ty Tryz.prog 66 (Go.TypeDesc.map 3 68) 1 false := ⟨Tryz.underlying66, Tryz.isAgg66, Tryz.sizeOf66⟩
instance zero66 : Zero Tryz.prog 66 (Go.Value.map none) #[Go.Value.map none] := ⟨Tryz.zeroValue66, rfl⟩
instance ty67 : Ty Tryz.prog 67 (Go.TypeDesc.func #[] #[66] false) 1 false := ⟨Tryz.underlying67, Tryz.isAgg67, Tryz.sizeOf67⟩
instance zero67 : Zero Tryz.prog 67 (Go.Value.nilFunc) #[Go.Value.nilFunc] := ⟨Tryz.zeroValue67, rfl⟩
instance ty68 : Ty Tryz.prog 68 (Go.TypeDesc.func #[58] #[] false) 1 false := ⟨Tryz.underlying68, Tryz.isAgg68, Tryz.sizeOf68⟩
instance zero68 : Zero Tryz.prog 68 (Go.Value.nilFunc) #[Go.Value.nilFunc] := ⟨Tryz.zeroValue68, rfl⟩
instance ty69 : Ty Tryz.prog 69 (Go.TypeDesc.func #[60] #[9, 25] false) 1 false := ⟨Tryz.underlying69, Tryz.isAgg69, Tryz.sizeOf69⟩
instance zero69 : Zero Tryz.prog 69 (Go.Value.nilFunc) #[Go.Value.nilFunc] := ⟨Tryz.zeroValue69, rfl⟩
instance ty70 : Ty Tryz.prog 70 (Go.TypeDesc.func #[3] #[51] false) 1 false := ⟨Tryz.underlying70, Tryz.isAgg70, Tryz.sizeOf70⟩
instance zero70 : Zero Tryz.prog 70 (Go.Value.nilFunc) #[Go.Value.nilFunc] := ⟨Tryz.zeroValue70, rfl⟩
instance ty71 : Ty Tryz.prog 71 (Go.TypeDesc.func #[60, 46] #[60] true) 1 false := ⟨Tryz.underlying71, Tryz.isAgg71, Tryz.sizeOf71⟩
instance zero71 : Zero Tryz.prog 71 (Go.Value.nilFunc) #[Go.Value.nilFunc] := ⟨Tryz.zeroValue71, rfl⟩
instance ty72 : Ty Tryz.prog 72 (Go.TypeDesc.func #[3] #[9] false) 1 false := ⟨Tryz.underlying72, Tryz.isAgg72, Tryz.sizeOf72⟩
instance zero72 : Zero Tryz.prog 72 (Go.Value.nilFunc) #[Go.Value.nilFunc] := ⟨Tryz.zeroValue72, rfl⟩
instance ty73 : Ty Tryz.prog 73 (Go.TypeDesc.func #[9] #[9] false) 1 false := ⟨Tryz.underlying73, Tryz.isAgg73, Tryz.sizeOf73⟩
instance zero73 : Zero Tryz.prog 73 (Go.Value.nilFunc) #[Go.Value.nilFunc] := ⟨Tryz.zeroValue73, rfl⟩
instance ty74 : Ty Tryz.prog 74 (Go.TypeDesc.func #[] #[9] false) 1 false := ⟨Tryz.underlying74, Tryz.isAgg74, Tryz.sizeOf74⟩
instance zero74 : Zero Tryz.prog 74 (Go.Value.nilFunc) #[Go.Value.nilFunc] := ⟨Tryz.zeroValue74, rfl⟩
instance ty75 : Ty Tryz.prog 75 (Go.TypeDesc.func #[46] #[9] true) 1 false := ⟨Tryz.underlying75, Tryz.isAgg75, Tryz.sizeOf75⟩
instance zero75 : Zero Tryz.prog 75 (Go.Value.nilFunc) #[Go.Value.nilFunc] := ⟨Tryz.zeroValue75, rfl⟩
instance ty76 : Ty Tryz.prog 76 (Go.TypeDesc.func #[28] #[9] false) 1 false := ⟨Tryz.underlying76, Tryz.isAgg76, Tryz.sizeOf76⟩
instance zero76 : Zero Tryz.prog 76 (Go.Value.nilFunc) #[Go.Value.nilFunc] := ⟨Tryz.zeroValue76, rfl⟩
instance ty77 : Ty Tryz.prog 77 (Go.TypeDesc.pointer 80) 1 false := ⟨Tryz.underlying77, Tryz.isAgg77, Tryz.sizeOf77⟩
instance zero77 : Zero Tryz.prog 77 (Go.Value.pointer none) #[Go.Value.pointer none] := ⟨Tryz.zeroValue77, rfl⟩
instance ty78 : Ty Tryz.prog 78 (Go.TypeDesc.slice 5) 1 false := ⟨Tryz.underlying78, Tryz.isAgg78, Tryz.sizeOf78⟩
instance zero78 : Zero Tryz.prog 78 (Go.Value.slice none 0 0) #[Go.Value.slice none 0 0] := ⟨Tryz.zeroValue78, rfl⟩
instance ty79 : Ty Tryz.prog 79 (Go.TypeDesc.struct #[{ name := "addr", type := 77, offset := 0, embedded := false, tag := "", pkgPath := "strings", byteOffset := 0 }, { name := "buf", type := 78, offset := 1, embedded := false, tag := "", pkgPath := "strings", byteOffset := 8 }]) 2 true := ⟨Tryz.underlying79, Tryz.isAgg79, Tryz.sizeOf79⟩
instance zero79 : Zero Tryz.prog 79 (Go.Value.agg #[Go.Value.pointer none, Go.Value.slice none 0 0]) #[Go.Value.pointer none, Go.Value.slice none 0 0] := ⟨Tryz.zeroValue79, rfl⟩
instance ty80 : Ty Tryz.prog 80 (Go.TypeDesc.struct #[{ name := "addr", type := 77, offset := 0, embedded := false, tag := "", pkgPath := "strings", byteOffset := 0 }, { name := "buf", type := 78, offset := 1, embedded := false, tag := "", pkgPath := "strings", byteOffset := 8 }]) 2 true := ⟨Tryz.underlying80, Tryz.isAgg80, Tryz.sizeOf80⟩
instance zero80 : Zero Tryz.prog 80 (Go.Value.agg #[Go.Value.pointer none, Go.Value.slice none 0 0]) #[Go.Value.pointer none, Go.Value.slice none 0 0] := ⟨Tryz.zeroValue80, rfl⟩
instance ty81 : Ty Tryz.prog 81 (Go.TypeDesc.interface #[("Error", 74)]) 1 false := ⟨Tryz.underlying81, Tryz.isAgg81, Tryz.sizeOf81⟩
instance zero81 : Zero Tryz.prog 81 (Go.Value.nilIface) #[Go.Value.nilIface] := ⟨Tryz.zeroValue81, rfl⟩
instance ty82 : Ty Tryz.prog 82 (Go.TypeDesc.interface #[("Error", 74)]) 1 false := ⟨Tryz.underlying82, Tryz.isAgg82, Tryz.sizeOf82⟩
instance zero82 : Zero Tryz.prog 82 (Go.Value.nilIface) #[Go.Value.nilIface] := ⟨Tryz.zeroValue82, rfl⟩
instance ty83 : Ty Tryz.prog 83 (Go.TypeDesc.tuple #[3, 82]) 1 false := ⟨Tryz.underlying83, Tryz.isAgg83, Tryz.sizeOf83⟩
instance zero83 : Zero Tryz.prog 83 (Go.Value.tuple #[Go.Value.int Go.IntKind.i64 0, Go.Value.nilIface]) #[Go.Value.tuple #[Go.Value.int Go.IntKind.i64 0, Go.Value.nilIface]] := ⟨Tryz.zeroValue83, rfl⟩
instance ty84 : Ty Tryz.prog 84 (Go.TypeDesc.func #[9] #[3, 82] false) 1 false := ⟨Tryz.underlying84, Tryz.isAgg84, Tryz.sizeOf84⟩
instance zero84 : Zero Tryz.prog 84 (Go.Value.nilFunc) #[Go.Value.nilFunc] := ⟨Tryz.zeroValue84, rfl⟩
instance ty85 : Ty Tryz.prog 85 (Go.TypeDesc.func #[] #[3] false) 1 false := ⟨Tryz.underlying85, Tryz.isAgg85, Tryz.sizeOf85⟩
instance zero85 : Zero Tryz.prog 85 (Go.Value.nilFunc) #[Go.Value.nilFunc] := ⟨Tryz.zeroValue85, rfl⟩
instance ty86 : Ty Tryz.prog 86 (Go.TypeDesc.func #[9] #[46] false) 1 false := ⟨Tryz.underlying86, Tryz.isAgg86, Tryz.sizeOf86⟩
instance zero86 : Zero Tryz.prog 86 (Go.Value.nilFunc) #[Go.Value.nilFunc] := ⟨Tryz.zeroValue86, rfl⟩
instance ty87 : Ty Tryz.prog 87 (Go.TypeDesc.struct #[{ name := "S", type := 9, offset := 0, embedded := false, tag := "", pkgPath := "", byteOffset := 0 }, { name := "At", type := 3, offset := 1, embedded := false, tag := "", pkgPath := "", byteOffset := 16 }, { name := "Fault", type := 36, offset := 2, embedded := false, tag := "", pkgPath := "", byteOffset := 24 }]) 4 true := ⟨Tryz.underlying87, Tryz.isAgg87, Tryz.sizeOf87⟩
instance zero87 : Zero Tryz.prog 87 (Go.Value.agg #[Go.Value.string { data := #[] }, Go.Value.int Go.IntKind.i64 0, Go.Value.int Go.IntKind.i64 0, Go.Value.int Go.IntKind.i64 0]) #[Go.Value.string { data := #[] }, Go.Value.int Go.IntKind.i64 0, Go.Value.int Go.IntKind.i64 0, Go.Value.int Go.IntKind.i64 0] := ⟨Tryz.zeroValue87, rfl⟩
instance ty88 : Ty Tryz.prog 88 (Go.TypeDesc.struct #[{ name := "S", type := 9, offset := 0, embedded := false, tag := "", pkgPath := "", byteOffset := 0 }, { name := "At", type := 3, offset := 1, embedded := false, tag := "", pkgPath := "", byteOffset := 16 }, { name := "Fault", type := 36, offset := 2, embedded := false, tag := "", pkgPath := "", byteOffset := 24 }]) 4 true := ⟨Tryz.underlying88, Tryz.isAgg88, Tryz.sizeOf88⟩
instance zero88 : Zero Tryz.prog 88 (Go.Value.agg #[Go.Value.string { data := #[] }, Go.Value.int Go.IntKind.i64 0, Go.Value.int Go.IntKind.i64 0, Go.Value.int Go.IntKind.i64 0]) #[Go.Value.string { data := #[] }, Go.Value.int Go.IntKind.i64 0, Go.Value.int Go.IntKind.i64 0, Go.Value.int Go.IntKind.i64 0] := ⟨Tryz.zeroValue88, rfl⟩
instance ty89 : Ty Tryz.prog 89 (Go.TypeDesc.func #[9] #[88] false) 1 false := ⟨Tryz.underlying89, Tryz.isAgg89, Tryz.sizeOf89⟩
instance zero89 : Zero Tryz.prog 89 (Go.Value.nilFunc) #[Go.Value.nilFunc] := ⟨Tryz.zeroValue89, rfl⟩
instance ty90 : Ty Tryz.prog 90 (Go.TypeDesc.tuple #[88, 3]) 1 false := ⟨Tryz.underlying90, Tryz.isAgg90, Tryz.sizeOf90⟩
instance zero90 : Zero Tryz.prog 90 (Go.Value.tuple #[Go.Value.agg #[Go.Value.string { data := #[] }, Go.Value.int Go.IntKind.i64 0, Go.Value.int Go.IntKind.i64 0, Go.Value.int Go.IntKind.i64 0], Go.Value.int Go.IntKind.i64 0]) #[Go.Value.tuple #[Go.Value.agg #[Go.Value.string { data := #[] }, Go.Value.int Go.IntKind.i64 0, Go.Value.int Go.IntKind.i64 0, Go.Value.int Go.IntKind.i64 0], Go.Value.int Go.IntKind.i64 0]] := ⟨Tryz.zeroValue90, rfl⟩
instance ty91 : Ty Tryz.prog 91 (Go.TypeDesc.func #[88, 3, 3] #[88, 3] false) 1 false := ⟨Tryz.underlying91, Tryz.isAgg91, Tryz.sizeOf91⟩
instance zero91 : Zero Tryz.prog 91 (Go.Value.nilFunc) #[Go.Value.nilFunc] := ⟨Tryz.zeroValue91, rfl⟩
instance ty92 : Ty Tryz.prog 92 (Go.TypeDesc.tuple #[88, 9]) 1 false := ⟨Tryz.underlying92, Tryz.isAgg92, Tryz.sizeOf92⟩
instance zero92 : Zero Tryz.prog 92 (Go.Value.tuple #[Go.Value.agg #[Go.Value.string { data := #[] }, Go.Value.int Go.IntKind.i64 0, Go.Value.int Go.IntKind.i64 0, Go.Value.int Go.IntKind.i64 0], Go.Value.string { data := #[] }]) #[Go.Value.tuple #[Go.Value.agg #[Go.Value.string { data := #[] }, Go.Value.int Go.IntKind.i64 0, Go.Value.int Go.IntKind.i64 0, Go.Value.int Go.IntKind.i64 0], Go.Value.string { data := #[] }]] := ⟨Tryz.zeroValue92, rfl⟩
instance ty93 : Ty Tryz.prog 93 (Go.TypeDesc.func #[88, 3] #[88, 9] false) 1 false := ⟨Tryz.underlying93, Tryz.isAgg93, Tryz.sizeOf93⟩
instance zero93 : Zero Tryz.prog 93 (Go.Value.nilFunc) #[Go.Value.nilFunc] := ⟨Tryz.zeroValue93, rfl⟩
instance ty94 : Ty Tryz.prog 94 (Go.TypeDesc.tuple #[9, 9, 4]) 1 false := ⟨Tryz.underlying94, Tryz.isAgg94, Tryz.sizeOf94⟩
instance zero94 : Zero Tryz.prog 94 (Go.Value.tuple #[Go.Value.string { data := #[] }, Go.Value.string { data := #[] }, Go.Value.bool false]) #[Go.Value.tuple #[Go.Value.string { data := #[] }, Go.Value.string { data := #[] }, Go.Value.bool false]] := ⟨Tryz.zeroValue94, rfl⟩
instance ty95 : Ty Tryz.prog 95 (Go.TypeDesc.func #[9, 9] #[9, 9, 4] false) 1 false := ⟨Tryz.underlying95, Tryz.isAgg95, Tryz.sizeOf95⟩
instance zero95 : Zero Tryz.prog 95 (Go.Value.nilFunc) #[Go.Value.nilFunc] := ⟨Tryz.zeroValue95, rfl⟩
instance ty96 : Ty Tryz.prog 96 (Go.TypeDesc.tuple #[28, 4]) 1 false := ⟨Tryz.underlying96, Tryz.isAgg96, Tryz.sizeOf96⟩
instance zero96 : Zero Tryz.prog 96 (Go.Value.tuple #[Go.Value.agg #[Go.Value.int Go.IntKind.i64 0, Go.Value.int Go.IntKind.i64 0, Go.Value.int Go.IntKind.i64 0, Go.Value.int Go.IntKind.i64 0, Go.Value.int Go.IntKind.i64 0, Go.Value.string { data := #[] }, Go.Value.int Go.IntKind.i64 0], Go.Value.bool false]) #[Go.Value.tuple #[Go.Value.agg #[Go.Value.int Go.IntKind.i64 0, Go.Value.int Go.IntKind.i64 0, Go.Value.int Go.IntKind.i64 0, Go.Value.int Go.IntKind.i64 0, Go.Value.int Go.IntKind.i64 0, Go.Value.string { data := #[] }, Go.Value.int Go.IntKind.i64 0], Go.Value.bool false]] := ⟨Tryz.zeroValue96, rfl⟩
instance ty97 : Ty Tryz.prog 97 (Go.TypeDesc.func #[9] #[28, 4] false) 1 false := ⟨Tryz.underlying97, Tryz.isAgg97, Tryz.sizeOf97⟩
instance zero97 : Zero Tryz.prog 97 (Go.Value.nilFunc) #[Go.Value.nilFunc] := ⟨Tryz.zeroValue97, rfl⟩
instance ty98 : Ty Tryz.prog 98 (Go.TypeDesc.func #[51, 3] #[3] false) 1 false := ⟨Tryz.underlying98, Tryz.isAgg98, Tryz.sizeOf98⟩
instance zero98 : Zero Tryz.prog 98 (Go.Value.nilFunc) #[Go.Value.nilFunc] := ⟨Tryz.zeroValue98, rfl⟩
instance ty99 : Ty Tryz.prog 99 (Go.TypeDesc.pointer 104) 1 false := ⟨Tryz.underlying99, Tryz.isAgg99, Tryz.sizeOf99⟩
instance zero99 : Zero Tryz.prog 99 (Go.Value.pointer none) #[Go.Value.pointer none] := ⟨Tryz.zeroValue99, rfl⟩
instance ty100 : Ty Tryz.prog 100 (Go.TypeDesc.func #[60] #[99] false) 1 false := ⟨Tryz.underlying100, Tryz.isAgg100, Tryz.sizeOf100⟩
instance zero100 : Zero Tryz.prog 100 (Go.Value.nilFunc) #[Go.Value.nilFunc] := ⟨Tryz.zeroValue100, rfl⟩
instance ty101 : Ty Tryz.prog 101 (Go.TypeDesc.func #[46] #[60] true) 1 false := ⟨Tryz.underlying101, Tryz.isAgg101, Tryz.sizeOf101⟩
instance zero101 : Zero Tryz.prog 101 (Go.Value.nilFunc) #[Go.Value.nilFunc] := ⟨Tryz.zeroValue101, rfl⟩
instance ty102 : Ty Tryz.prog 102 (Go.TypeDesc.func #[63] #[9] false) 1 false := ⟨Tryz.underlying102, Tryz.isAgg102, Tryz.sizeOf102⟩
instance zero102 : Zero Tryz.prog 102 (Go.Value.nilFunc) #[Go.Value.nilFunc] := ⟨Tryz.zeroValue102, rfl⟩
instance ty103 : Ty Tryz.prog 103 (Go.TypeDesc.struct #[{ name := "Writer", type := 60, offset := 0, embedded := true, tag := "", pkgPath := "", byteOffset := 0 }]) 3 true := ⟨Tryz.underlying103, Tryz.isAgg103, Tryz.sizeOf103⟩
instance zero103 : Zero Tryz.prog 103 (Go.Value.agg #[Go.Value.string { data := #[] }, Go.Value.int Go.IntKind.i64 0, Go.Value.int Go.IntKind.i64 0]) #[Go.Value.string { data := #[] }, Go.Value.int Go.IntKind.i64 0, Go.Value.int Go.IntKind.i64 0] := ⟨Tryz.zeroValue103, rfl⟩
instance ty104 : Ty Tryz.prog 104 (Go.TypeDesc.struct #[{ name := "Writer", type := 60, offset := 0, embedded := true, tag := "", pkgPath := "", byteOffset := 0 }]) 3 true := ⟨Tryz.underlying104, Tryz.isAgg104, Tryz.sizeOf104⟩
instance zero104 : Zero Tryz.prog 104 (Go.Value.agg #[Go.Value.string { data := #[] }, Go.Value.int Go.IntKind.i64 0, Go.Value.int Go.IntKind.i64 0]) #[Go.Value.string { data := #[] }, Go.Value.int Go.IntKind.i64 0, Go.Value.int Go.IntKind.i64 0] := ⟨Tryz.zeroValue104, rfl⟩
instance ty105 : Ty Tryz.prog 105 (Go.TypeDesc.func #[60, 9] #[60] false) 1 false := ⟨Tryz.underlying105, Tryz.isAgg105, Tryz.sizeOf105⟩
instance zero105 : Zero Tryz.prog 105 (Go.Value.nilFunc) #[Go.Value.nilFunc] := ⟨Tryz.zeroValue105, rfl⟩
instance ty106 : Ty Tryz.prog 106 (Go.TypeDesc.func #[60] #[60] false) 1 false := ⟨Tryz.underlying106, Tryz.isAgg106, Tryz.sizeOf106⟩
instance zero106 : Zero Tryz.prog 106 (Go.Value.nilFunc) #[Go.Value.nilFunc] := ⟨Tryz.zeroValue106, rfl⟩
instance ty107 : Ty Tryz.prog 107 (Go.TypeDesc.int Go.IntKind.u64) 1 false := ⟨Tryz.underlying107, Tryz.isAgg107, Tryz.sizeOf107⟩
instance zero107 : Zero Tryz.prog 107 (Go.Value.int Go.IntKind.u64 0) #[Go.Value.int Go.IntKind.u64 0] := ⟨Tryz.zeroValue107, rfl⟩
instance ty108 : Ty Tryz.prog 108 (Go.TypeDesc.func #[46, 9] #[9] false) 1 false := ⟨Tryz.underlying108, Tryz.isAgg108, Tryz.sizeOf108⟩
instance zero108 : Zero Tryz.prog 108 (Go.Value.nilFunc) #[Go.Value.nilFunc] := ⟨Tryz.zeroValue108, rfl⟩
instance ty109 : Ty Tryz.prog 109 (Go.TypeDesc.pointer 5) 1 false := ⟨Tryz.underlying109, Tryz.isAgg109, Tryz.sizeOf109⟩
instance zero109 : Zero Tryz.prog 109 (Go.Value.pointer none) #[Go.Value.pointer none] := ⟨Tryz.zeroValue109, rfl⟩
instance ty110 : Ty Tryz.prog 110 (Go.TypeDesc.array 256 5) 256 true := ⟨Tryz.underlying110, Tryz.isAgg110, Tryz.sizeOf110⟩
instance zero110 : Zero Tryz.prog 110 (Go.Value.agg Go.Proofs.Tryz.zeroCells110) Go.Proofs.Tryz.zeroCells110 := ⟨Tryz.zeroValue110, rfl⟩
instance ty111 : Ty Tryz.prog 111 (Go.TypeDesc.func #[9, 112] #[46] false) 1 false := ⟨Tryz.underlying111, Tryz.isAgg111, Tryz.sizeOf111⟩
instance zero111 : Zero Tryz.prog 111 (Go.Value.nilFunc) #[Go.Value.nilFunc] := ⟨Tryz.zeroValue111, rfl⟩
instance ty112 : Ty Tryz.prog 112 (Go.TypeDesc.func #[21] #[4] false) 1 false := ⟨Tryz.underlying112, Tryz.isAgg112, Tryz.sizeOf112⟩
instance zero112 : Zero Tryz.prog 112 (Go.Value.nilFunc) #[Go.Value.nilFunc] := ⟨Tryz.zeroValue112, rfl⟩
instance ty113 : Ty Tryz.prog 113 (Go.TypeDesc.struct #[{ name := "Reader", type := 88, offset := 0, embedded := true, tag := "", pkgPath := "", byteOffset := 0 }]) 4 true := ⟨Tryz.underlying113, Tryz.isAgg113, Tryz.sizeOf113⟩
instance zero113 : Zero Tryz.prog 113 (Go.Value.agg #[Go.Value.string { data := #[] }, Go.Value.int Go.IntKind.i64 0, Go.Value.int Go.IntKind.i64 0, Go.Value.int Go.IntKind.i64 0]) #[Go.Value.string { data := #[] }, Go.Value.int Go.IntKind.i64 0, Go.Value.int Go.IntKind.i64 0, Go.Value.int Go.IntKind.i64 0] := ⟨Tryz.zeroValue113, rfl⟩
instance ty114 : Ty Tryz.prog 114 (Go.TypeDesc.struct #[{ name := "Reader", type := 88, offset := 0, embedded := true, tag := "", pkgPath := "", byteOffset := 0 }]) 4 true := ⟨Tryz.underlying114, Tryz.isAgg114, Tryz.sizeOf114⟩
instance zero114 : Zero Tryz.prog 114 (Go.Value.agg #[Go.Value.string { data := #[] }, Go.Value.int Go.IntKind.i64 0, Go.Value.int Go.IntKind.i64 0, Go.Value.int Go.IntKind.i64 0]) #[Go.Value.string { data := #[] }, Go.Value.int Go.IntKind.i64 0, Go.Value.int Go.IntKind.i64 0, Go.Value.int Go.IntKind.i64 0] := ⟨Tryz.zeroValue114, rfl⟩
instance ty115 : Ty Tryz.prog 115 (Go.TypeDesc.pointer 114) 1 false := ⟨Tryz.underlying115, Tryz.isAgg115, Tryz.sizeOf115⟩
instance zero115 : Zero Tryz.prog 115 (Go.Value.pointer none) #[Go.Value.pointer none] := ⟨Tryz.zeroValue115, rfl⟩
instance ty116 : Ty Tryz.prog 116 (Go.TypeDesc.func #[88] #[115] false) 1 false := ⟨Tryz.underlying116, Tryz.isAgg116, Tryz.sizeOf116⟩
instance zero116 : Zero Tryz.prog 116 (Go.Value.nilFunc) #[Go.Value.nilFunc] := ⟨Tryz.zeroValue116, rfl⟩
instance ty117 : Ty Tryz.prog 117 (Go.TypeDesc.func #[1] #[4] false) 1 false := ⟨Tryz.underlying117, Tryz.isAgg117, Tryz.sizeOf117⟩
instance zero117 : Zero Tryz.prog 117 (Go.Value.nilFunc) #[Go.Value.nilFunc] := ⟨Tryz.zeroValue117, rfl⟩
instance ty118 : Ty Tryz.prog 118 (Go.TypeDesc.func #[25, 3] #[] false) 1 false := ⟨Tryz.underlying118, Tryz.isAgg118, Tryz.sizeOf118⟩
instance zero118 : Zero Tryz.prog 118 (Go.Value.nilFunc) #[Go.Value.nilFunc] := ⟨Tryz.zeroValue118, rfl⟩
instance ty119 : Ty Tryz.prog 119 (Go.TypeDesc.func #[] #[63] false) 1 false := ⟨Tryz.underlying119, Tryz.isAgg119, Tryz.sizeOf119⟩
instance zero119 : Zero Tryz.prog 119 (Go.Value.nilFunc) #[Go.Value.nilFunc] := ⟨Tryz.zeroValue119, rfl⟩
instance ty120 : Ty Tryz.prog 120 (Go.TypeDesc.func #[88] #[88] false) 1 false := ⟨Tryz.underlying120, Tryz.isAgg120, Tryz.sizeOf120⟩
instance zero120 : Zero Tryz.prog 120 (Go.Value.nilFunc) #[Go.Value.nilFunc] := ⟨Tryz.zeroValue120, rfl⟩
instance ty121 : Ty Tryz.prog 121 (Go.TypeDesc.func #[88, 25, 3] #[88] false) 1 false := ⟨Tryz.underlying121, Tryz.isAgg121, Tryz.sizeOf121⟩
instance zero121 : Zero Tryz.prog 121 (Go.Value.nilFunc) #[Go.Value.nilFunc] := ⟨Tryz.zeroValue121, rfl⟩
instance ty122 : Ty Tryz.prog 122 (Go.TypeDesc.tuple #[88, 63]) 1 false := ⟨Tryz.underlying122, Tryz.isAgg122, Tryz.sizeOf122⟩
instance zero122 : Zero Tryz.prog 122 (Go.Value.tuple #[Go.Value.agg #[Go.Value.string { data := #[] }, Go.Value.int Go.IntKind.i64 0, Go.Value.int Go.IntKind.i64 0, Go.Value.int Go.IntKind.i64 0], Go.Value.int Go.IntKind.u64 0]) #[Go.Value.tuple #[Go.Value.agg #[Go.Value.string { data := #[] }, Go.Value.int Go.IntKind.i64 0, Go.Value.int Go.IntKind.i64 0, Go.Value.int Go.IntKind.i64 0], Go.Value.int Go.IntKind.u64 0]] := ⟨Tryz.zeroValue122, rfl⟩
instance ty123 : Ty Tryz.prog 123 (Go.TypeDesc.func #[88, 63] #[88, 63] false) 1 false := ⟨Tryz.underlying123, Tryz.isAgg123, Tryz.sizeOf123⟩
instance zero123 : Zero Tryz.prog 123 (Go.Value.nilFunc) #[Go.Value.nilFunc] := ⟨Tryz.zeroValue123, rfl⟩
instance ty124 : Ty Tryz.prog 124 (Go.TypeDesc.func #[88] #[4] false) 1 false := ⟨Tryz.underlying124, Tryz.isAgg124, Tryz.sizeOf124⟩
instance zero124 : Zero Tryz.prog 124 (Go.Value.nilFunc) #[Go.Value.nilFunc] := ⟨Tryz.zeroValue124, rfl⟩
instance ty125 : Ty Tryz.prog 125 (Go.TypeDesc.func #[9, 9] #[46] false) 1 false := ⟨Tryz.underlying125, Tryz.isAgg125, Tryz.sizeOf125⟩
instance zero125 : Zero Tryz.prog 125 (Go.Value.nilFunc) #[Go.Value.nilFunc] := ⟨Tryz.zeroValue125, rfl⟩
instance ty126 : Ty Tryz.prog 126 (Go.TypeDesc.func #[46, 9] #[3] false) 1 false := ⟨Tryz.underlying126, Tryz.isAgg126, Tryz.sizeOf126⟩
instance zero126 : Zero Tryz.prog 126 (Go.Value.nilFunc) #[Go.Value.nilFunc] := ⟨Tryz.zeroValue126, rfl⟩
instance ty127 : Ty Tryz.prog 127 (Go.TypeDesc.tuple #[9, 4]) 1 false := ⟨Tryz.underlying127, Tryz.isAgg127, Tryz.sizeOf127⟩
instance zero127 : Zero Tryz.prog 127 (Go.Value.tuple #[Go.Value.string { data := #[] }, Go.Value.bool false]) #[Go.Value.tuple #[Go.Value.string { data := #[] }, Go.Value.bool false]] := ⟨Tryz.zeroValue127, rfl⟩
instance ty128 : Ty Tryz.prog 128 (Go.TypeDesc.func #[9] #[9, 4] false) 1 false := ⟨Tryz.underlying128, Tryz.isAgg128, Tryz.sizeOf128⟩
instance zero128 : Zero Tryz.prog 128 (Go.Value.nilFunc) #[Go.Value.nilFunc] := ⟨Tryz.zeroValue128, rfl⟩
instance ty129 : Ty Tryz.prog 129 (Go.TypeDesc.tuple #[3, 4]) 1 false := ⟨Tryz.underlying129, Tryz.isAgg129, Tryz.sizeOf129⟩
instance zero129 : Zero Tryz.prog 129 (Go.Value.tuple #[Go.Value.int Go.IntKind.i64 0, Go.Value.bool false]) #[Go.Value.tuple #[Go.Value.int Go.IntKind.i64 0, Go.Value.bool false]] := ⟨Tryz.zeroValue129, rfl⟩
instance ty130 : Ty Tryz.prog 130 (Go.TypeDesc.func #[9] #[3, 4] false) 1 false := ⟨Tryz.underlying130, Tryz.isAgg130, Tryz.sizeOf130⟩
instance zero130 : Zero Tryz.prog 130 (Go.Value.nilFunc) #[Go.Value.nilFunc] := ⟨Tryz.zeroValue130, rfl⟩
instance ty131 : Ty Tryz.prog 131 (Go.TypeDesc.tuple #[25, 4]) 1 false := ⟨Tryz.underlying131, Tryz.isAgg131, Tryz.sizeOf131⟩
instance zero131 : Zero Tryz.prog 131 (Go.Value.tuple #[Go.Value.int Go.IntKind.i64 0, Go.Value.bool false]) #[Go.Value.tuple #[Go.Value.int Go.IntKind.i64 0, Go.Value.bool false]] := ⟨Tryz.zeroValue131, rfl⟩
instance ty132 : Ty Tryz.prog 132 (Go.TypeDesc.func #[9] #[25, 4] false) 1 false := ⟨Tryz.underlying132, Tryz.isAgg132, Tryz.sizeOf132⟩
instance zero132 : Zero Tryz.prog 132 (Go.Value.nilFunc) #[Go.Value.nilFunc] := ⟨Tryz.zeroValue132, rfl⟩
instance ty133 : Ty Tryz.prog 133 (Go.TypeDesc.func #[134] #[9] false) 1 false := ⟨Tryz.underlying133, Tryz.isAgg133, Tryz.sizeOf133⟩
instance zero133 : Zero Tryz.prog 133 (Go.Value.nilFunc) #[Go.Value.nilFunc] := ⟨Tryz.zeroValue133, rfl⟩
instance ty134 : Ty Tryz.prog 134 (Go.TypeDesc.slice 63) 1 false := ⟨Tryz.underlying134, Tryz.isAgg134, Tryz.sizeOf134⟩
instance zero134 : Zero Tryz.prog 134 (Go.Value.slice none 0 0) #[Go.Value.slice none 0 0] := ⟨Tryz.zeroValue134, rfl⟩
instance ty135 : Ty Tryz.prog 135 (Go.TypeDesc.func #[2, 3] #[9] false) 1 false := ⟨Tryz.underlying135, Tryz.isAgg135, Tryz.sizeOf135⟩
instance zero135 : Zero Tryz.prog 135 (Go.Value.nilFunc) #[Go.Value.nilFunc] := ⟨Tryz.zeroValue135, rfl⟩
instance ty136 : Ty Tryz.prog 136 (Go.TypeDesc.func #[3] #[] false) 1 false := ⟨Tryz.underlying136, Tryz.isAgg136, Tryz.sizeOf136⟩
instance zero136 : Zero Tryz.prog 136 (Go.Value.nilFunc) #[Go.Value.nilFunc] := ⟨Tryz.zeroValue136, rfl⟩
instance ty137 : Ty Tryz.prog 137 (Go.TypeDesc.unsafePointer) 1 false := ⟨Tryz.underlying137, Tryz.isAgg137, Tryz.sizeOf137⟩
instance zero137 : Zero Tryz.prog 137 (Go.Value.pointer none) #[Go.Value.pointer none] := ⟨Tryz.zeroValue137, rfl⟩
instance ty138 : Ty Tryz.prog 138 (Go.TypeDesc.func #[137] #[137] false) 1 false := ⟨Tryz.underlying138, Tryz.isAgg138, Tryz.sizeOf138⟩
instance zero138 : Zero Tryz.prog 138 (Go.Value.nilFunc) #[Go.Value.nilFunc] := ⟨Tryz.zeroValue138, rfl⟩
instance ty139 : Ty Tryz.prog 139 (Go.TypeDesc.slice 141) 1 false := ⟨Tryz.underlying139, Tryz.isAgg139, Tryz.sizeOf139⟩
instance zero139 : Zero Tryz.prog 139 (Go.Value.slice none 0 0) #[Go.Value.slice none 0 0] := ⟨Tryz.zeroValue139, rfl⟩
instance ty140 : Ty Tryz.prog 140 (Go.TypeDesc.struct #[{ name := "start", type := 3, offset := 0, embedded := false, tag := "", pkgPath := "strings", byteOffset := 0 }, { name := "end", type := 3, offset := 1, embedded := false, tag := "", pkgPath := "strings", byteOffset := 8 }]) 2 true := ⟨Tryz.underlying140, Tryz.isAgg140, Tryz.sizeOf140⟩
instance zero140 : Zero Tryz.prog 140 (Go.Value.agg #[Go.Value.int Go.IntKind.i64 0, Go.Value.int Go.IntKind.i64 0]) #[Go.Value.int Go.IntKind.i64 0, Go.Value.int Go.IntKind.i64 0] := ⟨Tryz.zeroValue140, rfl⟩
instance ty141 : Ty Tryz.prog 141 (Go.TypeDesc.struct #[{ name := "start", type := 3, offset := 0, embedded := false, tag := "", pkgPath := "strings", byteOffset := 0 }, { name := "end", type := 3, offset := 1, embedded := false, tag := "", pkgPath := "strings", byteOffset := 8 }]) 2 true := ⟨Tryz.underlying141, Tryz.isAgg141, Tryz.sizeOf141⟩
instance zero141 : Zero Tryz.prog 141 (Go.Value.agg #[Go.Value.int Go.IntKind.i64 0, Go.Value.int Go.IntKind.i64 0]) #[Go.Value.int Go.IntKind.i64 0, Go.Value.int Go.IntKind.i64 0] := ⟨Tryz.zeroValue141, rfl⟩
instance ty142 : Ty Tryz.prog 142 (Go.TypeDesc.int Go.IntKind.u32) 1 false := ⟨Tryz.underlying142, Tryz.isAgg142, Tryz.sizeOf142⟩
instance zero142 : Zero Tryz.prog 142 (Go.Value.int Go.IntKind.u32 0) #[Go.Value.int Go.IntKind.u32 0] := ⟨Tryz.zeroValue142, rfl⟩
instance ty143 : Ty Tryz.prog 143 (Go.TypeDesc.func #[144, 21] #[4] false) 1 false := ⟨Tryz.underlying143, Tryz.isAgg143, Tryz.sizeOf143⟩
instance zero143 : Zero Tryz.prog 143 (Go.Value.nilFunc) #[Go.Value.nilFunc] := ⟨Tryz.zeroValue143, rfl⟩
instance ty144 : Ty Tryz.prog 144 (Go.TypeDesc.pointer 163) 1 false := ⟨Tryz.underlying144, Tryz.isAgg144, Tryz.sizeOf144⟩
instance zero144 : Zero Tryz.prog 144 (Go.Value.pointer none) #[Go.Value.pointer none] := ⟨Tryz.zeroValue144, rfl⟩
instance ty145 : Ty Tryz.prog 145 (Go.TypeDesc.tuple #[63, 3, 36]) 1 false := ⟨Tryz.underlying145, Tryz.isAgg145, Tryz.sizeOf145⟩
instance zero145 : Zero Tryz.prog 145 (Go.Value.tuple #[Go.Value.int Go.IntKind.u64 0, Go.Value.int Go.IntKind.i64 0, Go.Value.agg #[Go.Value.int Go.IntKind.i64 0, Go.Value.int Go.IntKind.i64 0]]) #[Go.Value.tuple #[Go.Value.int Go.IntKind.u64 0, Go.Value.int Go.IntKind.i64 0, Go.Value.agg #[Go.Value.int Go.IntKind.i64 0, Go.Value.int Go.IntKind.i64 0]]] := ⟨Tryz.zeroValue145, rfl⟩
instance ty146 : Ty Tryz.prog 146 (Go.TypeDesc.func #[9, 3] #[63, 3, 36] false) 1 false := ⟨Tryz.underlying146, Tryz.isAgg146, Tryz.sizeOf146⟩
instance zero146 : Zero Tryz.prog 146 (Go.Value.nilFunc) #[Go.Value.nilFunc] := ⟨Tryz.zeroValue146, rfl⟩
instance ty147 : Ty Tryz.prog 147 (Go.TypeDesc.func #[88, 36] #[88] false) 1 false := ⟨Tryz.underlying147, Tryz.isAgg147, Tryz.sizeOf147⟩
instance zero147 : Zero Tryz.prog 147 (Go.Value.nilFunc) #[Go.Value.nilFunc] := ⟨Tryz.zeroValue147, rfl⟩
instance ty148 : Ty Tryz.prog 148 (Go.TypeDesc.func #[9, 9] #[3] false) 1 false := ⟨Tryz.underlying148, Tryz.isAgg148, Tryz.sizeOf148⟩
instance zero148 : Zero Tryz.prog 148 (Go.Value.nilFunc) #[Go.Value.nilFunc] := ⟨Tryz.zeroValue148, rfl⟩
instance ty149 : Ty Tryz.prog 149 (Go.TypeDesc.func #[9, 9, 3, 3] #[46] false) 1 false := ⟨Tryz.underlying149, Tryz.isAgg149, Tryz.sizeOf149⟩
instance zero149 : Zero Tryz.prog 149 (Go.Value.nilFunc) #[Go.Value.nilFunc] := ⟨Tryz.zeroValue149, rfl⟩
instance ty150 : Ty Tryz.prog 150 (Go.TypeDesc.func #[9, 9, 3, 3, 82] #[82] false) 1 false := ⟨Tryz.underlying150, Tryz.isAgg150, Tryz.sizeOf150⟩
instance zero150 : Zero Tryz.prog 150 (Go.Value.nilFunc) #[Go.Value.nilFunc] := ⟨Tryz.zeroValue150, rfl⟩
instance ty151 : Ty Tryz.prog 151 (Go.TypeDesc.func #[9, 5] #[3] false) 1 false := ⟨Tryz.underlying151, Tryz.isAgg151, Tryz.sizeOf151⟩
instance zero151 : Zero Tryz.prog 151 (Go.Value.nilFunc) #[Go.Value.nilFunc] := ⟨Tryz.zeroValue151, rfl⟩
instance ty152 : Ty Tryz.prog 152 (Go.TypeDesc.func #[180] #[] false) 1 false := ⟨Tryz.underlying152, Tryz.isAgg152, Tryz.sizeOf152⟩
instance zero152 : Zero Tryz.prog 152 (Go.Value.nilFunc) #[Go.Value.nilFunc] := ⟨Tryz.zeroValue152, rfl⟩
instance ty153 : Ty Tryz.prog 153 (Go.TypeDesc.func #[180] #[] false) 1 false := ⟨Tryz.underlying153, Tryz.isAgg153, Tryz.sizeOf153⟩
instance zero153 : Zero Tryz.prog 153 (Go.Value.nilFunc) #[Go.Value.nilFunc] := ⟨Tryz.zeroValue153, rfl⟩
instance ty154 : Ty Tryz.prog 154 (Go.TypeDesc.func #[63] #[153] false) 1 false := ⟨Tryz.underlying154, Tryz.isAgg154, Tryz.sizeOf154⟩
instance zero154 : Zero Tryz.prog 154 (Go.Value.nilFunc) #[Go.Value.nilFunc] := ⟨Tryz.zeroValue154, rfl⟩
instance ty155 : Ty Tryz.prog 155 (Go.TypeDesc.array 24 5) 24 true := ⟨Tryz.underlying155, Tryz.isAgg155, Tryz.sizeOf155⟩
instance zero155 : Zero Tryz.prog 155 (Go.Value.agg #[Go.Value.int Go.IntKind.u8 0, Go.Value.int Go.IntKind.u8 0, Go.Value.int Go.IntKind.u8 0, Go.Value.int Go.IntKind.u8 0, Go.Value.int Go.IntKind.u8 0, Go.Value.int Go.IntKind.u8 0, Go.Value.int Go.IntKind.u8 0, Go.Value.int Go.IntKind.u8 0, Go.Value.int Go.IntKind.u8 0, Go.Value.int Go.IntKind.u8 0, Go.Value.int Go.IntKind.u8 0, Go.Value.int Go.IntKind.u8 0, Go.Value.int Go.IntKind.u8 0, Go.Value.int Go.IntKind.u8 0, Go.Value.int Go.IntKind.u8 0, Go.Value.int Go.IntKind.u8 0, Go.Value.int Go.IntKind.u8 0, Go.Value.int Go.IntKind.u8 0, Go.Value.int Go.IntKind.u8 0, Go.Value.int Go.IntKind.u8 0, Go.Value.int Go.IntKind.u8 0, Go.Value.int Go.IntKind.u8 0, Go.Value.int Go.IntKind.u8 0, Go.Value.int Go.IntKind.u8 0]) #[Go.Value.int Go.IntKind.u8 0, Go.Value.int Go.IntKind.u8 0, Go.Value.int Go.IntKind.u8 0, Go.Value.int Go.IntKind.u8 0, Go.Value.int Go.IntKind.u8 0, Go.Value.int Go.IntKind.u8 0, Go.Value.int Go.IntKind.u8 0, Go.Value.int Go.IntKind.u8 0, Go.Value.int Go.IntKind.u8 0, Go.Value.int Go.IntKind.u8 0, Go.Value.int Go.IntKind.u8 0, Go.Value.int Go.IntKind.u8 0, Go.Value.int Go.IntKind.u8 0, Go.Value.int Go.IntKind.u8 0, Go.Value.int Go.IntKind.u8 0, Go.Value.int Go.IntKind.u8 0, Go.Value.int Go.IntKind.u8 0, Go.Value.int Go.IntKind.u8 0, Go.Value.int Go.IntKind.u8 0, Go.Value.int Go.IntKind.u8 0, Go.Value.int Go.IntKind.u8 0, Go.Value.int Go.IntKind.u8 0, Go.Value.int Go.IntKind.u8 0, Go.Value.int Go.IntKind.u8 0] := ⟨Tryz.zeroValue155, rfl⟩
instance ty156 : Ty Tryz.prog 156 (Go.TypeDesc.func #[63] #[3] false) 1 false := ⟨Tryz.underlying156, Tryz.isAgg156, Tryz.sizeOf156⟩
instance zero156 : Zero Tryz.prog 156 (Go.Value.nilFunc) #[Go.Value.nilFunc] := ⟨Tryz.zeroValue156, rfl⟩
instance ty157 : Ty Tryz.prog 157 (Go.TypeDesc.func #[78, 63] #[] false) 1 false := ⟨Tryz.underlying157, Tryz.isAgg157, Tryz.sizeOf157⟩
instance zero157 : Zero Tryz.prog 157 (Go.Value.nilFunc) #[Go.Value.nilFunc] := ⟨Tryz.zeroValue157, rfl⟩
instance ty158 : Ty Tryz.prog 158 (Go.TypeDesc.tuple #[78, 9]) 1 false := ⟨Tryz.underlying158, Tryz.isAgg158, Tryz.sizeOf158⟩
instance zero158 : Zero Tryz.prog 158 (Go.Value.tuple #[Go.Value.slice none 0 0, Go.Value.string { data := #[] }]) #[Go.Value.tuple #[Go.Value.slice none 0 0, Go.Value.string { data := #[] }]] := ⟨Tryz.zeroValue158, rfl⟩
instance ty159 : Ty Tryz.prog 159 (Go.TypeDesc.func #[78, 63, 3, 4, 4] #[78, 9] false) 1 false := ⟨Tryz.underlying159, Tryz.isAgg159, Tryz.sizeOf159⟩
instance zero159 : Zero Tryz.prog 159 (Go.Value.nilFunc) #[Go.Value.nilFunc] := ⟨Tryz.zeroValue159, rfl⟩
instance ty160 : Ty Tryz.prog 160 (Go.TypeDesc.slice 166) 1 false := ⟨Tryz.underlying160, Tryz.isAgg160, Tryz.sizeOf160⟩
instance zero160 : Zero Tryz.prog 160 (Go.Value.slice none 0 0) #[Go.Value.slice none 0 0] := ⟨Tryz.zeroValue160, rfl⟩
instance ty161 : Ty Tryz.prog 161 (Go.TypeDesc.slice 169) 1 false := ⟨Tryz.underlying161, Tryz.isAgg161, Tryz.sizeOf161⟩
instance zero161 : Zero Tryz.prog 161 (Go.Value.slice none 0 0) #[Go.Value.slice none 0 0] := ⟨Tryz.zeroValue161, rfl⟩
instance ty162 : Ty Tryz.prog 162 (Go.TypeDesc.struct #[{ name := "R16", type := 160, offset := 0, embedded := false, tag := "", pkgPath := "", byteOffset := 0 }, { name := "R32", type := 161, offset := 1, embedded := false, tag := "", pkgPath := "", byteOffset := 24 }, { name := "LatinOffset", type := 3, offset := 2, embedded := false, tag := "", pkgPath := "", byteOffset := 48 }]) 3 true := ⟨Tryz.underlying162, Tryz.isAgg162, Tryz.sizeOf162⟩
instance zero162 : Zero Tryz.prog 162 (Go.Value.agg #[Go.Value.slice none 0 0, Go.Value.slice none 0 0, Go.Value.int Go.IntKind.i64 0]) #[Go.Value.slice none 0 0, Go.Value.slice none 0 0, Go.Value.int Go.IntKind.i64 0] := ⟨Tryz.zeroValue162, rfl⟩
instance ty163 : Ty Tryz.prog 163 (Go.TypeDesc.struct #[{ name := "R16", type := 160, offset := 0, embedded := false, tag := "", pkgPath := "", byteOffset := 0 }, { name := "R32", type := 161, offset := 1, embedded := false, tag := "", pkgPath := "", byteOffset := 24 }, { name := "LatinOffset", type := 3, offset := 2, embedded := false, tag := "", pkgPath := "", byteOffset := 48 }]) 3 true := ⟨Tryz.underlying163, Tryz.isAgg163, Tryz.sizeOf163⟩
instance zero163 : Zero Tryz.prog 163 (Go.Value.agg #[Go.Value.slice none 0 0, Go.Value.slice none 0 0, Go.Value.int Go.IntKind.i64 0]) #[Go.Value.slice none 0 0, Go.Value.slice none 0 0, Go.Value.int Go.IntKind.i64 0] := ⟨Tryz.zeroValue163, rfl⟩
instance ty164 : Ty Tryz.prog 164 (Go.TypeDesc.int Go.IntKind.u16) 1 false := ⟨Tryz.underlying164, Tryz.isAgg164, Tryz.sizeOf164⟩
instance zero164 : Zero Tryz.prog 164 (Go.Value.int Go.IntKind.u16 0) #[Go.Value.int Go.IntKind.u16 0] := ⟨Tryz.zeroValue164, rfl⟩
instance ty165 : Ty Tryz.prog 165 (Go.TypeDesc.struct #[{ name := "Lo", type := 164, offset := 0, embedded := false, tag := "", pkgPath := "", byteOffset := 0 }, { name := "Hi", type := 164, offset := 1, embedded := false, tag := "", pkgPath := "", byteOffset := 2 }, { name := "Stride", type := 164, offset := 2, embedded := false, tag := "", pkgPath := "", byteOffset := 4 }]) 3 true := ⟨Tryz.underlying165, Tryz.isAgg165, Tryz.sizeOf165⟩
instance zero165 : Zero Tryz.prog 165 (Go.Value.agg #[Go.Value.int Go.IntKind.u16 0, Go.Value.int Go.IntKind.u16 0, Go.Value.int Go.IntKind.u16 0]) #[Go.Value.int Go.IntKind.u16 0, Go.Value.int Go.IntKind.u16 0, Go.Value.int Go.IntKind.u16 0] := ⟨Tryz.zeroValue165, rfl⟩
instance ty166 : Ty Tryz.prog 166 (Go.TypeDesc.struct #[{ name := "Lo", type := 164, offset := 0, embedded := false, tag := "", pkgPath := "", byteOffset := 0 }, { name := "Hi", type := 164, offset := 1, embedded := false, tag := "", pkgPath := "", byteOffset := 2 }, { name := "Stride", type := 164, offset := 2, embedded := false, tag := "", pkgPath := "", byteOffset := 4 }]) 3 true := ⟨Tryz.underlying166, Tryz.isAgg166, Tryz.sizeOf166⟩
instance zero166 : Zero Tryz.prog 166 (Go.Value.agg #[Go.Value.int Go.IntKind.u16 0, Go.Value.int Go.IntKind.u16 0, Go.Value.int Go.IntKind.u16 0]) #[Go.Value.int Go.IntKind.u16 0, Go.Value.int Go.IntKind.u16 0, Go.Value.int Go.IntKind.u16 0] := ⟨Tryz.zeroValue166, rfl⟩
instance ty167 : Ty Tryz.prog 167 (Go.TypeDesc.func #[160, 164] #[4] false) 1 false := ⟨Tryz.underlying167, Tryz.isAgg167, Tryz.sizeOf167⟩
instance zero167 : Zero Tryz.prog 167 (Go.Value.nilFunc) #[Go.Value.nilFunc] := ⟨Tryz.zeroValue167, rfl⟩
instance ty168 : Ty Tryz.prog 168 (Go.TypeDesc.struct #[{ name := "Lo", type := 142, offset := 0, embedded := false, tag := "", pkgPath := "", byteOffset := 0 }, { name := "Hi", type := 142, offset := 1, embedded := false, tag := "", pkgPath := "", byteOffset := 4 }, { name := "Stride", type := 142, offset := 2, embedded := false, tag := "", pkgPath := "", byteOffset := 8 }]) 3 true := ⟨Tryz.underlying168, Tryz.isAgg168, Tryz.sizeOf168⟩
instance zero168 : Zero Tryz.prog 168 (Go.Value.agg #[Go.Value.int Go.IntKind.u32 0, Go.Value.int Go.IntKind.u32 0, Go.Value.int Go.IntKind.u32 0]) #[Go.Value.int Go.IntKind.u32 0, Go.Value.int Go.IntKind.u32 0, Go.Value.int Go.IntKind.u32 0] := ⟨Tryz.zeroValue168, rfl⟩
instance ty169 : Ty Tryz.prog 169 (Go.TypeDesc.struct #[{ name := "Lo", type := 142, offset := 0, embedded := false, tag := "", pkgPath := "", byteOffset := 0 }, { name := "Hi", type := 142, offset := 1, embedded := false, tag := "", pkgPath := "", byteOffset := 4 }, { name := "Stride", type := 142, offset := 2, embedded := false, tag := "", pkgPath := "", byteOffset := 8 }]) 3 true := ⟨Tryz.underlying169, Tryz.isAgg169, Tryz.sizeOf169⟩
instance zero169 : Zero Tryz.prog 169 (Go.Value.agg #[Go.Value.int Go.IntKind.u32 0, Go.Value.int Go.IntKind.u32 0, Go.Value.int Go.IntKind.u32 0]) #[Go.Value.int Go.IntKind.u32 0, Go.Value.int Go.IntKind.u32 0, Go.Value.int Go.IntKind.u32 0] := ⟨Tryz.zeroValue169, rfl⟩
instance ty170 : Ty Tryz.prog 170 (Go.TypeDesc.func #[161, 142] #[4] false) 1 false := ⟨Tryz.underlying170, Tryz.isAgg170, Tryz.sizeOf170⟩
instance zero170 : Zero Tryz.prog 170 (Go.Value.nilFunc) #[Go.Value.nilFunc] := ⟨Tryz.zeroValue170, rfl⟩
instance ty171 : Ty Tryz.prog 171 (Go.TypeDesc.func #[25, 3] #[63, 3, 36] false) 1 false := ⟨Tryz.underlying171, Tryz.isAgg171, Tryz.sizeOf171⟩
instance zero171 : Zero Tryz.prog 171 (Go.Value.nilFunc) #[Go.Value.nilFunc] := ⟨Tryz.zeroValue171, rfl⟩
instance ty172 : Ty Tryz.prog 172 (Go.TypeDesc.func #[3] #[3] false) 1 false := ⟨Tryz.underlying172, Tryz.isAgg172, Tryz.sizeOf172⟩
instance zero172 : Zero Tryz.prog 172 (Go.Value.nilFunc) #[Go.Value.nilFunc] := ⟨Tryz.zeroValue172, rfl⟩
instance ty173 : Ty Tryz.prog 173 (Go.TypeDesc.func #[9, 3] #[46] false) 1 false := ⟨Tryz.underlying173, Tryz.isAgg173, Tryz.sizeOf173⟩
instance zero173 : Zero Tryz.prog 173 (Go.Value.nilFunc) #[Go.Value.nilFunc] := ⟨Tryz.zeroValue173, rfl⟩
instance ty174 : Ty Tryz.prog 174 (Go.TypeDesc.int Go.IntKind.i64) 1 false := ⟨Tryz.underlying174, Tryz.isAgg174, Tryz.sizeOf174⟩
instance zero174 : Zero Tryz.prog 174 (Go.Value.int Go.IntKind.i64 0) #[Go.Value.int Go.IntKind.i64 0] := ⟨Tryz.zeroValue174, rfl⟩
instance ty175 : Ty Tryz.prog 175 (Go.TypeDesc.tuple #[2, 82]) 1 false := ⟨Tryz.underlying175, Tryz.isAgg175, Tryz.sizeOf175⟩
instance zero175 : Zero Tryz.prog 175 (Go.Value.tuple #[Go.Value.int Go.IntKind.i64 0, Go.Value.nilIface]) #[Go.Value.tuple #[Go.Value.int Go.IntKind.i64 0, Go.Value.nilIface]] := ⟨Tryz.zeroValue175, rfl⟩
instance ty176 : Ty Tryz.prog 176 (Go.TypeDesc.func #[9, 3, 3] #[2, 82] false) 1 false := ⟨Tryz.underlying176, Tryz.isAgg176, Tryz.sizeOf176⟩
instance zero176 : Zero Tryz.prog 176 (Go.Value.nilFunc) #[Go.Value.nilFunc] := ⟨Tryz.zeroValue176, rfl⟩
instance ty177 : Ty Tryz.prog 177 (Go.TypeDesc.pointer 196) 1 false := ⟨Tryz.underlying177, Tryz.isAgg177, Tryz.sizeOf177⟩
instance zero177 : Zero Tryz.prog 177 (Go.Value.pointer none) #[Go.Value.pointer none] := ⟨Tryz.zeroValue177, rfl⟩
instance ty178 : Ty Tryz.prog 178 (Go.TypeDesc.func #[9, 9] #[177] false) 1 false := ⟨Tryz.underlying178, Tryz.isAgg178, Tryz.sizeOf178⟩
instance zero178 : Zero Tryz.prog 178 (Go.Value.nilFunc) #[Go.Value.nilFunc] := ⟨Tryz.zeroValue178, rfl⟩
instance ty179 : Ty Tryz.prog 179 (Go.TypeDesc.func #[9, 9, 3] #[177] false) 1 false := ⟨Tryz.underlying179, Tryz.isAgg179, Tryz.sizeOf179⟩
instance zero179 : Zero Tryz.prog 179 (Go.Value.nilFunc) #[Go.Value.nilFunc] := ⟨Tryz.zeroValue179, rfl⟩
instance ty180 : Ty Tryz.prog 180 (Go.TypeDesc.func #[5] #[4] false) 1 false := ⟨Tryz.underlying180, Tryz.isAgg180, Tryz.sizeOf180⟩
instance zero180 : Zero Tryz.prog 180 (Go.Value.nilFunc) #[Go.Value.nilFunc] := ⟨Tryz.zeroValue180, rfl⟩
instance ty181 : Ty Tryz.prog 181 (Go.TypeDesc.func #[4] #[3] false) 1 false := ⟨Tryz.underlying181, Tryz.isAgg181, Tryz.sizeOf181⟩
instance zero181 : Zero Tryz.prog 181 (Go.Value.nilFunc) #[Go.Value.nilFunc] := ⟨Tryz.zeroValue181, rfl⟩
instance ty182 : Ty Tryz.prog 182 (Go.TypeDesc.array 20 63) 20 true := ⟨Tryz.underlying182, Tryz.isAgg182, Tryz.sizeOf182⟩
instance zero182 : Zero Tryz.prog 182 (Go.Value.agg #[Go.Value.int Go.IntKind.u64 0, Go.Value.int Go.IntKind.u64 0, Go.Value.int Go.IntKind.u64 0, Go.Value.int Go.IntKind.u64 0, Go.Value.int Go.IntKind.u64 0, Go.Value.int Go.IntKind.u64 0, Go.Value.int Go.IntKind.u64 0, Go.Value.int Go.IntKind.u64 0, Go.Value.int Go.IntKind.u64 0, Go.Value.int Go.IntKind.u64 0, Go.Value.int Go.IntKind.u64 0, Go.Value.int Go.IntKind.u64 0, Go.Value.int Go.IntKind.u64 0, Go.Value.int Go.IntKind.u64 0, Go.Value.int Go.IntKind.u64 0, Go.Value.int Go.IntKind.u64 0, Go.Value.int Go.IntKind.u64 0, Go.Value.int Go.IntKind.u64 0, Go.Value.int Go.IntKind.u64 0, Go.Value.int Go.IntKind.u64 0]) #[Go.Value.int Go.IntKind.u64 0, Go.Value.int Go.IntKind.u64 0, Go.Value.int Go.IntKind.u64 0, Go.Value.int Go.IntKind.u64 0, Go.Value.int Go.IntKind.u64 0, Go.Value.int Go.IntKind.u64 0, Go.Value.int Go.IntKind.u64 0, Go.Value.int Go.IntKind.u64 0, Go.Value.int Go.IntKind.u64 0, Go.Value.int Go.IntKind.u64 0, Go.Value.int Go.IntKind.u64 0, Go.Value.int Go.IntKind.u64 0, Go.Value.int Go.IntKind.u64 0, Go.Value.int Go.IntKind.u64 0, Go.Value.int Go.IntKind.u64 0, Go.Value.int Go.IntKind.u64 0, Go.Value.int Go.IntKind.u64 0, Go.Value.int Go.IntKind.u64 0, Go.Value.int Go.IntKind.u64 0, Go.Value.int Go.IntKind.u64 0] := ⟨Tryz.zeroValue182, rfl⟩
instance ty183 : Ty Tryz.prog 183 (Go.TypeDesc.array 65 5) 65 true := ⟨Tryz.underlying183, Tryz.isAgg183, Tryz.sizeOf183⟩
instance zero183 : Zero Tryz.prog 183 (Go.Value.agg Go.Proofs.Tryz.zeroCells183) Go.Proofs.Tryz.zeroCells183 := ⟨Tryz.zeroValue183, rfl⟩
instance ty184 : Ty Tryz.prog 184 (Go.TypeDesc.func #[107] #[3] false) 1 false := ⟨Tryz.underlying184, Tryz.isAgg184, Tryz.sizeOf184⟩
instance zero184 : Zero Tryz.prog 184 (Go.Value.nilFunc) #[Go.Value.nilFunc] := ⟨Tryz.zeroValue184, rfl⟩
instance ty185 : Ty Tryz.prog 185 (Go.TypeDesc.func #[3] #[78] false) 1 false := ⟨Tryz.underlying185, Tryz.isAgg185, Tryz.sizeOf185⟩
instance zero185 : Zero Tryz.prog 185 (Go.Value.nilFunc) #[Go.Value.nilFunc] := ⟨Tryz.zeroValue185, rfl⟩
instance ty186 : Ty Tryz.prog 186 (Go.TypeDesc.pointer 166) 1 false := ⟨Tryz.underlying186, Tryz.isAgg186, Tryz.sizeOf186⟩
instance zero186 : Zero Tryz.prog 186 (Go.Value.pointer none) #[Go.Value.pointer none] := ⟨Tryz.zeroValue186, rfl⟩
instance ty187 : Ty Tryz.prog 187 (Go.TypeDesc.pointer 169) 1 false := ⟨Tryz.underlying187, Tryz.isAgg187, Tryz.sizeOf187⟩
instance zero187 : Zero Tryz.prog 187 (Go.Value.pointer none) #[Go.Value.pointer none] := ⟨Tryz.zeroValue187, rfl⟩
instance ty188 : Ty Tryz.prog 188 (Go.TypeDesc.tuple #[142, 142]) 1 false := ⟨Tryz.underlying188, Tryz.isAgg188, Tryz.sizeOf188⟩
instance zero188 : Zero Tryz.prog 188 (Go.Value.tuple #[Go.Value.int Go.IntKind.u32 0, Go.Value.int Go.IntKind.u32 0]) #[Go.Value.tuple #[Go.Value.int Go.IntKind.u32 0, Go.Value.int Go.IntKind.u32 0]] := ⟨Tryz.zeroValue188, rfl⟩
instance ty189 : Ty Tryz.prog 189 (Go.TypeDesc.func #[9] #[142, 142] false) 1 false := ⟨Tryz.underlying189, Tryz.isAgg189, Tryz.sizeOf189⟩
instance zero189 : Zero Tryz.prog 189 (Go.Value.nilFunc) #[Go.Value.nilFunc] := ⟨Tryz.zeroValue189, rfl⟩
instance ty190 : Ty Tryz.prog 190 (Go.TypeDesc.func #[9] #[3] false) 1 false := ⟨Tryz.underlying190, Tryz.isAgg190, Tryz.sizeOf190⟩
instance zero190 : Zero Tryz.prog 190 (Go.Value.nilFunc) #[Go.Value.nilFunc] := ⟨Tryz.zeroValue190, rfl⟩
instance ty191 : Ty Tryz.prog 191 (Go.TypeDesc.tuple #[21, 3]) 1 false := ⟨Tryz.underlying191, Tryz.isAgg191, Tryz.sizeOf191⟩
instance zero191 : Zero Tryz.prog 191 (Go.Value.tuple #[Go.Value.int Go.IntKind.i32 0, Go.Value.int Go.IntKind.i64 0]) #[Go.Value.tuple #[Go.Value.int Go.IntKind.i32 0, Go.Value.int Go.IntKind.i64 0]] := ⟨Tryz.zeroValue191, rfl⟩
instance ty192 : Ty Tryz.prog 192 (Go.TypeDesc.func #[9] #[21, 3] false) 1 false := ⟨Tryz.underlying192, Tryz.isAgg192, Tryz.sizeOf192⟩
instance zero192 : Zero Tryz.prog 192 (Go.Value.nilFunc) #[Go.Value.nilFunc] := ⟨Tryz.zeroValue192, rfl⟩
instance ty193 : Ty Tryz.prog 193 (Go.TypeDesc.tuple #[63, 82]) 1 false := ⟨Tryz.underlying193, Tryz.isAgg193, Tryz.sizeOf193⟩
instance zero193 : Zero Tryz.prog 193 (Go.Value.tuple #[Go.Value.int Go.IntKind.u64 0, Go.Value.nilIface]) #[Go.Value.tuple #[Go.Value.int Go.IntKind.u64 0, Go.Value.nilIface]] := ⟨Tryz.zeroValue193, rfl⟩
instance ty194 : Ty Tryz.prog 194 (Go.TypeDesc.func #[9, 3, 3] #[63, 82] false) 1 false := ⟨Tryz.underlying194, Tryz.isAgg194, Tryz.sizeOf194⟩
instance zero194 : Zero Tryz.prog 194 (Go.Value.nilFunc) #[Go.Value.nilFunc] := ⟨Tryz.zeroValue194, rfl⟩
instance ty195 : Ty Tryz.prog 195 (Go.TypeDesc.struct #[{ name := "Func", type := 9, offset := 0, embedded := false, tag := "", pkgPath := "", byteOffset := 0 }, { name := "Num", type := 9, offset := 1, embedded := false, tag := "", pkgPath := "", byteOffset := 16 }, { name := "Err", type := 82, offset := 2, embedded := false, tag := "", pkgPath := "", byteOffset := 32 }]) 3 true := ⟨Tryz.underlying195, Tryz.isAgg195, Tryz.sizeOf195⟩
instance zero195 : Zero Tryz.prog 195 (Go.Value.agg #[Go.Value.string { data := #[] }, Go.Value.string { data := #[] }, Go.Value.nilIface]) #[Go.Value.string { data := #[] }, Go.Value.string { data := #[] }, Go.Value.nilIface] := ⟨Tryz.zeroValue195, rfl⟩
instance ty196 : Ty Tryz.prog 196 (Go.TypeDesc.struct #[{ name := "Func", type := 9, offset := 0, embedded := false, tag := "", pkgPath := "", byteOffset := 0 }, { name := "Num", type := 9, offset := 1, embedded := false, tag := "", pkgPath := "", byteOffset := 16 }, { name := "Err", type := 82, offset := 2, embedded := false, tag := "", pkgPath := "", byteOffset := 32 }]) 3 true := ⟨Tryz.underlying196, Tryz.isAgg196, Tryz.sizeOf196⟩
instance zero196 : Zero Tryz.prog 196 (Go.Value.agg #[Go.Value.string { data := #[] }, Go.Value.string { data := #[] }, Go.Value.nilIface]) #[Go.Value.string { data := #[] }, Go.Value.string { data := #[] }, Go.Value.nilIface] := ⟨Tryz.zeroValue196, rfl⟩
instance ty197 : Ty Tryz.prog 197 (Go.TypeDesc.func #[9] #[82] false) 1 false := ⟨Tryz.underlying197, Tryz.isAgg197, Tryz.sizeOf197⟩
instance zero197 : Zero Tryz.prog 197 (Go.Value.nilFunc) #[Go.Value.nilFunc] := ⟨Tryz.zeroValue197, rfl⟩
instance ty198 : Ty Tryz.prog 198 (Go.TypeDesc.func #[142] #[3] false) 1 false := ⟨Tryz.underlying198, Tryz.isAgg198, Tryz.sizeOf198⟩
instance zero198 : Zero Tryz.prog 198 (Go.Value.nilFunc) #[Go.Value.nilFunc] := ⟨Tryz.zeroValue198, rfl⟩
instance ty199 : Ty Tryz.prog 199 (Go.TypeDesc.func #[5] #[5] false) 1 false := ⟨Tryz.underlying199, Tryz.isAgg199, Tryz.sizeOf199⟩
instance zero199 : Zero Tryz.prog 199 (Go.Value.nilFunc) #[Go.Value.nilFunc] := ⟨Tryz.zeroValue199, rfl⟩
instance ty200 : Ty Tryz.prog 200 (Go.TypeDesc.func #[9] #[4] false) 1 false := ⟨Tryz.underlying200, Tryz.isAgg200, Tryz.sizeOf200⟩
instance zero200 : Zero Tryz.prog 200 (Go.Value.nilFunc) #[Go.Value.nilFunc] := ⟨Tryz.zeroValue200, rfl⟩
instance ty201 : Ty Tryz.prog 201 (Go.TypeDesc.pointer 203) 1 false := ⟨Tryz.underlying201, Tryz.isAgg201, Tryz.sizeOf201⟩
instance zero201 : Zero Tryz.prog 201 (Go.Value.pointer none) #[Go.Value.pointer none] := ⟨Tryz.zeroValue201, rfl⟩
instance ty202 : Ty Tryz.prog 202 (Go.TypeDesc.struct #[{ name := "s", type := 9, offset := 0, embedded := false, tag := "", pkgPath := "errors", byteOffset := 0 }]) 1 true := ⟨Tryz.underlying202, Tryz.isAgg202, Tryz.sizeOf202⟩
instance zero202 : Zero Tryz.prog 202 (Go.Value.agg #[Go.Value.string { data := #[] }]) #[Go.Value.string { data := #[] }] := ⟨Tryz.zeroValue202, rfl⟩
instance ty203 : Ty Tryz.prog 203 (Go.TypeDesc.struct #[{ name := "s", type := 9, offset := 0, embedded := false, tag := "", pkgPath := "errors", byteOffset := 0 }]) 1 true := ⟨Tryz.underlying203, Tryz.isAgg203, Tryz.sizeOf203⟩
instance zero203 : Zero Tryz.prog 203 (Go.Value.agg #[Go.Value.string { data := #[] }]) #[Go.Value.string { data := #[] }] := ⟨Tryz.zeroValue203, rfl⟩
instance ty204 : Ty Tryz.prog 204 (Go.TypeDesc.array 32 5) 32 true := ⟨Tryz.underlying204, Tryz.isAgg204, Tryz.sizeOf204⟩
instance zero204 : Zero Tryz.prog 204 (Go.Value.agg #[Go.Value.int Go.IntKind.u8 0, Go.Value.int Go.IntKind.u8 0, Go.Value.int Go.IntKind.u8 0, Go.Value.int Go.IntKind.u8 0, Go.Value.int Go.IntKind.u8 0, Go.Value.int Go.IntKind.u8 0, Go.Value.int Go.IntKind.u8 0, Go.Value.int Go.IntKind.u8 0, Go.Value.int Go.IntKind.u8 0, Go.Value.int Go.IntKind.u8 0, Go.Value.int Go.IntKind.u8 0, Go.Value.int Go.IntKind.u8 0, Go.Value.int Go.IntKind.u8 0, Go.Value.int Go.IntKind.u8 0, Go.Value.int Go.IntKind.u8 0, Go.Value.int Go.IntKind.u8 0, Go.Value.int Go.IntKind.u8 0, Go.Value.int Go.IntKind.u8 0, Go.Value.int Go.IntKind.u8 0, Go.Value.int Go.IntKind.u8 0, Go.Value.int Go.IntKind.u8 0, Go.Value.int Go.IntKind.u8 0, Go.Value.int Go.IntKind.u8 0, Go.Value.int Go.IntKind.u8 0, Go.Value.int Go.IntKind.u8 0, Go.Value.int Go.IntKind.u8 0, Go.Value.int Go.IntKind.u8 0, Go.Value.int Go.IntKind.u8 0, Go.Value.int Go.IntKind.u8 0, Go.Value.int Go.IntKind.u8 0, Go.Value.int Go.IntKind.u8 0, Go.Value.int Go.IntKind.u8 0]) #[Go.Value.int Go.IntKind.u8 0, Go.Value.int Go.IntKind.u8 0, Go.Value.int Go.IntKind.u8 0, Go.Value.int Go.IntKind.u8 0, Go.Value.int Go.IntKind.u8 0, Go.Value.int Go.IntKind.u8 0, Go.Value.int Go.IntKind.u8 0, Go.Value.int Go.IntKind.u8 0, Go.Value.int Go.IntKind.u8 0, Go.Value.int Go.IntKind.u8 0, Go.Value.int Go.IntKind.u8 0, Go.Value.int Go.IntKind.u8 0, Go.Value.int Go.IntKind.u8 0, Go.Value.int Go.IntKind.u8 0, Go.Value.int Go.IntKind.u8 0, Go.Value.int Go.IntKind.u8 0, Go.Value.int Go.IntKind.u8 0, Go.Value.int Go.IntKind.u8 0, Go.Value.int Go.IntKind.u8 0, Go.Value.int Go.IntKind.u8 0, Go.Value.int Go.IntKind.u8 0, Go.Value.int Go.IntKind.u8 0, Go.Value.int Go.IntKind.u8 0, Go.Value.int Go.IntKind.u8 0, Go.Value.int Go.IntKind.u8 0, Go.Value.int Go.IntKind.u8 0, Go.Value.int Go.IntKind.u8 0, Go.Value.int Go.IntKind.u8 0, Go.Value.int Go.IntKind.u8 0, Go.Value.int Go.IntKind.u8 0, Go.Value.int Go.IntKind.u8 0, Go.Value.int Go.IntKind.u8 0] := ⟨Tryz.zeroValue204, rfl⟩
instance ty205 : Ty Tryz.prog 205 (Go.TypeDesc.array 64 5) 64 true := ⟨Tryz.underlying205, Tryz.isAgg205, Tryz.sizeOf205⟩
instance zero205 : Zero Tryz.prog 205 (Go.Value.agg #[Go.Value.int Go.IntKind.u8 0, Go.Value.int Go.IntKind.u8 0, Go.Value.int Go.IntKind.u8 0, Go.Value.int Go.IntKind.u8 0, Go.Value.int Go.IntKind.u8 0, Go.Value.int Go.IntKind.u8 0, Go.Value.int Go.IntKind.u8 0, Go.Value.int Go.IntKind.u8 0, Go.Value.int Go.IntKind.u8 0, Go.Value.int Go.IntKind.u8 0, Go.Value.int Go.IntKind.u8 0, Go.Value.int Go.IntKind.u8 0, Go.Value.int Go.IntKind.u8 0, Go.Value.int Go.IntKind.u8 0, Go.Value.int Go.IntKind.u8 0, Go.Value.int Go.IntKind.u8 0, Go.Value.int Go.IntKind.u8 0, Go.Value.int Go.IntKind.u8 0, Go.Value.int Go.IntKind.u8 0, Go.Value.int Go.IntKind.u8 0, Go.Value.int Go.IntKind.u8 0, Go.Value.int Go.IntKind.u8 0, Go.Value.int Go.IntKind.u8 0, Go.Value.int Go.IntKind.u8 0, Go.Value.int Go.IntKind.u8 0, Go.Value.int Go.IntKind.u8 0, Go.Value.int Go.IntKind.u8 0, Go.Value.int Go.IntKind.u8 0, Go.Value.int Go.IntKind.u8 0, Go.Value.int Go.IntKind.u8 0, Go.Value.int Go.IntKind.u8 0, Go.Value.int Go.IntKind.u8 0, Go.Value.int Go.IntKind.u8 0, Go.Value.int Go.IntKind.u8 0, Go.Value.int Go.IntKind.u8 0, Go.Value.int Go.IntKind.u8 0, Go.Value.int Go.IntKind.u8 0, Go.Value.int Go.IntKind.u8 0, Go.Value.int Go.IntKind.u8 0, Go.Value.int Go.IntKind.u8 0, Go.Value.int Go.IntKind.u8 0, Go.Value.int Go.IntKind.u8 0, Go.Value.int Go.IntKind.u8 0, Go.Value.int Go.IntKind.u8 0, Go.Value.int Go.IntKind.u8 0, Go.Value.int Go.IntKind.u8 0, Go.Value.int Go.IntKind.u8 0, Go.Value.int Go.IntKind.u8 0, Go.Value.int Go.IntKind.u8 0, Go.Value.int Go.IntKind.u8 0, Go.Value.int Go.IntKind.u8 0, Go.Value.int Go.IntKind.u8 0, Go.Value.int Go.IntKind.u8 0, Go.Value.int Go.IntKind.u8 0, Go.Value.int Go.IntKind.u8 0, Go.Value.int Go.IntKind.u8 0, Go.Value.int Go.IntKind.u8 0, Go.Value.int Go.IntKind.u8 0, Go.Value.int Go.IntKind.u8 0, Go.Value.int Go.IntKind.u8 0, Go.Value.int Go.IntKind.u8 0, Go.Value.int Go.IntKind.u8 0, Go.Value.int Go.IntKind.u8 0, Go.Value.int Go.IntKind.u8 0]) #[Go.Value.int Go.IntKind.u8 0, Go.Value.int Go.IntKind.u8 0, Go.Value.int Go.IntKind.u8 0, Go.Value.int Go.IntKind.u8 0, Go.Value.int Go.IntKind.u8 0, Go.Value.int Go.IntKind.u8 0, Go.Value.int Go.IntKind.u8 0, Go.Value.int Go.IntKind.u8 0, Go.Value.int Go.IntKind.u8 0, Go.Value.int Go.IntKind.u8 0, Go.Value.int Go.IntKind.u8 0, Go.Value.int Go.IntKind.u8 0, Go.Value.int Go.IntKind.u8 0, Go.Value.int Go.IntKind.u8 0, Go.Value.int Go.IntKind.u8 0, Go.Value.int Go.IntKind.u8 0, Go.Value.int Go.IntKind.u8 0, Go.Value.int Go.IntKind.u8 0, Go.Value.int Go.IntKind.u8 0, Go.Value.int Go.IntKind.u8 0, Go.Value.int Go.IntKind.u8 0, Go.Value.int Go.IntKind.u8 0, Go.Value.int Go.IntKind.u8 0, Go.Value.int Go.IntKind.u8 0, Go.Value.int Go.IntKind.u8 0, Go.Value.int Go.IntKind.u8 0, Go.Value.int Go.IntKind.u8 0, Go.Value.int Go.IntKind.u8 0, Go.Value.int Go.IntKind.u8 0, Go.Value.int Go.IntKind.u8 0, Go.Value.int Go.IntKind.u8 0, Go.Value.int Go.IntKind.u8 0, Go.Value.int Go.IntKind.u8 0, Go.Value.int Go.IntKind.u8 0, Go.Value.int Go.IntKind.u8 0, Go.Value.int Go.IntKind.u8 0, Go.Value.int Go.IntKind.u8 0, Go.Value.int Go.IntKind.u8 0, Go.Value.int Go.IntKind.u8 0, Go.Value.int Go.IntKind.u8 0, Go.Value.int Go.IntKind.u8 0, Go.Value.int Go.IntKind.u8 0, Go.Value.int Go.IntKind.u8 0, Go.Value.int Go.IntKind.u8 0, Go.Value.int Go.IntKind.u8 0, Go.Value.int Go.IntKind.u8 0, Go.Value.int Go.IntKind.u8 0, Go.Value.int Go.IntKind.u8 0, Go.Value.int Go.IntKind.u8 0, Go.Value.int Go.IntKind.u8 0, Go.Value.int Go.IntKind.u8 0, Go.Value.int Go.IntKind.u8 0, Go.Value.int Go.IntKind.u8 0, Go.Value.int Go.IntKind.u8 0, Go.Value.int Go.IntKind.u8 0, Go.Value.int Go.IntKind.u8 0, Go.Value.int Go.IntKind.u8 0, Go.Value.int Go.IntKind.u8 0, Go.Value.int Go.IntKind.u8 0, Go.Value.int Go.IntKind.u8 0, Go.Value.int Go.IntKind.u8 0, Go.Value.int Go.IntKind.u8 0, Go.Value.int Go.IntKind.u8 0, Go.Value.int Go.IntKind.u8 0] := ⟨Tryz.zeroValue205, rfl⟩
instance ty206 : Ty Tryz.prog 206 (Go.TypeDesc.struct #[{ name := "lo", type := 5, offset := 0, embedded := false, tag := "", pkgPath := "unicode/utf8", byteOffset := 0 }, { name := "hi", type := 5, offset := 1, embedded := false, tag := "", pkgPath := "unicode/utf8", byteOffset := 1 }]) 2 true := ⟨Tryz.underlying206, Tryz.isAgg206, Tryz.sizeOf206⟩
instance zero206 : Zero Tryz.prog 206 (Go.Value.agg #[Go.Value.int Go.IntKind.u8 0, Go.Value.int Go.IntKind.u8 0]) #[Go.Value.int Go.IntKind.u8 0, Go.Value.int Go.IntKind.u8 0] := ⟨Tryz.zeroValue206, rfl⟩
instance ty207 : Ty Tryz.prog 207 (Go.TypeDesc.struct #[{ name := "lo", type := 5, offset := 0, embedded := false, tag := "", pkgPath := "unicode/utf8", byteOffset := 0 }, { name := "hi", type := 5, offset := 1, embedded := false, tag := "", pkgPath := "unicode/utf8", byteOffset := 1 }]) 2 true := ⟨Tryz.underlying207, Tryz.isAgg207, Tryz.sizeOf207⟩
instance zero207 : Zero Tryz.prog 207 (Go.Value.agg #[Go.Value.int Go.IntKind.u8 0, Go.Value.int Go.IntKind.u8 0]) #[Go.Value.int Go.IntKind.u8 0, Go.Value.int Go.IntKind.u8 0] := ⟨Tryz.zeroValue207, rfl⟩
instance ty208 : Ty Tryz.prog 208 (Go.TypeDesc.array 16 207) 32 true := ⟨Tryz.underlying208, Tryz.isAgg208, Tryz.sizeOf208⟩
instance zero208 : Zero Tryz.prog 208 (Go.Value.agg #[Go.Value.int Go.IntKind.u8 0, Go.Value.int Go.IntKind.u8 0, Go.Value.int Go.IntKind.u8 0, Go.Value.int Go.IntKind.u8 0, Go.Value.int Go.IntKind.u8 0, Go.Value.int Go.IntKind.u8 0, Go.Value.int Go.IntKind.u8 0, Go.Value.int Go.IntKind.u8 0, Go.Value.int Go.IntKind.u8 0, Go.Value.int Go.IntKind.u8 0, Go.Value.int Go.IntKind.u8 0, Go.Value.int Go.IntKind.u8 0, Go.Value.int Go.IntKind.u8 0, Go.Value.int Go.IntKind.u8 0, Go.Value.int Go.IntKind.u8 0, Go.Value.int Go.IntKind.u8 0, Go.Value.int Go.IntKind.u8 0, Go.Value.int Go.IntKind.u8 0, Go.Value.int Go.IntKind.u8 0, Go.Value.int Go.IntKind.u8 0, Go.Value.int Go.IntKind.u8 0, Go.Value.int Go.IntKind.u8 0, Go.Value.int Go.IntKind.u8 0, Go.Value.int Go.IntKind.u8 0, Go.Value.int Go.IntKind.u8 0, Go.Value.int Go.IntKind.u8 0, Go.Value.int Go.IntKind.u8 0, Go.Value.int Go.IntKind.u8 0, Go.Value.int Go.IntKind.u8 0, Go.Value.int Go.IntKind.u8 0, Go.Value.int Go.IntKind.u8 0, Go.Value.int Go.IntKind.u8 0]) #[Go.Value.int Go.IntKind.u8 0, Go.Value.int Go.IntKind.u8 0, Go.Value.int Go.IntKind.u8 0, Go.Value.int Go.IntKind.u8 0, Go.Value.int Go.IntKind.u8 0, Go.Value.int Go.IntKind.u8 0, Go.Value.int Go.IntKind.u8 0, Go.Value.int Go.IntKind.u8 0, Go.Value.int Go.IntKind.u8 0, Go.Value.int Go.IntKind.u8 0, Go.Value.int Go.IntKind.u8 0, Go.Value.int Go.IntKind.u8 0, Go.Value.int Go.IntKind.u8 0, Go.Value.int Go.IntKind.u8 0, Go.Value.int Go.IntKind.u8 0, Go.Value.int Go.IntKind.u8 0, Go.Value.int Go.IntKind.u8 0, Go.Value.int Go.IntKind.u8 0, Go.Value.int Go.IntKind.u8 0, Go.Value.int Go.IntKind.u8 0, Go.Value.int Go.IntKind.u8 0, Go.Value.int Go.IntKind.u8 0, Go.Value.int Go.IntKind.u8 0, Go.Value.int Go.IntKind.u8 0, Go.Value.int Go.IntKind.u8 0, Go.Value.int Go.IntKind.u8 0, Go.Value.int Go.IntKind.u8 0, Go.Value.int Go.IntKind.u8 0, Go.Value.int Go.IntKind.u8 0, Go.Value.int Go.IntKind.u8 0, Go.Value.int Go.IntKind.u8 0, Go.Value.int Go.IntKind.u8 0] := ⟨Tryz.zeroValue208, rfl⟩
instance ty209 : Ty Tryz.prog 209 (Go.TypeDesc.struct #[{ name := "_interface", type := 17, offset := 0, embedded := false, tag := "", pkgPath := "runtime", byteOffset := 0 }, { name := "concrete", type := 17, offset := 1, embedded := false, tag := "", pkgPath := "runtime", byteOffset := 8 }, { name := "asserted", type := 17, offset := 2, embedded := false, tag := "", pkgPath := "runtime", byteOffset := 16 }, { name := "missingMethod", type := 9, offset := 3, embedded := false, tag := "", pkgPath := "runtime", byteOffset := 24 }]) 4 true := ⟨Tryz.underlying209, Tryz.isAgg209, Tryz.sizeOf209⟩
instance zero209 : Zero Tryz.prog 209 (Go.Value.agg #[Go.Value.pointer none, Go.Value.pointer none, Go.Value.pointer none, Go.Value.string { data := #[] }]) #[Go.Value.pointer none, Go.Value.pointer none, Go.Value.pointer none, Go.Value.string { data := #[] }] := ⟨Tryz.zeroValue209, rfl⟩
instance ty210 : Ty Tryz.prog 210 (Go.TypeDesc.struct #[{ name := "_interface", type := 17, offset := 0, embedded := false, tag := "", pkgPath := "runtime", byteOffset := 0 }, { name := "concrete", type := 17, offset := 1, embedded := false, tag := "", pkgPath := "runtime", byteOffset := 8 }, { name := "asserted", type := 17, offset := 2, embedded := false, tag := "", pkgPath := "runtime", byteOffset := 16 }, { name := "missingMethod", type := 9, offset := 3, embedded := false, tag := "", pkgPath := "runtime", byteOffset := 24 }]) 4 true := ⟨Tryz.underlying210, Tryz.isAgg210, Tryz.sizeOf210⟩
instance zero210 : Zero Tryz.prog 210 (Go.Value.agg #[Go.Value.pointer none, Go.Value.pointer none, Go.Value.pointer none, Go.Value.string { data := #[] }]) #[Go.Value.pointer none, Go.Value.pointer none, Go.Value.pointer none, Go.Value.string { data := #[] }] := ⟨Tryz.zeroValue210, rfl⟩
instance ty211 : Ty Tryz.prog 211 (Go.TypeDesc.array 0 16) 0 true := ⟨Tryz.underlying211, Tryz.isAgg211, Tryz.sizeOf211⟩
instance zero211 : Zero Tryz.prog 211 (Go.Value.agg #[]) #[] := ⟨Tryz.zeroValue211, rfl⟩
instance ty212 : Ty Tryz.prog 212 (Go.TypeDesc.struct #[{ name := "_", type := 211, offset := 0, embedded := false, tag := "", pkgPath := "runtime", byteOffset := 0 }]) 0 true := ⟨Tryz.underlying212, Tryz.isAgg212, Tryz.sizeOf212⟩
instance zero212 : Zero Tryz.prog 212 (Go.Value.agg #[]) #[] := ⟨Tryz.zeroValue212, rfl⟩
instance ty213 : Ty Tryz.prog 213 (Go.TypeDesc.struct #[{ name := "_", type := 211, offset := 0, embedded := false, tag := "", pkgPath := "runtime", byteOffset := 0 }]) 0 true := ⟨Tryz.underlying213, Tryz.isAgg213, Tryz.sizeOf213⟩
instance zero213 : Zero Tryz.prog 213 (Go.Value.agg #[]) #[] := ⟨Tryz.zeroValue213, rfl⟩
instance ty214 : Ty Tryz.prog 214 (Go.TypeDesc.int Go.IntKind.u8) 1 false := ⟨Tryz.underlying214, Tryz.isAgg214, Tryz.sizeOf214⟩
instance zero214 : Zero Tryz.prog 214 (Go.Value.int Go.IntKind.u8 0) #[Go.Value.int Go.IntKind.u8 0] := ⟨Tryz.zeroValue214, rfl⟩
instance ty215 : Ty Tryz.prog 215 (Go.TypeDesc.int Go.IntKind.u8) 1 false := ⟨Tryz.underlying215, Tryz.isAgg215, Tryz.sizeOf215⟩
instance zero215 : Zero Tryz.prog 215 (Go.Value.int Go.IntKind.u8 0) #[Go.Value.int Go.IntKind.u8 0] := ⟨Tryz.zeroValue215, rfl⟩
instance ty216 : Ty Tryz.prog 216 (Go.TypeDesc.func #[137, 137] #[4] false) 1 false := ⟨Tryz.underlying216, Tryz.isAgg216, Tryz.sizeOf216⟩
instance zero216 : Zero Tryz.prog 216 (Go.Value.nilFunc) #[Go.Value.nilFunc] := ⟨Tryz.zeroValue216, rfl⟩
instance ty217 : Ty Tryz.prog 217 (Go.TypeDesc.int Go.IntKind.i32) 1 false := ⟨Tryz.underlying217, Tryz.isAgg217, Tryz.sizeOf217⟩
instance zero217 : Zero Tryz.prog 217 (Go.Value.int Go.IntKind.i32 0) #[Go.Value.int Go.IntKind.i32 0] := ⟨Tryz.zeroValue217, rfl⟩
instance ty218 : Ty Tryz.prog 218 (Go.TypeDesc.int Go.IntKind.i32) 1 false := ⟨Tryz.underlying218, Tryz.isAgg218, Tryz.sizeOf218⟩
instance zero218 : Zero Tryz.prog 218 (Go.Value.int Go.IntKind.i32 0) #[Go.Value.int Go.IntKind.i32 0] := ⟨Tryz.zeroValue218, rfl⟩
instance ty219 : Ty Tryz.prog 219 (Go.TypeDesc.struct #[{ name := "Size_", type := 12, offset := 0, embedded := false, tag := "", pkgPath := "", byteOffset := 0 }, { name := "PtrBytes", type := 12, offset := 1, embedded := false, tag := "", pkgPath := "", byteOffset := 8 }, { name := "Hash", type := 142, offset := 2, embedded := false, tag := "", pkgPath := "", byteOffset := 16 }, { name := "TFlag", type := 214, offset := 3, embedded := false, tag := "", pkgPath := "", byteOffset := 20 }, { name := "Align_", type := 5, offset := 4, embedded := false, tag := "", pkgPath := "", byteOffset := 21 }, { name := "FieldAlign_", type := 5, offset := 5, embedded := false, tag := "", pkgPath := "", byteOffset := 22 }, { name := "Kind_", type := 215, offset := 6, embedded := false, tag := "", pkgPath := "", byteOffset := 23 }, { name := "Equal", type := 216, offset := 7, embedded := false, tag := "", pkgPath := "", byteOffset := 24 }, { name := "GCData", type := 109, offset := 8, embedded := false, tag := "", pkgPath := "", byteOffset := 32 }, { name := "Str", type := 217, offset := 9, embedded := false, tag := "", pkgPath := "", byteOffset := 40 }, { name := "PtrToThis", type := 218, offset := 10, embedded := false, tag := "", pkgPath := "", byteOffset := 44 }]) 11 true := ⟨Tryz.underlying219, Tryz.isAgg219, Tryz.sizeOf219⟩
instance zero219 : Zero Tryz.prog 219 (Go.Value.agg #[Go.Value.int Go.IntKind.u64 0, Go.Value.int Go.IntKind.u64 0, Go.Value.int Go.IntKind.u32 0, Go.Value.int Go.IntKind.u8 0, Go.Value.int Go.IntKind.u8 0, Go.Value.int Go.IntKind.u8 0, Go.Value.int Go.IntKind.u8 0, Go.Value.nilFunc, Go.Value.pointer none, Go.Value.int Go.IntKind.i32 0, Go.Value.int Go.IntKind.i32 0]) #[Go.Value.int Go.IntKind.u64 0, Go.Value.int Go.IntKind.u64 0, Go.Value.int Go.IntKind.u32 0, Go.Value.int Go.IntKind.u8 0, Go.Value.int Go.IntKind.u8 0, Go.Value.int Go.IntKind.u8 0, Go.Value.int Go.IntKind.u8 0, Go.Value.nilFunc, Go.Value.pointer none, Go.Value.int Go.IntKind.i32 0, Go.Value.int Go.IntKind.i32 0] := ⟨Tryz.zeroValue219, rfl⟩
instance ty220 : Ty Tryz.prog 220 (Go.TypeDesc.struct #[{ name := "Size_", type := 12, offset := 0, embedded := false, tag := "", pkgPath := "", byteOffset := 0 }, { name := "PtrBytes", type := 12, offset := 1, embedded := false, tag := "", pkgPath := "", byteOffset := 8 }, { name := "Hash", type := 142, offset := 2, embedded := false, tag := "", pkgPath := "", byteOffset := 16 }, { name := "TFlag", type := 214, offset := 3, embedded := false, tag := "", pkgPath := "", byteOffset := 20 }, { name := "Align_", type := 5, offset := 4, embedded := false, tag := "", pkgPath := "", byteOffset := 21 }, { name := "FieldAlign_", type := 5, offset := 5, embedded := false, tag := "", pkgPath := "", byteOffset := 22 }, { name := "Kind_", type := 215, offset := 6, embedded := false, tag := "", pkgPath := "", byteOffset := 23 }, { name := "Equal", type := 216, offset := 7, embedded := false, tag := "", pkgPath := "", byteOffset := 24 }, { name := "GCData", type := 109, offset := 8, embedded := false, tag := "", pkgPath := "", byteOffset := 32 }, { name := "Str", type := 217, offset := 9, embedded := false, tag := "", pkgPath := "", byteOffset := 40 }, { name := "PtrToThis", type := 218, offset := 10, embedded := false, tag := "", pkgPath := "", byteOffset := 44 }]) 11 true := ⟨Tryz.underlying220, Tryz.isAgg220, Tryz.sizeOf220⟩
instance zero220 : Zero Tryz.prog 220 (Go.Value.agg #[Go.Value.int Go.IntKind.u64 0, Go.Value.int Go.IntKind.u64 0, Go.Value.int Go.IntKind.u32 0, Go.Value.int Go.IntKind.u8 0, Go.Value.int Go.IntKind.u8 0, Go.Value.int Go.IntKind.u8 0, Go.Value.int Go.IntKind.u8 0, Go.Value.nilFunc, Go.Value.pointer none, Go.Value.int Go.IntKind.i32 0, Go.Value.int Go.IntKind.i32 0]) #[Go.Value.int Go.IntKind.u64 0, Go.Value.int Go.IntKind.u64 0, Go.Value.int Go.IntKind.u32 0, Go.Value.int Go.IntKind.u8 0, Go.Value.int Go.IntKind.u8 0, Go.Value.int Go.IntKind.u8 0, Go.Value.int Go.IntKind.u8 0, Go.Value.nilFunc, Go.Value.pointer none, Go.Value.int Go.IntKind.i32 0, Go.Value.int Go.IntKind.i32 0] := ⟨Tryz.zeroValue220, rfl⟩
instance ent2 : Ent Tryz.prog 2 := ⟨Tryz.call2⟩
instance ent3 : Ent Tryz.prog 3 := ⟨Tryz.call3⟩
instance ent4 : Ent Tryz.prog 4 := ⟨Tryz.call4⟩
instance ent5 : Ent Tryz.prog 5 := ⟨Tryz.call5⟩
instance ent6 : Ent Tryz.prog 6 := ⟨Tryz.call6⟩
instance ent7 : Ent Tryz.prog 7 := ⟨Tryz.call7⟩
instance ent8 : Ent Tryz.prog 8 := ⟨Tryz.call8⟩
instance ent9 : Ent Tryz.prog 9 := ⟨Tryz.call9⟩
instance ent10 : Ent Tryz.prog 10 := ⟨Tryz.call10⟩
instance ent11 : Ent Tryz.prog 11 := ⟨Tryz.call11⟩
instance ent12 : Ent Tryz.prog 12 := ⟨Tryz.call12⟩
instance ent13 : Ent Tryz.prog 13 := ⟨Tryz.call13⟩
instance ent14 : Ent Tryz.prog 14 := ⟨Tryz.call14⟩
instance ent15 : Ent Tryz.prog 15 := ⟨Tryz.call15⟩
instance ent16 : Ent Tryz.prog 16 := ⟨Tryz.call16⟩
instance ent17 : Ent Tryz.prog 17 := ⟨Tryz.call17⟩
instance ent18 : Ent Tryz.prog 18 := ⟨Tryz.call18⟩
instance ent19 : Ent Tryz.prog 19 := ⟨Tryz.call19⟩
instance ent20 : Ent Tryz.prog 20 := ⟨Tryz.call20⟩
instance ent21 : Ent Tryz.prog 21 := ⟨Tryz.call21⟩
instance ent22 : Ent Tryz.prog 22 := ⟨Tryz.call22⟩
instance ent23 : Ent Tryz.prog 23 := ⟨Tryz.call23⟩
instance ent24 : Ent Tryz.prog 24 := ⟨Tryz.call24⟩
instance ent25 : Ent Tryz.prog 25 := ⟨Tryz.call25⟩
instance ent26 : Ent Tryz.prog 26 := ⟨Tryz.call26⟩
instance ent27 : Ent Tryz.prog 27 := ⟨Tryz.call27⟩
instance ent28 : Ent Tryz.prog 28 := ⟨Tryz.call28⟩
instance ent29 : Ent Tryz.prog 29 := ⟨Tryz.call29⟩
instance ent30 : Ent Tryz.prog 30 := ⟨Tryz.call30⟩
instance ent31 : Ent Tryz.prog 31 := ⟨Tryz.call31⟩
instance ent32 : Ent Tryz.prog 32 := ⟨Tryz.call32⟩
instance ent33 : Ent Tryz.prog 33 := ⟨Tryz.call33⟩
instance ent34 : Ent Tryz.prog 34 := ⟨Tryz.call34⟩
instance ent35 : Ent Tryz.prog 35 := ⟨Tryz.call35⟩
instance ent36 : Ent Tryz.prog 36 := ⟨Tryz.call36⟩
instance ent37 : Ent Tryz.prog 37 := ⟨Tryz.call37⟩
instance ent38 : Ent Tryz.prog 38 := ⟨Tryz.call38⟩
instance ent39 : Ent Tryz.prog 39 := ⟨Tryz.call39⟩
instance ent40 : Ent Tryz.prog 40 := ⟨Tryz.call40⟩
instance ent41 : Ent Tryz.prog 41 := ⟨Tryz.call41⟩
instance ent42 : Ent Tryz.prog 42 := ⟨Tryz.call42⟩
instance ent43 : Ent Tryz.prog 43 := ⟨Tryz.call43⟩
instance ent44 : Ent Tryz.prog 44 := ⟨Tryz.call44⟩
instance ent45 : Ent Tryz.prog 45 := ⟨Tryz.call45⟩
instance ent46 : Ent Tryz.prog 46 := ⟨Tryz.call46⟩
instance ent47 : Ent Tryz.prog 47 := ⟨Tryz.call47⟩
instance ent48 : Ent Tryz.prog 48 := ⟨Tryz.call48⟩
instance ent49 : Ent Tryz.prog 49 := ⟨Tryz.call49⟩
instance ent50 : Ent Tryz.prog 50 := ⟨Tryz.call50⟩
instance ent51 : Ent Tryz.prog 51 := ⟨Tryz.call51⟩
instance ent52 : Ent Tryz.prog 52 := ⟨Tryz.call52⟩
instance ent53 : Ent Tryz.prog 53 := ⟨Tryz.call53⟩
instance ent54 : Ent Tryz.prog 54 := ⟨Tryz.call54⟩
instance ent55 : Ent Tryz.prog 55 := ⟨Tryz.call55⟩
instance ent56 : Ent Tryz.prog 56 := ⟨Tryz.call56⟩
instance ent57 : Ent Tryz.prog 57 := ⟨Tryz.call57⟩
instance ent58 : Ent Tryz.prog 58 := ⟨Tryz.call58⟩
instance ent59 : Ent Tryz.prog 59 := ⟨Tryz.call59⟩
instance ent60 : Ent Tryz.prog 60 := ⟨Tryz.call60⟩
instance ent61 : Ent Tryz.prog 61 := ⟨Tryz.call61⟩
instance ent62 : Ent Tryz.prog 62 := ⟨Tryz.call62⟩
instance ent63 : Ent Tryz.prog 63 := ⟨Tryz.call63⟩
instance ent64 : Ent Tryz.prog 64 := ⟨Tryz.call64⟩
instance ent65 : Ent Tryz.prog 65 := ⟨Tryz.call65⟩
instance ent66 : Ent Tryz.prog 66 := ⟨Tryz.call66⟩
instance ent67 : Ent Tryz.prog 67 := ⟨Tryz.call67⟩
instance ent68 : Ent Tryz.prog 68 := ⟨Tryz.call68⟩
instance ent69 : Ent Tryz.prog 69 := ⟨Tryz.call69⟩
instance ent70 : Ent Tryz.prog 70 := ⟨Tryz.call70⟩
instance ent71 : Ent Tryz.prog 71 := ⟨Tryz.call71⟩
instance ent72 : Ent Tryz.prog 72 := ⟨Tryz.call72⟩
instance ent73 : Ent Tryz.prog 73 := ⟨Tryz.call73⟩
instance ent74 : Ent Tryz.prog 74 := ⟨Tryz.call74⟩
instance ent75 : Ent Tryz.prog 75 := ⟨Tryz.call75⟩
instance ent76 : Ent Tryz.prog 76 := ⟨Tryz.call76⟩
instance ent77 : Ent Tryz.prog 77 := ⟨Tryz.call77⟩
instance ent78 : Ent Tryz.prog 78 := ⟨Tryz.call78⟩
instance ent79 : Ent Tryz.prog 79 := ⟨Tryz.call79⟩
instance ent80 : Ent Tryz.prog 80 := ⟨Tryz.call80⟩
instance ent81 : Ent Tryz.prog 81 := ⟨Tryz.call81⟩
instance ent82 : Ent Tryz.prog 82 := ⟨Tryz.call82⟩
instance ent83 : Ent Tryz.prog 83 := ⟨Tryz.call83⟩
instance ent84 : Ent Tryz.prog 84 := ⟨Tryz.call84⟩
instance ent85 : Ent Tryz.prog 85 := ⟨Tryz.call85⟩
instance ent86 : Ent Tryz.prog 86 := ⟨Tryz.call86⟩
instance ent87 : Ent Tryz.prog 87 := ⟨Tryz.call87⟩
instance ent88 : Ent Tryz.prog 88 := ⟨Tryz.call88⟩
instance ent89 : Ent Tryz.prog 89 := ⟨Tryz.call89⟩
instance ent90 : Ent Tryz.prog 90 := ⟨Tryz.call90⟩
instance ent91 : Ent Tryz.prog 91 := ⟨Tryz.call91⟩
instance ent92 : Ent Tryz.prog 92 := ⟨Tryz.call92⟩
instance ent93 : Ent Tryz.prog 93 := ⟨Tryz.call93⟩
instance ent94 : Ent Tryz.prog 94 := ⟨Tryz.call94⟩
instance ent95 : Ent Tryz.prog 95 := ⟨Tryz.call95⟩
instance ent96 : Ent Tryz.prog 96 := ⟨Tryz.call96⟩
instance ent97 : Ent Tryz.prog 97 := ⟨Tryz.call97⟩
instance ent98 : Ent Tryz.prog 98 := ⟨Tryz.call98⟩
instance ent99 : Ent Tryz.prog 99 := ⟨Tryz.call99⟩
instance ent100 : Ent Tryz.prog 100 := ⟨Tryz.call100⟩
instance ent101 : Ent Tryz.prog 101 := ⟨Tryz.call101⟩
instance ent102 : Ent Tryz.prog 102 := ⟨Tryz.call102⟩
instance ent103 : Ent Tryz.prog 103 := ⟨Tryz.call103⟩
instance ent104 : Ent Tryz.prog 104 := ⟨Tryz.call104⟩
instance ent105 : Ent Tryz.prog 105 := ⟨Tryz.call105⟩
instance ent106 : Ent Tryz.prog 106 := ⟨Tryz.call106⟩
instance ent107 : Ent Tryz.prog 107 := ⟨Tryz.call107⟩
instance ent108 : Ent Tryz.prog 108 := ⟨Tryz.call108⟩
instance ent109 : Ent Tryz.prog 109 := ⟨Tryz.call109⟩
instance ent110 : Ent Tryz.prog 110 := ⟨Tryz.call110⟩
instance ent111 : Ent Tryz.prog 111 := ⟨Tryz.call111⟩
instance ent112 : Ent Tryz.prog 112 := ⟨Tryz.call112⟩
instance ent113 : Ent Tryz.prog 113 := ⟨Tryz.call113⟩
instance ent114 : Ent Tryz.prog 114 := ⟨Tryz.call114⟩
instance ent115 : Ent Tryz.prog 115 := ⟨Tryz.call115⟩
instance ent116 : Ent Tryz.prog 116 := ⟨Tryz.call116⟩
instance ent117 : Ent Tryz.prog 117 := ⟨Tryz.call117⟩
instance ent118 : Ent Tryz.prog 118 := ⟨Tryz.call118⟩
instance ent119 : Ent Tryz.prog 119 := ⟨Tryz.call119⟩
instance ent120 : Ent Tryz.prog 120 := ⟨Tryz.call120⟩
instance ent121 : Ent Tryz.prog 121 := ⟨Tryz.call121⟩
instance ent123 : Ent Tryz.prog 123 := ⟨Tryz.call123⟩
instance ent124 : Ent Tryz.prog 124 := ⟨Tryz.call124⟩
instance ent125 : Ent Tryz.prog 125 := ⟨Tryz.call125⟩
instance ent126 : Ent Tryz.prog 126 := ⟨Tryz.call126⟩
instance ent127 : Ent Tryz.prog 127 := ⟨Tryz.call127⟩
instance ent128 : Ent Tryz.prog 128 := ⟨Tryz.call128⟩
instance ent129 : Ent Tryz.prog 129 := ⟨Tryz.call129⟩
instance ent130 : Ent Tryz.prog 130 := ⟨Tryz.call130⟩
instance ent131 : Ent Tryz.prog 131 := ⟨Tryz.call131⟩
instance ent132 : Ent Tryz.prog 132 := ⟨Tryz.call132⟩
instance ent133 : Ent Tryz.prog 133 := ⟨Tryz.call133⟩
instance ent134 : Ent Tryz.prog 134 := ⟨Tryz.call134⟩
instance ent135 : Ent Tryz.prog 135 := ⟨Tryz.call135⟩
instance ent136 : Ent Tryz.prog 136 := ⟨Tryz.call136⟩
instance ent137 : Ent Tryz.prog 137 := ⟨Tryz.call137⟩
instance ent138 : Ent Tryz.prog 138 := ⟨Tryz.call138⟩
instance ent139 : Ent Tryz.prog 139 := ⟨Tryz.call139⟩
instance ent140 : Ent Tryz.prog 140 := ⟨Tryz.call140⟩
instance ent141 : Ent Tryz.prog 141 := ⟨Tryz.call141⟩
instance ent142 : Ent Tryz.prog 142 := ⟨Tryz.call142⟩
instance ent144 : Ent Tryz.prog 144 := ⟨Tryz.call144⟩
instance ent145 : Ent Tryz.prog 145 := ⟨Tryz.call145⟩
instance ent146 : Ent Tryz.prog 146 := ⟨Tryz.call146⟩
instance ent147 : Ent Tryz.prog 147 := ⟨Tryz.call147⟩
instance ent148 : Ent Tryz.prog 148 := ⟨Tryz.call148⟩
instance ent149 : Ent Tryz.prog 149 := ⟨Tryz.call149⟩
instance ent150 : Ent Tryz.prog 150 := ⟨Tryz.call150⟩
instance ent151 : Ent Tryz.prog 151 := ⟨Tryz.call151⟩
instance ent152 : Ent Tryz.prog 152 := ⟨Tryz.call152⟩
instance ent153 : Ent Tryz.prog 153 := ⟨Tryz.call153⟩
instance ent154 : Ent Tryz.prog 154 := ⟨Tryz.call154⟩
instance ent155 : Ent Tryz.prog 155 := ⟨Tryz.call155⟩
instance ent156 : Ent Tryz.prog 156 := ⟨Tryz.call156⟩
instance ent157 : Ent Tryz.prog 157 := ⟨Tryz.call157⟩
instance ent158 : Ent Tryz.prog 158 := ⟨Tryz.call158⟩
instance ent159 : Ent Tryz.prog 159 := ⟨Tryz.call159⟩
instance ent162 : Ent Tryz.prog 162 := ⟨Tryz.call162⟩
instance ent163 : Ent Tryz.prog 163 := ⟨Tryz.call163⟩
instance ent164 : Ent Tryz.prog 164 := ⟨Tryz.call164⟩
instance ent166 : Ent Tryz.prog 166 := ⟨Tryz.call166⟩
instance ent167 : Ent Tryz.prog 167 := ⟨Tryz.call167⟩
instance ent168 : Ent Tryz.prog 168 := ⟨Tryz.call168⟩
instance ent169 : Ent Tryz.prog 169 := ⟨Tryz.call169⟩
instance ent170 : Ent Tryz.prog 170 := ⟨Tryz.call170⟩
instance ent171 : Ent Tryz.prog 171 := ⟨Tryz.call171⟩
instance ent172 : Ent Tryz.prog 172 := ⟨Tryz.call172⟩
instance ent173 : Ent Tryz.prog 173 := ⟨Tryz.call173⟩
instance ent208 : Ent Tryz.prog 208 := ⟨Tryz.call208⟩
instance places7 : Places Tryz.prog 7 [(0, 1), (1, 1), (2, 1), (3, 1)] := ⟨⟨_, Tryz.underlying7, fun w => by simp [go_sem]⟩⟩
instance fld7_0 : Fld Tryz.prog 7 0 0 2 := ⟨⟨_, _, Tryz.underlying7, rfl, rfl, rfl⟩⟩
instance fld7_1 : Fld Tryz.prog 7 1 1 3 := ⟨⟨_, _, Tryz.underlying7, rfl, rfl, rfl⟩⟩
instance fld7_2 : Fld Tryz.prog 7 2 2 4 := ⟨⟨_, _, Tryz.underlying7, rfl, rfl, rfl⟩⟩
instance fld7_3 : Fld Tryz.prog 7 3 3 6 := ⟨⟨_, _, Tryz.underlying7, rfl, rfl, rfl⟩⟩
instance places8 : Places Tryz.prog 8 [(0, 1), (1, 1), (2, 1), (3, 1)] := ⟨⟨_, Tryz.underlying8, fun w => by simp [go_sem]⟩⟩
instance fld8_0 : Fld Tryz.prog 8 0 0 2 := ⟨⟨_, _, Tryz.underlying8, rfl, rfl, rfl⟩⟩
instance fld8_1 : Fld Tryz.prog 8 1 1 3 := ⟨⟨_, _, Tryz.underlying8, rfl, rfl, rfl⟩⟩
instance fld8_2 : Fld Tryz.prog 8 2 2 4 := ⟨⟨_, _, Tryz.underlying8, rfl, rfl, rfl⟩⟩
instance fld8_3 : Fld Tryz.prog 8 3 3 6 := ⟨⟨_, _, Tryz.underlying8, rfl, rfl, rfl⟩⟩
instance places13 : Places Tryz.prog 13 [(0, 1), (1, 1)] := ⟨⟨_, Tryz.underlying13, fun w => by simp [go_sem]⟩⟩
instance fld13_0 : Fld Tryz.prog 13 0 0 9 := ⟨⟨_, _, Tryz.underlying13, rfl, rfl, rfl⟩⟩
instance fld13_1 : Fld Tryz.prog 13 1 1 12 := ⟨⟨_, _, Tryz.underlying13, rfl, rfl, rfl⟩⟩
instance places14 : Places Tryz.prog 14 [(0, 1), (1, 1)] := ⟨⟨_, Tryz.underlying14, fun w => by simp [go_sem]⟩⟩
instance fld14_0 : Fld Tryz.prog 14 0 0 9 := ⟨⟨_, _, Tryz.underlying14, rfl, rfl, rfl⟩⟩
instance fld14_1 : Fld Tryz.prog 14 1 1 12 := ⟨⟨_, _, Tryz.underlying14, rfl, rfl, rfl⟩⟩
instance places18 : Places Tryz.prog 18 [(0, 1)] := ⟨⟨_, Tryz.underlying18, fun w => by simp [go_sem]⟩⟩
instance fld18_0 : Fld Tryz.prog 18 0 0 17 := ⟨⟨_, _, Tryz.underlying18, rfl, rfl, rfl⟩⟩
instance places19 : Places Tryz.prog 19 [(0, 1)] := ⟨⟨_, Tryz.underlying19, fun w => by simp [go_sem]⟩⟩
instance fld19_0 : Fld Tryz.prog 19 0 0 17 := ⟨⟨_, _, Tryz.underlying19, rfl, rfl, rfl⟩⟩
instance places27 : Places Tryz.prog 27 [(0, 1), (1, 1), (2, 1), (3, 1), (4, 1), (5, 1), (6, 1)] := ⟨⟨_, Tryz.underlying27, fun w => by simp [go_sem]⟩⟩
instance fld27_0 : Fld Tryz.prog 27 0 0 3 := ⟨⟨_, _, Tryz.underlying27, rfl, rfl, rfl⟩⟩
instance fld27_1 : Fld Tryz.prog 27 1 1 3 := ⟨⟨_, _, Tryz.underlying27, rfl, rfl, rfl⟩⟩
instance fld27_2 : Fld Tryz.prog 27 2 2 3 := ⟨⟨_, _, Tryz.underlying27, rfl, rfl, rfl⟩⟩
instance fld27_3 : Fld Tryz.prog 27 3 3 3 := ⟨⟨_, _, Tryz.underlying27, rfl, rfl, rfl⟩⟩
instance fld27_4 : Fld Tryz.prog 27 4 4 3 := ⟨⟨_, _, Tryz.underlying27, rfl, rfl, rfl⟩⟩
instance fld27_5 : Fld Tryz.prog 27 5 5 9 := ⟨⟨_, _, Tryz.underlying27, rfl, rfl, rfl⟩⟩
instance fld27_6 : Fld Tryz.prog 27 6 6 25 := ⟨⟨_, _, Tryz.underlying27, rfl, rfl, rfl⟩⟩
instance places28 : Places Tryz.prog 28 [(0, 1), (1, 1), (2, 1), (3, 1), (4, 1), (5, 1), (6, 1)] := ⟨⟨_, Tryz.underlying28, fun w => by simp [go_sem]⟩⟩
instance fld28_0 : Fld Tryz.prog 28 0 0 3 := ⟨⟨_, _, Tryz.underlying28, rfl, rfl, rfl⟩⟩
instance fld28_1 : Fld Tryz.prog 28 1 1 3 := ⟨⟨_, _, Tryz.underlying28, rfl, rfl, rfl⟩⟩
instance fld28_2 : Fld Tryz.prog 28 2 2 3 := ⟨⟨_, _, Tryz.underlying28, rfl, rfl, rfl⟩⟩
instance fld28_3 : Fld Tryz.prog 28 3 3 3 := ⟨⟨_, _, Tryz.underlying28, rfl, rfl, rfl⟩⟩
instance fld28_4 : Fld Tryz.prog 28 4 4 3 := ⟨⟨_, _, Tryz.underlying28, rfl, rfl, rfl⟩⟩
instance fld28_5 : Fld Tryz.prog 28 5 5 9 := ⟨⟨_, _, Tryz.underlying28, rfl, rfl, rfl⟩⟩
instance fld28_6 : Fld Tryz.prog 28 6 6 25 := ⟨⟨_, _, Tryz.underlying28, rfl, rfl, rfl⟩⟩
instance places35 : Places Tryz.prog 35 [(0, 1), (1, 1)] := ⟨⟨_, Tryz.underlying35, fun w => by simp [go_sem]⟩⟩
instance fld35_0 : Fld Tryz.prog 35 0 0 25 := ⟨⟨_, _, Tryz.underlying35, rfl, rfl, rfl⟩⟩
instance fld35_1 : Fld Tryz.prog 35 1 1 3 := ⟨⟨_, _, Tryz.underlying35, rfl, rfl, rfl⟩⟩
instance places36 : Places Tryz.prog 36 [(0, 1), (1, 1)] := ⟨⟨_, Tryz.underlying36, fun w => by simp [go_sem]⟩⟩
instance fld36_0 : Fld Tryz.prog 36 0 0 25 := ⟨⟨_, _, Tryz.underlying36, rfl, rfl, rfl⟩⟩
instance fld36_1 : Fld Tryz.prog 36 1 1 3 := ⟨⟨_, _, Tryz.underlying36, rfl, rfl, rfl⟩⟩
instance places59 : Places Tryz.prog 59 [(0, 1), (1, 1), (2, 1)] := ⟨⟨_, Tryz.underlying59, fun w => by simp [go_sem]⟩⟩
instance fld59_0 : Fld Tryz.prog 59 0 0 9 := ⟨⟨_, _, Tryz.underlying59, rfl, rfl, rfl⟩⟩
instance fld59_1 : Fld Tryz.prog 59 1 1 3 := ⟨⟨_, _, Tryz.underlying59, rfl, rfl, rfl⟩⟩
instance fld59_2 : Fld Tryz.prog 59 2 2 25 := ⟨⟨_, _, Tryz.underlying59, rfl, rfl, rfl⟩⟩
instance places60 : Places Tryz.prog 60 [(0, 1), (1, 1), (2, 1)] := ⟨⟨_, Tryz.underlying60, fun w => by simp [go_sem]⟩⟩
instance fld60_0 : Fld Tryz.prog 60 0 0 9 := ⟨⟨_, _, Tryz.underlying60, rfl, rfl, rfl⟩⟩
instance fld60_1 : Fld Tryz.prog 60 1 1 3 := ⟨⟨_, _, Tryz.underlying60, rfl, rfl, rfl⟩⟩
instance fld60_2 : Fld Tryz.prog 60 2 2 25 := ⟨⟨_, _, Tryz.underlying60, rfl, rfl, rfl⟩⟩
instance places64 : Places Tryz.prog 64 [(0, 3), (3, 7)] := ⟨⟨_, Tryz.underlying64, fun w => by simp [go_sem]⟩⟩
instance fld64_0 : Fld Tryz.prog 64 0 0 60 := ⟨⟨_, _, Tryz.underlying64, rfl, rfl, rfl⟩⟩
instance fld64_1 : Fld Tryz.prog 64 1 3 28 := ⟨⟨_, _, Tryz.underlying64, rfl, rfl, rfl⟩⟩
instance places65 : Places Tryz.prog 65 [(0, 3), (3, 7)] := ⟨⟨_, Tryz.underlying65, fun w => by simp [go_sem]⟩⟩
instance fld65_0 : Fld Tryz.prog 65 0 0 60 := ⟨⟨_, _, Tryz.underlying65, rfl, rfl, rfl⟩⟩
instance fld65_1 : Fld Tryz.prog 65 1 3 28 := ⟨⟨_, _, Tryz.underlying65, rfl, rfl, rfl⟩⟩
instance places79 : Places Tryz.prog 79 [(0, 1), (1, 1)] := ⟨⟨_, Tryz.underlying79, fun w => by simp [go_sem]⟩⟩
instance fld79_0 : Fld Tryz.prog 79 0 0 77 := ⟨⟨_, _, Tryz.underlying79, rfl, rfl, rfl⟩⟩
instance fld79_1 : Fld Tryz.prog 79 1 1 78 := ⟨⟨_, _, Tryz.underlying79, rfl, rfl, rfl⟩⟩
instance places80 : Places Tryz.prog 80 [(0, 1), (1, 1)] := ⟨⟨_, Tryz.underlying80, fun w => by simp [go_sem]⟩⟩
instance fld80_0 : Fld Tryz.prog 80 0 0 77 := ⟨⟨_, _, Tryz.underlying80, rfl, rfl, rfl⟩⟩
instance fld80_1 : Fld Tryz.prog 80 1 1 78 := ⟨⟨_, _, Tryz.underlying80, rfl, rfl, rfl⟩⟩
instance places87 : Places Tryz.prog 87 [(0, 1), (1, 1), (2, 2)] := ⟨⟨_, Tryz.underlying87, fun w => by simp [go_sem]⟩⟩
instance fld87_0 : Fld Tryz.prog 87 0 0 9 := ⟨⟨_, _, Tryz.underlying87, rfl, rfl, rfl⟩⟩
instance fld87_1 : Fld Tryz.prog 87 1 1 3 := ⟨⟨_, _, Tryz.underlying87, rfl, rfl, rfl⟩⟩
instance fld87_2 : Fld Tryz.prog 87 2 2 36 := ⟨⟨_, _, Tryz.underlying87, rfl, rfl, rfl⟩⟩
instance places88 : Places Tryz.prog 88 [(0, 1), (1, 1), (2, 2)] := ⟨⟨_, Tryz.underlying88, fun w => by simp [go_sem]⟩⟩
instance fld88_0 : Fld Tryz.prog 88 0 0 9 := ⟨⟨_, _, Tryz.underlying88, rfl, rfl, rfl⟩⟩
instance fld88_1 : Fld Tryz.prog 88 1 1 3 := ⟨⟨_, _, Tryz.underlying88, rfl, rfl, rfl⟩⟩
instance fld88_2 : Fld Tryz.prog 88 2 2 36 := ⟨⟨_, _, Tryz.underlying88, rfl, rfl, rfl⟩⟩
instance places103 : Places Tryz.prog 103 [(0, 3)] := ⟨⟨_, Tryz.underlying103, fun w => by simp [go_sem]⟩⟩
instance fld103_0 : Fld Tryz.prog 103 0 0 60 := ⟨⟨_, _, Tryz.underlying103, rfl, rfl, rfl⟩⟩
instance places104 : Places Tryz.prog 104 [(0, 3)] := ⟨⟨_, Tryz.underlying104, fun w => by simp [go_sem]⟩⟩
instance fld104_0 : Fld Tryz.prog 104 0 0 60 := ⟨⟨_, _, Tryz.underlying104, rfl, rfl, rfl⟩⟩
instance places113 : Places Tryz.prog 113 [(0, 4)] := ⟨⟨_, Tryz.underlying113, fun w => by simp [go_sem]⟩⟩
instance fld113_0 : Fld Tryz.prog 113 0 0 88 := ⟨⟨_, _, Tryz.underlying113, rfl, rfl, rfl⟩⟩
instance places114 : Places Tryz.prog 114 [(0, 4)] := ⟨⟨_, Tryz.underlying114, fun w => by simp [go_sem]⟩⟩
instance fld114_0 : Fld Tryz.prog 114 0 0 88 := ⟨⟨_, _, Tryz.underlying114, rfl, rfl, rfl⟩⟩
instance places140 : Places Tryz.prog 140 [(0, 1), (1, 1)] := ⟨⟨_, Tryz.underlying140, fun w => by simp [go_sem]⟩⟩
instance fld140_0 : Fld Tryz.prog 140 0 0 3 := ⟨⟨_, _, Tryz.underlying140, rfl, rfl, rfl⟩⟩
instance fld140_1 : Fld Tryz.prog 140 1 1 3 := ⟨⟨_, _, Tryz.underlying140, rfl, rfl, rfl⟩⟩
instance places141 : Places Tryz.prog 141 [(0, 1), (1, 1)] := ⟨⟨_, Tryz.underlying141, fun w => by simp [go_sem]⟩⟩
instance fld141_0 : Fld Tryz.prog 141 0 0 3 := ⟨⟨_, _, Tryz.underlying141, rfl, rfl, rfl⟩⟩
instance fld141_1 : Fld Tryz.prog 141 1 1 3 := ⟨⟨_, _, Tryz.underlying141, rfl, rfl, rfl⟩⟩
instance places162 : Places Tryz.prog 162 [(0, 1), (1, 1), (2, 1)] := ⟨⟨_, Tryz.underlying162, fun w => by simp [go_sem]⟩⟩
instance fld162_0 : Fld Tryz.prog 162 0 0 160 := ⟨⟨_, _, Tryz.underlying162, rfl, rfl, rfl⟩⟩
instance fld162_1 : Fld Tryz.prog 162 1 1 161 := ⟨⟨_, _, Tryz.underlying162, rfl, rfl, rfl⟩⟩
instance fld162_2 : Fld Tryz.prog 162 2 2 3 := ⟨⟨_, _, Tryz.underlying162, rfl, rfl, rfl⟩⟩
instance places163 : Places Tryz.prog 163 [(0, 1), (1, 1), (2, 1)] := ⟨⟨_, Tryz.underlying163, fun w => by simp [go_sem]⟩⟩
instance fld163_0 : Fld Tryz.prog 163 0 0 160 := ⟨⟨_, _, Tryz.underlying163, rfl, rfl, rfl⟩⟩
instance fld163_1 : Fld Tryz.prog 163 1 1 161 := ⟨⟨_, _, Tryz.underlying163, rfl, rfl, rfl⟩⟩
instance fld163_2 : Fld Tryz.prog 163 2 2 3 := ⟨⟨_, _, Tryz.underlying163, rfl, rfl, rfl⟩⟩
instance places165 : Places Tryz.prog 165 [(0, 1), (1, 1), (2, 1)] := ⟨⟨_, Tryz.underlying165, fun w => by simp [go_sem]⟩⟩
instance fld165_0 : Fld Tryz.prog 165 0 0 164 := ⟨⟨_, _, Tryz.underlying165, rfl, rfl, rfl⟩⟩
instance fld165_1 : Fld Tryz.prog 165 1 1 164 := ⟨⟨_, _, Tryz.underlying165, rfl, rfl, rfl⟩⟩
instance fld165_2 : Fld Tryz.prog 165 2 2 164 := ⟨⟨_, _, Tryz.underlying165, rfl, rfl, rfl⟩⟩
instance places166 : Places Tryz.prog 166 [(0, 1), (1, 1), (2, 1)] := ⟨⟨_, Tryz.underlying166, fun w => by simp [go_sem]⟩⟩
instance fld166_0 : Fld Tryz.prog 166 0 0 164 := ⟨⟨_, _, Tryz.underlying166, rfl, rfl, rfl⟩⟩
instance fld166_1 : Fld Tryz.prog 166 1 1 164 := ⟨⟨_, _, Tryz.underlying166, rfl, rfl, rfl⟩⟩
instance fld166_2 : Fld Tryz.prog 166 2 2 164 := ⟨⟨_, _, Tryz.underlying166, rfl, rfl, rfl⟩⟩
instance places168 : Places Tryz.prog 168 [(0, 1), (1, 1), (2, 1)] := ⟨⟨_, Tryz.underlying168, fun w => by simp [go_sem]⟩⟩
instance fld168_0 : Fld Tryz.prog 168 0 0 142 := ⟨⟨_, _, Tryz.underlying168, rfl, rfl, rfl⟩⟩
instance fld168_1 : Fld Tryz.prog 168 1 1 142 := ⟨⟨_, _, Tryz.underlying168, rfl, rfl, rfl⟩⟩
instance fld168_2 : Fld Tryz.prog 168 2 2 142 := ⟨⟨_, _, Tryz.underlying168, rfl, rfl, rfl⟩⟩
instance places169 : Places Tryz.prog 169 [(0, 1), (1, 1), (2, 1)] := ⟨⟨_, Tryz.underlying169, fun w => by simp [go_sem]⟩⟩
instance fld169_0 : Fld Tryz.prog 169 0 0 142 := ⟨⟨_, _, Tryz.underlying169, rfl, rfl, rfl⟩⟩
instance fld169_1 : Fld Tryz.prog 169 1 1 142 := ⟨⟨_, _, Tryz.underlying169, rfl, rfl, rfl⟩⟩
instance fld169_2 : Fld Tryz.prog 169 2 2 142 := ⟨⟨_, _, Tryz.underlying169, rfl, rfl, rfl⟩⟩
instance places195 : Places Tryz.prog 195 [(0, 1), (1, 1), (2, 1)] := ⟨⟨_, Tryz.underlying195, fun w => by simp [go_sem]⟩⟩
instance fld195_0 : Fld Tryz.prog 195 0 0 9 := ⟨⟨_, _, Tryz.underlying195, rfl, rfl, rfl⟩⟩
instance fld195_1 : Fld Tryz.prog 195 1 1 9 := ⟨⟨_, _, Tryz.underlying195, rfl, rfl, rfl⟩⟩
instance fld195_2 : Fld Tryz.prog 195 2 2 82 := ⟨⟨_, _, Tryz.underlying195, rfl, rfl, rfl⟩⟩
instance places196 : Places Tryz.prog 196 [(0, 1), (1, 1), (2, 1)] := ⟨⟨_, Tryz.underlying196, fun w => by simp [go_sem]⟩⟩
instance fld196_0 : Fld Tryz.prog 196 0 0 9 := ⟨⟨_, _, Tryz.underlying196, rfl, rfl, rfl⟩⟩
instance fld196_1 : Fld Tryz.prog 196 1 1 9 := ⟨⟨_, _, Tryz.underlying196, rfl, rfl, rfl⟩⟩
instance fld196_2 : Fld Tryz.prog 196 2 2 82 := ⟨⟨_, _, Tryz.underlying196, rfl, rfl, rfl⟩⟩
instance places202 : Places Tryz.prog 202 [(0, 1)] := ⟨⟨_, Tryz.underlying202, fun w => by simp [go_sem]⟩⟩
instance fld202_0 : Fld Tryz.prog 202 0 0 9 := ⟨⟨_, _, Tryz.underlying202, rfl, rfl, rfl⟩⟩
instance places203 : Places Tryz.prog 203 [(0, 1)] := ⟨⟨_, Tryz.underlying203, fun w => by simp [go_sem]⟩⟩
instance fld203_0 : Fld Tryz.prog 203 0 0 9 := ⟨⟨_, _, Tryz.underlying203, rfl, rfl, rfl⟩⟩
instance places206 : Places Tryz.prog 206 [(0, 1), (1, 1)] := ⟨⟨_, Tryz.underlying206, fun w => by simp [go_sem]⟩⟩
instance fld206_0 : Fld Tryz.prog 206 0 0 5 := ⟨⟨_, _, Tryz.underlying206, rfl, rfl, rfl⟩⟩
instance fld206_1 : Fld Tryz.prog 206 1 1 5 := ⟨⟨_, _, Tryz.underlying206, rfl, rfl, rfl⟩⟩
instance places207 : Places Tryz.prog 207 [(0, 1), (1, 1)] := ⟨⟨_, Tryz.underlying207, fun w => by simp [go_sem]⟩⟩
instance fld207_0 : Fld Tryz.prog 207 0 0 5 := ⟨⟨_, _, Tryz.underlying207, rfl, rfl, rfl⟩⟩
instance fld207_1 : Fld Tryz.prog 207 1 1 5 := ⟨⟨_, _, Tryz.underlying207, rfl, rfl, rfl⟩⟩
instance places209 : Places Tryz.prog 209 [(0, 1), (1, 1), (2, 1), (3, 1)] := ⟨⟨_, Tryz.underlying209, fun w => by simp [go_sem]⟩⟩
instance fld209_0 : Fld Tryz.prog 209 0 0 17 := ⟨⟨_, _, Tryz.underlying209, rfl, rfl, rfl⟩⟩
instance fld209_1 : Fld Tryz.prog 209 1 1 17 := ⟨⟨_, _, Tryz.underlying209, rfl, rfl, rfl⟩⟩
instance fld209_2 : Fld Tryz.prog 209 2 2 17 := ⟨⟨_, _, Tryz.underlying209, rfl, rfl, rfl⟩⟩
instance fld209_3 : Fld Tryz.prog 209 3 3 9 := ⟨⟨_, _, Tryz.underlying209, rfl, rfl, rfl⟩⟩
instance places210 : Places Tryz.prog 210 [(0, 1), (1, 1), (2, 1), (3, 1)] := ⟨⟨_, Tryz.underlying210, fun w => by simp [go_sem]⟩⟩
instance fld210_0 : Fld Tryz.prog 210 0 0 17 := ⟨⟨_, _, Tryz.underlying210, rfl, rfl, rfl⟩⟩
instance fld210_1 : Fld Tryz.prog 210 1 1 17 := ⟨⟨_, _, Tryz.underlying210, rfl, rfl, rfl⟩⟩
instance fld210_2 : Fld Tryz.prog 210 2 2 17 := ⟨⟨_, _, Tryz.underlying210, rfl, rfl, rfl⟩⟩
instance fld210_3 : Fld Tryz.prog 210 3 3 9 := ⟨⟨_, _, Tryz.underlying210, rfl, rfl, rfl⟩⟩
instance places212 : Places Tryz.prog 212 [(0, 0)] := ⟨⟨_, Tryz.underlying212, fun w => by simp [go_sem]⟩⟩
instance fld212_0 : Fld Tryz.prog 212 0 0 211 := ⟨⟨_, _, Tryz.underlying212, rfl, rfl, rfl⟩⟩
instance places213 : Places Tryz.prog 213 [(0, 0)] := ⟨⟨_, Tryz.underlying213, fun w => by simp [go_sem]⟩⟩
instance fld213_0 : Fld Tryz.prog 213 0 0 211 := ⟨⟨_, _, Tryz.underlying213, rfl, rfl, rfl⟩⟩
instance places219 : Places Tryz.prog 219 [(0, 1), (1, 1), (2, 1), (3, 1), (4, 1), (5, 1), (6, 1), (7, 1), (8, 1), (9, 1), (10, 1)] := ⟨⟨_, Tryz.underlying219, fun w => by simp [go_sem]⟩⟩
instance fld219_0 : Fld Tryz.prog 219 0 0 12 := ⟨⟨_, _, Tryz.underlying219, rfl, rfl, rfl⟩⟩
instance fld219_1 : Fld Tryz.prog 219 1 1 12 := ⟨⟨_, _, Tryz.underlying219, rfl, rfl, rfl⟩⟩
instance fld219_2 : Fld Tryz.prog 219 2 2 142 := ⟨⟨_, _, Tryz.underlying219, rfl, rfl, rfl⟩⟩
instance fld219_3 : Fld Tryz.prog 219 3 3 214 := ⟨⟨_, _, Tryz.underlying219, rfl, rfl, rfl⟩⟩
instance fld219_4 : Fld Tryz.prog 219 4 4 5 := ⟨⟨_, _, Tryz.underlying219, rfl, rfl, rfl⟩⟩
instance fld219_5 : Fld Tryz.prog 219 5 5 5 := ⟨⟨_, _, Tryz.underlying219, rfl, rfl, rfl⟩⟩
instance fld219_6 : Fld Tryz.prog 219 6 6 215 := ⟨⟨_, _, Tryz.underlying219, rfl, rfl, rfl⟩⟩
instance fld219_7 : Fld Tryz.prog 219 7 7 216 := ⟨⟨_, _, Tryz.underlying219, rfl, rfl, rfl⟩⟩
instance fld219_8 : Fld Tryz.prog 219 8 8 109 := ⟨⟨_, _, Tryz.underlying219, rfl, rfl, rfl⟩⟩
instance fld219_9 : Fld Tryz.prog 219 9 9 217 := ⟨⟨_, _, Tryz.underlying219, rfl, rfl, rfl⟩⟩
instance fld219_10 : Fld Tryz.prog 219 10 10 218 := ⟨⟨_, _, Tryz.underlying219, rfl, rfl, rfl⟩⟩
instance places220 : Places Tryz.prog 220 [(0, 1), (1, 1), (2, 1), (3, 1), (4, 1), (5, 1), (6, 1), (7, 1), (8, 1), (9, 1), (10, 1)] := ⟨⟨_, Tryz.underlying220, fun w => by simp [go_sem]⟩⟩
instance fld220_0 : Fld Tryz.prog 220 0 0 12 := ⟨⟨_, _, Tryz.underlying220, rfl, rfl, rfl⟩⟩
instance fld220_1 : Fld Tryz.prog 220 1 1 12 := ⟨⟨_, _, Tryz.underlying220, rfl, rfl, rfl⟩⟩
instance fld220_2 : Fld Tryz.prog 220 2 2 142 := ⟨⟨_, _, Tryz.underlying220, rfl, rfl, rfl⟩⟩
instance fld220_3 : Fld Tryz.prog 220 3 3 214 := ⟨⟨_, _, Tryz.underlying220, rfl, rfl, rfl⟩⟩
instance fld220_4 : Fld Tryz.prog 220 4 4 5 := ⟨⟨_, _, Tryz.underlying220, rfl, rfl, rfl⟩⟩
instance fld220_5 : Fld Tryz.prog 220 5 5 5 := ⟨⟨_, _, Tryz.underlying220, rfl, rfl, rfl⟩⟩
instance fld220_6 : Fld Tryz.prog 220 6 6 215 := ⟨⟨_, _, Tryz.underlying220, rfl, rfl, rfl⟩⟩
instance fld220_7 : Fld Tryz.prog 220 7 7 216 := ⟨⟨_, _, Tryz.underlying220, rfl, rfl, rfl⟩⟩
instance fld220_8 : Fld Tryz.prog 220 8 8 109 := ⟨⟨_, _, Tryz.underlying220, rfl, rfl, rfl⟩⟩
instance fld220_9 : Fld Tryz.prog 220 9 9 217 := ⟨⟨_, _, Tryz.underlying220, rfl, rfl, rfl⟩⟩
instance fld220_10 : Fld Tryz.prog 220 10 10 218 := ⟨⟨_, _, Tryz.underlying220, rfl, rfl, rfl⟩⟩
instance inf0 : Inf Tryz.prog 0 (Go.Value.tuple #[]) 1 0 := ⟨⟨Tryz.t0, Tryz.type0, rfl, rfl, rfl, rfl⟩⟩
instance inf1 : Inf Tryz.prog 1 (Go.Value.nilFunc) 1 8 := ⟨⟨Tryz.t1, Tryz.type1, rfl, rfl, rfl, rfl⟩⟩
instance inf2 : Inf Tryz.prog 2 (Go.Value.int Go.IntKind.i64 0) 1 8 := ⟨⟨Tryz.t2, Tryz.type2, rfl, rfl, rfl, rfl⟩⟩
instance inf3 : Inf Tryz.prog 3 (Go.Value.int Go.IntKind.i64 0) 1 8 := ⟨⟨Tryz.t3, Tryz.type3, rfl, rfl, rfl, rfl⟩⟩
instance inf4 : Inf Tryz.prog 4 (Go.Value.bool false) 1 1 := ⟨⟨Tryz.t4, Tryz.type4, rfl, rfl, rfl, rfl⟩⟩
instance inf5 : Inf Tryz.prog 5 (Go.Value.int Go.IntKind.u8 0) 1 1 := ⟨⟨Tryz.t5, Tryz.type5, rfl, rfl, rfl, rfl⟩⟩
instance inf6 : Inf Tryz.prog 6 (Go.Value.int Go.IntKind.u8 0) 1 1 := ⟨⟨Tryz.t6, Tryz.type6, rfl, rfl, rfl, rfl⟩⟩
instance inf7 : Inf Tryz.prog 7 (Go.Value.agg #[Go.Value.int Go.IntKind.i64 0, Go.Value.int Go.IntKind.i64 0, Go.Value.bool false, Go.Value.int Go.IntKind.u8 0]) 4 24 := ⟨⟨Tryz.t7, Tryz.type7, rfl, rfl, rfl, rfl⟩⟩
instance inf8 : Inf Tryz.prog 8 (Go.Value.agg #[Go.Value.int Go.IntKind.i64 0, Go.Value.int Go.IntKind.i64 0, Go.Value.bool false, Go.Value.int Go.IntKind.u8 0]) 4 24 := ⟨⟨Tryz.t8, Tryz.type8, rfl, rfl, rfl, rfl⟩⟩
instance inf9 : Inf Tryz.prog 9 (Go.Value.string { data := #[] }) 1 16 := ⟨⟨Tryz.t9, Tryz.type9, rfl, rfl, rfl, rfl⟩⟩
instance inf10 : Inf Tryz.prog 10 (Go.Value.string { data := #[] }) 1 16 := ⟨⟨Tryz.t10, Tryz.type10, rfl, rfl, rfl, rfl⟩⟩
instance inf11 : Inf Tryz.prog 11 (Go.Value.string { data := #[] }) 1 16 := ⟨⟨Tryz.t11, Tryz.type11, rfl, rfl, rfl, rfl⟩⟩
instance inf12 : Inf Tryz.prog 12 (Go.Value.int Go.IntKind.u64 0) 1 8 := ⟨⟨Tryz.t12, Tryz.type12, rfl, rfl, rfl, rfl⟩⟩
instance inf13 : Inf Tryz.prog 13 (Go.Value.agg #[Go.Value.string { data := #[] }, Go.Value.int Go.IntKind.u64 0]) 2 24 := ⟨⟨Tryz.t13, Tryz.type13, rfl, rfl, rfl, rfl⟩⟩
instance inf14 : Inf Tryz.prog 14 (Go.Value.agg #[Go.Value.string { data := #[] }, Go.Value.int Go.IntKind.u64 0]) 2 24 := ⟨⟨Tryz.t14, Tryz.type14, rfl, rfl, rfl, rfl⟩⟩
instance inf15 : Inf Tryz.prog 15 (Go.Value.pointer none) 1 8 := ⟨⟨Tryz.t15, Tryz.type15, rfl, rfl, rfl, rfl⟩⟩
instance inf16 : Inf Tryz.prog 16 (Go.Value.pointer none) 1 8 := ⟨⟨Tryz.t16, Tryz.type16, rfl, rfl, rfl, rfl⟩⟩
instance inf17 : Inf Tryz.prog 17 (Go.Value.pointer none) 1 8 := ⟨⟨Tryz.t17, Tryz.type17, rfl, rfl, rfl, rfl⟩⟩
instance inf18 : Inf Tryz.prog 18 (Go.Value.agg #[Go.Value.pointer none]) 1 8 := ⟨⟨Tryz.t18, Tryz.type18, rfl, rfl, rfl, rfl⟩⟩
instance inf19 : Inf Tryz.prog 19 (Go.Value.agg #[Go.Value.pointer none]) 1 8 := ⟨⟨Tryz.t19, Tryz.type19, rfl, rfl, rfl, rfl⟩⟩
instance inf20 : Inf Tryz.prog 20 (Go.Value.nilIface) 1 16 := ⟨⟨Tryz.t20, Tryz.type20, rfl, rfl, rfl, rfl⟩⟩
instance inf21 : Inf Tryz.prog 21 (Go.Value.int Go.IntKind.i32 0) 1 4 := ⟨⟨Tryz.t21, Tryz.type21, rfl, rfl, rfl, rfl⟩⟩
instance inf22 : Inf Tryz.prog 22 (Go.Value.slice none 0 0) 1 24 := ⟨⟨Tryz.t22, Tryz.type22, rfl, rfl, rfl, rfl⟩⟩
instance inf23 : Inf Tryz.prog 23 (Go.Value.nilFunc) 1 8 := ⟨⟨Tryz.t23, Tryz.type23, rfl, rfl, rfl, rfl⟩⟩
instance inf24 : Inf Tryz.prog 24 (Go.Value.nilFunc) 1 8 := ⟨⟨Tryz.t24, Tryz.type24, rfl, rfl, rfl, rfl⟩⟩
instance inf25 : Inf Tryz.prog 25 (Go.Value.int Go.IntKind.i64 0) 1 8 := ⟨⟨Tryz.t25, Tryz.type25, rfl, rfl, rfl, rfl⟩⟩
instance inf26 : Inf Tryz.prog 26 (Go.Value.nilFunc) 1 8 := ⟨⟨Tryz.t26, Tryz.type26, rfl, rfl, rfl, rfl⟩⟩
instance inf27 : Inf Tryz.prog 27 (Go.Value.agg #[Go.Value.int Go.IntKind.i64 0, Go.Value.int Go.IntKind.i64 0, Go.Value.int Go.IntKind.i64 0, Go.Value.int Go.IntKind.i64 0, Go.Value.int Go.IntKind.i64 0, Go.Value.string { data := #[] }, Go.Value.int Go.IntKind.i64 0]) 7 64 := ⟨⟨Tryz.t27, Tryz.type27, rfl, rfl, rfl, rfl⟩⟩
instance inf28 : Inf Tryz.prog 28 (Go.Value.agg #[Go.Value.int Go.IntKind.i64 0, Go.Value.int Go.IntKind.i64 0, Go.Value.int Go.IntKind.i64 0, Go.Value.int Go.IntKind.i64 0, Go.Value.int Go.IntKind.i64 0, Go.Value.string { data := #[] }, Go.Value.int Go.IntKind.i64 0]) 7 64 := ⟨⟨Tryz.t28, Tryz.type28, rfl, rfl, rfl, rfl⟩⟩
instance inf29 : Inf Tryz.prog 29 (Go.Value.tuple #[Go.Value.string { data := #[] }, Go.Value.int Go.IntKind.i64 0]) 1 0 := ⟨⟨Tryz.t29, Tryz.type29, rfl, rfl, rfl, rfl⟩⟩
instance inf30 : Inf Tryz.prog 30 (Go.Value.nilFunc) 1 8 := ⟨⟨Tryz.t30, Tryz.type30, rfl, rfl, rfl, rfl⟩⟩
instance inf31 : Inf Tryz.prog 31 (Go.Value.nilFunc) 1 8 := ⟨⟨Tryz.t31, Tryz.type31, rfl, rfl, rfl, rfl⟩⟩
instance inf32 : Inf Tryz.prog 32 (Go.Value.nilFunc) 1 8 := ⟨⟨Tryz.t32, Tryz.type32, rfl, rfl, rfl, rfl⟩⟩
instance inf33 : Inf Tryz.prog 33 (Go.Value.nilFunc) 1 8 := ⟨⟨Tryz.t33, Tryz.type33, rfl, rfl, rfl, rfl⟩⟩
instance inf34 : Inf Tryz.prog 34 (Go.Value.nilFunc) 1 8 := ⟨⟨Tryz.t34, Tryz.type34, rfl, rfl, rfl, rfl⟩⟩
instance inf35 : Inf Tryz.prog 35 (Go.Value.agg #[Go.Value.int Go.IntKind.i64 0, Go.Value.int Go.IntKind.i64 0]) 2 16 := ⟨⟨Tryz.t35, Tryz.type35, rfl, rfl, rfl, rfl⟩⟩
instance inf36 : Inf Tryz.prog 36 (Go.Value.agg #[Go.Value.int Go.IntKind.i64 0, Go.Value.int Go.IntKind.i64 0]) 2 16 := ⟨⟨Tryz.t36, Tryz.type36, rfl, rfl, rfl, rfl⟩⟩
instance inf37 : Inf Tryz.prog 37 (Go.Value.tuple #[Go.Value.agg #[Go.Value.int Go.IntKind.i64 0, Go.Value.int Go.IntKind.i64 0, Go.Value.int Go.IntKind.i64 0, Go.Value.int Go.IntKind.i64 0, Go.Value.int Go.IntKind.i64 0, Go.Value.string { data := #[] }, Go.Value.int Go.IntKind.i64 0], Go.Value.int Go.IntKind.i64 0, Go.Value.agg #[Go.Value.int Go.IntKind.i64 0, Go.Value.int Go.IntKind.i64 0]]) 1 0 := ⟨⟨Tryz.t37, Tryz.type37, rfl, rfl, rfl, rfl⟩⟩
instance inf38 : Inf Tryz.prog 38 (Go.Value.nilFunc) 1 8 := ⟨⟨Tryz.t38, Tryz.type38, rfl, rfl, rfl, rfl⟩⟩
instance inf39 : Inf Tryz.prog 39 (Go.Value.tuple #[Go.Value.agg #[Go.Value.int Go.IntKind.i64 0, Go.Value.int Go.IntKind.i64 0, Go.Value.int Go.IntKind.i64 0, Go.Value.int Go.IntKind.i64 0, Go.Value.int Go.IntKind.i64 0, Go.Value.string { data := #[] }, Go.Value.int Go.IntKind.i64 0], Go.Value.agg #[Go.Value.int Go.IntKind.i64 0, Go.Value.int Go.IntKind.i64 0]]) 1 0 := ⟨⟨Tryz.t39, Tryz.type39, rfl, rfl, rfl, rfl⟩⟩
instance inf40 : Inf Tryz.prog 40 (Go.Value.nilFunc) 1 8 := ⟨⟨Tryz.t40, Tryz.type40, rfl, rfl, rfl, rfl⟩⟩
instance inf41 : Inf Tryz.prog 41 (Go.Value.tuple #[Go.Value.slice none 0 0, Go.Value.agg #[Go.Value.int Go.IntKind.i64 0, Go.Value.int Go.IntKind.i64 0]]) 1 0 := ⟨⟨Tryz.t41, Tryz.type41, rfl, rfl, rfl, rfl⟩⟩
instance inf42 : Inf Tryz.prog 42 (Go.Value.nilFunc) 1 8 := ⟨⟨Tryz.t42, Tryz.type42, rfl, rfl, rfl, rfl⟩⟩
instance inf43 : Inf Tryz.prog 43 (Go.Value.nilFunc) 1 8 := ⟨⟨Tryz.t43, Tryz.type43, rfl, rfl, rfl, rfl⟩⟩
instance inf44 : Inf Tryz.prog 44 (Go.Value.nilFunc) 1 8 := ⟨⟨Tryz.t44, Tryz.type44, rfl, rfl, rfl, rfl⟩⟩
instance inf45 : Inf Tryz.prog 45 (Go.Value.nilFunc) 1 8 := ⟨⟨Tryz.t45, Tryz.type45, rfl, rfl, rfl, rfl⟩⟩
instance inf46 : Inf Tryz.prog 46 (Go.Value.slice none 0 0) 1 24 := ⟨⟨Tryz.t46, Tryz.type46, rfl, rfl, rfl, rfl⟩⟩
instance inf47 : Inf Tryz.prog 47 (Go.Value.nilFunc) 1 8 := ⟨⟨Tryz.t47, Tryz.type47, rfl, rfl, rfl, rfl⟩⟩
instance inf48 : Inf Tryz.prog 48 (Go.Value.nilFunc) 1 8 := ⟨⟨Tryz.t48, Tryz.type48, rfl, rfl, rfl, rfl⟩⟩
instance inf49 : Inf Tryz.prog 49 (Go.Value.nilFunc) 1 8 := ⟨⟨Tryz.t49, Tryz.type49, rfl, rfl, rfl, rfl⟩⟩
instance inf50 : Inf Tryz.prog 50 (Go.Value.nilFunc) 1 8 := ⟨⟨Tryz.t50, Tryz.type50, rfl, rfl, rfl, rfl⟩⟩
instance inf51 : Inf Tryz.prog 51 (Go.Value.slice none 0 0) 1 24 := ⟨⟨Tryz.t51, Tryz.type51, rfl, rfl, rfl, rfl⟩⟩
instance inf52 : Inf Tryz.prog 52 (Go.Value.nilFunc) 1 8 := ⟨⟨Tryz.t52, Tryz.type52, rfl, rfl, rfl, rfl⟩⟩
instance inf53 : Inf Tryz.prog 53 (Go.Value.int Go.IntKind.i64 0) 1 8 := ⟨⟨Tryz.t53, Tryz.type53, rfl, rfl, rfl, rfl⟩⟩
instance inf54 : Inf Tryz.prog 54 (Go.Value.nilFunc) 1 8 := ⟨⟨Tryz.t54, Tryz.type54, rfl, rfl, rfl, rfl⟩⟩
instance inf55 : Inf Tryz.prog 55 (Go.Value.nilFunc) 1 8 := ⟨⟨Tryz.t55, Tryz.type55, rfl, rfl, rfl, rfl⟩⟩
instance inf56 : Inf Tryz.prog 56 (Go.Value.nilFunc) 1 8 := ⟨⟨Tryz.t56, Tryz.type56, rfl, rfl, rfl, rfl⟩⟩
instance inf57 : Inf Tryz.prog 57 (Go.Value.nilFunc) 1 8 := ⟨⟨Tryz.t57, Tryz.type57, rfl, rfl, rfl, rfl⟩⟩
instance inf58 : Inf Tryz.prog 58 (Go.Value.pointer none) 1 8 := ⟨⟨Tryz.t58, Tryz.type58, rfl, rfl, rfl, rfl⟩⟩
instance inf59 : Inf Tryz.prog 59 (Go.Value.agg #[Go.Value.string { data := #[] }, Go.Value.int Go.IntKind.i64 0, Go.Value.int Go.IntKind.i64 0]) 3 32 := ⟨⟨Tryz.t59, Tryz.type59, rfl, rfl, rfl, rfl⟩⟩
instance inf60 : Inf Tryz.prog 60 (Go.Value.agg #[Go.Value.string { data := #[] }, Go.Value.int Go.IntKind.i64 0, Go.Value.int Go.IntKind.i64 0]) 3 32 := ⟨⟨Tryz.t60, Tryz.type60, rfl, rfl, rfl, rfl⟩⟩
instance inf61 : Inf Tryz.prog 61 (Go.Value.nilFunc) 1 8 := ⟨⟨Tryz.t61, Tryz.type61, rfl, rfl, rfl, rfl⟩⟩
instance inf62 : Inf Tryz.prog 62 (Go.Value.nilFunc) 1 8 := ⟨⟨Tryz.t62, Tryz.type62, rfl, rfl, rfl, rfl⟩⟩
instance inf63 : Inf Tryz.prog 63 (Go.Value.int Go.IntKind.u64 0) 1 8 := ⟨⟨Tryz.t63, Tryz.type63, rfl, rfl, rfl, rfl⟩⟩
instance inf64 : Inf Tryz.prog 64 (Go.Value.agg #[Go.Value.string { data := #[] }, Go.Value.int Go.IntKind.i64 0, Go.Value.int Go.IntKind.i64 0, Go.Value.int Go.IntKind.i64 0, Go.Value.int Go.IntKind.i64 0, Go.Value.int Go.IntKind.i64 0, Go.Value.int Go.IntKind.i64 0, Go.Value.int Go.IntKind.i64 0, Go.Value.string { data := #[] }, Go.Value.int Go.IntKind.i64 0]) 10 96 := ⟨⟨Tryz.t64, Tryz.type64, rfl, rfl, rfl, rfl⟩⟩
instance inf65 : Inf Tryz.prog 65 (Go.Value.agg #[Go.Value.string { data := #[] }, Go.Value.int Go.IntKind.i64 0, Go.Value.int Go.IntKind.i64 0, Go.Value.int Go.IntKind.i64 0, Go.Value.int Go.IntKind.i64 0, Go.Value.int Go.IntKind.i64 0, Go.Value.int Go.IntKind.i64 0, Go.Value.int Go.IntKind.i64 0, Go.Value.string { data := #[] }, Go.Value.int Go.IntKind.i64 0]) 10 96 := ⟨⟨Tryz.t65, Tryz.type65, rfl, rfl, rfl, rfl⟩⟩
instance inf66 : Inf Tryz.prog 66 (Go.Value.map none) 1 8 := ⟨⟨Tryz.t66, Tryz.type66, rfl, rfl, rfl, rfl⟩⟩
instance inf67 : Inf Tryz.prog 67 (Go.Value.nilFunc) 1 8 := ⟨⟨Tryz.t67, Tryz.type67, rfl, rfl, rfl, rfl⟩⟩
instance inf68 : Inf Tryz.prog 68 (Go.Value.nilFunc) 1 8 := ⟨⟨Tryz.t68, Tryz.type68, rfl, rfl, rfl, rfl⟩⟩
instance inf69 : Inf Tryz.prog 69 (Go.Value.nilFunc) 1 8 := ⟨⟨Tryz.t69, Tryz.type69, rfl, rfl, rfl, rfl⟩⟩
instance inf70 : Inf Tryz.prog 70 (Go.Value.nilFunc) 1 8 := ⟨⟨Tryz.t70, Tryz.type70, rfl, rfl, rfl, rfl⟩⟩
instance inf71 : Inf Tryz.prog 71 (Go.Value.nilFunc) 1 8 := ⟨⟨Tryz.t71, Tryz.type71, rfl, rfl, rfl, rfl⟩⟩
instance inf72 : Inf Tryz.prog 72 (Go.Value.nilFunc) 1 8 := ⟨⟨Tryz.t72, Tryz.type72, rfl, rfl, rfl, rfl⟩⟩
instance inf73 : Inf Tryz.prog 73 (Go.Value.nilFunc) 1 8 := ⟨⟨Tryz.t73, Tryz.type73, rfl, rfl, rfl, rfl⟩⟩
instance inf74 : Inf Tryz.prog 74 (Go.Value.nilFunc) 1 8 := ⟨⟨Tryz.t74, Tryz.type74, rfl, rfl, rfl, rfl⟩⟩
instance inf75 : Inf Tryz.prog 75 (Go.Value.nilFunc) 1 8 := ⟨⟨Tryz.t75, Tryz.type75, rfl, rfl, rfl, rfl⟩⟩
instance inf76 : Inf Tryz.prog 76 (Go.Value.nilFunc) 1 8 := ⟨⟨Tryz.t76, Tryz.type76, rfl, rfl, rfl, rfl⟩⟩
instance inf77 : Inf Tryz.prog 77 (Go.Value.pointer none) 1 8 := ⟨⟨Tryz.t77, Tryz.type77, rfl, rfl, rfl, rfl⟩⟩
instance inf78 : Inf Tryz.prog 78 (Go.Value.slice none 0 0) 1 24 := ⟨⟨Tryz.t78, Tryz.type78, rfl, rfl, rfl, rfl⟩⟩
instance inf79 : Inf Tryz.prog 79 (Go.Value.agg #[Go.Value.pointer none, Go.Value.slice none 0 0]) 2 32 := ⟨⟨Tryz.t79, Tryz.type79, rfl, rfl, rfl, rfl⟩⟩
instance inf80 : Inf Tryz.prog 80 (Go.Value.agg #[Go.Value.pointer none, Go.Value.slice none 0 0]) 2 32 := ⟨⟨Tryz.t80, Tryz.type80, rfl, rfl, rfl, rfl⟩⟩
instance inf81 : Inf Tryz.prog 81 (Go.Value.nilIface) 1 16 := ⟨⟨Tryz.t81, Tryz.type81, rfl, rfl, rfl, rfl⟩⟩
instance inf82 : Inf Tryz.prog 82 (Go.Value.nilIface) 1 16 := ⟨⟨Tryz.t82, Tryz.type82, rfl, rfl, rfl, rfl⟩⟩
instance inf83 : Inf Tryz.prog 83 (Go.Value.tuple #[Go.Value.int Go.IntKind.i64 0, Go.Value.nilIface]) 1 0 := ⟨⟨Tryz.t83, Tryz.type83, rfl, rfl, rfl, rfl⟩⟩
instance inf84 : Inf Tryz.prog 84 (Go.Value.nilFunc) 1 8 := ⟨⟨Tryz.t84, Tryz.type84, rfl, rfl, rfl, rfl⟩⟩
instance inf85 : Inf Tryz.prog 85 (Go.Value.nilFunc) 1 8 := ⟨⟨Tryz.t85, Tryz.type85, rfl, rfl, rfl, rfl⟩⟩
instance inf86 : Inf Tryz.prog 86 (Go.Value.nilFunc) 1 8 := ⟨⟨Tryz.t86, Tryz.type86, rfl, rfl, rfl, rfl⟩⟩
instance inf87 : Inf Tryz.prog 87 (Go.Value.agg #[Go.Value.string { data := #[] }, Go.Value.int Go.IntKind.i64 0, Go.Value.int Go.IntKind.i64 0, Go.Value.int Go.IntKind.i64 0]) 4 40 := ⟨⟨Tryz.t87, Tryz.type87, rfl, rfl, rfl, rfl⟩⟩
instance inf88 : Inf Tryz.prog 88 (Go.Value.agg #[Go.Value.string { data := #[] }, Go.Value.int Go.IntKind.i64 0, Go.Value.int Go.IntKind.i64 0, Go.Value.int Go.IntKind.i64 0]) 4 40 := ⟨⟨Tryz.t88, Tryz.type88, rfl, rfl, rfl, rfl⟩⟩
instance inf89 : Inf Tryz.prog 89 (Go.Value.nilFunc) 1 8 := ⟨⟨Tryz.t89, Tryz.type89, rfl, rfl, rfl, rfl⟩⟩
instance inf90 : Inf Tryz.prog 90 (Go.Value.tuple #[Go.Value.agg #[Go.Value.string { data := #[] }, Go.Value.int Go.IntKind.i64 0, Go.Value.int Go.IntKind.i64 0, Go.Value.int Go.IntKind.i64 0], Go.Value.int Go.IntKind.i64 0]) 1 0 := ⟨⟨Tryz.t90, Tryz.type90, rfl, rfl, rfl, rfl⟩⟩
instance inf91 : Inf Tryz.prog 91 (Go.Value.nilFunc) 1 8 := ⟨⟨Tryz.t91, Tryz.type91, rfl, rfl, rfl, rfl⟩⟩
instance inf92 : Inf Tryz.prog 92 (Go.Value.tuple #[Go.Value.agg #[Go.Value.string { data := #[] }, Go.Value.int Go.IntKind.i64 0, Go.Value.int Go.IntKind.i64 0, Go.Value.int Go.IntKind.i64 0], Go.Value.string { data := #[] }]) 1 0 := ⟨⟨Tryz.t92, Tryz.type92, rfl, rfl, rfl, rfl⟩⟩
instance inf93 : Inf Tryz.prog 93 (Go.Value.nilFunc) 1 8 := ⟨⟨Tryz.t93, Tryz.type93, rfl, rfl, rfl, rfl⟩⟩
instance inf94 : Inf Tryz.prog 94 (Go.Value.tuple #[Go.Value.string { data := #[] }, Go.Value.string { data := #[] }, Go.Value.bool false]) 1 0 := ⟨⟨Tryz.t94, Tryz.type94, rfl, rfl, rfl, rfl⟩⟩
instance inf95 : Inf Tryz.prog 95 (Go.Value.nilFunc) 1 8 := ⟨⟨Tryz.t95, Tryz.type95, rfl, rfl, rfl, rfl⟩⟩
instance inf96 : Inf Tryz.prog 96 (Go.Value.tuple #[Go.Value.agg #[Go.Value.int Go.IntKind.i64 0, Go.Value.int Go.IntKind.i64 0, Go.Value.int Go.IntKind.i64 0, Go.Value.int Go.IntKind.i64 0, Go.Value.int Go.IntKind.i64 0, Go.Value.string { data := #[] }, Go.Value.int Go.IntKind.i64 0], Go.Value.bool false]) 1 0 := ⟨⟨Tryz.t96, Tryz.type96, rfl, rfl, rfl, rfl⟩⟩
instance inf97 : Inf Tryz.prog 97 (Go.Value.nilFunc) 1 8 := ⟨⟨Tryz.t97, Tryz.type97, rfl, rfl, rfl, rfl⟩⟩
instance inf98 : Inf Tryz.prog 98 (Go.Value.nilFunc) 1 8 := ⟨⟨Tryz.t98, Tryz.type98, rfl, rfl, rfl, rfl⟩⟩
instance inf99 : Inf Tryz.prog 99 (Go.Value.pointer none) 1 8 := ⟨⟨Tryz.t99, Tryz.type99, rfl, rfl, rfl, rfl⟩⟩
instance inf100 : Inf Tryz.prog 100 (Go.Value.nilFunc) 1 8 := ⟨⟨Tryz.t100, Tryz.type100, rfl, rfl, rfl, rfl⟩⟩
instance inf101 : Inf Tryz.prog 101 (Go.Value.nilFunc) 1 8 := ⟨⟨Tryz.t101, Tryz.type101, rfl, rfl, rfl, rfl⟩⟩
instance inf102 : Inf Tryz.prog 102 (Go.Value.nilFunc) 1 8 := ⟨⟨Tryz.t102, Tryz.type102, rfl, rfl, rfl, rfl⟩⟩
instance inf103 : Inf Tryz.prog 103 (Go.Value.agg #[Go.Value.string { data := #[] }, Go.Value.int Go.IntKind.i64 0, Go.Value.int Go.IntKind.i64 0]) 3 32 := ⟨⟨Tryz.t103, Tryz.type103, rfl, rfl, rfl, rfl⟩⟩
instance inf104 : Inf Tryz.prog 104 (Go.Value.agg #[Go.Value.string { data := #[] }, Go.Value.int Go.IntKind.i64 0, Go.Value.int Go.IntKind.i64 0]) 3 32 := ⟨⟨Tryz.t104, Tryz.type104, rfl, rfl, rfl, rfl⟩⟩
instance inf105 : Inf Tryz.prog 105 (Go.Value.nilFunc) 1 8 := ⟨⟨Tryz.t105, Tryz.type105, rfl, rfl, rfl, rfl⟩⟩
instance inf106 : Inf Tryz.prog 106 (Go.Value.nilFunc) 1 8 := ⟨⟨Tryz.t106, Tryz.type106, rfl, rfl, rfl, rfl⟩⟩
instance inf107 : Inf Tryz.prog 107 (Go.Value.int Go.IntKind.u64 0) 1 8 := ⟨⟨Tryz.t107, Tryz.type107, rfl, rfl, rfl, rfl⟩⟩
instance inf108 : Inf Tryz.prog 108 (Go.Value.nilFunc) 1 8 := ⟨⟨Tryz.t108, Tryz.type108, rfl, rfl, rfl, rfl⟩⟩
instance inf109 : Inf Tryz.prog 109 (Go.Value.pointer none) 1 8 := ⟨⟨Tryz.t109, Tryz.type109, rfl, rfl, rfl, rfl⟩⟩
instance inf110 : Inf Tryz.prog 110 (Go.Value.agg Go.Proofs.Tryz.zeroCells110) 256 256 := ⟨⟨Tryz.t110, Tryz.type110, rfl, rfl, rfl, rfl⟩⟩
instance inf111 : Inf Tryz.prog 111 (Go.Value.nilFunc) 1 8 := ⟨⟨Tryz.t111, Tryz.type111, rfl, rfl, rfl, rfl⟩⟩
instance inf112 : Inf Tryz.prog 112 (Go.Value.nilFunc) 1 8 := ⟨⟨Tryz.t112, Tryz.type112, rfl, rfl, rfl, rfl⟩⟩
instance inf113 : Inf Tryz.prog 113 (Go.Value.agg #[Go.Value.string { data := #[] }, Go.Value.int Go.IntKind.i64 0, Go.Value.int Go.IntKind.i64 0, Go.Value.int Go.IntKind.i64 0]) 4 40 := ⟨⟨Tryz.t113, Tryz.type113, rfl, rfl, rfl, rfl⟩⟩
instance inf114 : Inf Tryz.prog 114 (Go.Value.agg #[Go.Value.string { data := #[] }, Go.Value.int Go.IntKind.i64 0, Go.Value.int Go.IntKind.i64 0, Go.Value.int Go.IntKind.i64 0]) 4 40 := ⟨⟨Tryz.t114, Tryz.type114, rfl, rfl, rfl, rfl⟩⟩
instance inf115 : Inf Tryz.prog 115 (Go.Value.pointer none) 1 8 := ⟨⟨Tryz.t115, Tryz.type115, rfl, rfl, rfl, rfl⟩⟩
instance inf116 : Inf Tryz.prog 116 (Go.Value.nilFunc) 1 8 := ⟨⟨Tryz.t116, Tryz.type116, rfl, rfl, rfl, rfl⟩⟩
instance inf117 : Inf Tryz.prog 117 (Go.Value.nilFunc) 1 8 := ⟨⟨Tryz.t117, Tryz.type117, rfl, rfl, rfl, rfl⟩⟩
instance inf118 : Inf Tryz.prog 118 (Go.Value.nilFunc) 1 8 := ⟨⟨Tryz.t118, Tryz.type118, rfl, rfl, rfl, rfl⟩⟩
instance inf119 : Inf Tryz.prog 119 (Go.Value.nilFunc) 1 8 := ⟨⟨Tryz.t119, Tryz.type119, rfl, rfl, rfl, rfl⟩⟩
instance inf120 : Inf Tryz.prog 120 (Go.Value.nilFunc) 1 8 := ⟨⟨Tryz.t120, Tryz.type120, rfl, rfl, rfl, rfl⟩⟩
instance inf121 : Inf Tryz.prog 121 (Go.Value.nilFunc) 1 8 := ⟨⟨Tryz.t121, Tryz.type121, rfl, rfl, rfl, rfl⟩⟩
instance inf122 : Inf Tryz.prog 122 (Go.Value.tuple #[Go.Value.agg #[Go.Value.string { data := #[] }, Go.Value.int Go.IntKind.i64 0, Go.Value.int Go.IntKind.i64 0, Go.Value.int Go.IntKind.i64 0], Go.Value.int Go.IntKind.u64 0]) 1 0 := ⟨⟨Tryz.t122, Tryz.type122, rfl, rfl, rfl, rfl⟩⟩
instance inf123 : Inf Tryz.prog 123 (Go.Value.nilFunc) 1 8 := ⟨⟨Tryz.t123, Tryz.type123, rfl, rfl, rfl, rfl⟩⟩
instance inf124 : Inf Tryz.prog 124 (Go.Value.nilFunc) 1 8 := ⟨⟨Tryz.t124, Tryz.type124, rfl, rfl, rfl, rfl⟩⟩
instance inf125 : Inf Tryz.prog 125 (Go.Value.nilFunc) 1 8 := ⟨⟨Tryz.t125, Tryz.type125, rfl, rfl, rfl, rfl⟩⟩
instance inf126 : Inf Tryz.prog 126 (Go.Value.nilFunc) 1 8 := ⟨⟨Tryz.t126, Tryz.type126, rfl, rfl, rfl, rfl⟩⟩
instance inf127 : Inf Tryz.prog 127 (Go.Value.tuple #[Go.Value.string { data := #[] }, Go.Value.bool false]) 1 0 := ⟨⟨Tryz.t127, Tryz.type127, rfl, rfl, rfl, rfl⟩⟩
instance inf128 : Inf Tryz.prog 128 (Go.Value.nilFunc) 1 8 := ⟨⟨Tryz.t128, Tryz.type128, rfl, rfl, rfl, rfl⟩⟩
instance inf129 : Inf Tryz.prog 129 (Go.Value.tuple #[Go.Value.int Go.IntKind.i64 0, Go.Value.bool false]) 1 0 := ⟨⟨Tryz.t129, Tryz.type129, rfl, rfl, rfl, rfl⟩⟩
instance inf130 : Inf Tryz.prog 130 (Go.Value.nilFunc) 1 8 := ⟨⟨Tryz.t130, Tryz.type130, rfl, rfl, rfl, rfl⟩⟩
instance inf131 : Inf Tryz.prog 131 (Go.Value.tuple #[Go.Value.int Go.IntKind.i64 0, Go.Value.bool false]) 1 0 := ⟨⟨Tryz.t131, Tryz.type131, rfl, rfl, rfl, rfl⟩⟩
instance inf132 : Inf Tryz.prog 132 (Go.Value.nilFunc) 1 8 := ⟨⟨Tryz.t132, Tryz.type132, rfl, rfl, rfl, rfl⟩⟩
instance inf133 : Inf Tryz.prog 133 (Go.Value.nilFunc) 1 8 := ⟨⟨Tryz.t133, Tryz.type133, rfl, rfl, rfl, rfl⟩⟩
instance inf134 : Inf Tryz.prog 134 (Go.Value.slice none 0 0) 1 24 := ⟨⟨Tryz.t134, Tryz.type134, rfl, rfl, rfl, rfl⟩⟩
instance inf135 : Inf Tryz.prog 135 (Go.Value.nilFunc) 1 8 := ⟨⟨Tryz.t135, Tryz.type135, rfl, rfl, rfl, rfl⟩⟩
instance inf136 : Inf Tryz.prog 136 (Go.Value.nilFunc) 1 8 := ⟨⟨Tryz.t136, Tryz.type136, rfl, rfl, rfl, rfl⟩⟩
instance inf137 : Inf Tryz.prog 137 (Go.Value.pointer none) 1 8 := ⟨⟨Tryz.t137, Tryz.type137, rfl, rfl, rfl, rfl⟩⟩
instance inf138 : Inf Tryz.prog 138 (Go.Value.nilFunc) 1 8 := ⟨⟨Tryz.t138, Tryz.type138, rfl, rfl, rfl, rfl⟩⟩
instance inf139 : Inf Tryz.prog 139 (Go.Value.slice none 0 0) 1 24 := ⟨⟨Tryz.t139, Tryz.type139, rfl, rfl, rfl, rfl⟩⟩
instance inf140 : Inf Tryz.prog 140 (Go.Value.agg #[Go.Value.int Go.IntKind.i64 0, Go.Value.int Go.IntKind.i64 0]) 2 16 := ⟨⟨Tryz.t140, Tryz.type140, rfl, rfl, rfl, rfl⟩⟩
instance inf141 : Inf Tryz.prog 141 (Go.Value.agg #[Go.Value.int Go.IntKind.i64 0, Go.Value.int Go.IntKind.i64 0]) 2 16 := ⟨⟨Tryz.t141, Tryz.type141, rfl, rfl, rfl, rfl⟩⟩
instance inf142 : Inf Tryz.prog 142 (Go.Value.int Go.IntKind.u32 0) 1 4 := ⟨⟨Tryz.t142, Tryz.type142, rfl, rfl, rfl, rfl⟩⟩
instance inf143 : Inf Tryz.prog 143 (Go.Value.nilFunc) 1 8 := ⟨⟨Tryz.t143, Tryz.type143, rfl, rfl, rfl, rfl⟩⟩
instance inf144 : Inf Tryz.prog 144 (Go.Value.pointer none) 1 8 := ⟨⟨Tryz.t144, Tryz.type144, rfl, rfl, rfl, rfl⟩⟩
instance inf145 : Inf Tryz.prog 145 (Go.Value.tuple #[Go.Value.int Go.IntKind.u64 0, Go.Value.int Go.IntKind.i64 0, Go.Value.agg #[Go.Value.int Go.IntKind.i64 0, Go.Value.int Go.IntKind.i64 0]]) 1 0 := ⟨⟨Tryz.t145, Tryz.type145, rfl, rfl, rfl, rfl⟩⟩
instance inf146 : Inf Tryz.prog 146 (Go.Value.nilFunc) 1 8 := ⟨⟨Tryz.t146, Tryz.type146, rfl, rfl, rfl, rfl⟩⟩
instance inf147 : Inf Tryz.prog 147 (Go.Value.nilFunc) 1 8 := ⟨⟨Tryz.t147, Tryz.type147, rfl, rfl, rfl, rfl⟩⟩
instance inf148 : Inf Tryz.prog 148 (Go.Value.nilFunc) 1 8 := ⟨⟨Tryz.t148, Tryz.type148, rfl, rfl, rfl, rfl⟩⟩
instance inf149 : Inf Tryz.prog 149 (Go.Value.nilFunc) 1 8 := ⟨⟨Tryz.t149, Tryz.type149, rfl, rfl, rfl, rfl⟩⟩
instance inf150 : Inf Tryz.prog 150 (Go.Value.nilFunc) 1 8 := ⟨⟨Tryz.t150, Tryz.type150, rfl, rfl, rfl, rfl⟩⟩
instance inf151 : Inf Tryz.prog 151 (Go.Value.nilFunc) 1 8 := ⟨⟨Tryz.t151, Tryz.type151, rfl, rfl, rfl, rfl⟩⟩
instance inf152 : Inf Tryz.prog 152 (Go.Value.nilFunc) 1 8 := ⟨⟨Tryz.t152, Tryz.type152, rfl, rfl, rfl, rfl⟩⟩
instance inf153 : Inf Tryz.prog 153 (Go.Value.nilFunc) 1 8 := ⟨⟨Tryz.t153, Tryz.type153, rfl, rfl, rfl, rfl⟩⟩
instance inf154 : Inf Tryz.prog 154 (Go.Value.nilFunc) 1 8 := ⟨⟨Tryz.t154, Tryz.type154, rfl, rfl, rfl, rfl⟩⟩
instance inf155 : Inf Tryz.prog 155 (Go.Value.agg #[Go.Value.int Go.IntKind.u8 0, Go.Value.int Go.IntKind.u8 0, Go.Value.int Go.IntKind.u8 0, Go.Value.int Go.IntKind.u8 0, Go.Value.int Go.IntKind.u8 0, Go.Value.int Go.IntKind.u8 0, Go.Value.int Go.IntKind.u8 0, Go.Value.int Go.IntKind.u8 0, Go.Value.int Go.IntKind.u8 0, Go.Value.int Go.IntKind.u8 0, Go.Value.int Go.IntKind.u8 0, Go.Value.int Go.IntKind.u8 0, Go.Value.int Go.IntKind.u8 0, Go.Value.int Go.IntKind.u8 0, Go.Value.int Go.IntKind.u8 0, Go.Value.int Go.IntKind.u8 0, Go.Value.int Go.IntKind.u8 0, Go.Value.int Go.IntKind.u8 0, Go.Value.int Go.IntKind.u8 0, Go.Value.int Go.IntKind.u8 0, Go.Value.int Go.IntKind.u8 0, Go.Value.int Go.IntKind.u8 0, Go.Value.int Go.IntKind.u8 0, Go.Value.int Go.IntKind.u8 0]) 24 24 := ⟨⟨Tryz.t155, Tryz.type155, rfl, rfl, rfl, rfl⟩⟩
instance inf156 : Inf Tryz.prog 156 (Go.Value.nilFunc) 1 8 := ⟨⟨Tryz.t156, Tryz.type156, rfl, rfl, rfl, rfl⟩⟩
instance inf157 : Inf Tryz.prog 157 (Go.Value.nilFunc) 1 8 := ⟨⟨Tryz.t157, Tryz.type157, rfl, rfl, rfl, rfl⟩⟩
instance inf158 : Inf Tryz.prog 158 (Go.Value.tuple #[Go.Value.slice none 0 0, Go.Value.string { data := #[] }]) 1 0 := ⟨⟨Tryz.t158, Tryz.type158, rfl, rfl, rfl, rfl⟩⟩
instance inf159 : Inf Tryz.prog 159 (Go.Value.nilFunc) 1 8 := ⟨⟨Tryz.t159, Tryz.type159, rfl, rfl, rfl, rfl⟩⟩
instance inf160 : Inf Tryz.prog 160 (Go.Value.slice none 0 0) 1 24 := ⟨⟨Tryz.t160, Tryz.type160, rfl, rfl, rfl, rfl⟩⟩
instance inf161 : Inf Tryz.prog 161 (Go.Value.slice none 0 0) 1 24 := ⟨⟨Tryz.t161, Tryz.type161, rfl, rfl, rfl, rfl⟩⟩
instance inf162 : Inf Tryz.prog 162 (Go.Value.agg #[Go.Value.slice none 0 0, Go.Value.slice none 0 0, Go.Value.int Go.IntKind.i64 0]) 3 56 := ⟨⟨Tryz.t162, Tryz.type162, rfl, rfl, rfl, rfl⟩⟩
instance inf163 : Inf Tryz.prog 163 (Go.Value.agg #[Go.Value.slice none 0 0, Go.Value.slice none 0 0, Go.Value.int Go.IntKind.i64 0]) 3 56 := ⟨⟨Tryz.t163, Tryz.type163, rfl, rfl, rfl, rfl⟩⟩
instance inf164 : Inf Tryz.prog 164 (Go.Value.int Go.IntKind.u16 0) 1 2 := ⟨⟨Tryz.t164, Tryz.type164, rfl, rfl, rfl, rfl⟩⟩
instance inf165 : Inf Tryz.prog 165 (Go.Value.agg #[Go.Value.int Go.IntKind.u16 0, Go.Value.int Go.IntKind.u16 0, Go.Value.int Go.IntKind.u16 0]) 3 6 := ⟨⟨Tryz.t165, Tryz.type165, rfl, rfl, rfl, rfl⟩⟩
instance inf166 : Inf Tryz.prog 166 (Go.Value.agg #[Go.Value.int Go.IntKind.u16 0, Go.Value.int Go.IntKind.u16 0, Go.Value.int Go.IntKind.u16 0]) 3 6 := ⟨⟨Tryz.t166, Tryz.type166, rfl, rfl, rfl, rfl⟩⟩
instance inf167 : Inf Tryz.prog 167 (Go.Value.nilFunc) 1 8 := ⟨⟨Tryz.t167, Tryz.type167, rfl, rfl, rfl, rfl⟩⟩
instance inf168 : Inf Tryz.prog 168 (Go.Value.agg #[Go.Value.int Go.IntKind.u32 0, Go.Value.int Go.IntKind.u32 0, Go.Value.int Go.IntKind.u32 0]) 3 12 := ⟨⟨Tryz.t168, Tryz.type168, rfl, rfl, rfl, rfl⟩⟩
instance inf169 : Inf Tryz.prog 169 (Go.Value.agg #[Go.Value.int Go.IntKind.u32 0, Go.Value.int Go.IntKind.u32 0, Go.Value.int Go.IntKind.u32 0]) 3 12 := ⟨⟨Tryz.t169, Tryz.type169, rfl, rfl, rfl, rfl⟩⟩
instance inf170 : Inf Tryz.prog 170 (Go.Value.nilFunc) 1 8 := ⟨⟨Tryz.t170, Tryz.type170, rfl, rfl, rfl, rfl⟩⟩
instance inf171 : Inf Tryz.prog 171 (Go.Value.nilFunc) 1 8 := ⟨⟨Tryz.t171, Tryz.type171, rfl, rfl, rfl, rfl⟩⟩
instance inf172 : Inf Tryz.prog 172 (Go.Value.nilFunc) 1 8 := ⟨⟨Tryz.t172, Tryz.type172, rfl, rfl, rfl, rfl⟩⟩
instance inf173 : Inf Tryz.prog 173 (Go.Value.nilFunc) 1 8 := ⟨⟨Tryz.t173, Tryz.type173, rfl, rfl, rfl, rfl⟩⟩
instance inf174 : Inf Tryz.prog 174 (Go.Value.int Go.IntKind.i64 0) 1 8 := ⟨⟨Tryz.t174, Tryz.type174, rfl, rfl, rfl, rfl⟩⟩
instance inf175 : Inf Tryz.prog 175 (Go.Value.tuple #[Go.Value.int Go.IntKind.i64 0, Go.Value.nilIface]) 1 0 := ⟨⟨Tryz.t175, Tryz.type175, rfl, rfl, rfl, rfl⟩⟩
instance inf176 : Inf Tryz.prog 176 (Go.Value.nilFunc) 1 8 := ⟨⟨Tryz.t176, Tryz.type176, rfl, rfl, rfl, rfl⟩⟩
instance inf177 : Inf Tryz.prog 177 (Go.Value.pointer none) 1 8 := ⟨⟨Tryz.t177, Tryz.type177, rfl, rfl, rfl, rfl⟩⟩
instance inf178 : Inf Tryz.prog 178 (Go.Value.nilFunc) 1 8 := ⟨⟨Tryz.t178, Tryz.type178, rfl, rfl, rfl, rfl⟩⟩
instance inf179 : Inf Tryz.prog 179 (Go.Value.nilFunc) 1 8 := ⟨⟨Tryz.t179, Tryz.type179, rfl, rfl, rfl, rfl⟩⟩
instance inf180 : Inf Tryz.prog 180 (Go.Value.nilFunc) 1 8 := ⟨⟨Tryz.t180, Tryz.type180, rfl, rfl, rfl, rfl⟩⟩
instance inf181 : Inf Tryz.prog 181 (Go.Value.nilFunc) 1 8 := ⟨⟨Tryz.t181, Tryz.type181, rfl, rfl, rfl, rfl⟩⟩
instance inf182 : Inf Tryz.prog 182 (Go.Value.agg #[Go.Value.int Go.IntKind.u64 0, Go.Value.int Go.IntKind.u64 0, Go.Value.int Go.IntKind.u64 0, Go.Value.int Go.IntKind.u64 0, Go.Value.int Go.IntKind.u64 0, Go.Value.int Go.IntKind.u64 0, Go.Value.int Go.IntKind.u64 0, Go.Value.int Go.IntKind.u64 0, Go.Value.int Go.IntKind.u64 0, Go.Value.int Go.IntKind.u64 0, Go.Value.int Go.IntKind.u64 0, Go.Value.int Go.IntKind.u64 0, Go.Value.int Go.IntKind.u64 0, Go.Value.int Go.IntKind.u64 0, Go.Value.int Go.IntKind.u64 0, Go.Value.int Go.IntKind.u64 0, Go.Value.int Go.IntKind.u64 0, Go.Value.int Go.IntKind.u64 0, Go.Value.int Go.IntKind.u64 0, Go.Value.int Go.IntKind.u64 0]) 20 160 := ⟨⟨Tryz.t182, Tryz.type182, rfl, rfl, rfl, rfl⟩⟩
instance inf183 : Inf Tryz.prog 183 (Go.Value.agg Go.Proofs.Tryz.zeroCells183) 65 65 := ⟨⟨Tryz.t183, Tryz.type183, rfl, rfl, rfl, rfl⟩⟩
instance inf184 : Inf Tryz.prog 184 (Go.Value.nilFunc) 1 8 := ⟨⟨Tryz.t184, Tryz.type184, rfl, rfl, rfl, rfl⟩⟩
instance inf185 : Inf Tryz.prog 185 (Go.Value.nilFunc) 1 8 := ⟨⟨Tryz.t185, Tryz.type185, rfl, rfl, rfl, rfl⟩⟩
instance inf186 : Inf Tryz.prog 186 (Go.Value.pointer none) 1 8 := ⟨⟨Tryz.t186, Tryz.type186, rfl, rfl, rfl, rfl⟩⟩
instance inf187 : Inf Tryz.prog 187 (Go.Value.pointer none) 1 8 := ⟨⟨Tryz.t187, Tryz.type187, rfl, rfl, rfl, rfl⟩⟩
instance inf188 : Inf Tryz.prog 188 (Go.Value.tuple #[Go.Value.int Go.IntKind.u32 0, Go.Value.int Go.IntKind.u32 0]) 1 0 := ⟨⟨Tryz.t188, Tryz.type188, rfl, rfl, rfl, rfl⟩⟩
instance inf189 : Inf Tryz.prog 189 (Go.Value.nilFunc) 1 8 := ⟨⟨Tryz.t189, Tryz.type189, rfl, rfl, rfl, rfl⟩⟩
instance inf190 : Inf Tryz.prog 190 (Go.Value.nilFunc) 1 8 := ⟨⟨Tryz.t190, Tryz.type190, rfl, rfl, rfl, rfl⟩⟩
instance inf191 : Inf Tryz.prog 191 (Go.Value.tuple #[Go.Value.int Go.IntKind.i32 0, Go.Value.int Go.IntKind.i64 0]) 1 0 := ⟨⟨Tryz.t191, Tryz.type191, rfl, rfl, rfl, rfl⟩⟩
instance inf192 : Inf Tryz.prog 192 (Go.Value.nilFunc) 1 8 := ⟨⟨Tryz.t192, Tryz.type192, rfl, rfl, rfl, rfl⟩⟩
instance inf193 : Inf Tryz.prog 193 (Go.Value.tuple #[Go.Value.int Go.IntKind.u64 0, Go.Value.nilIface]) 1 0 := ⟨⟨Tryz.t193, Tryz.type193, rfl, rfl, rfl, rfl⟩⟩
instance inf194 : Inf Tryz.prog 194 (Go.Value.nilFunc) 1 8 := ⟨⟨Tryz.t194, Tryz.type194, rfl, rfl, rfl, rfl⟩⟩
instance inf195 : Inf Tryz.prog 195 (Go.Value.agg #[Go.Value.string { data := #[] }, Go.Value.string { data := #[] }, Go.Value.nilIface]) 3 48 := ⟨⟨Tryz.t195, Tryz.type195, rfl, rfl, rfl, rfl⟩⟩
instance inf196 : Inf Tryz.prog 196 (Go.Value.agg #[Go.Value.string { data := #[] }, Go.Value.string { data := #[] }, Go.Value.nilIface]) 3 48 := ⟨⟨Tryz.t196, Tryz.type196, rfl, rfl, rfl, rfl⟩⟩
instance inf197 : Inf Tryz.prog 197 (Go.Value.nilFunc) 1 8 := ⟨⟨Tryz.t197, Tryz.type197, rfl, rfl, rfl, rfl⟩⟩
instance inf198 : Inf Tryz.prog 198 (Go.Value.nilFunc) 1 8 := ⟨⟨Tryz.t198, Tryz.type198, rfl, rfl, rfl, rfl⟩⟩
instance inf199 : Inf Tryz.prog 199 (Go.Value.nilFunc) 1 8 := ⟨⟨Tryz.t199, Tryz.type199, rfl, rfl, rfl, rfl⟩⟩
instance inf200 : Inf Tryz.prog 200 (Go.Value.nilFunc) 1 8 := ⟨⟨Tryz.t200, Tryz.type200, rfl, rfl, rfl, rfl⟩⟩
instance inf201 : Inf Tryz.prog 201 (Go.Value.pointer none) 1 8 := ⟨⟨Tryz.t201, Tryz.type201, rfl, rfl, rfl, rfl⟩⟩
instance inf202 : Inf Tryz.prog 202 (Go.Value.agg #[Go.Value.string { data := #[] }]) 1 16 := ⟨⟨Tryz.t202, Tryz.type202, rfl, rfl, rfl, rfl⟩⟩
instance inf203 : Inf Tryz.prog 203 (Go.Value.agg #[Go.Value.string { data := #[] }]) 1 16 := ⟨⟨Tryz.t203, Tryz.type203, rfl, rfl, rfl, rfl⟩⟩
instance inf204 : Inf Tryz.prog 204 (Go.Value.agg #[Go.Value.int Go.IntKind.u8 0, Go.Value.int Go.IntKind.u8 0, Go.Value.int Go.IntKind.u8 0, Go.Value.int Go.IntKind.u8 0, Go.Value.int Go.IntKind.u8 0, Go.Value.int Go.IntKind.u8 0, Go.Value.int Go.IntKind.u8 0, Go.Value.int Go.IntKind.u8 0, Go.Value.int Go.IntKind.u8 0, Go.Value.int Go.IntKind.u8 0, Go.Value.int Go.IntKind.u8 0, Go.Value.int Go.IntKind.u8 0, Go.Value.int Go.IntKind.u8 0, Go.Value.int Go.IntKind.u8 0, Go.Value.int Go.IntKind.u8 0, Go.Value.int Go.IntKind.u8 0, Go.Value.int Go.IntKind.u8 0, Go.Value.int Go.IntKind.u8 0, Go.Value.int Go.IntKind.u8 0, Go.Value.int Go.IntKind.u8 0, Go.Value.int Go.IntKind.u8 0, Go.Value.int Go.IntKind.u8 0, Go.Value.int Go.IntKind.u8 0, Go.Value.int Go.IntKind.u8 0, Go.Value.int Go.IntKind.u8 0, Go.Value.int Go.IntKind.u8 0, Go.Value.int Go.IntKind.u8 0, Go.Value.int Go.IntKind.u8 0, Go.Value.int Go.IntKind.u8 0, Go.Value.int Go.IntKind.u8 0, Go.Value.int Go.IntKind.u8 0, Go.Value.int Go.IntKind.u8 0]) 32 32 := ⟨⟨Tryz.t204, Tryz.type204, rfl, rfl, rfl, rfl⟩⟩
instance inf205 : Inf Tryz.prog 205 (Go.Value.agg #[Go.Value.int Go.IntKind.u8 0, Go.Value.int Go.IntKind.u8 0, Go.Value.int Go.IntKind.u8 0, Go.Value.int Go.IntKind.u8 0, Go.Value.int Go.IntKind.u8 0, Go.Value.int Go.IntKind.u8 0, Go.Value.int Go.IntKind.u8 0, Go.Value.int Go.IntKind.u8 0, Go.Value.int Go.IntKind.u8 0, Go.Value.int Go.IntKind.u8 0, Go.Value.int Go.IntKind.u8 0, Go.Value.int Go.IntKind.u8 0, Go.Value.int Go.IntKind.u8 0, Go.Value.int Go.IntKind.u8 0, Go.Value.int Go.IntKind.u8 0, Go.Value.int Go.IntKind.u8 0, Go.Value.int Go.IntKind.u8 0, Go.Value.int Go.IntKind.u8 0, Go.Value.int Go.IntKind.u8 0, Go.Value.int Go.IntKind.u8 0, Go.Value.int Go.IntKind.u8 0, Go.Value.int Go.IntKind.u8 0, Go.Value.int Go.IntKind.u8 0, Go.Value.int Go.IntKind.u8 0, Go.Value.int Go.IntKind.u8 0, Go.Value.int Go.IntKind.u8 0, Go.Value.int Go.IntKind.u8 0, Go.Value.int Go.IntKind.u8 0, Go.Value.int Go.IntKind.u8 0, Go.Value.int Go.IntKind.u8 0, Go.Value.int Go.IntKind.u8 0, Go.Value.int Go.IntKind.u8 0, Go.Value.int Go.IntKind.u8 0, Go.Value.int Go.IntKind.u8 0, Go.Value.int Go.IntKind.u8 0, Go.Value.int Go.IntKind.u8 0, Go.Value.int Go.IntKind.u8 0, Go.Value.int Go.IntKind.u8 0, Go.Value.int Go.IntKind.u8 0, Go.Value.int Go.IntKind.u8 0, Go.Value.int Go.IntKind.u8 0, Go.Value.int Go.IntKind.u8 0, Go.Value.int Go.IntKind.u8 0, Go.Value.int Go.IntKind.u8 0, Go.Value.int Go.IntKind.u8 0, Go.Value.int Go.IntKind.u8 0, Go.Value.int Go.IntKind.u8 0, Go.Value.int Go.IntKind.u8 0, Go.Value.int Go.IntKind.u8 0, Go.Value.int Go.IntKind.u8 0, Go.Value.int Go.IntKind.u8 0, Go.Value.int Go.IntKind.u8 0, Go.Value.int Go.IntKind.u8 0, Go.Value.int Go.IntKind.u8 0, Go.Value.int Go.IntKind.u8 0, Go.Value.int Go.IntKind.u8 0, Go.Value.int Go.IntKind.u8 0, Go.Value.int Go.IntKind.u8 0, Go.Value.int Go.IntKind.u8 0, Go.Value.int Go.IntKind.u8 0, Go.Value.int Go.IntKind.u8 0, Go.Value.int Go.IntKind.u8 0, Go.Value.int Go.IntKind.u8 0, Go.Value.int Go.IntKind.u8 0]) 64 64 := ⟨⟨Tryz.t205, Tryz.type205, rfl, rfl, rfl, rfl⟩⟩
instance inf206 : Inf Tryz.prog 206 (Go.Value.agg #[Go.Value.int Go.IntKind.u8 0, Go.Value.int Go.IntKind.u8 0]) 2 2 := ⟨⟨Tryz.t206, Tryz.type206, rfl, rfl, rfl, rfl⟩⟩
instance inf207 : Inf Tryz.prog 207 (Go.Value.agg #[Go.Value.int Go.IntKind.u8 0, Go.Value.int Go.IntKind.u8 0]) 2 2 := ⟨⟨Tryz.t207, Tryz.type207, rfl, rfl, rfl, rfl⟩⟩
instance inf208 : Inf Tryz.prog 208 (Go.Value.agg #[Go.Value.int Go.IntKind.u8 0, Go.Value.int Go.IntKind.u8 0, Go.Value.int Go.IntKind.u8 0, Go.Value.int Go.IntKind.u8 0, Go.Value.int Go.IntKind.u8 0, Go.Value.int Go.IntKind.u8 0, Go.Value.int Go.IntKind.u8 0, Go.Value.int Go.IntKind.u8 0, Go.Value.int Go.IntKind.u8 0, Go.Value.int Go.IntKind.u8 0, Go.Value.int Go.IntKind.u8 0, Go.Value.int Go.IntKind.u8 0, Go.Value.int Go.IntKind.u8 0, Go.Value.int Go.IntKind.u8 0, Go.Value.int Go.IntKind.u8 0, Go.Value.int Go.IntKind.u8 0, Go.Value.int Go.IntKind.u8 0, Go.Value.int Go.IntKind.u8 0, Go.Value.int Go.IntKind.u8 0, Go.Value.int Go.IntKind.u8 0, Go.Value.int Go.IntKind.u8 0, Go.Value.int Go.IntKind.u8 0, Go.Value.int Go.IntKind.u8 0, Go.Value.int Go.IntKind.u8 0, Go.Value.int Go.IntKind.u8 0, Go.Value.int Go.IntKind.u8 0, Go.Value.int Go.IntKind.u8 0, Go.Value.int Go.IntKind.u8 0, Go.Value.int Go.IntKind.u8 0, Go.Value.int Go.IntKind.u8 0, Go.Value.int Go.IntKind.u8 0, Go.Value.int Go.IntKind.u8 0]) 32 32 := ⟨⟨Tryz.t208, Tryz.type208, rfl, rfl, rfl, rfl⟩⟩
instance inf209 : Inf Tryz.prog 209 (Go.Value.agg #[Go.Value.pointer none, Go.Value.pointer none, Go.Value.pointer none, Go.Value.string { data := #[] }]) 4 40 := ⟨⟨Tryz.t209, Tryz.type209, rfl, rfl, rfl, rfl⟩⟩
instance inf210 : Inf Tryz.prog 210 (Go.Value.agg #[Go.Value.pointer none, Go.Value.pointer none, Go.Value.pointer none, Go.Value.string { data := #[] }]) 4 40 := ⟨⟨Tryz.t210, Tryz.type210, rfl, rfl, rfl, rfl⟩⟩
instance inf211 : Inf Tryz.prog 211 (Go.Value.agg #[]) 0 0 := ⟨⟨Tryz.t211, Tryz.type211, rfl, rfl, rfl, rfl⟩⟩
instance inf212 : Inf Tryz.prog 212 (Go.Value.agg #[]) 0 0 := ⟨⟨Tryz.t212, Tryz.type212, rfl, rfl, rfl, rfl⟩⟩
instance inf213 : Inf Tryz.prog 213 (Go.Value.agg #[]) 0 0 := ⟨⟨Tryz.t213, Tryz.type213, rfl, rfl, rfl, rfl⟩⟩
instance inf214 : Inf Tryz.prog 214 (Go.Value.int Go.IntKind.u8 0) 1 1 := ⟨⟨Tryz.t214, Tryz.type214, rfl, rfl, rfl, rfl⟩⟩
instance inf215 : Inf Tryz.prog 215 (Go.Value.int Go.IntKind.u8 0) 1 1 := ⟨⟨Tryz.t215, Tryz.type215, rfl, rfl, rfl, rfl⟩⟩
instance inf216 : Inf Tryz.prog 216 (Go.Value.nilFunc) 1 8 := ⟨⟨Tryz.t216, Tryz.type216, rfl, rfl, rfl, rfl⟩⟩
instance inf217 : Inf Tryz.prog 217 (Go.Value.int Go.IntKind.i32 0) 1 4 := ⟨⟨Tryz.t217, Tryz.type217, rfl, rfl, rfl, rfl⟩⟩
instance inf218 : Inf Tryz.prog 218 (Go.Value.int Go.IntKind.i32 0) 1 4 := ⟨⟨Tryz.t218, Tryz.type218, rfl, rfl, rfl, rfl⟩⟩
instance inf219 : Inf Tryz.prog 219 (Go.Value.agg #[Go.Value.int Go.IntKind.u64 0, Go.Value.int Go.IntKind.u64 0, Go.Value.int Go.IntKind.u32 0, Go.Value.int Go.IntKind.u8 0, Go.Value.int Go.IntKind.u8 0, Go.Value.int Go.IntKind.u8 0, Go.Value.int Go.IntKind.u8 0, Go.Value.nilFunc, Go.Value.pointer none, Go.Value.int Go.IntKind.i32 0, Go.Value.int Go.IntKind.i32 0]) 11 48 := ⟨⟨Tryz.t219, Tryz.type219, rfl, rfl, rfl, rfl⟩⟩
instance inf220 : Inf Tryz.prog 220 (Go.Value.agg #[Go.Value.int Go.IntKind.u64 0, Go.Value.int Go.IntKind.u64 0, Go.Value.int Go.IntKind.u32 0, Go.Value.int Go.IntKind.u8 0, Go.Value.int Go.IntKind.u8 0, Go.Value.int Go.IntKind.u8 0, Go.Value.int Go.IntKind.u8 0, Go.Value.nilFunc, Go.Value.pointer none, Go.Value.int Go.IntKind.i32 0, Go.Value.int Go.IntKind.i32 0]) 11 48 := ⟨⟨Tryz.t220, Tryz.type220, rfl, rfl, rfl, rfl⟩⟩
theorem V_aeql_28 {fs : List (Nat × Value)} {E : Env} {L : List Res} {o : Oper} {x y : Operand} {u : TypeId} {a0 : Int} {a1 : Int} {a2 : Int} {a3 : Int} {a4 : Int} {a5 : List UInt8} {a6 : Int} {b0 : Int} {b1 : Int} {b2 : Int} {b3 : Int} {b4 : Int} {b5 : List UInt8} {b6 : Int} (ho : o.op = .binOp .eql 28 x y u) (hx : ev fs x = some (.agg #[.int .i64 a0, .int .i64 a1, .int .i64 a2, .int .i64 a3, .int .i64 a4, .string (S a5), .int .i64 a6])) (hy : ev fs y = some (.agg #[.int .i64 b0, .int .i64 b1, .int .i64 b2, .int .i64 b3, .int .i64 b4, .string (S b5), .int .i64 b6])) : Val Tryz.prog o fs E L (.bool (decide (a0 = b0 ∧ a1 = b1 ∧ a2 = b2 ∧ a3 = b3 ∧ a4 = b4 ∧ a5 = b5 ∧ a6 = b6))) :=
  V_bin ho hx hy fun w => ⟨by simp [go_sem], by
    by_cases h0 : a0 = b0
    case neg => simp [go_sem, Op.eqFields, S_toList, h0]
    by_cases h1 : a1 = b1
    case neg => simp [go_sem, Op.eqFields, S_toList, h0, h1]
    by_cases h2 : a2 = b2
    case neg => simp [go_sem, Op.eqFields, S_toList, h0, h1, h2]
    by_cases h3 : a3 = b3
    case neg => simp [go_sem, Op.eqFields, S_toList, h0, h1, h2, h3]
    by_cases h4 : a4 = b4
    case neg => simp [go_sem, Op.eqFields, S_toList, h0, h1, h2, h3, h4]
    by_cases h5 : a5 = b5
    case neg => simp [go_sem, Op.eqFields, S_toList, h0, h1, h2, h3, h4, h5]
    by_cases h6 : a6 = b6
    case neg => simp [go_sem, Op.eqFields, S_toList, h0, h1, h2, h3, h4, h5, h6]
    simp [go_sem, Op.eqFields, S_toList, h0, h1, h2, h3, h4, h5, h6]⟩
theorem V_aneq_28 {fs : List (Nat × Value)} {E : Env} {L : List Res} {o : Oper} {x y : Operand} {u : TypeId} {a0 : Int} {a1 : Int} {a2 : Int} {a3 : Int} {a4 : Int} {a5 : List UInt8} {a6 : Int} {b0 : Int} {b1 : Int} {b2 : Int} {b3 : Int} {b4 : Int} {b5 : List UInt8} {b6 : Int} (ho : o.op = .binOp .neq 28 x y u) (hx : ev fs x = some (.agg #[.int .i64 a0, .int .i64 a1, .int .i64 a2, .int .i64 a3, .int .i64 a4, .string (S a5), .int .i64 a6])) (hy : ev fs y = some (.agg #[.int .i64 b0, .int .i64 b1, .int .i64 b2, .int .i64 b3, .int .i64 b4, .string (S b5), .int .i64 b6])) : Val Tryz.prog o fs E L (.bool (decide (¬ (a0 = b0 ∧ a1 = b1 ∧ a2 = b2 ∧ a3 = b3 ∧ a4 = b4 ∧ a5 = b5 ∧ a6 = b6)))) :=
  V_bin ho hx hy fun w => ⟨by simp [go_sem], by
    by_cases h0 : a0 = b0
    case neg => simp [go_sem, Op.eqFields, S_toList, h0]
    by_cases h1 : a1 = b1
    case neg => simp [go_sem, Op.eqFields, S_toList, h0, h1]
    by_cases h2 : a2 = b2
    case neg => simp [go_sem, Op.eqFields, S_toList, h0, h1, h2]
    by_cases h3 : a3 = b3
    case neg => simp [go_sem, Op.eqFields, S_toList, h0, h1, h2, h3]
    by_cases h4 : a4 = b4
    case neg => simp [go_sem, Op.eqFields, S_toList, h0, h1, h2, h3, h4]
    by_cases h5 : a5 = b5
    case neg => simp [go_sem, Op.eqFields, S_toList, h0, h1, h2, h3, h4, h5]
    by_cases h6 : a6 = b6
    case neg => simp [go_sem, Op.eqFields, S_toList, h0, h1, h2, h3, h4, h5, h6]
    simp [go_sem, Op.eqFields, S_toList, h0, h1, h2, h3, h4, h5, h6]⟩
theorem V_aeql_36 {fs : List (Nat × Value)} {E : Env} {L : List Res} {o : Oper} {x y : Operand} {u : TypeId} {a0 : Int} {a1 : Int} {b0 : Int} {b1 : Int} (ho : o.op = .binOp .eql 36 x y u) (hx : ev fs x = some (.agg #[.int .i64 a0, .int .i64 a1])) (hy : ev fs y = some (.agg #[.int .i64 b0, .int .i64 b1])) : Val Tryz.prog o fs E L (.bool (decide (a0 = b0 ∧ a1 = b1))) :=
  V_bin ho hx hy fun w => ⟨by simp [go_sem], by
    by_cases h0 : a0 = b0 <;> by_cases h1 : a1 = b1 <;> simp [go_sem, Op.eqFields, S_toList, h0, h1]⟩
theorem mixed : Tryz.prog.follows .mixedOrders = true := by kernel_rfl
end Go.Proofs.YtjhehanknkonnaaGreatDoor
