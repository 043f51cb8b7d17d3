/-
  Rules and contracts, packed: Inst, K1, J1.
-/
import Derived.Test.YtpkingbclcalkaaDoorProg
import Derived.Test.YtpkingbclcalkaaDoorQ2
set_option maxHeartbeats 1000000
set_option linter.unusedSimpArgs false
set_option linter.unusedVariables false
set_option maxRecDepth 20000
namespace Go.Proofs.YtpkingbclcalkaaDoor
open Go.Proofs Go.RowKit
instance ty0 : Ty Tryd.prog 0 (Go.TypeDesc.tuple #[]) 1 false := ⟨Tryd.underlying0, Tryd.isAgg0, Tryd.sizeOf0⟩
instance zero0 : Zero Tryd.prog 0 (Go.Value.tuple #[]) #[Go.Value.tuple #[]] := ⟨Tryd.zeroValue0, rfl⟩
instance ty1 : Ty Tryd.prog 1 (Go.TypeDesc.func #[] #[] false) 1 false := ⟨Tryd.underlying1, Tryd.isAgg1, Tryd.sizeOf1⟩
instance zero1 : Zero Tryd.prog 1 (Go.Value.nilFunc) #[Go.Value.nilFunc] := ⟨Tryd.zeroValue1, rfl⟩
instance ty2 : Ty Tryd.prog 2 (Go.TypeDesc.int Go.IntKind.i64) 1 false := ⟨Tryd.underlying2, Tryd.isAgg2, Tryd.sizeOf2⟩
instance zero2 : Zero Tryd.prog 2 (Go.Value.int Go.IntKind.i64 0) #[Go.Value.int Go.IntKind.i64 0] := ⟨Tryd.zeroValue2, rfl⟩
instance ty3 : Ty Tryd.prog 3 (Go.TypeDesc.int Go.IntKind.i64) 1 false := ⟨Tryd.underlying3, Tryd.isAgg3, Tryd.sizeOf3⟩
instance zero3 : Zero Tryd.prog 3 (Go.Value.int Go.IntKind.i64 0) #[Go.Value.int Go.IntKind.i64 0] := ⟨Tryd.zeroValue3, rfl⟩
instance ty4 : Ty Tryd.prog 4 (Go.TypeDesc.bool) 1 false := ⟨Tryd.underlying4, Tryd.isAgg4, Tryd.sizeOf4⟩
instance zero4 : Zero Tryd.prog 4 (Go.Value.bool false) #[Go.Value.bool false] := ⟨Tryd.zeroValue4, rfl⟩
instance ty5 : Ty Tryd.prog 5 (Go.TypeDesc.int Go.IntKind.u8) 1 false := ⟨Tryd.underlying5, Tryd.isAgg5, Tryd.sizeOf5⟩
instance zero5 : Zero Tryd.prog 5 (Go.Value.int Go.IntKind.u8 0) #[Go.Value.int Go.IntKind.u8 0] := ⟨Tryd.zeroValue5, rfl⟩
instance ty6 : Ty Tryd.prog 6 (Go.TypeDesc.int Go.IntKind.u8) 1 false := ⟨Tryd.underlying6, Tryd.isAgg6, Tryd.sizeOf6⟩
instance zero6 : Zero Tryd.prog 6 (Go.Value.int Go.IntKind.u8 0) #[Go.Value.int Go.IntKind.u8 0] := ⟨Tryd.zeroValue6, rfl⟩
instance ty7 : Ty Tryd.prog 7 (Go.TypeDesc.struct #[{ name := "x", type := 2, offset := 0, embedded := false, tag := "", pkgPath := "runtime", byteOffset := 0 }, { name := "y", type := 3, offset := 1, embedded := false, tag := "", pkgPath := "runtime", byteOffset := 8 }, { name := "signed", type := 4, offset := 2, embedded := false, tag := "", pkgPath := "runtime", byteOffset := 16 }, { name := "code", type := 6, offset := 3, embedded := false, tag := "", pkgPath := "runtime", byteOffset := 17 }]) 4 true := ⟨Tryd.underlying7, Tryd.isAgg7, Tryd.sizeOf7⟩
instance zero7 : Zero Tryd.prog 7 (Go.Value.agg #[Go.Value.int Go.IntKind.i64 0, Go.Value.int Go.IntKind.i64 0, Go.Value.bool false, Go.Value.int Go.IntKind.u8 0]) #[Go.Value.int Go.IntKind.i64 0, Go.Value.int Go.IntKind.i64 0, Go.Value.bool false, Go.Value.int Go.IntKind.u8 0] := ⟨Tryd.zeroValue7, rfl⟩
instance ty8 : Ty Tryd.prog 8 (Go.TypeDesc.struct #[{ name := "x", type := 2, offset := 0, embedded := false, tag := "", pkgPath := "runtime", byteOffset := 0 }, { name := "y", type := 3, offset := 1, embedded := false, tag := "", pkgPath := "runtime", byteOffset := 8 }, { name := "signed", type := 4, offset := 2, embedded := false, tag := "", pkgPath := "runtime", byteOffset := 16 }, { name := "code", type := 6, offset := 3, embedded := false, tag := "", pkgPath := "runtime", byteOffset := 17 }]) 4 true := ⟨Tryd.underlying8, Tryd.isAgg8, Tryd.sizeOf8⟩
instance zero8 : Zero Tryd.prog 8 (Go.Value.agg #[Go.Value.int Go.IntKind.i64 0, Go.Value.int Go.IntKind.i64 0, Go.Value.bool false, Go.Value.int Go.IntKind.u8 0]) #[Go.Value.int Go.IntKind.i64 0, Go.Value.int Go.IntKind.i64 0, Go.Value.bool false, Go.Value.int Go.IntKind.u8 0] := ⟨Tryd.zeroValue8, rfl⟩
instance ty9 : Ty Tryd.prog 9 (Go.TypeDesc.string) 1 false := ⟨Tryd.underlying9, Tryd.isAgg9, Tryd.sizeOf9⟩
instance zero9 : Zero Tryd.prog 9 (Go.Value.string { data := #[] }) #[Go.Value.string { data := #[] }] := ⟨Tryd.zeroValue9, rfl⟩
instance ty10 : Ty Tryd.prog 10 (Go.TypeDesc.string) 1 false := ⟨Tryd.underlying10, Tryd.isAgg10, Tryd.sizeOf10⟩
instance zero10 : Zero Tryd.prog 10 (Go.Value.string { data := #[] }) #[Go.Value.string { data := #[] }] := ⟨Tryd.zeroValue10, rfl⟩
instance ty11 : Ty Tryd.prog 11 (Go.TypeDesc.string) 1 false := ⟨Tryd.underlying11, Tryd.isAgg11, Tryd.sizeOf11⟩
instance zero11 : Zero Tryd.prog 11 (Go.Value.string { data := #[] }) #[Go.Value.string { data := #[] }] := ⟨Tryd.zeroValue11, rfl⟩
instance ty12 : Ty Tryd.prog 12 (Go.TypeDesc.int Go.IntKind.u64) 1 false := ⟨Tryd.underlying12, Tryd.isAgg12, Tryd.sizeOf12⟩
instance zero12 : Zero Tryd.prog 12 (Go.Value.int Go.IntKind.u64 0) #[Go.Value.int Go.IntKind.u64 0] := ⟨Tryd.zeroValue12, rfl⟩
instance ty13 : Ty Tryd.prog 13 (Go.TypeDesc.struct #[{ name := "msg", type := 9, offset := 0, embedded := false, tag := "", pkgPath := "runtime", byteOffset := 0 }, { name := "addr", type := 12, offset := 1, embedded := false, tag := "", pkgPath := "runtime", byteOffset := 16 }]) 2 true := ⟨Tryd.underlying13, Tryd.isAgg13, Tryd.sizeOf13⟩
instance zero13 : Zero Tryd.prog 13 (Go.Value.agg #[Go.Value.string { data := #[] }, Go.Value.int Go.IntKind.u64 0]) #[Go.Value.string { data := #[] }, Go.Value.int Go.IntKind.u64 0] := ⟨Tryd.zeroValue13, rfl⟩
instance ty14 : Ty Tryd.prog 14 (Go.TypeDesc.struct #[{ name := "msg", type := 9, offset := 0, embedded := false, tag := "", pkgPath := "runtime", byteOffset := 0 }, { name := "addr", type := 12, offset := 1, embedded := false, tag := "", pkgPath := "runtime", byteOffset := 16 }]) 2 true := ⟨Tryd.underlying14, Tryd.isAgg14, Tryd.sizeOf14⟩
instance zero14 : Zero Tryd.prog 14 (Go.Value.agg #[Go.Value.string { data := #[] }, Go.Value.int Go.IntKind.u64 0]) #[Go.Value.string { data := #[] }, Go.Value.int Go.IntKind.u64 0] := ⟨Tryd.zeroValue14, rfl⟩
instance ty15 : Ty Tryd.prog 15 (Go.TypeDesc.pointer 106) 1 false := ⟨Tryd.underlying15, Tryd.isAgg15, Tryd.sizeOf15⟩
instance zero15 : Zero Tryd.prog 15 (Go.Value.pointer none) #[Go.Value.pointer none] := ⟨Tryd.zeroValue15, rfl⟩
instance ty16 : Ty Tryd.prog 16 (Go.TypeDesc.pointer 109) 1 false := ⟨Tryd.underlying16, Tryd.isAgg16, Tryd.sizeOf16⟩
instance zero16 : Zero Tryd.prog 16 (Go.Value.pointer none) #[Go.Value.pointer none] := ⟨Tryd.zeroValue16, rfl⟩
instance ty17 : Ty Tryd.prog 17 (Go.TypeDesc.pointer 116) 1 false := ⟨Tryd.underlying17, Tryd.isAgg17, Tryd.sizeOf17⟩
instance zero17 : Zero Tryd.prog 17 (Go.Value.pointer none) #[Go.Value.pointer none] := ⟨Tryd.zeroValue17, rfl⟩
instance ty18 : Ty Tryd.prog 18 (Go.TypeDesc.struct #[{ name := "typ", type := 17, offset := 0, embedded := false, tag := "", pkgPath := "internal/runtime/maps", byteOffset := 0 }]) 1 true := ⟨Tryd.underlying18, Tryd.isAgg18, Tryd.sizeOf18⟩
instance zero18 : Zero Tryd.prog 18 (Go.Value.agg #[Go.Value.pointer none]) #[Go.Value.pointer none] := ⟨Tryd.zeroValue18, rfl⟩
instance ty19 : Ty Tryd.prog 19 (Go.TypeDesc.struct #[{ name := "typ", type := 17, offset := 0, embedded := false, tag := "", pkgPath := "internal/runtime/maps", byteOffset := 0 }]) 1 true := ⟨Tryd.underlying19, Tryd.isAgg19, Tryd.sizeOf19⟩
instance zero19 : Zero Tryd.prog 19 (Go.Value.agg #[Go.Value.pointer none]) #[Go.Value.pointer none] := ⟨Tryd.zeroValue19, rfl⟩
instance ty20 : Ty Tryd.prog 20 (Go.TypeDesc.interface #[]) 1 false := ⟨Tryd.underlying20, Tryd.isAgg20, Tryd.sizeOf20⟩
instance zero20 : Zero Tryd.prog 20 (Go.Value.nilIface) #[Go.Value.nilIface] := ⟨Tryd.zeroValue20, rfl⟩
instance ty21 : Ty Tryd.prog 21 (Go.TypeDesc.int Go.IntKind.i32) 1 false := ⟨Tryd.underlying21, Tryd.isAgg21, Tryd.sizeOf21⟩
instance zero21 : Zero Tryd.prog 21 (Go.Value.int Go.IntKind.i32 0) #[Go.Value.int Go.IntKind.i32 0] := ⟨Tryd.zeroValue21, rfl⟩
instance ty22 : Ty Tryd.prog 22 (Go.TypeDesc.slice 3) 1 false := ⟨Tryd.underlying22, Tryd.isAgg22, Tryd.sizeOf22⟩
instance zero22 : Zero Tryd.prog 22 (Go.Value.slice none 0 0) #[Go.Value.slice none 0 0] := ⟨Tryd.zeroValue22, rfl⟩
instance ty23 : Ty Tryd.prog 23 (Go.TypeDesc.slice 41) 1 false := ⟨Tryd.underlying23, Tryd.isAgg23, Tryd.sizeOf23⟩
instance zero23 : Zero Tryd.prog 23 (Go.Value.slice none 0 0) #[Go.Value.slice none 0 0] := ⟨Tryd.zeroValue23, rfl⟩
instance ty24 : Ty Tryd.prog 24 (Go.TypeDesc.func #[22] #[23] false) 1 false := ⟨Tryd.underlying24, Tryd.isAgg24, Tryd.sizeOf24⟩
instance zero24 : Zero Tryd.prog 24 (Go.Value.nilFunc) #[Go.Value.nilFunc] := ⟨Tryd.zeroValue24, rfl⟩
instance ty25 : Ty Tryd.prog 25 (Go.TypeDesc.int Go.IntKind.i64) 1 false := ⟨Tryd.underlying25, Tryd.isAgg25, Tryd.sizeOf25⟩
instance zero25 : Zero Tryd.prog 25 (Go.Value.int Go.IntKind.i64 0) #[Go.Value.int Go.IntKind.i64 0] := ⟨Tryd.zeroValue25, rfl⟩
instance ty26 : Ty Tryd.prog 26 (Go.TypeDesc.tuple #[9, 25]) 1 false := ⟨Tryd.underlying26, Tryd.isAgg26, Tryd.sizeOf26⟩
instance zero26 : Zero Tryd.prog 26 (Go.Value.tuple #[Go.Value.string { data := #[] }, Go.Value.int Go.IntKind.i64 0]) #[Go.Value.tuple #[Go.Value.string { data := #[] }, Go.Value.int Go.IntKind.i64 0]] := ⟨Tryd.zeroValue26, rfl⟩
instance ty27 : Ty Tryd.prog 27 (Go.TypeDesc.func #[23] #[9, 25] false) 1 false := ⟨Tryd.underlying27, Tryd.isAgg27, Tryd.sizeOf27⟩
instance zero27 : Zero Tryd.prog 27 (Go.Value.nilFunc) #[Go.Value.nilFunc] := ⟨Tryd.zeroValue27, rfl⟩
instance ty28 : Ty Tryd.prog 28 (Go.TypeDesc.func #[3, 3] #[3] false) 1 false := ⟨Tryd.underlying28, Tryd.isAgg28, Tryd.sizeOf28⟩
instance zero28 : Zero Tryd.prog 28 (Go.Value.nilFunc) #[Go.Value.nilFunc] := ⟨Tryd.zeroValue28, rfl⟩
instance ty29 : Ty Tryd.prog 29 (Go.TypeDesc.struct #[{ name := "Err", type := 25, offset := 0, embedded := false, tag := "", pkgPath := "", byteOffset := 0 }, { name := "At", type := 3, offset := 1, embedded := false, tag := "", pkgPath := "", byteOffset := 8 }]) 2 true := ⟨Tryd.underlying29, Tryd.isAgg29, Tryd.sizeOf29⟩
instance zero29 : Zero Tryd.prog 29 (Go.Value.agg #[Go.Value.int Go.IntKind.i64 0, Go.Value.int Go.IntKind.i64 0]) #[Go.Value.int Go.IntKind.i64 0, Go.Value.int Go.IntKind.i64 0] := ⟨Tryd.zeroValue29, rfl⟩
instance ty30 : Ty Tryd.prog 30 (Go.TypeDesc.struct #[{ name := "Err", type := 25, offset := 0, embedded := false, tag := "", pkgPath := "", byteOffset := 0 }, { name := "At", type := 3, offset := 1, embedded := false, tag := "", pkgPath := "", byteOffset := 8 }]) 2 true := ⟨Tryd.underlying30, Tryd.isAgg30, Tryd.sizeOf30⟩
instance zero30 : Zero Tryd.prog 30 (Go.Value.agg #[Go.Value.int Go.IntKind.i64 0, Go.Value.int Go.IntKind.i64 0]) #[Go.Value.int Go.IntKind.i64 0, Go.Value.int Go.IntKind.i64 0] := ⟨Tryd.zeroValue30, rfl⟩
instance ty31 : Ty Tryd.prog 31 (Go.TypeDesc.tuple #[23, 30]) 1 false := ⟨Tryd.underlying31, Tryd.isAgg31, Tryd.sizeOf31⟩
instance zero31 : Zero Tryd.prog 31 (Go.Value.tuple #[Go.Value.slice none 0 0, Go.Value.agg #[Go.Value.int Go.IntKind.i64 0, Go.Value.int Go.IntKind.i64 0]]) #[Go.Value.tuple #[Go.Value.slice none 0 0, Go.Value.agg #[Go.Value.int Go.IntKind.i64 0, Go.Value.int Go.IntKind.i64 0]]] := ⟨Tryd.zeroValue31, rfl⟩
instance ty32 : Ty Tryd.prog 32 (Go.TypeDesc.func #[9] #[23, 30] false) 1 false := ⟨Tryd.underlying32, Tryd.isAgg32, Tryd.sizeOf32⟩
instance zero32 : Zero Tryd.prog 32 (Go.Value.nilFunc) #[Go.Value.nilFunc] := ⟨Tryd.zeroValue32, rfl⟩
instance ty33 : Ty Tryd.prog 33 (Go.TypeDesc.func #[] #[4] false) 1 false := ⟨Tryd.underlying33, Tryd.isAgg33, Tryd.sizeOf33⟩
instance zero33 : Zero Tryd.prog 33 (Go.Value.nilFunc) #[Go.Value.nilFunc] := ⟨Tryd.zeroValue33, rfl⟩
instance ty34 : Ty Tryd.prog 34 (Go.TypeDesc.func #[23, 23] #[4] false) 1 false := ⟨Tryd.underlying34, Tryd.isAgg34, Tryd.sizeOf34⟩
instance zero34 : Zero Tryd.prog 34 (Go.Value.nilFunc) #[Go.Value.nilFunc] := ⟨Tryd.zeroValue34, rfl⟩
instance ty35 : Ty Tryd.prog 35 (Go.TypeDesc.func #[22, 3] #[4] false) 1 false := ⟨Tryd.underlying35, Tryd.isAgg35, Tryd.sizeOf35⟩
instance zero35 : Zero Tryd.prog 35 (Go.Value.nilFunc) #[Go.Value.nilFunc] := ⟨Tryd.zeroValue35, rfl⟩
instance ty36 : Ty Tryd.prog 36 (Go.TypeDesc.func #[3] #[9, 25] false) 1 false := ⟨Tryd.underlying36, Tryd.isAgg36, Tryd.sizeOf36⟩
instance zero36 : Zero Tryd.prog 36 (Go.Value.nilFunc) #[Go.Value.nilFunc] := ⟨Tryd.zeroValue36, rfl⟩
instance ty37 : Ty Tryd.prog 37 (Go.TypeDesc.tuple #[3, 25]) 1 false := ⟨Tryd.underlying37, Tryd.isAgg37, Tryd.sizeOf37⟩
instance zero37 : Zero Tryd.prog 37 (Go.Value.tuple #[Go.Value.int Go.IntKind.i64 0, Go.Value.int Go.IntKind.i64 0]) #[Go.Value.tuple #[Go.Value.int Go.IntKind.i64 0, Go.Value.int Go.IntKind.i64 0]] := ⟨Tryd.zeroValue37, rfl⟩
instance ty38 : Ty Tryd.prog 38 (Go.TypeDesc.func #[9] #[3, 25] false) 1 false := ⟨Tryd.underlying38, Tryd.isAgg38, Tryd.sizeOf38⟩
instance zero38 : Zero Tryd.prog 38 (Go.Value.nilFunc) #[Go.Value.nilFunc] := ⟨Tryd.zeroValue38, rfl⟩
instance ty39 : Ty Tryd.prog 39 (Go.TypeDesc.func #[9, 3] #[4] false) 1 false := ⟨Tryd.underlying39, Tryd.isAgg39, Tryd.sizeOf39⟩
instance zero39 : Zero Tryd.prog 39 (Go.Value.nilFunc) #[Go.Value.nilFunc] := ⟨Tryd.zeroValue39, rfl⟩
instance ty40 : Ty Tryd.prog 40 (Go.TypeDesc.struct #[{ name := "Kind", type := 3, offset := 0, embedded := false, tag := "", pkgPath := "", byteOffset := 0 }, { name := "N", type := 3, offset := 1, embedded := false, tag := "", pkgPath := "", byteOffset := 8 }, { name := "Text", type := 9, offset := 2, embedded := false, tag := "", pkgPath := "", byteOffset := 16 }]) 3 true := ⟨Tryd.underlying40, Tryd.isAgg40, Tryd.sizeOf40⟩
instance zero40 : Zero Tryd.prog 40 (Go.Value.agg #[Go.Value.int Go.IntKind.i64 0, Go.Value.int Go.IntKind.i64 0, Go.Value.string { data := #[] }]) #[Go.Value.int Go.IntKind.i64 0, Go.Value.int Go.IntKind.i64 0, Go.Value.string { data := #[] }] := ⟨Tryd.zeroValue40, rfl⟩
instance ty41 : Ty Tryd.prog 41 (Go.TypeDesc.struct #[{ name := "Kind", type := 3, offset := 0, embedded := false, tag := "", pkgPath := "", byteOffset := 0 }, { name := "N", type := 3, offset := 1, embedded := false, tag := "", pkgPath := "", byteOffset := 8 }, { name := "Text", type := 9, offset := 2, embedded := false, tag := "", pkgPath := "", byteOffset := 16 }]) 3 true := ⟨Tryd.underlying41, Tryd.isAgg41, Tryd.sizeOf41⟩
instance zero41 : Zero Tryd.prog 41 (Go.Value.agg #[Go.Value.int Go.IntKind.i64 0, Go.Value.int Go.IntKind.i64 0, Go.Value.string { data := #[] }]) #[Go.Value.int Go.IntKind.i64 0, Go.Value.int Go.IntKind.i64 0, Go.Value.string { data := #[] }] := ⟨Tryd.zeroValue41, rfl⟩
instance ty42 : Ty Tryd.prog 42 (Go.TypeDesc.tuple #[41, 25]) 1 false := ⟨Tryd.underlying42, Tryd.isAgg42, Tryd.sizeOf42⟩
instance zero42 : Zero Tryd.prog 42 (Go.Value.tuple #[Go.Value.agg #[Go.Value.int Go.IntKind.i64 0, Go.Value.int Go.IntKind.i64 0, Go.Value.string { data := #[] }], Go.Value.int Go.IntKind.i64 0]) #[Go.Value.tuple #[Go.Value.agg #[Go.Value.int Go.IntKind.i64 0, Go.Value.int Go.IntKind.i64 0, Go.Value.string { data := #[] }], Go.Value.int Go.IntKind.i64 0]] := ⟨Tryd.zeroValue42, rfl⟩
instance ty43 : Ty Tryd.prog 43 (Go.TypeDesc.func #[41] #[41, 25] false) 1 false := ⟨Tryd.underlying43, Tryd.isAgg43, Tryd.sizeOf43⟩
instance zero43 : Zero Tryd.prog 43 (Go.Value.nilFunc) #[Go.Value.nilFunc] := ⟨Tryd.zeroValue43, rfl⟩
instance ty44 : Ty Tryd.prog 44 (Go.TypeDesc.func #[22, 9] #[4] false) 1 false := ⟨Tryd.underlying44, Tryd.isAgg44, Tryd.sizeOf44⟩
instance zero44 : Zero Tryd.prog 44 (Go.Value.nilFunc) #[Go.Value.nilFunc] := ⟨Tryd.zeroValue44, rfl⟩
instance ty45 : Ty Tryd.prog 45 (Go.TypeDesc.func #[41] #[9, 25] false) 1 false := ⟨Tryd.underlying45, Tryd.isAgg45, Tryd.sizeOf45⟩
instance zero45 : Zero Tryd.prog 45 (Go.Value.nilFunc) #[Go.Value.nilFunc] := ⟨Tryd.zeroValue45, rfl⟩
instance ty46 : Ty Tryd.prog 46 (Go.TypeDesc.func #[23] #[4] false) 1 false := ⟨Tryd.underlying46, Tryd.isAgg46, Tryd.sizeOf46⟩
instance zero46 : Zero Tryd.prog 46 (Go.Value.nilFunc) #[Go.Value.nilFunc] := ⟨Tryd.zeroValue46, rfl⟩
instance ty47 : Ty Tryd.prog 47 (Go.TypeDesc.tuple #[25, 3]) 1 false := ⟨Tryd.underlying47, Tryd.isAgg47, Tryd.sizeOf47⟩
instance zero47 : Zero Tryd.prog 47 (Go.Value.tuple #[Go.Value.int Go.IntKind.i64 0, Go.Value.int Go.IntKind.i64 0]) #[Go.Value.tuple #[Go.Value.int Go.IntKind.i64 0, Go.Value.int Go.IntKind.i64 0]] := ⟨Tryd.zeroValue47, rfl⟩
instance ty48 : Ty Tryd.prog 48 (Go.TypeDesc.func #[23] #[25, 3] false) 1 false := ⟨Tryd.underlying48, Tryd.isAgg48, Tryd.sizeOf48⟩
instance zero48 : Zero Tryd.prog 48 (Go.Value.nilFunc) #[Go.Value.nilFunc] := ⟨Tryd.zeroValue48, rfl⟩
instance ty49 : Ty Tryd.prog 49 (Go.TypeDesc.func #[41] #[25] false) 1 false := ⟨Tryd.underlying49, Tryd.isAgg49, Tryd.sizeOf49⟩
instance zero49 : Zero Tryd.prog 49 (Go.Value.nilFunc) #[Go.Value.nilFunc] := ⟨Tryd.zeroValue49, rfl⟩
instance ty50 : Ty Tryd.prog 50 (Go.TypeDesc.slice 5) 1 false := ⟨Tryd.underlying50, Tryd.isAgg50, Tryd.sizeOf50⟩
instance zero50 : Zero Tryd.prog 50 (Go.Value.slice none 0 0) #[Go.Value.slice none 0 0] := ⟨Tryd.zeroValue50, rfl⟩
instance ty51 : Ty Tryd.prog 51 (Go.TypeDesc.func #[9, 25, 3] #[4] false) 1 false := ⟨Tryd.underlying51, Tryd.isAgg51, Tryd.sizeOf51⟩
instance zero51 : Zero Tryd.prog 51 (Go.Value.nilFunc) #[Go.Value.nilFunc] := ⟨Tryd.zeroValue51, rfl⟩
instance ty52 : Ty Tryd.prog 52 (Go.TypeDesc.func #[3, 3] #[9] false) 1 false := ⟨Tryd.underlying52, Tryd.isAgg52, Tryd.sizeOf52⟩
instance zero52 : Zero Tryd.prog 52 (Go.Value.nilFunc) #[Go.Value.nilFunc] := ⟨Tryd.zeroValue52, rfl⟩
instance ty53 : Ty Tryd.prog 53 (Go.TypeDesc.pointer 55) 1 false := ⟨Tryd.underlying53, Tryd.isAgg53, Tryd.sizeOf53⟩
instance zero53 : Zero Tryd.prog 53 (Go.Value.pointer none) #[Go.Value.pointer none] := ⟨Tryd.zeroValue53, rfl⟩
instance ty54 : Ty Tryd.prog 54 (Go.TypeDesc.struct #[{ name := "addr", type := 53, offset := 0, embedded := false, tag := "", pkgPath := "strings", byteOffset := 0 }, { name := "buf", type := 50, offset := 1, embedded := false, tag := "", pkgPath := "strings", byteOffset := 8 }]) 2 true := ⟨Tryd.underlying54, Tryd.isAgg54, Tryd.sizeOf54⟩
instance zero54 : Zero Tryd.prog 54 (Go.Value.agg #[Go.Value.pointer none, Go.Value.slice none 0 0]) #[Go.Value.pointer none, Go.Value.slice none 0 0] := ⟨Tryd.zeroValue54, rfl⟩
instance ty55 : Ty Tryd.prog 55 (Go.TypeDesc.struct #[{ name := "addr", type := 53, offset := 0, embedded := false, tag := "", pkgPath := "strings", byteOffset := 0 }, { name := "buf", type := 50, offset := 1, embedded := false, tag := "", pkgPath := "strings", byteOffset := 8 }]) 2 true := ⟨Tryd.underlying55, Tryd.isAgg55, Tryd.sizeOf55⟩
instance zero55 : Zero Tryd.prog 55 (Go.Value.agg #[Go.Value.pointer none, Go.Value.slice none 0 0]) #[Go.Value.pointer none, Go.Value.slice none 0 0] := ⟨Tryd.zeroValue55, rfl⟩
instance ty56 : Ty Tryd.prog 56 (Go.TypeDesc.interface #[("Error", 61)]) 1 false := ⟨Tryd.underlying56, Tryd.isAgg56, Tryd.sizeOf56⟩
instance zero56 : Zero Tryd.prog 56 (Go.Value.nilIface) #[Go.Value.nilIface] := ⟨Tryd.zeroValue56, rfl⟩
instance ty57 : Ty Tryd.prog 57 (Go.TypeDesc.interface #[("Error", 61)]) 1 false := ⟨Tryd.underlying57, Tryd.isAgg57, Tryd.sizeOf57⟩
instance zero57 : Zero Tryd.prog 57 (Go.Value.nilIface) #[Go.Value.nilIface] := ⟨Tryd.zeroValue57, rfl⟩
instance ty58 : Ty Tryd.prog 58 (Go.TypeDesc.tuple #[3, 57]) 1 false := ⟨Tryd.underlying58, Tryd.isAgg58, Tryd.sizeOf58⟩
instance zero58 : Zero Tryd.prog 58 (Go.Value.tuple #[Go.Value.int Go.IntKind.i64 0, Go.Value.nilIface]) #[Go.Value.tuple #[Go.Value.int Go.IntKind.i64 0, Go.Value.nilIface]] := ⟨Tryd.zeroValue58, rfl⟩
instance ty59 : Ty Tryd.prog 59 (Go.TypeDesc.func #[9] #[3, 57] false) 1 false := ⟨Tryd.underlying59, Tryd.isAgg59, Tryd.sizeOf59⟩
instance zero59 : Zero Tryd.prog 59 (Go.Value.nilFunc) #[Go.Value.nilFunc] := ⟨Tryd.zeroValue59, rfl⟩
instance ty60 : Ty Tryd.prog 60 (Go.TypeDesc.func #[] #[3] false) 1 false := ⟨Tryd.underlying60, Tryd.isAgg60, Tryd.sizeOf60⟩
instance zero60 : Zero Tryd.prog 60 (Go.Value.nilFunc) #[Go.Value.nilFunc] := ⟨Tryd.zeroValue60, rfl⟩
instance ty61 : Ty Tryd.prog 61 (Go.TypeDesc.func #[] #[9] false) 1 false := ⟨Tryd.underlying61, Tryd.isAgg61, Tryd.sizeOf61⟩
instance zero61 : Zero Tryd.prog 61 (Go.Value.nilFunc) #[Go.Value.nilFunc] := ⟨Tryd.zeroValue61, rfl⟩
instance ty62 : Ty Tryd.prog 62 (Go.TypeDesc.func #[92] #[] false) 1 false := ⟨Tryd.underlying62, Tryd.isAgg62, Tryd.sizeOf62⟩
instance zero62 : Zero Tryd.prog 62 (Go.Value.nilFunc) #[Go.Value.nilFunc] := ⟨Tryd.zeroValue62, rfl⟩
instance ty63 : Ty Tryd.prog 63 (Go.TypeDesc.func #[92] #[] false) 1 false := ⟨Tryd.underlying63, Tryd.isAgg63, Tryd.sizeOf63⟩
instance zero63 : Zero Tryd.prog 63 (Go.Value.nilFunc) #[Go.Value.nilFunc] := ⟨Tryd.zeroValue63, rfl⟩
instance ty64 : Ty Tryd.prog 64 (Go.TypeDesc.func #[9] #[63] false) 1 false := ⟨Tryd.underlying64, Tryd.isAgg64, Tryd.sizeOf64⟩
instance zero64 : Zero Tryd.prog 64 (Go.Value.nilFunc) #[Go.Value.nilFunc] := ⟨Tryd.zeroValue64, rfl⟩
instance ty65 : Ty Tryd.prog 65 (Go.TypeDesc.tuple #[9, 4]) 1 false := ⟨Tryd.underlying65, Tryd.isAgg65, Tryd.sizeOf65⟩
instance zero65 : Zero Tryd.prog 65 (Go.Value.tuple #[Go.Value.string { data := #[] }, Go.Value.bool false]) #[Go.Value.tuple #[Go.Value.string { data := #[] }, Go.Value.bool false]] := ⟨Tryd.zeroValue65, rfl⟩
instance ty66 : Ty Tryd.prog 66 (Go.TypeDesc.func #[9, 9] #[9, 4] false) 1 false := ⟨Tryd.underlying66, Tryd.isAgg66, Tryd.sizeOf66⟩
instance zero66 : Zero Tryd.prog 66 (Go.Value.nilFunc) #[Go.Value.nilFunc] := ⟨Tryd.zeroValue66, rfl⟩
instance ty67 : Ty Tryd.prog 67 (Go.TypeDesc.func #[9] #[41, 25] false) 1 false := ⟨Tryd.underlying67, Tryd.isAgg67, Tryd.sizeOf67⟩
instance zero67 : Zero Tryd.prog 67 (Go.Value.nilFunc) #[Go.Value.nilFunc] := ⟨Tryd.zeroValue67, rfl⟩
instance ty68 : Ty Tryd.prog 68 (Go.TypeDesc.func #[] #[23] false) 1 false := ⟨Tryd.underlying68, Tryd.isAgg68, Tryd.sizeOf68⟩
instance zero68 : Zero Tryd.prog 68 (Go.Value.nilFunc) #[Go.Value.nilFunc] := ⟨Tryd.zeroValue68, rfl⟩
instance ty69 : Ty Tryd.prog 69 (Go.TypeDesc.array 6 9) 6 true := ⟨Tryd.underlying69, Tryd.isAgg69, Tryd.sizeOf69⟩
instance zero69 : Zero Tryd.prog 69 (Go.Value.agg #[Go.Value.string { data := #[] }, Go.Value.string { data := #[] }, Go.Value.string { data := #[] }, Go.Value.string { data := #[] }, Go.Value.string { data := #[] }, Go.Value.string { data := #[] }]) #[Go.Value.string { data := #[] }, Go.Value.string { data := #[] }, Go.Value.string { data := #[] }, Go.Value.string { data := #[] }, Go.Value.string { data := #[] }, Go.Value.string { data := #[] }] := ⟨Tryd.zeroValue69, rfl⟩
instance ty70 : Ty Tryd.prog 70 (Go.TypeDesc.func #[] #[69] false) 1 false := ⟨Tryd.underlying70, Tryd.isAgg70, Tryd.sizeOf70⟩
instance zero70 : Zero Tryd.prog 70 (Go.Value.nilFunc) #[Go.Value.nilFunc] := ⟨Tryd.zeroValue70, rfl⟩
instance ty71 : Ty Tryd.prog 71 (Go.TypeDesc.slice 9) 1 false := ⟨Tryd.underlying71, Tryd.isAgg71, Tryd.sizeOf71⟩
instance zero71 : Zero Tryd.prog 71 (Go.Value.slice none 0 0) #[Go.Value.slice none 0 0] := ⟨Tryd.zeroValue71, rfl⟩
instance ty72 : Ty Tryd.prog 72 (Go.TypeDesc.func #[] #[71] false) 1 false := ⟨Tryd.underlying72, Tryd.isAgg72, Tryd.sizeOf72⟩
instance zero72 : Zero Tryd.prog 72 (Go.Value.nilFunc) #[Go.Value.nilFunc] := ⟨Tryd.zeroValue72, rfl⟩
instance ty73 : Ty Tryd.prog 73 (Go.TypeDesc.func #[50] #[9] false) 1 false := ⟨Tryd.underlying73, Tryd.isAgg73, Tryd.sizeOf73⟩
instance zero73 : Zero Tryd.prog 73 (Go.Value.nilFunc) #[Go.Value.nilFunc] := ⟨Tryd.zeroValue73, rfl⟩
instance ty74 : Ty Tryd.prog 74 (Go.TypeDesc.func #[3] #[9] false) 1 false := ⟨Tryd.underlying74, Tryd.isAgg74, Tryd.sizeOf74⟩
instance zero74 : Zero Tryd.prog 74 (Go.Value.nilFunc) #[Go.Value.nilFunc] := ⟨Tryd.zeroValue74, rfl⟩
instance ty75 : Ty Tryd.prog 75 (Go.TypeDesc.func #[9] #[9] false) 1 false := ⟨Tryd.underlying75, Tryd.isAgg75, Tryd.sizeOf75⟩
instance zero75 : Zero Tryd.prog 75 (Go.Value.nilFunc) #[Go.Value.nilFunc] := ⟨Tryd.zeroValue75, rfl⟩
instance ty76 : Ty Tryd.prog 76 (Go.TypeDesc.pointer 5) 1 false := ⟨Tryd.underlying76, Tryd.isAgg76, Tryd.sizeOf76⟩
instance zero76 : Zero Tryd.prog 76 (Go.Value.pointer none) #[Go.Value.pointer none] := ⟨Tryd.zeroValue76, rfl⟩
instance ty77 : Ty Tryd.prog 77 (Go.TypeDesc.func #[9, 9] #[63] false) 1 false := ⟨Tryd.underlying77, Tryd.isAgg77, Tryd.sizeOf77⟩
instance zero77 : Zero Tryd.prog 77 (Go.Value.nilFunc) #[Go.Value.nilFunc] := ⟨Tryd.zeroValue77, rfl⟩
instance ty78 : Ty Tryd.prog 78 (Go.TypeDesc.tuple #[9, 9, 4]) 1 false := ⟨Tryd.underlying78, Tryd.isAgg78, Tryd.sizeOf78⟩
instance zero78 : Zero Tryd.prog 78 (Go.Value.tuple #[Go.Value.string { data := #[] }, Go.Value.string { data := #[] }, Go.Value.bool false]) #[Go.Value.tuple #[Go.Value.string { data := #[] }, Go.Value.string { data := #[] }, Go.Value.bool false]] := ⟨Tryd.zeroValue78, rfl⟩
instance ty79 : Ty Tryd.prog 79 (Go.TypeDesc.func #[9, 9] #[9, 9, 4] false) 1 false := ⟨Tryd.underlying79, Tryd.isAgg79, Tryd.sizeOf79⟩
instance zero79 : Zero Tryd.prog 79 (Go.Value.nilFunc) #[Go.Value.nilFunc] := ⟨Tryd.zeroValue79, rfl⟩
instance ty80 : Ty Tryd.prog 80 (Go.TypeDesc.func #[9] #[9, 4] false) 1 false := ⟨Tryd.underlying80, Tryd.isAgg80, Tryd.sizeOf80⟩
instance zero80 : Zero Tryd.prog 80 (Go.Value.nilFunc) #[Go.Value.nilFunc] := ⟨Tryd.zeroValue80, rfl⟩
instance ty81 : Ty Tryd.prog 81 (Go.TypeDesc.tuple #[3, 4, 4]) 1 false := ⟨Tryd.underlying81, Tryd.isAgg81, Tryd.sizeOf81⟩
instance zero81 : Zero Tryd.prog 81 (Go.Value.tuple #[Go.Value.int Go.IntKind.i64 0, Go.Value.bool false, Go.Value.bool false]) #[Go.Value.tuple #[Go.Value.int Go.IntKind.i64 0, Go.Value.bool false, Go.Value.bool false]] := ⟨Tryd.zeroValue81, rfl⟩
instance ty82 : Ty Tryd.prog 82 (Go.TypeDesc.func #[9] #[3, 4, 4] false) 1 false := ⟨Tryd.underlying82, Tryd.isAgg82, Tryd.sizeOf82⟩
instance zero82 : Zero Tryd.prog 82 (Go.Value.nilFunc) #[Go.Value.nilFunc] := ⟨Tryd.zeroValue82, rfl⟩
instance ty83 : Ty Tryd.prog 83 (Go.TypeDesc.func #[9] #[9, 25] false) 1 false := ⟨Tryd.underlying83, Tryd.isAgg83, Tryd.sizeOf83⟩
instance zero83 : Zero Tryd.prog 83 (Go.Value.nilFunc) #[Go.Value.nilFunc] := ⟨Tryd.zeroValue83, rfl⟩
instance ty84 : Ty Tryd.prog 84 (Go.TypeDesc.func #[5] #[57] false) 1 false := ⟨Tryd.underlying84, Tryd.isAgg84, Tryd.sizeOf84⟩
instance zero84 : Zero Tryd.prog 84 (Go.Value.nilFunc) #[Go.Value.nilFunc] := ⟨Tryd.zeroValue84, rfl⟩
instance ty85 : Ty Tryd.prog 85 (Go.TypeDesc.int Go.IntKind.u64) 1 false := ⟨Tryd.underlying85, Tryd.isAgg85, Tryd.sizeOf85⟩
instance zero85 : Zero Tryd.prog 85 (Go.Value.int Go.IntKind.u64 0) #[Go.Value.int Go.IntKind.u64 0] := ⟨Tryd.zeroValue85, rfl⟩
instance ty86 : Ty Tryd.prog 86 (Go.TypeDesc.unsafePointer) 1 false := ⟨Tryd.underlying86, Tryd.isAgg86, Tryd.sizeOf86⟩
instance zero86 : Zero Tryd.prog 86 (Go.Value.pointer none) #[Go.Value.pointer none] := ⟨Tryd.zeroValue86, rfl⟩
instance ty87 : Ty Tryd.prog 87 (Go.TypeDesc.func #[86] #[86] false) 1 false := ⟨Tryd.underlying87, Tryd.isAgg87, Tryd.sizeOf87⟩
instance zero87 : Zero Tryd.prog 87 (Go.Value.nilFunc) #[Go.Value.nilFunc] := ⟨Tryd.zeroValue87, rfl⟩
instance ty88 : Ty Tryd.prog 88 (Go.TypeDesc.func #[9, 9, 3] #[63] false) 1 false := ⟨Tryd.underlying88, Tryd.isAgg88, Tryd.sizeOf88⟩
instance zero88 : Zero Tryd.prog 88 (Go.Value.nilFunc) #[Go.Value.nilFunc] := ⟨Tryd.zeroValue88, rfl⟩
instance ty89 : Ty Tryd.prog 89 (Go.TypeDesc.func #[9, 9] #[4] false) 1 false := ⟨Tryd.underlying89, Tryd.isAgg89, Tryd.sizeOf89⟩
instance zero89 : Zero Tryd.prog 89 (Go.Value.nilFunc) #[Go.Value.nilFunc] := ⟨Tryd.zeroValue89, rfl⟩
instance ty90 : Ty Tryd.prog 90 (Go.TypeDesc.func #[5] #[5] false) 1 false := ⟨Tryd.underlying90, Tryd.isAgg90, Tryd.sizeOf90⟩
instance zero90 : Zero Tryd.prog 90 (Go.Value.nilFunc) #[Go.Value.nilFunc] := ⟨Tryd.zeroValue90, rfl⟩
instance ty91 : Ty Tryd.prog 91 (Go.TypeDesc.func #[5] #[3] false) 1 false := ⟨Tryd.underlying91, Tryd.isAgg91, Tryd.sizeOf91⟩
instance zero91 : Zero Tryd.prog 91 (Go.Value.nilFunc) #[Go.Value.nilFunc] := ⟨Tryd.zeroValue91, rfl⟩
instance ty92 : Ty Tryd.prog 92 (Go.TypeDesc.func #[9] #[4] false) 1 false := ⟨Tryd.underlying92, Tryd.isAgg92, Tryd.sizeOf92⟩
instance zero92 : Zero Tryd.prog 92 (Go.Value.nilFunc) #[Go.Value.nilFunc] := ⟨Tryd.zeroValue92, rfl⟩
instance ty93 : Ty Tryd.prog 93 (Go.TypeDesc.tuple #[21, 3]) 1 false := ⟨Tryd.underlying93, Tryd.isAgg93, Tryd.sizeOf93⟩
instance zero93 : Zero Tryd.prog 93 (Go.Value.tuple #[Go.Value.int Go.IntKind.i32 0, Go.Value.int Go.IntKind.i64 0]) #[Go.Value.tuple #[Go.Value.int Go.IntKind.i32 0, Go.Value.int Go.IntKind.i64 0]] := ⟨Tryd.zeroValue93, rfl⟩
instance ty94 : Ty Tryd.prog 94 (Go.TypeDesc.func #[9] #[21, 3] false) 1 false := ⟨Tryd.underlying94, Tryd.isAgg94, Tryd.sizeOf94⟩
instance zero94 : Zero Tryd.prog 94 (Go.Value.nilFunc) #[Go.Value.nilFunc] := ⟨Tryd.zeroValue94, rfl⟩
instance ty95 : Ty Tryd.prog 95 (Go.TypeDesc.func #[9, 9] #[3] false) 1 false := ⟨Tryd.underlying95, Tryd.isAgg95, Tryd.sizeOf95⟩
instance zero95 : Zero Tryd.prog 95 (Go.Value.nilFunc) #[Go.Value.nilFunc] := ⟨Tryd.zeroValue95, rfl⟩
instance ty96 : Ty Tryd.prog 96 (Go.TypeDesc.func #[9, 5] #[3] false) 1 false := ⟨Tryd.underlying96, Tryd.isAgg96, Tryd.sizeOf96⟩
instance zero96 : Zero Tryd.prog 96 (Go.Value.nilFunc) #[Go.Value.nilFunc] := ⟨Tryd.zeroValue96, rfl⟩
instance ty97 : Ty Tryd.prog 97 (Go.TypeDesc.func #[3] #[3] false) 1 false := ⟨Tryd.underlying97, Tryd.isAgg97, Tryd.sizeOf97⟩
instance zero97 : Zero Tryd.prog 97 (Go.Value.nilFunc) #[Go.Value.nilFunc] := ⟨Tryd.zeroValue97, rfl⟩
instance ty98 : Ty Tryd.prog 98 (Go.TypeDesc.array 256 5) 256 true := ⟨Tryd.underlying98, Tryd.isAgg98, Tryd.sizeOf98⟩
instance zero98 : Zero Tryd.prog 98 (Go.Value.agg Go.Proofs.Tryd.zeroCells98) Go.Proofs.Tryd.zeroCells98 := ⟨Tryd.zeroValue98, rfl⟩
instance ty99 : Ty Tryd.prog 99 (Go.TypeDesc.struct #[{ name := "lo", type := 5, offset := 0, embedded := false, tag := "", pkgPath := "unicode/utf8", byteOffset := 0 }, { name := "hi", type := 5, offset := 1, embedded := false, tag := "", pkgPath := "unicode/utf8", byteOffset := 1 }]) 2 true := ⟨Tryd.underlying99, Tryd.isAgg99, Tryd.sizeOf99⟩
instance zero99 : Zero Tryd.prog 99 (Go.Value.agg #[Go.Value.int Go.IntKind.u8 0, Go.Value.int Go.IntKind.u8 0]) #[Go.Value.int Go.IntKind.u8 0, Go.Value.int Go.IntKind.u8 0] := ⟨Tryd.zeroValue99, rfl⟩
instance ty100 : Ty Tryd.prog 100 (Go.TypeDesc.struct #[{ name := "lo", type := 5, offset := 0, embedded := false, tag := "", pkgPath := "unicode/utf8", byteOffset := 0 }, { name := "hi", type := 5, offset := 1, embedded := false, tag := "", pkgPath := "unicode/utf8", byteOffset := 1 }]) 2 true := ⟨Tryd.underlying100, Tryd.isAgg100, Tryd.sizeOf100⟩
instance zero100 : Zero Tryd.prog 100 (Go.Value.agg #[Go.Value.int Go.IntKind.u8 0, Go.Value.int Go.IntKind.u8 0]) #[Go.Value.int Go.IntKind.u8 0, Go.Value.int Go.IntKind.u8 0] := ⟨Tryd.zeroValue100, rfl⟩
instance ty101 : Ty Tryd.prog 101 (Go.TypeDesc.array 16 100) 32 true := ⟨Tryd.underlying101, Tryd.isAgg101, Tryd.sizeOf101⟩
instance zero101 : Zero Tryd.prog 101 (Go.Value.agg #[Go.Value.int Go.IntKind.u8 0, Go.Value.int Go.IntKind.u8 0, Go.Value.int Go.IntKind.u8 0, Go.Value.int Go.IntKind.u8 0, Go.Value.int Go.IntKind.u8 0, Go.Value.int Go.IntKind.u8 0, Go.Value.int Go.IntKind.u8 0, Go.Value.int Go.IntKind.u8 0, Go.Value.int Go.IntKind.u8 0, Go.Value.int Go.IntKind.u8 0, Go.Value.int Go.IntKind.u8 0, Go.Value.int Go.IntKind.u8 0, Go.Value.int Go.IntKind.u8 0, Go.Value.int Go.IntKind.u8 0, Go.Value.int Go.IntKind.u8 0, Go.Value.int Go.IntKind.u8 0, Go.Value.int Go.IntKind.u8 0, Go.Value.int Go.IntKind.u8 0, Go.Value.int Go.IntKind.u8 0, Go.Value.int Go.IntKind.u8 0, Go.Value.int Go.IntKind.u8 0, Go.Value.int Go.IntKind.u8 0, Go.Value.int Go.IntKind.u8 0, Go.Value.int Go.IntKind.u8 0, Go.Value.int Go.IntKind.u8 0, Go.Value.int Go.IntKind.u8 0, Go.Value.int Go.IntKind.u8 0, Go.Value.int Go.IntKind.u8 0, Go.Value.int Go.IntKind.u8 0, Go.Value.int Go.IntKind.u8 0, Go.Value.int Go.IntKind.u8 0, Go.Value.int Go.IntKind.u8 0]) #[Go.Value.int Go.IntKind.u8 0, Go.Value.int Go.IntKind.u8 0, Go.Value.int Go.IntKind.u8 0, Go.Value.int Go.IntKind.u8 0, Go.Value.int Go.IntKind.u8 0, Go.Value.int Go.IntKind.u8 0, Go.Value.int Go.IntKind.u8 0, Go.Value.int Go.IntKind.u8 0, Go.Value.int Go.IntKind.u8 0, Go.Value.int Go.IntKind.u8 0, Go.Value.int Go.IntKind.u8 0, Go.Value.int Go.IntKind.u8 0, Go.Value.int Go.IntKind.u8 0, Go.Value.int Go.IntKind.u8 0, Go.Value.int Go.IntKind.u8 0, Go.Value.int Go.IntKind.u8 0, Go.Value.int Go.IntKind.u8 0, Go.Value.int Go.IntKind.u8 0, Go.Value.int Go.IntKind.u8 0, Go.Value.int Go.IntKind.u8 0, Go.Value.int Go.IntKind.u8 0, Go.Value.int Go.IntKind.u8 0, Go.Value.int Go.IntKind.u8 0, Go.Value.int Go.IntKind.u8 0, Go.Value.int Go.IntKind.u8 0, Go.Value.int Go.IntKind.u8 0, Go.Value.int Go.IntKind.u8 0, Go.Value.int Go.IntKind.u8 0, Go.Value.int Go.IntKind.u8 0, Go.Value.int Go.IntKind.u8 0, Go.Value.int Go.IntKind.u8 0, Go.Value.int Go.IntKind.u8 0] := ⟨Tryd.zeroValue101, rfl⟩
instance ty102 : Ty Tryd.prog 102 (Go.TypeDesc.int Go.IntKind.u32) 1 false := ⟨Tryd.underlying102, Tryd.isAgg102, Tryd.sizeOf102⟩
instance zero102 : Zero Tryd.prog 102 (Go.Value.int Go.IntKind.u32 0) #[Go.Value.int Go.IntKind.u32 0] := ⟨Tryd.zeroValue102, rfl⟩
instance ty103 : Ty Tryd.prog 103 (Go.TypeDesc.tuple #[102, 102]) 1 false := ⟨Tryd.underlying103, Tryd.isAgg103, Tryd.sizeOf103⟩
instance zero103 : Zero Tryd.prog 103 (Go.Value.tuple #[Go.Value.int Go.IntKind.u32 0, Go.Value.int Go.IntKind.u32 0]) #[Go.Value.tuple #[Go.Value.int Go.IntKind.u32 0, Go.Value.int Go.IntKind.u32 0]] := ⟨Tryd.zeroValue103, rfl⟩
instance ty104 : Ty Tryd.prog 104 (Go.TypeDesc.func #[9] #[102, 102] false) 1 false := ⟨Tryd.underlying104, Tryd.isAgg104, Tryd.sizeOf104⟩
instance zero104 : Zero Tryd.prog 104 (Go.Value.nilFunc) #[Go.Value.nilFunc] := ⟨Tryd.zeroValue104, rfl⟩
instance ty105 : Ty Tryd.prog 105 (Go.TypeDesc.struct #[{ name := "_interface", type := 17, offset := 0, embedded := false, tag := "", pkgPath := "runtime", byteOffset := 0 }, { name := "concrete", type := 17, offset := 1, embedded := false, tag := "", pkgPath := "runtime", byteOffset := 8 }, { name := "asserted", type := 17, offset := 2, embedded := false, tag := "", pkgPath := "runtime", byteOffset := 16 }, { name := "missingMethod", type := 9, offset := 3, embedded := false, tag := "", pkgPath := "runtime", byteOffset := 24 }]) 4 true := ⟨Tryd.underlying105, Tryd.isAgg105, Tryd.sizeOf105⟩
instance zero105 : Zero Tryd.prog 105 (Go.Value.agg #[Go.Value.pointer none, Go.Value.pointer none, Go.Value.pointer none, Go.Value.string { data := #[] }]) #[Go.Value.pointer none, Go.Value.pointer none, Go.Value.pointer none, Go.Value.string { data := #[] }] := ⟨Tryd.zeroValue105, rfl⟩
instance ty106 : Ty Tryd.prog 106 (Go.TypeDesc.struct #[{ name := "_interface", type := 17, offset := 0, embedded := false, tag := "", pkgPath := "runtime", byteOffset := 0 }, { name := "concrete", type := 17, offset := 1, embedded := false, tag := "", pkgPath := "runtime", byteOffset := 8 }, { name := "asserted", type := 17, offset := 2, embedded := false, tag := "", pkgPath := "runtime", byteOffset := 16 }, { name := "missingMethod", type := 9, offset := 3, embedded := false, tag := "", pkgPath := "runtime", byteOffset := 24 }]) 4 true := ⟨Tryd.underlying106, Tryd.isAgg106, Tryd.sizeOf106⟩
instance zero106 : Zero Tryd.prog 106 (Go.Value.agg #[Go.Value.pointer none, Go.Value.pointer none, Go.Value.pointer none, Go.Value.string { data := #[] }]) #[Go.Value.pointer none, Go.Value.pointer none, Go.Value.pointer none, Go.Value.string { data := #[] }] := ⟨Tryd.zeroValue106, rfl⟩
instance ty107 : Ty Tryd.prog 107 (Go.TypeDesc.array 0 16) 0 true := ⟨Tryd.underlying107, Tryd.isAgg107, Tryd.sizeOf107⟩
instance zero107 : Zero Tryd.prog 107 (Go.Value.agg #[]) #[] := ⟨Tryd.zeroValue107, rfl⟩
instance ty108 : Ty Tryd.prog 108 (Go.TypeDesc.struct #[{ name := "_", type := 107, offset := 0, embedded := false, tag := "", pkgPath := "runtime", byteOffset := 0 }]) 0 true := ⟨Tryd.underlying108, Tryd.isAgg108, Tryd.sizeOf108⟩
instance zero108 : Zero Tryd.prog 108 (Go.Value.agg #[]) #[] := ⟨Tryd.zeroValue108, rfl⟩
instance ty109 : Ty Tryd.prog 109 (Go.TypeDesc.struct #[{ name := "_", type := 107, offset := 0, embedded := false, tag := "", pkgPath := "runtime", byteOffset := 0 }]) 0 true := ⟨Tryd.underlying109, Tryd.isAgg109, Tryd.sizeOf109⟩
instance zero109 : Zero Tryd.prog 109 (Go.Value.agg #[]) #[] := ⟨Tryd.zeroValue109, rfl⟩
instance ty110 : Ty Tryd.prog 110 (Go.TypeDesc.int Go.IntKind.u8) 1 false := ⟨Tryd.underlying110, Tryd.isAgg110, Tryd.sizeOf110⟩
instance zero110 : Zero Tryd.prog 110 (Go.Value.int Go.IntKind.u8 0) #[Go.Value.int Go.IntKind.u8 0] := ⟨Tryd.zeroValue110, rfl⟩
instance ty111 : Ty Tryd.prog 111 (Go.TypeDesc.int Go.IntKind.u8) 1 false := ⟨Tryd.underlying111, Tryd.isAgg111, Tryd.sizeOf111⟩
instance zero111 : Zero Tryd.prog 111 (Go.Value.int Go.IntKind.u8 0) #[Go.Value.int Go.IntKind.u8 0] := ⟨Tryd.zeroValue111, rfl⟩
instance ty112 : Ty Tryd.prog 112 (Go.TypeDesc.func #[86, 86] #[4] false) 1 false := ⟨Tryd.underlying112, Tryd.isAgg112, Tryd.sizeOf112⟩
instance zero112 : Zero Tryd.prog 112 (Go.Value.nilFunc) #[Go.Value.nilFunc] := ⟨Tryd.zeroValue112, rfl⟩
instance ty113 : Ty Tryd.prog 113 (Go.TypeDesc.int Go.IntKind.i32) 1 false := ⟨Tryd.underlying113, Tryd.isAgg113, Tryd.sizeOf113⟩
instance zero113 : Zero Tryd.prog 113 (Go.Value.int Go.IntKind.i32 0) #[Go.Value.int Go.IntKind.i32 0] := ⟨Tryd.zeroValue113, rfl⟩
instance ty114 : Ty Tryd.prog 114 (Go.TypeDesc.int Go.IntKind.i32) 1 false := ⟨Tryd.underlying114, Tryd.isAgg114, Tryd.sizeOf114⟩
instance zero114 : Zero Tryd.prog 114 (Go.Value.int Go.IntKind.i32 0) #[Go.Value.int Go.IntKind.i32 0] := ⟨Tryd.zeroValue114, rfl⟩
instance ty115 : Ty Tryd.prog 115 (Go.TypeDesc.struct #[{ name := "Size_", type := 12, offset := 0, embedded := false, tag := "", pkgPath := "", byteOffset := 0 }, { name := "PtrBytes", type := 12, offset := 1, embedded := false, tag := "", pkgPath := "", byteOffset := 8 }, { name := "Hash", type := 102, offset := 2, embedded := false, tag := "", pkgPath := "", byteOffset := 16 }, { name := "TFlag", type := 110, offset := 3, embedded := false, tag := "", pkgPath := "", byteOffset := 20 }, { name := "Align_", type := 5, offset := 4, embedded := false, tag := "", pkgPath := "", byteOffset := 21 }, { name := "FieldAlign_", type := 5, offset := 5, embedded := false, tag := "", pkgPath := "", byteOffset := 22 }, { name := "Kind_", type := 111, offset := 6, embedded := false, tag := "", pkgPath := "", byteOffset := 23 }, { name := "Equal", type := 112, offset := 7, embedded := false, tag := "", pkgPath := "", byteOffset := 24 }, { name := "GCData", type := 76, offset := 8, embedded := false, tag := "", pkgPath := "", byteOffset := 32 }, { name := "Str", type := 113, offset := 9, embedded := false, tag := "", pkgPath := "", byteOffset := 40 }, { name := "PtrToThis", type := 114, offset := 10, embedded := false, tag := "", pkgPath := "", byteOffset := 44 }]) 11 true := ⟨Tryd.underlying115, Tryd.isAgg115, Tryd.sizeOf115⟩
instance zero115 : Zero Tryd.prog 115 (Go.Value.agg #[Go.Value.int Go.IntKind.u64 0, Go.Value.int Go.IntKind.u64 0, Go.Value.int Go.IntKind.u32 0, Go.Value.int Go.IntKind.u8 0, Go.Value.int Go.IntKind.u8 0, Go.Value.int Go.IntKind.u8 0, Go.Value.int Go.IntKind.u8 0, Go.Value.nilFunc, Go.Value.pointer none, Go.Value.int Go.IntKind.i32 0, Go.Value.int Go.IntKind.i32 0]) #[Go.Value.int Go.IntKind.u64 0, Go.Value.int Go.IntKind.u64 0, Go.Value.int Go.IntKind.u32 0, Go.Value.int Go.IntKind.u8 0, Go.Value.int Go.IntKind.u8 0, Go.Value.int Go.IntKind.u8 0, Go.Value.int Go.IntKind.u8 0, Go.Value.nilFunc, Go.Value.pointer none, Go.Value.int Go.IntKind.i32 0, Go.Value.int Go.IntKind.i32 0] := ⟨Tryd.zeroValue115, rfl⟩
instance ty116 : Ty Tryd.prog 116 (Go.TypeDesc.struct #[{ name := "Size_", type := 12, offset := 0, embedded := false, tag := "", pkgPath := "", byteOffset := 0 }, { name := "PtrBytes", type := 12, offset := 1, embedded := false, tag := "", pkgPath := "", byteOffset := 8 }, { name := "Hash", type := 102, offset := 2, embedded := false, tag := "", pkgPath := "", byteOffset := 16 }, { name := "TFlag", type := 110, offset := 3, embedded := false, tag := "", pkgPath := "", byteOffset := 20 }, { name := "Align_", type := 5, offset := 4, embedded := false, tag := "", pkgPath := "", byteOffset := 21 }, { name := "FieldAlign_", type := 5, offset := 5, embedded := false, tag := "", pkgPath := "", byteOffset := 22 }, { name := "Kind_", type := 111, offset := 6, embedded := false, tag := "", pkgPath := "", byteOffset := 23 }, { name := "Equal", type := 112, offset := 7, embedded := false, tag := "", pkgPath := "", byteOffset := 24 }, { name := "GCData", type := 76, offset := 8, embedded := false, tag := "", pkgPath := "", byteOffset := 32 }, { name := "Str", type := 113, offset := 9, embedded := false, tag := "", pkgPath := "", byteOffset := 40 }, { name := "PtrToThis", type := 114, offset := 10, embedded := false, tag := "", pkgPath := "", byteOffset := 44 }]) 11 true := ⟨Tryd.underlying116, Tryd.isAgg116, Tryd.sizeOf116⟩
instance zero116 : Zero Tryd.prog 116 (Go.Value.agg #[Go.Value.int Go.IntKind.u64 0, Go.Value.int Go.IntKind.u64 0, Go.Value.int Go.IntKind.u32 0, Go.Value.int Go.IntKind.u8 0, Go.Value.int Go.IntKind.u8 0, Go.Value.int Go.IntKind.u8 0, Go.Value.int Go.IntKind.u8 0, Go.Value.nilFunc, Go.Value.pointer none, Go.Value.int Go.IntKind.i32 0, Go.Value.int Go.IntKind.i32 0]) #[Go.Value.int Go.IntKind.u64 0, Go.Value.int Go.IntKind.u64 0, Go.Value.int Go.IntKind.u32 0, Go.Value.int Go.IntKind.u8 0, Go.Value.int Go.IntKind.u8 0, Go.Value.int Go.IntKind.u8 0, Go.Value.int Go.IntKind.u8 0, Go.Value.nilFunc, Go.Value.pointer none, Go.Value.int Go.IntKind.i32 0, Go.Value.int Go.IntKind.i32 0] := ⟨Tryd.zeroValue116, rfl⟩
instance ent2 : Ent Tryd.prog 2 := ⟨Tryd.call2⟩
instance ent3 : Ent Tryd.prog 3 := ⟨Tryd.call3⟩
instance ent4 : Ent Tryd.prog 4 := ⟨Tryd.call4⟩
instance ent5 : Ent Tryd.prog 5 := ⟨Tryd.call5⟩
instance ent6 : Ent Tryd.prog 6 := ⟨Tryd.call6⟩
instance ent7 : Ent Tryd.prog 7 := ⟨Tryd.call7⟩
instance ent8 : Ent Tryd.prog 8 := ⟨Tryd.call8⟩
instance ent9 : Ent Tryd.prog 9 := ⟨Tryd.call9⟩
instance ent10 : Ent Tryd.prog 10 := ⟨Tryd.call10⟩
instance ent11 : Ent Tryd.prog 11 := ⟨Tryd.call11⟩
instance ent12 : Ent Tryd.prog 12 := ⟨Tryd.call12⟩
instance ent13 : Ent Tryd.prog 13 := ⟨Tryd.call13⟩
instance ent14 : Ent Tryd.prog 14 := ⟨Tryd.call14⟩
instance ent15 : Ent Tryd.prog 15 := ⟨Tryd.call15⟩
instance ent16 : Ent Tryd.prog 16 := ⟨Tryd.call16⟩
instance ent17 : Ent Tryd.prog 17 := ⟨Tryd.call17⟩
instance ent18 : Ent Tryd.prog 18 := ⟨Tryd.call18⟩
instance ent19 : Ent Tryd.prog 19 := ⟨Tryd.call19⟩
instance ent20 : Ent Tryd.prog 20 := ⟨Tryd.call20⟩
instance ent21 : Ent Tryd.prog 21 := ⟨Tryd.call21⟩
instance ent22 : Ent Tryd.prog 22 := ⟨Tryd.call22⟩
instance ent23 : Ent Tryd.prog 23 := ⟨Tryd.call23⟩
instance ent24 : Ent Tryd.prog 24 := ⟨Tryd.call24⟩
instance ent25 : Ent Tryd.prog 25 := ⟨Tryd.call25⟩
instance ent26 : Ent Tryd.prog 26 := ⟨Tryd.call26⟩
instance ent27 : Ent Tryd.prog 27 := ⟨Tryd.call27⟩
instance ent28 : Ent Tryd.prog 28 := ⟨Tryd.call28⟩
instance ent29 : Ent Tryd.prog 29 := ⟨Tryd.call29⟩
instance ent30 : Ent Tryd.prog 30 := ⟨Tryd.call30⟩
instance ent31 : Ent Tryd.prog 31 := ⟨Tryd.call31⟩
instance ent32 : Ent Tryd.prog 32 := ⟨Tryd.call32⟩
instance ent33 : Ent Tryd.prog 33 := ⟨Tryd.call33⟩
instance ent34 : Ent Tryd.prog 34 := ⟨Tryd.call34⟩
instance ent35 : Ent Tryd.prog 35 := ⟨Tryd.call35⟩
instance ent36 : Ent Tryd.prog 36 := ⟨Tryd.call36⟩
instance ent37 : Ent Tryd.prog 37 := ⟨Tryd.call37⟩
instance ent38 : Ent Tryd.prog 38 := ⟨Tryd.call38⟩
instance ent39 : Ent Tryd.prog 39 := ⟨Tryd.call39⟩
instance ent40 : Ent Tryd.prog 40 := ⟨Tryd.call40⟩
instance ent41 : Ent Tryd.prog 41 := ⟨Tryd.call41⟩
instance ent42 : Ent Tryd.prog 42 := ⟨Tryd.call42⟩
instance ent43 : Ent Tryd.prog 43 := ⟨Tryd.call43⟩
instance ent44 : Ent Tryd.prog 44 := ⟨Tryd.call44⟩
instance ent45 : Ent Tryd.prog 45 := ⟨Tryd.call45⟩
instance ent46 : Ent Tryd.prog 46 := ⟨Tryd.call46⟩
instance ent47 : Ent Tryd.prog 47 := ⟨Tryd.call47⟩
instance ent48 : Ent Tryd.prog 48 := ⟨Tryd.call48⟩
instance ent49 : Ent Tryd.prog 49 := ⟨Tryd.call49⟩
instance ent50 : Ent Tryd.prog 50 := ⟨Tryd.call50⟩
instance ent51 : Ent Tryd.prog 51 := ⟨Tryd.call51⟩
instance ent52 : Ent Tryd.prog 52 := ⟨Tryd.call52⟩
instance ent53 : Ent Tryd.prog 53 := ⟨Tryd.call53⟩
instance ent54 : Ent Tryd.prog 54 := ⟨Tryd.call54⟩
instance ent55 : Ent Tryd.prog 55 := ⟨Tryd.call55⟩
instance ent56 : Ent Tryd.prog 56 := ⟨Tryd.call56⟩
instance ent58 : Ent Tryd.prog 58 := ⟨Tryd.call58⟩
instance ent59 : Ent Tryd.prog 59 := ⟨Tryd.call59⟩
instance ent60 : Ent Tryd.prog 60 := ⟨Tryd.call60⟩
instance ent61 : Ent Tryd.prog 61 := ⟨Tryd.call61⟩
instance ent62 : Ent Tryd.prog 62 := ⟨Tryd.call62⟩
instance ent63 : Ent Tryd.prog 63 := ⟨Tryd.call63⟩
instance ent64 : Ent Tryd.prog 64 := ⟨Tryd.call64⟩
instance ent65 : Ent Tryd.prog 65 := ⟨Tryd.call65⟩
instance ent66 : Ent Tryd.prog 66 := ⟨Tryd.call66⟩
instance ent67 : Ent Tryd.prog 67 := ⟨Tryd.call67⟩
instance ent68 : Ent Tryd.prog 68 := ⟨Tryd.call68⟩
instance ent69 : Ent Tryd.prog 69 := ⟨Tryd.call69⟩
instance ent71 : Ent Tryd.prog 71 := ⟨Tryd.call71⟩
instance ent72 : Ent Tryd.prog 72 := ⟨Tryd.call72⟩
instance ent74 : Ent Tryd.prog 74 := ⟨Tryd.call74⟩
instance ent97 : Ent Tryd.prog 97 := ⟨Tryd.call97⟩
instance places7 : Places Tryd.prog 7 [(0, 1), (1, 1), (2, 1), (3, 1)] := ⟨⟨_, Tryd.underlying7, fun w => by simp [go_sem]⟩⟩
instance fld7_0 : Fld Tryd.prog 7 0 0 2 := ⟨⟨_, _, Tryd.underlying7, rfl, rfl, rfl⟩⟩
instance fld7_1 : Fld Tryd.prog 7 1 1 3 := ⟨⟨_, _, Tryd.underlying7, rfl, rfl, rfl⟩⟩
instance fld7_2 : Fld Tryd.prog 7 2 2 4 := ⟨⟨_, _, Tryd.underlying7, rfl, rfl, rfl⟩⟩
instance fld7_3 : Fld Tryd.prog 7 3 3 6 := ⟨⟨_, _, Tryd.underlying7, rfl, rfl, rfl⟩⟩
instance places8 : Places Tryd.prog 8 [(0, 1), (1, 1), (2, 1), (3, 1)] := ⟨⟨_, Tryd.underlying8, fun w => by simp [go_sem]⟩⟩
instance fld8_0 : Fld Tryd.prog 8 0 0 2 := ⟨⟨_, _, Tryd.underlying8, rfl, rfl, rfl⟩⟩
instance fld8_1 : Fld Tryd.prog 8 1 1 3 := ⟨⟨_, _, Tryd.underlying8, rfl, rfl, rfl⟩⟩
instance fld8_2 : Fld Tryd.prog 8 2 2 4 := ⟨⟨_, _, Tryd.underlying8, rfl, rfl, rfl⟩⟩
instance fld8_3 : Fld Tryd.prog 8 3 3 6 := ⟨⟨_, _, Tryd.underlying8, rfl, rfl, rfl⟩⟩
instance places13 : Places Tryd.prog 13 [(0, 1), (1, 1)] := ⟨⟨_, Tryd.underlying13, fun w => by simp [go_sem]⟩⟩
instance fld13_0 : Fld Tryd.prog 13 0 0 9 := ⟨⟨_, _, Tryd.underlying13, rfl, rfl, rfl⟩⟩
instance fld13_1 : Fld Tryd.prog 13 1 1 12 := ⟨⟨_, _, Tryd.underlying13, rfl, rfl, rfl⟩⟩
instance places14 : Places Tryd.prog 14 [(0, 1), (1, 1)] := ⟨⟨_, Tryd.underlying14, fun w => by simp [go_sem]⟩⟩
instance fld14_0 : Fld Tryd.prog 14 0 0 9 := ⟨⟨_, _, Tryd.underlying14, rfl, rfl, rfl⟩⟩
instance fld14_1 : Fld Tryd.prog 14 1 1 12 := ⟨⟨_, _, Tryd.underlying14, rfl, rfl, rfl⟩⟩
instance places18 : Places Tryd.prog 18 [(0, 1)] := ⟨⟨_, Tryd.underlying18, fun w => by simp [go_sem]⟩⟩
instance fld18_0 : Fld Tryd.prog 18 0 0 17 := ⟨⟨_, _, Tryd.underlying18, rfl, rfl, rfl⟩⟩
instance places19 : Places Tryd.prog 19 [(0, 1)] := ⟨⟨_, Tryd.underlying19, fun w => by simp [go_sem]⟩⟩
instance fld19_0 : Fld Tryd.prog 19 0 0 17 := ⟨⟨_, _, Tryd.underlying19, rfl, rfl, rfl⟩⟩
instance places29 : Places Tryd.prog 29 [(0, 1), (1, 1)] := ⟨⟨_, Tryd.underlying29, fun w => by simp [go_sem]⟩⟩
instance fld29_0 : Fld Tryd.prog 29 0 0 25 := ⟨⟨_, _, Tryd.underlying29, rfl, rfl, rfl⟩⟩
instance fld29_1 : Fld Tryd.prog 29 1 1 3 := ⟨⟨_, _, Tryd.underlying29, rfl, rfl, rfl⟩⟩
instance places30 : Places Tryd.prog 30 [(0, 1), (1, 1)] := ⟨⟨_, Tryd.underlying30, fun w => by simp [go_sem]⟩⟩
instance fld30_0 : Fld Tryd.prog 30 0 0 25 := ⟨⟨_, _, Tryd.underlying30, rfl, rfl, rfl⟩⟩
instance fld30_1 : Fld Tryd.prog 30 1 1 3 := ⟨⟨_, _, Tryd.underlying30, rfl, rfl, rfl⟩⟩
instance places40 : Places Tryd.prog 40 [(0, 1), (1, 1), (2, 1)] := ⟨⟨_, Tryd.underlying40, fun w => by simp [go_sem]⟩⟩
instance fld40_0 : Fld Tryd.prog 40 0 0 3 := ⟨⟨_, _, Tryd.underlying40, rfl, rfl, rfl⟩⟩
instance fld40_1 : Fld Tryd.prog 40 1 1 3 := ⟨⟨_, _, Tryd.underlying40, rfl, rfl, rfl⟩⟩
instance fld40_2 : Fld Tryd.prog 40 2 2 9 := ⟨⟨_, _, Tryd.underlying40, rfl, rfl, rfl⟩⟩
instance places41 : Places Tryd.prog 41 [(0, 1), (1, 1), (2, 1)] := ⟨⟨_, Tryd.underlying41, fun w => by simp [go_sem]⟩⟩
instance fld41_0 : Fld Tryd.prog 41 0 0 3 := ⟨⟨_, _, Tryd.underlying41, rfl, rfl, rfl⟩⟩
instance fld41_1 : Fld Tryd.prog 41 1 1 3 := ⟨⟨_, _, Tryd.underlying41, rfl, rfl, rfl⟩⟩
instance fld41_2 : Fld Tryd.prog 41 2 2 9 := ⟨⟨_, _, Tryd.underlying41, rfl, rfl, rfl⟩⟩
instance places54 : Places Tryd.prog 54 [(0, 1), (1, 1)] := ⟨⟨_, Tryd.underlying54, fun w => by simp [go_sem]⟩⟩
instance fld54_0 : Fld Tryd.prog 54 0 0 53 := ⟨⟨_, _, Tryd.underlying54, rfl, rfl, rfl⟩⟩
instance fld54_1 : Fld Tryd.prog 54 1 1 50 := ⟨⟨_, _, Tryd.underlying54, rfl, rfl, rfl⟩⟩
instance places55 : Places Tryd.prog 55 [(0, 1), (1, 1)] := ⟨⟨_, Tryd.underlying55, fun w => by simp [go_sem]⟩⟩
instance fld55_0 : Fld Tryd.prog 55 0 0 53 := ⟨⟨_, _, Tryd.underlying55, rfl, rfl, rfl⟩⟩
instance fld55_1 : Fld Tryd.prog 55 1 1 50 := ⟨⟨_, _, Tryd.underlying55, rfl, rfl, rfl⟩⟩
instance places99 : Places Tryd.prog 99 [(0, 1), (1, 1)] := ⟨⟨_, Tryd.underlying99, fun w => by simp [go_sem]⟩⟩
instance fld99_0 : Fld Tryd.prog 99 0 0 5 := ⟨⟨_, _, Tryd.underlying99, rfl, rfl, rfl⟩⟩
instance fld99_1 : Fld Tryd.prog 99 1 1 5 := ⟨⟨_, _, Tryd.underlying99, rfl, rfl, rfl⟩⟩
instance places100 : Places Tryd.prog 100 [(0, 1), (1, 1)] := ⟨⟨_, Tryd.underlying100, fun w => by simp [go_sem]⟩⟩
instance fld100_0 : Fld Tryd.prog 100 0 0 5 := ⟨⟨_, _, Tryd.underlying100, rfl, rfl, rfl⟩⟩
instance fld100_1 : Fld Tryd.prog 100 1 1 5 := ⟨⟨_, _, Tryd.underlying100, rfl, rfl, rfl⟩⟩
instance places105 : Places Tryd.prog 105 [(0, 1), (1, 1), (2, 1), (3, 1)] := ⟨⟨_, Tryd.underlying105, fun w => by simp [go_sem]⟩⟩
instance fld105_0 : Fld Tryd.prog 105 0 0 17 := ⟨⟨_, _, Tryd.underlying105, rfl, rfl, rfl⟩⟩
instance fld105_1 : Fld Tryd.prog 105 1 1 17 := ⟨⟨_, _, Tryd.underlying105, rfl, rfl, rfl⟩⟩
instance fld105_2 : Fld Tryd.prog 105 2 2 17 := ⟨⟨_, _, Tryd.underlying105, rfl, rfl, rfl⟩⟩
instance fld105_3 : Fld Tryd.prog 105 3 3 9 := ⟨⟨_, _, Tryd.underlying105, rfl, rfl, rfl⟩⟩
instance places106 : Places Tryd.prog 106 [(0, 1), (1, 1), (2, 1), (3, 1)] := ⟨⟨_, Tryd.underlying106, fun w => by simp [go_sem]⟩⟩
instance fld106_0 : Fld Tryd.prog 106 0 0 17 := ⟨⟨_, _, Tryd.underlying106, rfl, rfl, rfl⟩⟩
instance fld106_1 : Fld Tryd.prog 106 1 1 17 := ⟨⟨_, _, Tryd.underlying106, rfl, rfl, rfl⟩⟩
instance fld106_2 : Fld Tryd.prog 106 2 2 17 := ⟨⟨_, _, Tryd.underlying106, rfl, rfl, rfl⟩⟩
instance fld106_3 : Fld Tryd.prog 106 3 3 9 := ⟨⟨_, _, Tryd.underlying106, rfl, rfl, rfl⟩⟩
instance places108 : Places Tryd.prog 108 [(0, 0)] := ⟨⟨_, Tryd.underlying108, fun w => by simp [go_sem]⟩⟩
instance fld108_0 : Fld Tryd.prog 108 0 0 107 := ⟨⟨_, _, Tryd.underlying108, rfl, rfl, rfl⟩⟩
instance places109 : Places Tryd.prog 109 [(0, 0)] := ⟨⟨_, Tryd.underlying109, fun w => by simp [go_sem]⟩⟩
instance fld109_0 : Fld Tryd.prog 109 0 0 107 := ⟨⟨_, _, Tryd.underlying109, rfl, rfl, rfl⟩⟩
instance places115 : Places Tryd.prog 115 [(0, 1), (1, 1), (2, 1), (3, 1), (4, 1), (5, 1), (6, 1), (7, 1), (8, 1), (9, 1), (10, 1)] := ⟨⟨_, Tryd.underlying115, fun w => by simp [go_sem]⟩⟩
instance fld115_0 : Fld Tryd.prog 115 0 0 12 := ⟨⟨_, _, Tryd.underlying115, rfl, rfl, rfl⟩⟩
instance fld115_1 : Fld Tryd.prog 115 1 1 12 := ⟨⟨_, _, Tryd.underlying115, rfl, rfl, rfl⟩⟩
instance fld115_2 : Fld Tryd.prog 115 2 2 102 := ⟨⟨_, _, Tryd.underlying115, rfl, rfl, rfl⟩⟩
instance fld115_3 : Fld Tryd.prog 115 3 3 110 := ⟨⟨_, _, Tryd.underlying115, rfl, rfl, rfl⟩⟩
instance fld115_4 : Fld Tryd.prog 115 4 4 5 := ⟨⟨_, _, Tryd.underlying115, rfl, rfl, rfl⟩⟩
instance fld115_5 : Fld Tryd.prog 115 5 5 5 := ⟨⟨_, _, Tryd.underlying115, rfl, rfl, rfl⟩⟩
instance fld115_6 : Fld Tryd.prog 115 6 6 111 := ⟨⟨_, _, Tryd.underlying115, rfl, rfl, rfl⟩⟩
instance fld115_7 : Fld Tryd.prog 115 7 7 112 := ⟨⟨_, _, Tryd.underlying115, rfl, rfl, rfl⟩⟩
instance fld115_8 : Fld Tryd.prog 115 8 8 76 := ⟨⟨_, _, Tryd.underlying115, rfl, rfl, rfl⟩⟩
instance fld115_9 : Fld Tryd.prog 115 9 9 113 := ⟨⟨_, _, Tryd.underlying115, rfl, rfl, rfl⟩⟩
instance fld115_10 : Fld Tryd.prog 115 10 10 114 := ⟨⟨_, _, Tryd.underlying115, rfl, rfl, rfl⟩⟩
instance places116 : Places Tryd.prog 116 [(0, 1), (1, 1), (2, 1), (3, 1), (4, 1), (5, 1), (6, 1), (7, 1), (8, 1), (9, 1), (10, 1)] := ⟨⟨_, Tryd.underlying116, fun w => by simp [go_sem]⟩⟩
instance fld116_0 : Fld Tryd.prog 116 0 0 12 := ⟨⟨_, _, Tryd.underlying116, rfl, rfl, rfl⟩⟩
instance fld116_1 : Fld Tryd.prog 116 1 1 12 := ⟨⟨_, _, Tryd.underlying116, rfl, rfl, rfl⟩⟩
instance fld116_2 : Fld Tryd.prog 116 2 2 102 := ⟨⟨_, _, Tryd.underlying116, rfl, rfl, rfl⟩⟩
instance fld116_3 : Fld Tryd.prog 116 3 3 110 := ⟨⟨_, _, Tryd.underlying116, rfl, rfl, rfl⟩⟩
instance fld116_4 : Fld Tryd.prog 116 4 4 5 := ⟨⟨_, _, Tryd.underlying116, rfl, rfl, rfl⟩⟩
instance fld116_5 : Fld Tryd.prog 116 5 5 5 := ⟨⟨_, _, Tryd.underlying116, rfl, rfl, rfl⟩⟩
instance fld116_6 : Fld Tryd.prog 116 6 6 111 := ⟨⟨_, _, Tryd.underlying116, rfl, rfl, rfl⟩⟩
instance fld116_7 : Fld Tryd.prog 116 7 7 112 := ⟨⟨_, _, Tryd.underlying116, rfl, rfl, rfl⟩⟩
instance fld116_8 : Fld Tryd.prog 116 8 8 76 := ⟨⟨_, _, Tryd.underlying116, rfl, rfl, rfl⟩⟩
instance fld116_9 : Fld Tryd.prog 116 9 9 113 := ⟨⟨_, _, Tryd.underlying116, rfl, rfl, rfl⟩⟩
instance fld116_10 : Fld Tryd.prog 116 10 10 114 := ⟨⟨_, _, Tryd.underlying116, rfl, rfl, rfl⟩⟩
instance inf0 : Inf Tryd.prog 0 (Go.Value.tuple #[]) 1 0 := ⟨⟨Tryd.t0, Tryd.type0, rfl, rfl, rfl, rfl⟩⟩
instance inf1 : Inf Tryd.prog 1 (Go.Value.nilFunc) 1 8 := ⟨⟨Tryd.t1, Tryd.type1, rfl, rfl, rfl, rfl⟩⟩
instance inf2 : Inf Tryd.prog 2 (Go.Value.int Go.IntKind.i64 0) 1 8 := ⟨⟨Tryd.t2, Tryd.type2, rfl, rfl, rfl, rfl⟩⟩
instance inf3 : Inf Tryd.prog 3 (Go.Value.int Go.IntKind.i64 0) 1 8 := ⟨⟨Tryd.t3, Tryd.type3, rfl, rfl, rfl, rfl⟩⟩
instance inf4 : Inf Tryd.prog 4 (Go.Value.bool false) 1 1 := ⟨⟨Tryd.t4, Tryd.type4, rfl, rfl, rfl, rfl⟩⟩
instance inf5 : Inf Tryd.prog 5 (Go.Value.int Go.IntKind.u8 0) 1 1 := ⟨⟨Tryd.t5, Tryd.type5, rfl, rfl, rfl, rfl⟩⟩
instance inf6 : Inf Tryd.prog 6 (Go.Value.int Go.IntKind.u8 0) 1 1 := ⟨⟨Tryd.t6, Tryd.type6, rfl, rfl, rfl, rfl⟩⟩
instance inf7 : Inf Tryd.prog 7 (Go.Value.agg #[Go.Value.int Go.IntKind.i64 0, Go.Value.int Go.IntKind.i64 0, Go.Value.bool false, Go.Value.int Go.IntKind.u8 0]) 4 24 := ⟨⟨Tryd.t7, Tryd.type7, rfl, rfl, rfl, rfl⟩⟩
instance inf8 : Inf Tryd.prog 8 (Go.Value.agg #[Go.Value.int Go.IntKind.i64 0, Go.Value.int Go.IntKind.i64 0, Go.Value.bool false, Go.Value.int Go.IntKind.u8 0]) 4 24 := ⟨⟨Tryd.t8, Tryd.type8, rfl, rfl, rfl, rfl⟩⟩
instance inf9 : Inf Tryd.prog 9 (Go.Value.string { data := #[] }) 1 16 := ⟨⟨Tryd.t9, Tryd.type9, rfl, rfl, rfl, rfl⟩⟩
instance inf10 : Inf Tryd.prog 10 (Go.Value.string { data := #[] }) 1 16 := ⟨⟨Tryd.t10, Tryd.type10, rfl, rfl, rfl, rfl⟩⟩
instance inf11 : Inf Tryd.prog 11 (Go.Value.string { data := #[] }) 1 16 := ⟨⟨Tryd.t11, Tryd.type11, rfl, rfl, rfl, rfl⟩⟩
instance inf12 : Inf Tryd.prog 12 (Go.Value.int Go.IntKind.u64 0) 1 8 := ⟨⟨Tryd.t12, Tryd.type12, rfl, rfl, rfl, rfl⟩⟩
instance inf13 : Inf Tryd.prog 13 (Go.Value.agg #[Go.Value.string { data := #[] }, Go.Value.int Go.IntKind.u64 0]) 2 24 := ⟨⟨Tryd.t13, Tryd.type13, rfl, rfl, rfl, rfl⟩⟩
instance inf14 : Inf Tryd.prog 14 (Go.Value.agg #[Go.Value.string { data := #[] }, Go.Value.int Go.IntKind.u64 0]) 2 24 := ⟨⟨Tryd.t14, Tryd.type14, rfl, rfl, rfl, rfl⟩⟩
instance inf15 : Inf Tryd.prog 15 (Go.Value.pointer none) 1 8 := ⟨⟨Tryd.t15, Tryd.type15, rfl, rfl, rfl, rfl⟩⟩
instance inf16 : Inf Tryd.prog 16 (Go.Value.pointer none) 1 8 := ⟨⟨Tryd.t16, Tryd.type16, rfl, rfl, rfl, rfl⟩⟩
instance inf17 : Inf Tryd.prog 17 (Go.Value.pointer none) 1 8 := ⟨⟨Tryd.t17, Tryd.type17, rfl, rfl, rfl, rfl⟩⟩
instance inf18 : Inf Tryd.prog 18 (Go.Value.agg #[Go.Value.pointer none]) 1 8 := ⟨⟨Tryd.t18, Tryd.type18, rfl, rfl, rfl, rfl⟩⟩
instance inf19 : Inf Tryd.prog 19 (Go.Value.agg #[Go.Value.pointer none]) 1 8 := ⟨⟨Tryd.t19, Tryd.type19, rfl, rfl, rfl, rfl⟩⟩
instance inf20 : Inf Tryd.prog 20 (Go.Value.nilIface) 1 16 := ⟨⟨Tryd.t20, Tryd.type20, rfl, rfl, rfl, rfl⟩⟩
instance inf21 : Inf Tryd.prog 21 (Go.Value.int Go.IntKind.i32 0) 1 4 := ⟨⟨Tryd.t21, Tryd.type21, rfl, rfl, rfl, rfl⟩⟩
instance inf22 : Inf Tryd.prog 22 (Go.Value.slice none 0 0) 1 24 := ⟨⟨Tryd.t22, Tryd.type22, rfl, rfl, rfl, rfl⟩⟩
instance inf23 : Inf Tryd.prog 23 (Go.Value.slice none 0 0) 1 24 := ⟨⟨Tryd.t23, Tryd.type23, rfl, rfl, rfl, rfl⟩⟩
instance inf24 : Inf Tryd.prog 24 (Go.Value.nilFunc) 1 8 := ⟨⟨Tryd.t24, Tryd.type24, rfl, rfl, rfl, rfl⟩⟩
instance inf25 : Inf Tryd.prog 25 (Go.Value.int Go.IntKind.i64 0) 1 8 := ⟨⟨Tryd.t25, Tryd.type25, rfl, rfl, rfl, rfl⟩⟩
instance inf26 : Inf Tryd.prog 26 (Go.Value.tuple #[Go.Value.string { data := #[] }, Go.Value.int Go.IntKind.i64 0]) 1 0 := ⟨⟨Tryd.t26, Tryd.type26, rfl, rfl, rfl, rfl⟩⟩
instance inf27 : Inf Tryd.prog 27 (Go.Value.nilFunc) 1 8 := ⟨⟨Tryd.t27, Tryd.type27, rfl, rfl, rfl, rfl⟩⟩
instance inf28 : Inf Tryd.prog 28 (Go.Value.nilFunc) 1 8 := ⟨⟨Tryd.t28, Tryd.type28, rfl, rfl, rfl, rfl⟩⟩
instance inf29 : Inf Tryd.prog 29 (Go.Value.agg #[Go.Value.int Go.IntKind.i64 0, Go.Value.int Go.IntKind.i64 0]) 2 16 := ⟨⟨Tryd.t29, Tryd.type29, rfl, rfl, rfl, rfl⟩⟩
instance inf30 : Inf Tryd.prog 30 (Go.Value.agg #[Go.Value.int Go.IntKind.i64 0, Go.Value.int Go.IntKind.i64 0]) 2 16 := ⟨⟨Tryd.t30, Tryd.type30, rfl, rfl, rfl, rfl⟩⟩
instance inf31 : Inf Tryd.prog 31 (Go.Value.tuple #[Go.Value.slice none 0 0, Go.Value.agg #[Go.Value.int Go.IntKind.i64 0, Go.Value.int Go.IntKind.i64 0]]) 1 0 := ⟨⟨Tryd.t31, Tryd.type31, rfl, rfl, rfl, rfl⟩⟩
instance inf32 : Inf Tryd.prog 32 (Go.Value.nilFunc) 1 8 := ⟨⟨Tryd.t32, Tryd.type32, rfl, rfl, rfl, rfl⟩⟩
instance inf33 : Inf Tryd.prog 33 (Go.Value.nilFunc) 1 8 := ⟨⟨Tryd.t33, Tryd.type33, rfl, rfl, rfl, rfl⟩⟩
instance inf34 : Inf Tryd.prog 34 (Go.Value.nilFunc) 1 8 := ⟨⟨Tryd.t34, Tryd.type34, rfl, rfl, rfl, rfl⟩⟩
instance inf35 : Inf Tryd.prog 35 (Go.Value.nilFunc) 1 8 := ⟨⟨Tryd.t35, Tryd.type35, rfl, rfl, rfl, rfl⟩⟩
instance inf36 : Inf Tryd.prog 36 (Go.Value.nilFunc) 1 8 := ⟨⟨Tryd.t36, Tryd.type36, rfl, rfl, rfl, rfl⟩⟩
instance inf37 : Inf Tryd.prog 37 (Go.Value.tuple #[Go.Value.int Go.IntKind.i64 0, Go.Value.int Go.IntKind.i64 0]) 1 0 := ⟨⟨Tryd.t37, Tryd.type37, rfl, rfl, rfl, rfl⟩⟩
instance inf38 : Inf Tryd.prog 38 (Go.Value.nilFunc) 1 8 := ⟨⟨Tryd.t38, Tryd.type38, rfl, rfl, rfl, rfl⟩⟩
instance inf39 : Inf Tryd.prog 39 (Go.Value.nilFunc) 1 8 := ⟨⟨Tryd.t39, Tryd.type39, rfl, rfl, rfl, rfl⟩⟩
instance inf40 : Inf Tryd.prog 40 (Go.Value.agg #[Go.Value.int Go.IntKind.i64 0, Go.Value.int Go.IntKind.i64 0, Go.Value.string { data := #[] }]) 3 32 := ⟨⟨Tryd.t40, Tryd.type40, rfl, rfl, rfl, rfl⟩⟩
instance inf41 : Inf Tryd.prog 41 (Go.Value.agg #[Go.Value.int Go.IntKind.i64 0, Go.Value.int Go.IntKind.i64 0, Go.Value.string { data := #[] }]) 3 32 := ⟨⟨Tryd.t41, Tryd.type41, rfl, rfl, rfl, rfl⟩⟩
instance inf42 : Inf Tryd.prog 42 (Go.Value.tuple #[Go.Value.agg #[Go.Value.int Go.IntKind.i64 0, Go.Value.int Go.IntKind.i64 0, Go.Value.string { data := #[] }], Go.Value.int Go.IntKind.i64 0]) 1 0 := ⟨⟨Tryd.t42, Tryd.type42, rfl, rfl, rfl, rfl⟩⟩
instance inf43 : Inf Tryd.prog 43 (Go.Value.nilFunc) 1 8 := ⟨⟨Tryd.t43, Tryd.type43, rfl, rfl, rfl, rfl⟩⟩
instance inf44 : Inf Tryd.prog 44 (Go.Value.nilFunc) 1 8 := ⟨⟨Tryd.t44, Tryd.type44, rfl, rfl, rfl, rfl⟩⟩
instance inf45 : Inf Tryd.prog 45 (Go.Value.nilFunc) 1 8 := ⟨⟨Tryd.t45, Tryd.type45, rfl, rfl, rfl, rfl⟩⟩
instance inf46 : Inf Tryd.prog 46 (Go.Value.nilFunc) 1 8 := ⟨⟨Tryd.t46, Tryd.type46, rfl, rfl, rfl, rfl⟩⟩
instance inf47 : Inf Tryd.prog 47 (Go.Value.tuple #[Go.Value.int Go.IntKind.i64 0, Go.Value.int Go.IntKind.i64 0]) 1 0 := ⟨⟨Tryd.t47, Tryd.type47, rfl, rfl, rfl, rfl⟩⟩
instance inf48 : Inf Tryd.prog 48 (Go.Value.nilFunc) 1 8 := ⟨⟨Tryd.t48, Tryd.type48, rfl, rfl, rfl, rfl⟩⟩
instance inf49 : Inf Tryd.prog 49 (Go.Value.nilFunc) 1 8 := ⟨⟨Tryd.t49, Tryd.type49, rfl, rfl, rfl, rfl⟩⟩
instance inf50 : Inf Tryd.prog 50 (Go.Value.slice none 0 0) 1 24 := ⟨⟨Tryd.t50, Tryd.type50, rfl, rfl, rfl, rfl⟩⟩
instance inf51 : Inf Tryd.prog 51 (Go.Value.nilFunc) 1 8 := ⟨⟨Tryd.t51, Tryd.type51, rfl, rfl, rfl, rfl⟩⟩
instance inf52 : Inf Tryd.prog 52 (Go.Value.nilFunc) 1 8 := ⟨⟨Tryd.t52, Tryd.type52, rfl, rfl, rfl, rfl⟩⟩
instance inf53 : Inf Tryd.prog 53 (Go.Value.pointer none) 1 8 := ⟨⟨Tryd.t53, Tryd.type53, rfl, rfl, rfl, rfl⟩⟩
instance inf54 : Inf Tryd.prog 54 (Go.Value.agg #[Go.Value.pointer none, Go.Value.slice none 0 0]) 2 32 := ⟨⟨Tryd.t54, Tryd.type54, rfl, rfl, rfl, rfl⟩⟩
instance inf55 : Inf Tryd.prog 55 (Go.Value.agg #[Go.Value.pointer none, Go.Value.slice none 0 0]) 2 32 := ⟨⟨Tryd.t55, Tryd.type55, rfl, rfl, rfl, rfl⟩⟩
instance inf56 : Inf Tryd.prog 56 (Go.Value.nilIface) 1 16 := ⟨⟨Tryd.t56, Tryd.type56, rfl, rfl, rfl, rfl⟩⟩
instance inf57 : Inf Tryd.prog 57 (Go.Value.nilIface) 1 16 := ⟨⟨Tryd.t57, Tryd.type57, rfl, rfl, rfl, rfl⟩⟩
instance inf58 : Inf Tryd.prog 58 (Go.Value.tuple #[Go.Value.int Go.IntKind.i64 0, Go.Value.nilIface]) 1 0 := ⟨⟨Tryd.t58, Tryd.type58, rfl, rfl, rfl, rfl⟩⟩
instance inf59 : Inf Tryd.prog 59 (Go.Value.nilFunc) 1 8 := ⟨⟨Tryd.t59, Tryd.type59, rfl, rfl, rfl, rfl⟩⟩
instance inf60 : Inf Tryd.prog 60 (Go.Value.nilFunc) 1 8 := ⟨⟨Tryd.t60, Tryd.type60, rfl, rfl, rfl, rfl⟩⟩
instance inf61 : Inf Tryd.prog 61 (Go.Value.nilFunc) 1 8 := ⟨⟨Tryd.t61, Tryd.type61, rfl, rfl, rfl, rfl⟩⟩
instance inf62 : Inf Tryd.prog 62 (Go.Value.nilFunc) 1 8 := ⟨⟨Tryd.t62, Tryd.type62, rfl, rfl, rfl, rfl⟩⟩
instance inf63 : Inf Tryd.prog 63 (Go.Value.nilFunc) 1 8 := ⟨⟨Tryd.t63, Tryd.type63, rfl, rfl, rfl, rfl⟩⟩
instance inf64 : Inf Tryd.prog 64 (Go.Value.nilFunc) 1 8 := ⟨⟨Tryd.t64, Tryd.type64, rfl, rfl, rfl, rfl⟩⟩
instance inf65 : Inf Tryd.prog 65 (Go.Value.tuple #[Go.Value.string { data := #[] }, Go.Value.bool false]) 1 0 := ⟨⟨Tryd.t65, Tryd.type65, rfl, rfl, rfl, rfl⟩⟩
instance inf66 : Inf Tryd.prog 66 (Go.Value.nilFunc) 1 8 := ⟨⟨Tryd.t66, Tryd.type66, rfl, rfl, rfl, rfl⟩⟩
instance inf67 : Inf Tryd.prog 67 (Go.Value.nilFunc) 1 8 := ⟨⟨Tryd.t67, Tryd.type67, rfl, rfl, rfl, rfl⟩⟩
instance inf68 : Inf Tryd.prog 68 (Go.Value.nilFunc) 1 8 := ⟨⟨Tryd.t68, Tryd.type68, rfl, rfl, rfl, rfl⟩⟩
instance inf69 : Inf Tryd.prog 69 (Go.Value.agg #[Go.Value.string { data := #[] }, Go.Value.string { data := #[] }, Go.Value.string { data := #[] }, Go.Value.string { data := #[] }, Go.Value.string { data := #[] }, Go.Value.string { data := #[] }]) 6 96 := ⟨⟨Tryd.t69, Tryd.type69, rfl, rfl, rfl, rfl⟩⟩
instance inf70 : Inf Tryd.prog 70 (Go.Value.nilFunc) 1 8 := ⟨⟨Tryd.t70, Tryd.type70, rfl, rfl, rfl, rfl⟩⟩
instance inf71 : Inf Tryd.prog 71 (Go.Value.slice none 0 0) 1 24 := ⟨⟨Tryd.t71, Tryd.type71, rfl, rfl, rfl, rfl⟩⟩
instance inf72 : Inf Tryd.prog 72 (Go.Value.nilFunc) 1 8 := ⟨⟨Tryd.t72, Tryd.type72, rfl, rfl, rfl, rfl⟩⟩
instance inf73 : Inf Tryd.prog 73 (Go.Value.nilFunc) 1 8 := ⟨⟨Tryd.t73, Tryd.type73, rfl, rfl, rfl, rfl⟩⟩
instance inf74 : Inf Tryd.prog 74 (Go.Value.nilFunc) 1 8 := ⟨⟨Tryd.t74, Tryd.type74, rfl, rfl, rfl, rfl⟩⟩
instance inf75 : Inf Tryd.prog 75 (Go.Value.nilFunc) 1 8 := ⟨⟨Tryd.t75, Tryd.type75, rfl, rfl, rfl, rfl⟩⟩
instance inf76 : Inf Tryd.prog 76 (Go.Value.pointer none) 1 8 := ⟨⟨Tryd.t76, Tryd.type76, rfl, rfl, rfl, rfl⟩⟩
instance inf77 : Inf Tryd.prog 77 (Go.Value.nilFunc) 1 8 := ⟨⟨Tryd.t77, Tryd.type77, rfl, rfl, rfl, rfl⟩⟩
instance inf78 : Inf Tryd.prog 78 (Go.Value.tuple #[Go.Value.string { data := #[] }, Go.Value.string { data := #[] }, Go.Value.bool false]) 1 0 := ⟨⟨Tryd.t78, Tryd.type78, rfl, rfl, rfl, rfl⟩⟩
instance inf79 : Inf Tryd.prog 79 (Go.Value.nilFunc) 1 8 := ⟨⟨Tryd.t79, Tryd.type79, rfl, rfl, rfl, rfl⟩⟩
instance inf80 : Inf Tryd.prog 80 (Go.Value.nilFunc) 1 8 := ⟨⟨Tryd.t80, Tryd.type80, rfl, rfl, rfl, rfl⟩⟩
instance inf81 : Inf Tryd.prog 81 (Go.Value.tuple #[Go.Value.int Go.IntKind.i64 0, Go.Value.bool false, Go.Value.bool false]) 1 0 := ⟨⟨Tryd.t81, Tryd.type81, rfl, rfl, rfl, rfl⟩⟩
instance inf82 : Inf Tryd.prog 82 (Go.Value.nilFunc) 1 8 := ⟨⟨Tryd.t82, Tryd.type82, rfl, rfl, rfl, rfl⟩⟩
instance inf83 : Inf Tryd.prog 83 (Go.Value.nilFunc) 1 8 := ⟨⟨Tryd.t83, Tryd.type83, rfl, rfl, rfl, rfl⟩⟩
instance inf84 : Inf Tryd.prog 84 (Go.Value.nilFunc) 1 8 := ⟨⟨Tryd.t84, Tryd.type84, rfl, rfl, rfl, rfl⟩⟩
instance inf85 : Inf Tryd.prog 85 (Go.Value.int Go.IntKind.u64 0) 1 8 := ⟨⟨Tryd.t85, Tryd.type85, rfl, rfl, rfl, rfl⟩⟩
instance inf86 : Inf Tryd.prog 86 (Go.Value.pointer none) 1 8 := ⟨⟨Tryd.t86, Tryd.type86, rfl, rfl, rfl, rfl⟩⟩
instance inf87 : Inf Tryd.prog 87 (Go.Value.nilFunc) 1 8 := ⟨⟨Tryd.t87, Tryd.type87, rfl, rfl, rfl, rfl⟩⟩
instance inf88 : Inf Tryd.prog 88 (Go.Value.nilFunc) 1 8 := ⟨⟨Tryd.t88, Tryd.type88, rfl, rfl, rfl, rfl⟩⟩
instance inf89 : Inf Tryd.prog 89 (Go.Value.nilFunc) 1 8 := ⟨⟨Tryd.t89, Tryd.type89, rfl, rfl, rfl, rfl⟩⟩
instance inf90 : Inf Tryd.prog 90 (Go.Value.nilFunc) 1 8 := ⟨⟨Tryd.t90, Tryd.type90, rfl, rfl, rfl, rfl⟩⟩
instance inf91 : Inf Tryd.prog 91 (Go.Value.nilFunc) 1 8 := ⟨⟨Tryd.t91, Tryd.type91, rfl, rfl, rfl, rfl⟩⟩
instance inf92 : Inf Tryd.prog 92 (Go.Value.nilFunc) 1 8 := ⟨⟨Tryd.t92, Tryd.type92, rfl, rfl, rfl, rfl⟩⟩
instance inf93 : Inf Tryd.prog 93 (Go.Value.tuple #[Go.Value.int Go.IntKind.i32 0, Go.Value.int Go.IntKind.i64 0]) 1 0 := ⟨⟨Tryd.t93, Tryd.type93, rfl, rfl, rfl, rfl⟩⟩
instance inf94 : Inf Tryd.prog 94 (Go.Value.nilFunc) 1 8 := ⟨⟨Tryd.t94, Tryd.type94, rfl, rfl, rfl, rfl⟩⟩
instance inf95 : Inf Tryd.prog 95 (Go.Value.nilFunc) 1 8 := ⟨⟨Tryd.t95, Tryd.type95, rfl, rfl, rfl, rfl⟩⟩
instance inf96 : Inf Tryd.prog 96 (Go.Value.nilFunc) 1 8 := ⟨⟨Tryd.t96, Tryd.type96, rfl, rfl, rfl, rfl⟩⟩
instance inf97 : Inf Tryd.prog 97 (Go.Value.nilFunc) 1 8 := ⟨⟨Tryd.t97, Tryd.type97, rfl, rfl, rfl, rfl⟩⟩
instance inf98 : Inf Tryd.prog 98 (Go.Value.agg Go.Proofs.Tryd.zeroCells98) 256 256 := ⟨⟨Tryd.t98, Tryd.type98, rfl, rfl, rfl, rfl⟩⟩
instance inf99 : Inf Tryd.prog 99 (Go.Value.agg #[Go.Value.int Go.IntKind.u8 0, Go.Value.int Go.IntKind.u8 0]) 2 2 := ⟨⟨Tryd.t99, Tryd.type99, rfl, rfl, rfl, rfl⟩⟩
instance inf100 : Inf Tryd.prog 100 (Go.Value.agg #[Go.Value.int Go.IntKind.u8 0, Go.Value.int Go.IntKind.u8 0]) 2 2 := ⟨⟨Tryd.t100, Tryd.type100, rfl, rfl, rfl, rfl⟩⟩
instance inf101 : Inf Tryd.prog 101 (Go.Value.agg #[Go.Value.int Go.IntKind.u8 0, Go.Value.int Go.IntKind.u8 0, Go.Value.int Go.IntKind.u8 0, Go.Value.int Go.IntKind.u8 0, Go.Value.int Go.IntKind.u8 0, Go.Value.int Go.IntKind.u8 0, Go.Value.int Go.IntKind.u8 0, Go.Value.int Go.IntKind.u8 0, Go.Value.int Go.IntKind.u8 0, Go.Value.int Go.IntKind.u8 0, Go.Value.int Go.IntKind.u8 0, Go.Value.int Go.IntKind.u8 0, Go.Value.int Go.IntKind.u8 0, Go.Value.int Go.IntKind.u8 0, Go.Value.int Go.IntKind.u8 0, Go.Value.int Go.IntKind.u8 0, Go.Value.int Go.IntKind.u8 0, Go.Value.int Go.IntKind.u8 0, Go.Value.int Go.IntKind.u8 0, Go.Value.int Go.IntKind.u8 0, Go.Value.int Go.IntKind.u8 0, Go.Value.int Go.IntKind.u8 0, Go.Value.int Go.IntKind.u8 0, Go.Value.int Go.IntKind.u8 0, Go.Value.int Go.IntKind.u8 0, Go.Value.int Go.IntKind.u8 0, Go.Value.int Go.IntKind.u8 0, Go.Value.int Go.IntKind.u8 0, Go.Value.int Go.IntKind.u8 0, Go.Value.int Go.IntKind.u8 0, Go.Value.int Go.IntKind.u8 0, Go.Value.int Go.IntKind.u8 0]) 32 32 := ⟨⟨Tryd.t101, Tryd.type101, rfl, rfl, rfl, rfl⟩⟩
instance inf102 : Inf Tryd.prog 102 (Go.Value.int Go.IntKind.u32 0) 1 4 := ⟨⟨Tryd.t102, Tryd.type102, rfl, rfl, rfl, rfl⟩⟩
instance inf103 : Inf Tryd.prog 103 (Go.Value.tuple #[Go.Value.int Go.IntKind.u32 0, Go.Value.int Go.IntKind.u32 0]) 1 0 := ⟨⟨Tryd.t103, Tryd.type103, rfl, rfl, rfl, rfl⟩⟩
instance inf104 : Inf Tryd.prog 104 (Go.Value.nilFunc) 1 8 := ⟨⟨Tryd.t104, Tryd.type104, rfl, rfl, rfl, rfl⟩⟩
instance inf105 : Inf Tryd.prog 105 (Go.Value.agg #[Go.Value.pointer none, Go.Value.pointer none, Go.Value.pointer none, Go.Value.string { data := #[] }]) 4 40 := ⟨⟨Tryd.t105, Tryd.type105, rfl, rfl, rfl, rfl⟩⟩
instance inf106 : Inf Tryd.prog 106 (Go.Value.agg #[Go.Value.pointer none, Go.Value.pointer none, Go.Value.pointer none, Go.Value.string { data := #[] }]) 4 40 := ⟨⟨Tryd.t106, Tryd.type106, rfl, rfl, rfl, rfl⟩⟩
instance inf107 : Inf Tryd.prog 107 (Go.Value.agg #[]) 0 0 := ⟨⟨Tryd.t107, Tryd.type107, rfl, rfl, rfl, rfl⟩⟩
instance inf108 : Inf Tryd.prog 108 (Go.Value.agg #[]) 0 0 := ⟨⟨Tryd.t108, Tryd.type108, rfl, rfl, rfl, rfl⟩⟩
instance inf109 : Inf Tryd.prog 109 (Go.Value.agg #[]) 0 0 := ⟨⟨Tryd.t109, Tryd.type109, rfl, rfl, rfl, rfl⟩⟩
instance inf110 : Inf Tryd.prog 110 (Go.Value.int Go.IntKind.u8 0) 1 1 := ⟨⟨Tryd.t110, Tryd.type110, rfl, rfl, rfl, rfl⟩⟩
instance inf111 : Inf Tryd.prog 111 (Go.Value.int Go.IntKind.u8 0) 1 1 := ⟨⟨Tryd.t111, Tryd.type111, rfl, rfl, rfl, rfl⟩⟩
instance inf112 : Inf Tryd.prog 112 (Go.Value.nilFunc) 1 8 := ⟨⟨Tryd.t112, Tryd.type112, rfl, rfl, rfl, rfl⟩⟩
instance inf113 : Inf Tryd.prog 113 (Go.Value.int Go.IntKind.i32 0) 1 4 := ⟨⟨Tryd.t113, Tryd.type113, rfl, rfl, rfl, rfl⟩⟩
instance inf114 : Inf Tryd.prog 114 (Go.Value.int Go.IntKind.i32 0) 1 4 := ⟨⟨Tryd.t114, Tryd.type114, rfl, rfl, rfl, rfl⟩⟩
instance inf115 : Inf Tryd.prog 115 (Go.Value.agg #[Go.Value.int Go.IntKind.u64 0, Go.Value.int Go.IntKind.u64 0, Go.Value.int Go.IntKind.u32 0, Go.Value.int Go.IntKind.u8 0, Go.Value.int Go.IntKind.u8 0, Go.Value.int Go.IntKind.u8 0, Go.Value.int Go.IntKind.u8 0, Go.Value.nilFunc, Go.Value.pointer none, Go.Value.int Go.IntKind.i32 0, Go.Value.int Go.IntKind.i32 0]) 11 48 := ⟨⟨Tryd.t115, Tryd.type115, rfl, rfl, rfl, rfl⟩⟩
instance inf116 : Inf Tryd.prog 116 (Go.Value.agg #[Go.Value.int Go.IntKind.u64 0, Go.Value.int Go.IntKind.u64 0, Go.Value.int Go.IntKind.u32 0, Go.Value.int Go.IntKind.u8 0, Go.Value.int Go.IntKind.u8 0, Go.Value.int Go.IntKind.u8 0, Go.Value.int Go.IntKind.u8 0, Go.Value.nilFunc, Go.Value.pointer none, Go.Value.int Go.IntKind.i32 0, Go.Value.int Go.IntKind.i32 0]) 11 48 := ⟨⟨Tryd.t116, Tryd.type116, rfl, rfl, rfl, rfl⟩⟩
theorem V_aeql_30 {fs : List (Nat × Value)} {E : Env} {L : List Res} {o : Oper} {x y : Operand} {u : TypeId} {a0 : Int} {a1 : Int} {b0 : Int} {b1 : Int} (ho : o.op = .binOp .eql 30 x y u) (hx : ev fs x = some (.agg #[.int .i64 a0, .int .i64 a1])) (hy : ev fs y = some (.agg #[.int .i64 b0, .int .i64 b1])) : Val Tryd.prog o fs E L (.bool (decide (a0 = b0 ∧ a1 = b1))) :=
  V_bin ho hx hy fun w => ⟨by simp [go_sem], by
    by_cases h0 : a0 = b0 <;> by_cases h1 : a1 = b1 <;> simp [go_sem, Op.eqFields, S_toList, h0, h1]⟩
theorem V_aneq_30 {fs : List (Nat × Value)} {E : Env} {L : List Res} {o : Oper} {x y : Operand} {u : TypeId} {a0 : Int} {a1 : Int} {b0 : Int} {b1 : Int} (ho : o.op = .binOp .neq 30 x y u) (hx : ev fs x = some (.agg #[.int .i64 a0, .int .i64 a1])) (hy : ev fs y = some (.agg #[.int .i64 b0, .int .i64 b1])) : Val Tryd.prog o fs E L (.bool (decide (¬ (a0 = b0 ∧ a1 = b1)))) :=
  V_bin ho hx hy fun w => ⟨by simp [go_sem], by
    by_cases h0 : a0 = b0 <;> by_cases h1 : a1 = b1 <;> simp [go_sem, Op.eqFields, S_toList, h0, h1]⟩
theorem V_aneq_41 {fs : List (Nat × Value)} {E : Env} {L : List Res} {o : Oper} {x y : Operand} {u : TypeId} {a0 : Int} {a1 : Int} {a2 : List UInt8} {b0 : Int} {b1 : Int} {b2 : List UInt8} (ho : o.op = .binOp .neq 41 x y u) (hx : ev fs x = some (.agg #[.int .i64 a0, .int .i64 a1, .string (S a2)])) (hy : ev fs y = some (.agg #[.int .i64 b0, .int .i64 b1, .string (S b2)])) : Val Tryd.prog o fs E L (.bool (decide (¬ (a0 = b0 ∧ a1 = b1 ∧ a2 = b2)))) :=
  V_bin ho hx hy fun w => ⟨by simp [go_sem], by
    by_cases h0 : a0 = b0 <;> by_cases h1 : a1 = b1 <;> by_cases h2 : a2 = b2 <;> simp [go_sem, Op.eqFields, S_toList, h0, h1, h2]⟩
theorem mixed : Tryd.prog.follows .mixedOrders = true := by kernel_rfl
end Go.Proofs.YtpkingbclcalkaaDoor
set_option linter.unusedSimpArgs false
set_option linter.unusedVariables false
set_option maxHeartbeats 2000000
set_option maxRecDepth 20000
namespace Go.Proofs.YtpkingbclcalkaaDoor
open Go.RowKit

/-! The kit's small functions: lists of numbers and of strings. -/
def i64s (l : List Int) : List Value := l.map fun n => .int .i64 n
theorem i64s_get {l : List Int} {k : Nat} {n : Int} (h : l[k]? = some n) : (i64s l)[k]? = some (.int .i64 n) := by simp [i64s, h]
def strs (l : List (List UInt8)) : List Value := l.map fun s => .string (S s)
theorem strs_get {l : List (List UInt8)} {k : Nat} {s : List UInt8} (h : l[k]? = some s) : (strs l)[k]? = some (.string (S s)) := by simp [strs, h]
theorem take_next {α : Type} {xs ys : List α} {k : Nat} (h : xs.take k = ys.take k) (hx : k < xs.length) (hy : k < ys.length) (e : xs[k] = ys[k]) : xs.take (k + 1) = ys.take (k + 1) := by
  rw [List.take_succ_eq_append_getElem hx, List.take_succ_eq_append_getElem hy, h, e]
theorem Mod_call (E : Env) (L : List Res) (a m : Int) (ha : -9223372036854775808 ≤ a ∧ a ≤ 9223372036854775807) (hm : -9223372036854775808 ≤ m ∧ m ≤ 9223372036854775807) :
    CallV Tryd.prog 11 #[.int .i64 a, .int .i64 m] E L (.int .i64 (if m < 1 then 0 else a % m)) := by
  refine CallS.toV (CallS.intro (l := [.int .i64 a, .int .i64 m]) _ Tryd.func11 rfl Tryd.ntmps11 rfl ?_)
  by_cases h : m < 1
  · refine G_seq ?_
    refine G_region ?_
    refine G_val (V_assign rfl rfl) rfl rfl (.none rfl) ?_
    refine G_end (X_then (G_seq (G_seq (G_region ?_))))
    refine G_val (V_move rfl rfl) rfl rfl (.none rfl) ?_
    refine G_val (V_lss rfl rfl rfl) rfl rfl (.none rfl) ?_
    refine G_end (X_then ?_)
    refine G_cond_t rfl (decide_eq_true (by omega)) ?_
    refine G_seq (G_region ?_)
    refine G_val (V_assign rfl rfl) rfl rfl (.none rfl) ?_
    refine G_end (X_then (G_ret (X_then_ret ?_)))
    refine G_leaveS (.nil _) (by exact (.cons (.tmp rfl) (.nil))) rfl ?_ ?_
    · exact (.refl _)
    exact ⟨(by (simp (discharger := omega) only [resVal, if_pos, if_neg]; first | done | rfl)), (by rfl)⟩
  have e1 : a.tmod m = if a % m = 0 then 0 else if 0 ≤ a then a % m else a % m - m := by
    rw [Int.tmod_eq_emod]
    have hp : (m : Int).natAbs = m := by omega
    split
    · rename_i h1
      rcases h1 with h1 | h1
      · simp [h1]
      · have := Int.emod_eq_zero_of_dvd h1; simp [this]
    · rename_i h1
      have h0 : ¬ 0 ≤ a := fun h2 => h1 (.inl h2)
      have h2 : a % m ≠ 0 := fun h3 => h1 (.inr (Int.dvd_of_emod_eq_zero h3))
      rw [if_neg h2, if_neg h0, hp]
  have h1 := Int.emod_nonneg a (b := m) (by omega)
  have h2 := Int.emod_lt_of_pos a (b := m) (by omega)
  by_cases h3 : a % m = 0
  · rw [if_pos h3] at e1
    refine G.spell 0 (.int .i64 a) rfl rfl ?_
    refine G_seq (G_region ?_)
    refine G_val (V_assign rfl rfl) rfl rfl (.none rfl) ?_
    refine G_end (X_then (G_seq (G_seq (G_region ?_))))
    refine G_val (V_move rfl rfl) rfl rfl (.none rfl) ?_
    refine G_val (V_lss rfl rfl rfl) rfl rfl (.none rfl) ?_
    refine G_end (X_then ?_)
    refine G_cond_f rfl (decide_eq_false (by omega)) ?_
    refine G_skip (X_then (G_seq (G_region ?_)))
    refine G_val (V_move rfl rfl) rfl rfl (.none rfl) ?_
    refine G_val (V_move rfl rfl) rfl rfl (.none rfl) ?_
    refine G_val (V_rem rfl rfl rfl (by omega)) rfl rfl (.none rfl) ?_
    refine G_val (V_assign rfl rfl) rfl rfl (.none rfl) ?_
    refine G_end (X_then (G_seq (G_seq (G_region ?_))))
    refine G_val (V_move rfl rfl) rfl rfl (.none rfl) ?_
    refine G_val (V_lss rfl rfl rfl) rfl rfl (.none rfl) ?_
    refine G_end (X_then ?_)
    refine G_cond_f rfl (decide_eq_false (by omega)) ?_
    refine G_skip (X_then (G_seq (G_region ?_)))
    refine G_val (V_move rfl rfl) rfl rfl (.none rfl) ?_
    refine G_val (V_assign rfl rfl) rfl rfl (.none rfl) ?_
    refine G_end (X_then (G_ret ?_))
    refine G_leaveS (.nil _) (by exact (.cons (.tmp rfl) (.nil))) rfl ?_ ?_
    · exact (.refl _)
    exact ⟨(by (simp [resVal, *]; done)), (by rfl)⟩
  · rw [if_neg h3] at e1
    rw [if_neg h]
    by_cases h4 : 0 ≤ a
    · rw [if_pos h4] at e1
      refine G_seq (G_region ?_)
      refine G_val (V_assign rfl rfl) rfl rfl (.none rfl) ?_
      refine G_end (X_then (G_seq (G_seq (G_region ?_))))
      refine G_val (V_move rfl rfl) rfl rfl (.none rfl) ?_
      refine G_val (V_lss rfl rfl rfl) rfl rfl (.none rfl) ?_
      refine G_end (X_then ?_)
      refine G_cond_f rfl (decide_eq_false (by omega)) ?_
      refine G_skip (X_then (G_seq (G_region ?_)))
      refine G_val (V_move rfl rfl) rfl rfl (.none rfl) ?_
      refine G_val (V_move rfl rfl) rfl rfl (.none rfl) ?_
      refine G_val (V_rem_n rfl rfl rfl (by omega) (by omega)) rfl rfl (.none rfl) ?_
      refine G_val (V_assign rfl rfl) rfl rfl (.none rfl) ?_
      refine G_end (X_then (G_seq (G_seq (G_region ?_))))
      refine G_val (V_move rfl rfl) rfl rfl (.none rfl) ?_
      refine G_val (V_lss rfl rfl rfl) rfl rfl (.none rfl) ?_
      refine G_end (X_then ?_)
      refine G_cond_f rfl (decide_eq_false (by omega)) ?_
      refine G_skip (X_then (G_seq (G_region ?_)))
      refine G_val (V_move rfl rfl) rfl rfl (.none rfl) ?_
      refine G_val (V_assign rfl rfl) rfl rfl (.none rfl) ?_
      refine G_end (X_then (G_ret ?_))
      refine G_leaveS (.nil _) (by exact (.cons (.tmp rfl) (.nil))) rfl ?_ ?_
      · exact (.refl _)
      exact ⟨rfl, rfl⟩
    · rw [if_neg h4] at e1
      rw [show a % m = a.tmod m + m by omega]
      refine G_seq (G_region ?_)
      refine G_val (V_assign rfl rfl) rfl rfl (.none rfl) ?_
      refine G_end (X_then (G_seq (G_seq (G_region ?_))))
      refine G_val (V_move rfl rfl) rfl rfl (.none rfl) ?_
      refine G_val (V_lss rfl rfl rfl) rfl rfl (.none rfl) ?_
      refine G_end (X_then ?_)
      refine G_cond_f rfl (decide_eq_false (by omega)) ?_
      refine G_skip (X_then (G_seq (G_region ?_)))
      refine G_val (V_move rfl rfl) rfl rfl (.none rfl) ?_
      refine G_val (V_move rfl rfl) rfl rfl (.none rfl) ?_
      refine G_val (V_rem rfl rfl rfl (by omega)) rfl rfl (.none rfl) ?_
      refine G_val (V_assign rfl rfl) rfl rfl (.none rfl) ?_
      refine G_end (X_then (G_seq (G_seq (G_region ?_))))
      refine G_val (V_move rfl rfl) rfl rfl (.none rfl) ?_
      refine G_val (V_lss rfl rfl rfl) rfl rfl (.none rfl) ?_
      refine G_end (X_then ?_)
      refine G_cond_t rfl (decide_eq_true (by omega)) ?_
      refine G_region ?_
      refine G_val (V_move rfl rfl) rfl rfl (.none rfl) ?_
      refine G_val (V_move rfl rfl) rfl rfl (.none rfl) ?_
      refine G_val (V_add_i64 rfl rfl rfl (by omega) (by omega)) rfl rfl (.none rfl) ?_
      refine G_val (V_assign rfl rfl) rfl rfl (.none rfl) ?_
      refine G_end (X_then (G_seq (G_region ?_)))
      refine G_val (V_move rfl rfl) rfl rfl (.none rfl) ?_
      refine G_val (V_assign rfl rfl) rfl rfl (.none rfl) ?_
      refine G_end (X_then (G_ret ?_))
      refine G_leaveS (.nil _) (by exact (.cons (.tmp rfl) (.nil))) rfl ?_ ?_
      · exact (.refl _)
      exact ⟨rfl, rfl⟩
theorem Mod_call' (E : Env) (L : List Res) (a m : Int) (ha : -9223372036854775808 ≤ a ∧ a ≤ 9223372036854775807) (hm : 1 ≤ m ∧ m ≤ 9223372036854775807) :
    CallV Tryd.prog 11 #[.int .i64 a, .int .i64 m] E L (.int .i64 (a % m)) := by
  have h := Mod_call E L a m ha ⟨by omega, hm.2⟩
  rwa [if_neg (by omega)] at h
end Go.Proofs.YtpkingbclcalkaaDoor
set_option linter.unusedSimpArgs false
set_option linter.unusedVariables false
set_option maxHeartbeats 2000000
set_option maxRecDepth 20000
namespace Go.Proofs.YtpkingbclcalkaaDoor
open Go.RowKit

/-- A call. -/
structure Cl where
  k : Int
  n : Int
  t : List UInt8
deriving DecidableEq
@[reducible] def Cl.cells (c : Cl) : List Value := [.int .i64 c.k, .int .i64 c.n, .string (S c.t)]
@[reducible] def Cl.v (c : Cl) : Value := .agg #[.int .i64 c.k, .int .i64 c.n, .string (S c.t)]
def Cl.zero : Cl := ⟨0, 0, []⟩
def cls (l : List Cl) : List Value := l.flatMap Cl.cells
theorem cls_append (a b : List Cl) : cls (a ++ b) = cls a ++ cls b := List.flatMap_append
theorem cls_len (l : List Cl) : (cls l).length = l.length * 3 := by
  induction l with
  | nil => rfl
  | cons t l ih => simp only [cls, List.flatMap_cons, List.length_append, List.length_cons, List.length_nil] at *; omega
theorem cls_drop (l : List Cl) (k : Nat) : (cls l).drop (k * 3) = cls (l.drop k) := by
  induction l generalizing k with
  | nil => simp [cls]
  | cons t l ih =>
    cases k with
    | zero => simp
    | succ k =>
      have e : (k + 1) * 3 = k * 3 + 3 := by omega
      rw [e]
      show (Cl.cells t ++ cls l).drop (k * 3 + 3) = _
      rw [Nat.add_comm, ← List.drop_drop]
      simpa [Cl.cells] using ih k
theorem cls_take (l : List Cl) (k : Nat) : (cls l).take (k * 3) = cls (l.take k) := by
  induction l generalizing k with
  | nil => simp [cls]
  | cons t l ih =>
    cases k with
    | zero => simp [cls]
    | succ k =>
      have e : (k + 1) * 3 = k * 3 + 1 + 1 + 1 := by omega
      rw [e]
      show (.int .i64 t.k :: .int .i64 t.n :: .string (S t.t) :: cls l : List Value).take (k * 3 + 1 + 1 + 1) = .int .i64 t.k :: .int .i64 t.n :: .string (S t.t) :: cls (l.take k)
      simp only [List.take_succ_cons, ih k]
theorem cls_get {l : List Cl} {k : Nat} {t : Cl} (h : l[k]? = some t) : ((cls l).drop (k * 3)).take 3 = t.cells := by
  rw [cls_drop, List.drop_eq_getElem_cons (List.getElem?_eq_some_iff.1 h).1]
  have := (List.getElem?_eq_some_iff.1 h).2
  rw [this]
  simp [cls, Cl.cells]
theorem cls_at {l : List Cl} {k : Nat} (hk : k < l.length) (j : Nat) {v : Value} (hj : l[k].cells[j]? = some v) : (cls l)[k * 3 + j]? = some v := by
  have h := cls_get (List.getElem?_eq_getElem hk)
  have h3 : j < 3 := by have := (List.getElem?_eq_some_iff.1 hj).1; simpa [Cl.cells] using this
  have : (((cls l).drop (k * 3)).take 3)[j]? = some v := by rw [h]; exact hj
  rw [List.getElem?_take_of_lt h3, List.getElem?_drop] at this
  exact this
theorem cls_one (l : List Cl) : ∀ v, v ∈ cls l → v.oneCell' = true := by
  intro v hv
  simp only [cls, Cl.cells, List.mem_flatMap, List.mem_cons, List.not_mem_nil, or_false] at hv
  obtain ⟨_, _, rfl | rfl | rfl⟩ := hv <;> rfl
def unC : List Value → Option (List Cl)
  | [] => some []
  | .int .i64 a :: .int .i64 b :: .string s :: l => (unC l).map (⟨a, b, s.data.toList⟩ :: ·)
  | _ => none
theorem unC_eq : ∀ (xs : List Cl) (vs : List Value), unC vs = some xs → vs = cls xs := by
  intro xs
  induction xs with
  | nil =>
    intro vs h
    unfold unC at h
    split at h
    · rfl
    · rw [Option.map_eq_some_iff] at h; obtain ⟨_, _, h⟩ := h; cases h
    · cases h
  | cons x xs ih =>
    intro vs h
    unfold unC at h
    split at h
    · cases h
    · rw [Option.map_eq_some_iff] at h
      obtain ⟨ys, h1, h2⟩ := h
      cases h2
      rw [ih _ h1]
      rfl
    · cases h
theorem SlE.toC {E : Env} {p : Option Addr} {n : Nat} {vs : List Value} {xs : List Cl} (h : SlE E 3 p n vs) (hx : unC vs = some xs) : SlE E 3 p n (cls xs) := by rw [← unC_eq xs vs hx]; exact h
theorem SlE.nilC {E : Env} : SlE E 3 none 0 (cls []) := SlE.nil
theorem SlE.nC {E : Env} {p : Option Addr} {n : Nat} {xs : List Cl} (h : SlE E 3 p n (cls xs)) : n = xs.length := by have := h.1; rw [cls_len] at this; omega

/-- The error of a call. -/
def chk (c : Cl) : Int := if c.k ≤ 0 ∨ 6 ≤ c.k then 11 else if 1000 < c.t.length then 4 else if c.n < 0 ∨ 999 < c.n then 2 else 0
theorem chk_zero {c : Cl} : chk c = 0 ↔ 1 ≤ c.k ∧ c.k ≤ 5 ∧ c.t.length ≤ 1000 ∧ 0 ≤ c.n ∧ c.n ≤ 999 := by
  unfold chk
  split
  · omega
  · split
    · omega
    · split <;> omega
/-- A call without what its kind does not have. -/
def clean (c : Cl) : Cl := ⟨c.k, if c.k = 3 then c.n else 0, if c.k = 1 then c.t else []⟩
def cleanR (c : Cl) : Cl := if chk c = 0 then clean c else Cl.zero
section
variable (E : Env) (L : List Res)
theorem Check_call (k n : Int) (t : List UInt8) : CallV Tryd.prog 30 #[.agg #[.int .i64 k, .int .i64 n, .string (S t)]] E L (.int .i64 (chk ⟨k, n, t⟩)) := by
  refine CallS.toV (CallS.intro (l := [.agg #[.int .i64 k, .int .i64 n, .string (S t)]]) _ Tryd.func30 rfl Tryd.ntmps30 rfl ?_)
  refine G_seq (G_region ?_)
  (refine G_boxA rfl rfl rfl rfl (.none rfl) ?_; intro b1)
  refine G_val (V_assign rfl rfl) rfl rfl (.none rfl) ?_
  refine G_end (X_then (G_seq (G_block (G_seq (G_region ?_)))))
  refine G_val (V_fieldAddr rfl rfl (by decide)) rfl rfl (.none rfl) ?_
  refine G_val (V_load rfl rfl (Cell.own (.head _) rfl)) rfl rfl (.none rfl) ?_
  refine G_val (V_leq rfl rfl rfl) rfl rfl (.none rfl) ?_
  refine G_val (V_move rfl rfl) rfl rfl (.none rfl) ?_
  apply G_joinOr 4 7 11 rfl
  · intro H1
    dsimp only [List.take]
    simp only [Bool.and_eq_true, Bool.or_eq_true, Bool.not_eq_true', Bool.not_eq_false', Bool.and_eq_false_iff, Bool.or_eq_false_iff, Bool.not_not, decide_eq_true_eq, decide_eq_false_iff_not, ne_eq, Decidable.not_not, Bool.decide_eq_true] at H1
    refine G_stay (.no rfl rfl rfl rfl) rfl rfl ?_
    refine G_stay (.no rfl rfl rfl rfl) rfl rfl ?_
    refine G_stay (.no rfl rfl rfl rfl) rfl rfl ?_
    refine G_val (V_pick_t rfl rfl rfl) rfl rfl (.none rfl) ?_
    refine G_end ?_
    exact JQ_end 4 rfl rfl (by kernel_rfl)
  · intro H2
    dsimp only [List.take]
    simp only [Bool.and_eq_true, Bool.or_eq_true, Bool.not_eq_true', Bool.not_eq_false', Bool.and_eq_false_iff, Bool.or_eq_false_iff, Bool.not_not, decide_eq_true_eq, decide_eq_false_iff_not, ne_eq, Decidable.not_not, Bool.decide_eq_true] at H2
    refine G_val (V_fieldAddr rfl rfl (by decide)) rfl rfl (.yes rfl rfl rfl rfl) ?_
    refine G_val (V_load rfl rfl (Cell.own (.head _) rfl)) rfl rfl (.yes rfl rfl rfl rfl) ?_
    refine G_val (V_geq rfl rfl rfl) rfl rfl (.yes rfl rfl rfl rfl) ?_
    refine G_val (V_pick_f rfl rfl rfl) rfl rfl (.none rfl) ?_
    refine G_end ?_
    exact JQ_end 4 rfl rfl (by kernel_rfl)
  dsimp only [List.drop]
  refine G_val (V_assign rfl rfl) rfl rfl (.none rfl) ?_
  refine G_end (X_then ?_)
  refine G_cond rfl (fun H3 => ?_) (fun H3 => ?_)
  · simp only [Bool.and_eq_true, Bool.or_eq_true, Bool.not_eq_true', Bool.not_eq_false', Bool.and_eq_false_iff, Bool.or_eq_false_iff, Bool.not_not, decide_eq_true_eq, decide_eq_false_iff_not, ne_eq, Decidable.not_not, Bool.decide_eq_true] at H3
    refine G_seq (G_region ?_)
    refine G_val (V_assign rfl rfl) rfl rfl (.none rfl) ?_
    refine G_end (X_then (G_ret (X_block_ret (X_then_ret ?_))))
    refine G_leaveS (.drop _ (.nil _)) (by exact (.cons (.tmp rfl) (.nil))) rfl ?_ ?_
    · exact (.refl _)
    exact ⟨(by (simp (discharger := omega) only [resVal, chk, if_pos, if_neg]; first | done | rfl)), (by rfl)⟩
  simp only [Bool.and_eq_true, Bool.or_eq_true, Bool.not_eq_true', Bool.not_eq_false', Bool.and_eq_false_iff, Bool.or_eq_false_iff, Bool.not_not, decide_eq_true_eq, decide_eq_false_iff_not, ne_eq, Decidable.not_not, Bool.decide_eq_true] at H3
  refine G_seq (G_region ?_)
  refine G_val (V_fieldAddr rfl rfl (by decide)) rfl rfl (.none rfl) ?_
  refine G_val (V_load rfl rfl (Cell.own (.head _) rfl)) rfl rfl (.none rfl) ?_
  refine G_val (V_len rfl rfl) rfl rfl (.none rfl) ?_
  refine G_val (V_gtr rfl rfl rfl) rfl rfl (.none rfl) ?_
  refine G_val (V_assign rfl rfl) rfl rfl (.none rfl) ?_
  refine G_end (X_then ?_)
  refine G_cond rfl (fun H4 => ?_) (fun H4 => ?_)
  · simp only [Bool.and_eq_true, Bool.or_eq_true, Bool.not_eq_true', Bool.not_eq_false', Bool.and_eq_false_iff, Bool.or_eq_false_iff, Bool.not_not, decide_eq_true_eq, decide_eq_false_iff_not, ne_eq, Decidable.not_not, Bool.decide_eq_true] at H4
    refine G_seq (G_region ?_)
    refine G_val (V_assign rfl rfl) rfl rfl (.none rfl) ?_
    refine G_end (X_then (G_ret (X_block_ret (X_then_ret ?_))))
    refine G_leaveS (.drop _ (.nil _)) (by exact (.cons (.tmp rfl) (.nil))) rfl ?_ ?_
    · exact (.refl _)
    exact ⟨(by (simp (discharger := omega) only [resVal, chk, if_pos, if_neg]; first | done | rfl)), (by rfl)⟩
  simp only [Bool.and_eq_true, Bool.or_eq_true, Bool.not_eq_true', Bool.not_eq_false', Bool.and_eq_false_iff, Bool.or_eq_false_iff, Bool.not_not, decide_eq_true_eq, decide_eq_false_iff_not, ne_eq, Decidable.not_not, Bool.decide_eq_true] at H4
  refine G_seq (G_region ?_)
  refine G_val (V_fieldAddr rfl rfl (by decide)) rfl rfl (.none rfl) ?_
  refine G_val (V_load rfl rfl (Cell.own (.head _) rfl)) rfl rfl (.none rfl) ?_
  refine G_val (V_lss rfl rfl rfl) rfl rfl (.none rfl) ?_
  refine G_val (V_move rfl rfl) rfl rfl (.none rfl) ?_
  apply G_joinOr 4 21 25 rfl
  · intro H5
    dsimp only [List.take]
    simp only [Bool.and_eq_true, Bool.or_eq_true, Bool.not_eq_true', Bool.not_eq_false', Bool.and_eq_false_iff, Bool.or_eq_false_iff, Bool.not_not, decide_eq_true_eq, decide_eq_false_iff_not, ne_eq, Decidable.not_not, Bool.decide_eq_true] at H5
    refine G_stay (.no rfl rfl rfl rfl) rfl rfl ?_
    refine G_stay (.no rfl rfl rfl rfl) rfl rfl ?_
    refine G_stay (.no rfl rfl rfl rfl) rfl rfl ?_
    refine G_val (V_pick_t rfl rfl rfl) rfl rfl (.none rfl) ?_
    refine G_end ?_
    exact JQ_end 4 rfl rfl (by kernel_rfl)
  · intro H6
    dsimp only [List.take]
    simp only [Bool.and_eq_true, Bool.or_eq_true, Bool.not_eq_true', Bool.not_eq_false', Bool.and_eq_false_iff, Bool.or_eq_false_iff, Bool.not_not, decide_eq_true_eq, decide_eq_false_iff_not, ne_eq, Decidable.not_not, Bool.decide_eq_true] at H6
    refine G_val (V_fieldAddr rfl rfl (by decide)) rfl rfl (.yes rfl rfl rfl rfl) ?_
    refine G_val (V_load rfl rfl (Cell.own (.head _) rfl)) rfl rfl (.yes rfl rfl rfl rfl) ?_
    refine G_val (V_gtr rfl rfl rfl) rfl rfl (.yes rfl rfl rfl rfl) ?_
    refine G_val (V_pick_f rfl rfl rfl) rfl rfl (.none rfl) ?_
    refine G_end ?_
    exact JQ_end 4 rfl rfl (by kernel_rfl)
  dsimp only [List.drop]
  refine G_val (V_assign rfl rfl) rfl rfl (.none rfl) ?_
  refine G_end (X_then ?_)
  refine G_cond rfl (fun H7 => ?_) (fun H7 => ?_)
  · simp only [Bool.and_eq_true, Bool.or_eq_true, Bool.not_eq_true', Bool.not_eq_false', Bool.and_eq_false_iff, Bool.or_eq_false_iff, Bool.not_not, decide_eq_true_eq, decide_eq_false_iff_not, ne_eq, Decidable.not_not, Bool.decide_eq_true] at H7
    refine G_seq (G_region ?_)
    refine G_val (V_assign rfl rfl) rfl rfl (.none rfl) ?_
    refine G_end (X_then (G_ret (X_block_ret (X_then_ret ?_))))
    refine G_leaveS (.drop _ (.nil _)) (by exact (.cons (.tmp rfl) (.nil))) rfl ?_ ?_
    · exact (.refl _)
    exact ⟨(by (simp (discharger := omega) only [resVal, chk, if_pos, if_neg]; first | done | rfl)), (by rfl)⟩
  simp only [Bool.and_eq_true, Bool.or_eq_true, Bool.not_eq_true', Bool.not_eq_false', Bool.and_eq_false_iff, Bool.or_eq_false_iff, Bool.not_not, decide_eq_true_eq, decide_eq_false_iff_not, ne_eq, Decidable.not_not, Bool.decide_eq_true] at H7
  refine G_skip (X_block (X_then (G_seq (G_region ?_))))
  refine G_val (V_assign rfl rfl) rfl rfl (.none rfl) ?_
  refine G_end (X_then (G_ret ?_))
  refine G_leaveS (.drop _ (.nil _)) (by exact (.cons (.tmp rfl) (.nil))) rfl ?_ ?_
  · exact (.refl _)
  exact ⟨(by (simp (discharger := omega) only [resVal, chk, if_pos, if_neg]; first | done | rfl)), (by rfl)⟩
theorem CheckR_call (k n : Int) (t : List UInt8) : CallV Tryd.prog 31 #[.agg #[.int .i64 k, .int .i64 n, .string (S t)]] E L (.int .i64 (chk ⟨k, n, t⟩)) := by
  refine CallS.toV (CallS.intro (l := [.agg #[.int .i64 k, .int .i64 n, .string (S t)]]) _ Tryd.func31 rfl Tryd.ntmps31 rfl ?_)
  refine G_seq (G_region ?_)
  (refine G_boxA rfl rfl rfl rfl (.none rfl) ?_; intro b1)
  refine G_val (V_assign rfl rfl) rfl rfl (.none rfl) ?_
  refine G_end (X_then (G_seq (G_block (G_seq (G_region ?_)))))
  refine G_val (V_fieldAddr rfl rfl (by decide)) rfl rfl (.none rfl) ?_
  refine G_val (V_load rfl rfl (Cell.own (.head _) rfl)) rfl rfl (.none rfl) ?_
  refine G_val (V_lss rfl rfl rfl) rfl rfl (.none rfl) ?_
  refine G_val (V_move rfl rfl) rfl rfl (.none rfl) ?_
  apply G_joinOr 4 7 11 rfl
  · intro H1
    dsimp only [List.take]
    simp only [Bool.and_eq_true, Bool.or_eq_true, Bool.not_eq_true', Bool.not_eq_false', Bool.and_eq_false_iff, Bool.or_eq_false_iff, Bool.not_not, decide_eq_true_eq, decide_eq_false_iff_not, ne_eq, Decidable.not_not, Bool.decide_eq_true] at H1
    refine G_stay (.no rfl rfl rfl rfl) rfl rfl ?_
    refine G_stay (.no rfl rfl rfl rfl) rfl rfl ?_
    refine G_stay (.no rfl rfl rfl rfl) rfl rfl ?_
    refine G_val (V_pick_t rfl rfl rfl) rfl rfl (.none rfl) ?_
    refine G_end ?_
    exact JQ_end 4 rfl rfl (by kernel_rfl)
  · intro H2
    dsimp only [List.take]
    simp only [Bool.and_eq_true, Bool.or_eq_true, Bool.not_eq_true', Bool.not_eq_false', Bool.and_eq_false_iff, Bool.or_eq_false_iff, Bool.not_not, decide_eq_true_eq, decide_eq_false_iff_not, ne_eq, Decidable.not_not, Bool.decide_eq_true] at H2
    refine G_val (V_fieldAddr rfl rfl (by decide)) rfl rfl (.yes rfl rfl rfl rfl) ?_
    refine G_val (V_load rfl rfl (Cell.own (.head _) rfl)) rfl rfl (.yes rfl rfl rfl rfl) ?_
    refine G_val (V_gtr rfl rfl rfl) rfl rfl (.yes rfl rfl rfl rfl) ?_
    refine G_val (V_pick_f rfl rfl rfl) rfl rfl (.none rfl) ?_
    refine G_end ?_
    exact JQ_end 4 rfl rfl (by kernel_rfl)
  dsimp only [List.drop]
  refine G_val (V_assign rfl rfl) rfl rfl (.none rfl) ?_
  refine G_end (X_then ?_)
  refine G_cond rfl (fun H3 => ?_) (fun H3 => ?_)
  · simp only [Bool.and_eq_true, Bool.or_eq_true, Bool.not_eq_true', Bool.not_eq_false', Bool.and_eq_false_iff, Bool.or_eq_false_iff, Bool.not_not, decide_eq_true_eq, decide_eq_false_iff_not, ne_eq, Decidable.not_not, Bool.decide_eq_true] at H3
    refine G_seq (G_region ?_)
    refine G_val (V_assign rfl rfl) rfl rfl (.none rfl) ?_
    refine G_end (X_then (G_ret (X_block_ret (X_then_ret ?_))))
    refine G_leaveS (.drop _ (.nil _)) (by exact (.cons (.tmp rfl) (.nil))) rfl ?_ ?_
    · exact (.refl _)
    exact ⟨(by (simp (discharger := omega) only [resVal, chk, if_pos, if_neg]; first | done | rfl)), (by rfl)⟩
  simp only [Bool.and_eq_true, Bool.or_eq_true, Bool.not_eq_true', Bool.not_eq_false', Bool.and_eq_false_iff, Bool.or_eq_false_iff, Bool.not_not, decide_eq_true_eq, decide_eq_false_iff_not, ne_eq, Decidable.not_not, Bool.decide_eq_true] at H3
  refine G_seq (G_region ?_)
  refine G_val (V_fieldAddr rfl rfl (by decide)) rfl rfl (.none rfl) ?_
  refine G_val (V_load rfl rfl (Cell.own (.head _) rfl)) rfl rfl (.none rfl) ?_
  refine G_val (V_len rfl rfl) rfl rfl (.none rfl) ?_
  refine G_val (V_gtr rfl rfl rfl) rfl rfl (.none rfl) ?_
  refine G_val (V_assign rfl rfl) rfl rfl (.none rfl) ?_
  refine G_end (X_then ?_)
  refine G_cond rfl (fun H4 => ?_) (fun H4 => ?_)
  · simp only [Bool.and_eq_true, Bool.or_eq_true, Bool.not_eq_true', Bool.not_eq_false', Bool.and_eq_false_iff, Bool.or_eq_false_iff, Bool.not_not, decide_eq_true_eq, decide_eq_false_iff_not, ne_eq, Decidable.not_not, Bool.decide_eq_true] at H4
    refine G_seq (G_region ?_)
    refine G_val (V_assign rfl rfl) rfl rfl (.none rfl) ?_
    refine G_end (X_then (G_ret (X_block_ret (X_then_ret ?_))))
    refine G_leaveS (.drop _ (.nil _)) (by exact (.cons (.tmp rfl) (.nil))) rfl ?_ ?_
    · exact (.refl _)
    exact ⟨(by (simp (discharger := omega) only [resVal, chk, if_pos, if_neg]; first | done | rfl)), (by rfl)⟩
  simp only [Bool.and_eq_true, Bool.or_eq_true, Bool.not_eq_true', Bool.not_eq_false', Bool.and_eq_false_iff, Bool.or_eq_false_iff, Bool.not_not, decide_eq_true_eq, decide_eq_false_iff_not, ne_eq, Decidable.not_not, Bool.decide_eq_true] at H4
  refine G_seq (G_region ?_)
  refine G_val (V_fieldAddr rfl rfl (by decide)) rfl rfl (.none rfl) ?_
  refine G_val (V_load rfl rfl (Cell.own (.head _) rfl)) rfl rfl (.none rfl) ?_
  refine G_val (V_lss rfl rfl rfl) rfl rfl (.none rfl) ?_
  refine G_val (V_move rfl rfl) rfl rfl (.none rfl) ?_
  apply G_joinOr 4 21 25 rfl
  · intro H5
    dsimp only [List.take]
    simp only [Bool.and_eq_true, Bool.or_eq_true, Bool.not_eq_true', Bool.not_eq_false', Bool.and_eq_false_iff, Bool.or_eq_false_iff, Bool.not_not, decide_eq_true_eq, decide_eq_false_iff_not, ne_eq, Decidable.not_not, Bool.decide_eq_true] at H5
    refine G_stay (.no rfl rfl rfl rfl) rfl rfl ?_
    refine G_stay (.no rfl rfl rfl rfl) rfl rfl ?_
    refine G_stay (.no rfl rfl rfl rfl) rfl rfl ?_
    refine G_val (V_pick_t rfl rfl rfl) rfl rfl (.none rfl) ?_
    refine G_end ?_
    exact JQ_end 4 rfl rfl (by kernel_rfl)
  · intro H6
    dsimp only [List.take]
    simp only [Bool.and_eq_true, Bool.or_eq_true, Bool.not_eq_true', Bool.not_eq_false', Bool.and_eq_false_iff, Bool.or_eq_false_iff, Bool.not_not, decide_eq_true_eq, decide_eq_false_iff_not, ne_eq, Decidable.not_not, Bool.decide_eq_true] at H6
    refine G_val (V_fieldAddr rfl rfl (by decide)) rfl rfl (.yes rfl rfl rfl rfl) ?_
    refine G_val (V_load rfl rfl (Cell.own (.head _) rfl)) rfl rfl (.yes rfl rfl rfl rfl) ?_
    refine G_val (V_gtr rfl rfl rfl) rfl rfl (.yes rfl rfl rfl rfl) ?_
    refine G_val (V_pick_f rfl rfl rfl) rfl rfl (.none rfl) ?_
    refine G_end ?_
    exact JQ_end 4 rfl rfl (by kernel_rfl)
  dsimp only [List.drop]
  refine G_val (V_assign rfl rfl) rfl rfl (.none rfl) ?_
  refine G_end (X_then ?_)
  refine G_cond rfl (fun H7 => ?_) (fun H7 => ?_)
  · simp only [Bool.and_eq_true, Bool.or_eq_true, Bool.not_eq_true', Bool.not_eq_false', Bool.and_eq_false_iff, Bool.or_eq_false_iff, Bool.not_not, decide_eq_true_eq, decide_eq_false_iff_not, ne_eq, Decidable.not_not, Bool.decide_eq_true] at H7
    refine G_seq (G_region ?_)
    refine G_val (V_assign rfl rfl) rfl rfl (.none rfl) ?_
    refine G_end (X_then (G_ret (X_block_ret (X_then_ret ?_))))
    refine G_leaveS (.drop _ (.nil _)) (by exact (.cons (.tmp rfl) (.nil))) rfl ?_ ?_
    · exact (.refl _)
    exact ⟨(by (simp (discharger := omega) only [resVal, chk, if_pos, if_neg]; first | done | rfl)), (by rfl)⟩
  simp only [Bool.and_eq_true, Bool.or_eq_true, Bool.not_eq_true', Bool.not_eq_false', Bool.and_eq_false_iff, Bool.or_eq_false_iff, Bool.not_not, decide_eq_true_eq, decide_eq_false_iff_not, ne_eq, Decidable.not_not, Bool.decide_eq_true] at H7
  refine G_skip (X_block (X_then (G_seq (G_region ?_))))
  refine G_val (V_assign rfl rfl) rfl rfl (.none rfl) ?_
  refine G_end (X_then (G_ret ?_))
  refine G_leaveS (.drop _ (.nil _)) (by exact (.cons (.tmp rfl) (.nil))) rfl ?_ ?_
  · exact (.refl _)
  exact ⟨(by (simp (discharger := omega) only [resVal, chk, if_pos, if_neg]; first | done | rfl)), (by rfl)⟩
theorem Clean_call (k n : Int) (t : List UInt8) : CallV Tryd.prog 20 #[.agg #[.int .i64 k, .int .i64 n, .string (S t)]] E L (.tuple #[(cleanR ⟨k, n, t⟩).v, .int .i64 (chk ⟨k, n, t⟩)]) := by
  refine CallS.toV (CallS.intro (l := [.agg #[.int .i64 k, .int .i64 n, .string (S t)]]) _ Tryd.func20 rfl Tryd.ntmps20 rfl ?_)
  by_cases h : chk ⟨k, n, t⟩ = 0
  · by_cases h1 : k = 1
    · have e : cleanR ⟨k, n, t⟩ = ⟨k, 0, t⟩ := by rw [cleanR, if_pos h, clean]; simp [h1]
      rw [e, h]
      refine G_seq (G_region ?_)
      (refine G_boxA rfl rfl rfl rfl (.none rfl) ?_; intro b1)
      (refine G_alloc rfl rfl rfl (.none rfl) ?_; intro b2)
      refine G_val (V_assign rfl rfl) rfl rfl (.none rfl) ?_
      refine G_end (X_then (G_seq (G_seq (G_region ?_))))
      refine G_val (V_loadA rfl rfl (Cells.own (.tail _ (.head _))) rfl) rfl rfl (.none rfl) ?_
      refine G_callv (k := 30) (.mk rfl rfl rfl rfl) rfl rfl (.none rfl) (Check_call _ _ _ _ _) ?_
      refine G_val (V_assign rfl rfl) rfl rfl (.none rfl) ?_
      refine G_end (X_then (G_seq (G_region ?_)))
      refine G_val (V_move rfl rfl) rfl rfl (.none rfl) ?_
      refine G_val (V_neq rfl rfl rfl) rfl rfl (.none rfl) ?_
      refine G_end (X_then ?_)
      refine G_cond_f rfl (decide_eq_false (by omega)) ?_
      refine G_skip (X_then (G_seq (G_seq (G_region ?_))))
      refine G_val (V_fieldAddr rfl rfl (by decide)) rfl rfl (.none rfl) ?_
      refine G_val (V_load rfl rfl (Cell.own (.tail _ (.head _)) rfl)) rfl rfl (.none rfl) ?_
      refine G_val (V_neq rfl rfl rfl) rfl rfl (.none rfl) ?_
      refine G_end (X_then ?_)
      refine G_cond_f rfl (decide_eq_false (by omega)) ?_
      refine G_skip (X_then (G_seq (G_seq (G_region ?_))))
      refine G_val (V_fieldAddr rfl rfl (by decide)) rfl rfl (.none rfl) ?_
      refine G_val (V_load rfl rfl (Cell.own (.tail _ (.head _)) rfl)) rfl rfl (.none rfl) ?_
      refine G_val (V_neq rfl rfl rfl) rfl rfl (.none rfl) ?_
      refine G_end (X_then ?_)
      refine G_cond_t rfl (decide_eq_true (by omega)) ?_
      refine G_region ?_
      refine G_val (V_fieldAddr rfl rfl (by decide)) rfl rfl (.none rfl) ?_
      refine G_storeAt rfl rfl rfl rfl rfl rfl (.none rfl) (.tail _ (.head _ _ _)) (Nat.le_of_ble_eq_true rfl) (by simp only [putAll, Nat.zero_add, Nat.reduceAdd, List.setIfInBounds_toArray, List.set_cons_succ, List.set_cons_zero]; rfl) ?_
      refine G_end (X_then (G_seq (G_region ?_)))
      refine G_val (V_loadA rfl rfl (Cells.own (.tail _ (.head _))) rfl) rfl rfl (.none rfl) ?_
      refine G_storeA rfl rfl rfl rfl (by simp [Value.oneCell']) rfl (.none rfl) (.head _ _ _) rfl ?_
      refine G_val (V_assign rfl rfl) rfl rfl (.none rfl) ?_
      refine G_end (X_then (G_ret ?_))
      refine G_leaveS (.drop _ (.drop _ (.nil _))) (by exact (.cons (.cellA rfl (Cells.own (.head _)) rfl) (.cons (.tmp rfl) (.nil)))) rfl ?_ ?_
      · exact (.refl _)
      exact ⟨rfl, rfl⟩
    · by_cases h3 : k = 3
      · have e : cleanR ⟨k, n, t⟩ = ⟨k, n, []⟩ := by rw [cleanR, if_pos h, clean]; simp [h3]
        rw [e, h]
        refine G_seq (G_region ?_)
        (refine G_boxA rfl rfl rfl rfl (.none rfl) ?_; intro b1)
        (refine G_alloc rfl rfl rfl (.none rfl) ?_; intro b2)
        refine G_val (V_assign rfl rfl) rfl rfl (.none rfl) ?_
        refine G_end (X_then (G_seq (G_seq (G_region ?_))))
        refine G_val (V_loadA rfl rfl (Cells.own (.tail _ (.head _))) rfl) rfl rfl (.none rfl) ?_
        refine G_callv (k := 30) (.mk rfl rfl rfl rfl) rfl rfl (.none rfl) (Check_call _ _ _ _ _) ?_
        refine G_val (V_assign rfl rfl) rfl rfl (.none rfl) ?_
        refine G_end (X_then (G_seq (G_region ?_)))
        refine G_val (V_move rfl rfl) rfl rfl (.none rfl) ?_
        refine G_val (V_neq rfl rfl rfl) rfl rfl (.none rfl) ?_
        refine G_end (X_then ?_)
        refine G_cond_f rfl (decide_eq_false (by omega)) ?_
        refine G_skip (X_then (G_seq (G_seq (G_region ?_))))
        refine G_val (V_fieldAddr rfl rfl (by decide)) rfl rfl (.none rfl) ?_
        refine G_val (V_load rfl rfl (Cell.own (.tail _ (.head _)) rfl)) rfl rfl (.none rfl) ?_
        refine G_val (V_neq rfl rfl rfl) rfl rfl (.none rfl) ?_
        refine G_end (X_then ?_)
        refine G_cond_t rfl (decide_eq_true (by omega)) ?_
        refine G_region ?_
        refine G_val (V_fieldAddr rfl rfl (by decide)) rfl rfl (.none rfl) ?_
        refine G_storeAt rfl rfl rfl rfl rfl rfl (.none rfl) (.tail _ (.head _ _ _)) (Nat.le_of_ble_eq_true rfl) (by simp only [putAll, Nat.zero_add, Nat.reduceAdd, List.setIfInBounds_toArray, List.set_cons_succ, List.set_cons_zero]; rfl) ?_
        refine G_end (X_then (G_seq (G_seq (G_region ?_))))
        refine G_val (V_fieldAddr rfl rfl (by decide)) rfl rfl (.none rfl) ?_
        refine G_val (V_load rfl rfl (Cell.own (.tail _ (.head _)) rfl)) rfl rfl (.none rfl) ?_
        refine G_val (V_neq rfl rfl rfl) rfl rfl (.none rfl) ?_
        refine G_end (X_then ?_)
        refine G_cond_f rfl (decide_eq_false (by omega)) ?_
        refine G_skip (X_then (G_seq (G_region ?_)))
        refine G_val (V_loadA rfl rfl (Cells.own (.tail _ (.head _))) rfl) rfl rfl (.none rfl) ?_
        refine G_storeA rfl rfl rfl rfl (by simp [Value.oneCell']) rfl (.none rfl) (.head _ _ _) rfl ?_
        refine G_val (V_assign rfl rfl) rfl rfl (.none rfl) ?_
        refine G_end (X_then (G_ret ?_))
        refine G_leaveS (.drop _ (.drop _ (.nil _))) (by exact (.cons (.cellA rfl (Cells.own (.head _)) rfl) (.cons (.tmp rfl) (.nil)))) rfl ?_ ?_
        · exact (.refl _)
        exact ⟨rfl, rfl⟩
      · have e : cleanR ⟨k, n, t⟩ = ⟨k, 0, []⟩ := by rw [cleanR, if_pos h, clean]; simp [h1, h3]
        rw [e, h]
        refine G_seq (G_region ?_)
        (refine G_boxA rfl rfl rfl rfl (.none rfl) ?_; intro b1)
        (refine G_alloc rfl rfl rfl (.none rfl) ?_; intro b2)
        refine G_val (V_assign rfl rfl) rfl rfl (.none rfl) ?_
        refine G_end (X_then (G_seq (G_seq (G_region ?_))))
        refine G_val (V_loadA rfl rfl (Cells.own (.tail _ (.head _))) rfl) rfl rfl (.none rfl) ?_
        refine G_callv (k := 30) (.mk rfl rfl rfl rfl) rfl rfl (.none rfl) (Check_call _ _ _ _ _) ?_
        refine G_val (V_assign rfl rfl) rfl rfl (.none rfl) ?_
        refine G_end (X_then (G_seq (G_region ?_)))
        refine G_val (V_move rfl rfl) rfl rfl (.none rfl) ?_
        refine G_val (V_neq rfl rfl rfl) rfl rfl (.none rfl) ?_
        refine G_end (X_then ?_)
        refine G_cond_f rfl (decide_eq_false (by omega)) ?_
        refine G_skip (X_then (G_seq (G_seq (G_region ?_))))
        refine G_val (V_fieldAddr rfl rfl (by decide)) rfl rfl (.none rfl) ?_
        refine G_val (V_load rfl rfl (Cell.own (.tail _ (.head _)) rfl)) rfl rfl (.none rfl) ?_
        refine G_val (V_neq rfl rfl rfl) rfl rfl (.none rfl) ?_
        refine G_end (X_then ?_)
        refine G_cond_t rfl (decide_eq_true (by omega)) ?_
        refine G_region ?_
        refine G_val (V_fieldAddr rfl rfl (by decide)) rfl rfl (.none rfl) ?_
        refine G_storeAt rfl rfl rfl rfl rfl rfl (.none rfl) (.tail _ (.head _ _ _)) (Nat.le_of_ble_eq_true rfl) (by simp only [putAll, Nat.zero_add, Nat.reduceAdd, List.setIfInBounds_toArray, List.set_cons_succ, List.set_cons_zero]; rfl) ?_
        refine G_end (X_then (G_seq (G_seq (G_region ?_))))
        refine G_val (V_fieldAddr rfl rfl (by decide)) rfl rfl (.none rfl) ?_
        refine G_val (V_load rfl rfl (Cell.own (.tail _ (.head _)) rfl)) rfl rfl (.none rfl) ?_
        refine G_val (V_neq rfl rfl rfl) rfl rfl (.none rfl) ?_
        refine G_end (X_then ?_)
        refine G_cond_t rfl (decide_eq_true (by omega)) ?_
        refine G_region ?_
        refine G_val (V_fieldAddr rfl rfl (by decide)) rfl rfl (.none rfl) ?_
        refine G_storeAt rfl rfl rfl rfl rfl rfl (.none rfl) (.tail _ (.head _ _ _)) (Nat.le_of_ble_eq_true rfl) (by simp only [putAll, Nat.zero_add, Nat.reduceAdd, List.setIfInBounds_toArray, List.set_cons_succ, List.set_cons_zero]; rfl) ?_
        refine G_end (X_then (G_seq (G_region ?_)))
        refine G_val (V_loadA rfl rfl (Cells.own (.tail _ (.head _))) rfl) rfl rfl (.none rfl) ?_
        refine G_storeA rfl rfl rfl rfl (by simp [Value.oneCell']) rfl (.none rfl) (.head _ _ _) rfl ?_
        refine G_val (V_assign rfl rfl) rfl rfl (.none rfl) ?_
        refine G_end (X_then (G_ret ?_))
        refine G_leaveS (.drop _ (.drop _ (.nil _))) (by exact (.cons (.cellA rfl (Cells.own (.head _)) rfl) (.cons (.tmp rfl) (.nil)))) rfl ?_ ?_
        · exact (.refl _)
        exact ⟨rfl, rfl⟩
  · have e : cleanR ⟨k, n, t⟩ = ⟨0, 0, []⟩ := by simp [cleanR, h, Cl.zero]
    rw [e]
    refine G_seq (G_region ?_)
    (refine G_boxA rfl rfl rfl rfl (.none rfl) ?_; intro b1)
    (refine G_alloc rfl rfl rfl (.none rfl) ?_; intro b2)
    refine G_val (V_assign rfl rfl) rfl rfl (.none rfl) ?_
    refine G_end (X_then (G_seq (G_seq (G_region ?_))))
    refine G_val (V_loadA rfl rfl (Cells.own (.tail _ (.head _))) rfl) rfl rfl (.none rfl) ?_
    refine G_callv (k := 30) (.mk rfl rfl rfl rfl) rfl rfl (.none rfl) (Check_call _ _ _ _ _) ?_
    refine G_val (V_assign rfl rfl) rfl rfl (.none rfl) ?_
    refine G_end (X_then (G_seq (G_region ?_)))
    refine G_val (V_move rfl rfl) rfl rfl (.none rfl) ?_
    refine G_val (V_neq rfl rfl rfl) rfl rfl (.none rfl) ?_
    refine G_end (X_then ?_)
    refine G_cond_t rfl (decide_eq_true (by omega)) ?_
    refine G_seq (G_region ?_)
    refine G_val (V_build rfl rfl (by simp [fillV, setLs, setL, Value.cells]; rfl)) rfl rfl (.none rfl) ?_
    refine G_val (V_move rfl rfl) rfl rfl (.none rfl) ?_
    refine G_storeA rfl rfl rfl rfl (by simp [Value.oneCell']) rfl (.none rfl) (.head _ _ _) rfl ?_
    refine G_val (V_assign rfl rfl) rfl rfl (.none rfl) ?_
    refine G_end (X_then (G_ret (X_then_ret ?_)))
    refine G_leaveS (.drop _ (.drop _ (.nil _))) (by exact (.cons (.cellA rfl (Cells.own (.head _)) rfl) (.cons (.tmp rfl) (.nil)))) rfl ?_ ?_
    · exact (.refl _)
    exact ⟨rfl, rfl⟩
theorem CleanR_call (k n : Int) (t : List UInt8) : CallV Tryd.prog 28 #[.agg #[.int .i64 k, .int .i64 n, .string (S t)]] E L (.tuple #[(cleanR ⟨k, n, t⟩).v, .int .i64 (chk ⟨k, n, t⟩)]) := by
  refine CallS.toV (CallS.intro (l := [.agg #[.int .i64 k, .int .i64 n, .string (S t)]]) _ Tryd.func28 rfl Tryd.ntmps28 rfl ?_)
  by_cases h : chk ⟨k, n, t⟩ = 0
  · by_cases h1 : k = 1
    · have e : cleanR ⟨k, n, t⟩ = ⟨k, 0, t⟩ := by rw [cleanR, if_pos h, clean]; simp [h1]
      rw [e, h]
      refine G_seq (G_region ?_)
      (refine G_boxA rfl rfl rfl rfl (.none rfl) ?_; intro b1)
      (refine G_alloc rfl rfl rfl (.none rfl) ?_; intro b2)
      refine G_val (V_assign rfl rfl) rfl rfl (.none rfl) ?_
      refine G_end (X_then (G_seq (G_seq (G_region ?_))))
      refine G_val (V_loadA rfl rfl (Cells.own (.tail _ (.head _))) rfl) rfl rfl (.none rfl) ?_
      refine G_callv (k := 31) (.mk rfl rfl rfl rfl) rfl rfl (.none rfl) (CheckR_call _ _ _ _ _) ?_
      refine G_val (V_assign rfl rfl) rfl rfl (.none rfl) ?_
      refine G_end (X_then (G_seq (G_region ?_)))
      refine G_val (V_move rfl rfl) rfl rfl (.none rfl) ?_
      refine G_val (V_neq rfl rfl rfl) rfl rfl (.none rfl) ?_
      refine G_end (X_then ?_)
      refine G_cond_f rfl (decide_eq_false (by omega)) ?_
      refine G_skip (X_then (G_seq (G_seq (G_region ?_))))
      refine G_val (V_fieldAddr rfl rfl (by decide)) rfl rfl (.none rfl) ?_
      refine G_val (V_load rfl rfl (Cell.own (.tail _ (.head _)) rfl)) rfl rfl (.none rfl) ?_
      refine G_val (V_neq rfl rfl rfl) rfl rfl (.none rfl) ?_
      refine G_end (X_then ?_)
      refine G_cond_f rfl (decide_eq_false (by omega)) ?_
      refine G_skip (X_then (G_seq (G_seq (G_region ?_))))
      refine G_val (V_fieldAddr rfl rfl (by decide)) rfl rfl (.none rfl) ?_
      refine G_val (V_load rfl rfl (Cell.own (.tail _ (.head _)) rfl)) rfl rfl (.none rfl) ?_
      refine G_val (V_neq rfl rfl rfl) rfl rfl (.none rfl) ?_
      refine G_end (X_then ?_)
      refine G_cond_t rfl (decide_eq_true (by omega)) ?_
      refine G_region ?_
      refine G_val (V_fieldAddr rfl rfl (by decide)) rfl rfl (.none rfl) ?_
      refine G_storeAt rfl rfl rfl rfl rfl rfl (.none rfl) (.tail _ (.head _ _ _)) (Nat.le_of_ble_eq_true rfl) (by simp only [putAll, Nat.zero_add, Nat.reduceAdd, List.setIfInBounds_toArray, List.set_cons_succ, List.set_cons_zero]; rfl) ?_
      refine G_end (X_then (G_seq (G_region ?_)))
      refine G_val (V_loadA rfl rfl (Cells.own (.tail _ (.head _))) rfl) rfl rfl (.none rfl) ?_
      refine G_storeA rfl rfl rfl rfl (by simp [Value.oneCell']) rfl (.none rfl) (.head _ _ _) rfl ?_
      refine G_val (V_assign rfl rfl) rfl rfl (.none rfl) ?_
      refine G_end (X_then (G_ret ?_))
      refine G_leaveS (.drop _ (.drop _ (.nil _))) (by exact (.cons (.cellA rfl (Cells.own (.head _)) rfl) (.cons (.tmp rfl) (.nil)))) rfl ?_ ?_
      · exact (.refl _)
      exact ⟨rfl, rfl⟩
    · by_cases h3 : k = 3
      · have e : cleanR ⟨k, n, t⟩ = ⟨k, n, []⟩ := by rw [cleanR, if_pos h, clean]; simp [h3]
        rw [e, h]
        refine G_seq (G_region ?_)
        (refine G_boxA rfl rfl rfl rfl (.none rfl) ?_; intro b1)
        (refine G_alloc rfl rfl rfl (.none rfl) ?_; intro b2)
        refine G_val (V_assign rfl rfl) rfl rfl (.none rfl) ?_
        refine G_end (X_then (G_seq (G_seq (G_region ?_))))
        refine G_val (V_loadA rfl rfl (Cells.own (.tail _ (.head _))) rfl) rfl rfl (.none rfl) ?_
        refine G_callv (k := 31) (.mk rfl rfl rfl rfl) rfl rfl (.none rfl) (CheckR_call _ _ _ _ _) ?_
        refine G_val (V_assign rfl rfl) rfl rfl (.none rfl) ?_
        refine G_end (X_then (G_seq (G_region ?_)))
        refine G_val (V_move rfl rfl) rfl rfl (.none rfl) ?_
        refine G_val (V_neq rfl rfl rfl) rfl rfl (.none rfl) ?_
        refine G_end (X_then ?_)
        refine G_cond_f rfl (decide_eq_false (by omega)) ?_
        refine G_skip (X_then (G_seq (G_seq (G_region ?_))))
        refine G_val (V_fieldAddr rfl rfl (by decide)) rfl rfl (.none rfl) ?_
        refine G_val (V_load rfl rfl (Cell.own (.tail _ (.head _)) rfl)) rfl rfl (.none rfl) ?_
        refine G_val (V_neq rfl rfl rfl) rfl rfl (.none rfl) ?_
        refine G_end (X_then ?_)
        refine G_cond_t rfl (decide_eq_true (by omega)) ?_
        refine G_region ?_
        refine G_val (V_fieldAddr rfl rfl (by decide)) rfl rfl (.none rfl) ?_
        refine G_storeAt rfl rfl rfl rfl rfl rfl (.none rfl) (.tail _ (.head _ _ _)) (Nat.le_of_ble_eq_true rfl) (by simp only [putAll, Nat.zero_add, Nat.reduceAdd, List.setIfInBounds_toArray, List.set_cons_succ, List.set_cons_zero]; rfl) ?_
        refine G_end (X_then (G_seq (G_seq (G_region ?_))))
        refine G_val (V_fieldAddr rfl rfl (by decide)) rfl rfl (.none rfl) ?_
        refine G_val (V_load rfl rfl (Cell.own (.tail _ (.head _)) rfl)) rfl rfl (.none rfl) ?_
        refine G_val (V_neq rfl rfl rfl) rfl rfl (.none rfl) ?_
        refine G_end (X_then ?_)
        refine G_cond_f rfl (decide_eq_false (by omega)) ?_
        refine G_skip (X_then (G_seq (G_region ?_)))
        refine G_val (V_loadA rfl rfl (Cells.own (.tail _ (.head _))) rfl) rfl rfl (.none rfl) ?_
        refine G_storeA rfl rfl rfl rfl (by simp [Value.oneCell']) rfl (.none rfl) (.head _ _ _) rfl ?_
        refine G_val (V_assign rfl rfl) rfl rfl (.none rfl) ?_
        refine G_end (X_then (G_ret ?_))
        refine G_leaveS (.drop _ (.drop _ (.nil _))) (by exact (.cons (.cellA rfl (Cells.own (.head _)) rfl) (.cons (.tmp rfl) (.nil)))) rfl ?_ ?_
        · exact (.refl _)
        exact ⟨rfl, rfl⟩
      · have e : cleanR ⟨k, n, t⟩ = ⟨k, 0, []⟩ := by rw [cleanR, if_pos h, clean]; simp [h1, h3]
        rw [e, h]
        refine G_seq (G_region ?_)
        (refine G_boxA rfl rfl rfl rfl (.none rfl) ?_; intro b1)
        (refine G_alloc rfl rfl rfl (.none rfl) ?_; intro b2)
        refine G_val (V_assign rfl rfl) rfl rfl (.none rfl) ?_
        refine G_end (X_then (G_seq (G_seq (G_region ?_))))
        refine G_val (V_loadA rfl rfl (Cells.own (.tail _ (.head _))) rfl) rfl rfl (.none rfl) ?_
        refine G_callv (k := 31) (.mk rfl rfl rfl rfl) rfl rfl (.none rfl) (CheckR_call _ _ _ _ _) ?_
        refine G_val (V_assign rfl rfl) rfl rfl (.none rfl) ?_
        refine G_end (X_then (G_seq (G_region ?_)))
        refine G_val (V_move rfl rfl) rfl rfl (.none rfl) ?_
        refine G_val (V_neq rfl rfl rfl) rfl rfl (.none rfl) ?_
        refine G_end (X_then ?_)
        refine G_cond_f rfl (decide_eq_false (by omega)) ?_
        refine G_skip (X_then (G_seq (G_seq (G_region ?_))))
        refine G_val (V_fieldAddr rfl rfl (by decide)) rfl rfl (.none rfl) ?_
        refine G_val (V_load rfl rfl (Cell.own (.tail _ (.head _)) rfl)) rfl rfl (.none rfl) ?_
        refine G_val (V_neq rfl rfl rfl) rfl rfl (.none rfl) ?_
        refine G_end (X_then ?_)
        refine G_cond_t rfl (decide_eq_true (by omega)) ?_
        refine G_region ?_
        refine G_val (V_fieldAddr rfl rfl (by decide)) rfl rfl (.none rfl) ?_
        refine G_storeAt rfl rfl rfl rfl rfl rfl (.none rfl) (.tail _ (.head _ _ _)) (Nat.le_of_ble_eq_true rfl) (by simp only [putAll, Nat.zero_add, Nat.reduceAdd, List.setIfInBounds_toArray, List.set_cons_succ, List.set_cons_zero]; rfl) ?_
        refine G_end (X_then (G_seq (G_seq (G_region ?_))))
        refine G_val (V_fieldAddr rfl rfl (by decide)) rfl rfl (.none rfl) ?_
        refine G_val (V_load rfl rfl (Cell.own (.tail _ (.head _)) rfl)) rfl rfl (.none rfl) ?_
        refine G_val (V_neq rfl rfl rfl) rfl rfl (.none rfl) ?_
        refine G_end (X_then ?_)
        refine G_cond_t rfl (decide_eq_true (by omega)) ?_
        refine G_region ?_
        refine G_val (V_fieldAddr rfl rfl (by decide)) rfl rfl (.none rfl) ?_
        refine G_storeAt rfl rfl rfl rfl rfl rfl (.none rfl) (.tail _ (.head _ _ _)) (Nat.le_of_ble_eq_true rfl) (by simp only [putAll, Nat.zero_add, Nat.reduceAdd, List.setIfInBounds_toArray, List.set_cons_succ, List.set_cons_zero]; rfl) ?_
        refine G_end (X_then (G_seq (G_region ?_)))
        refine G_val (V_loadA rfl rfl (Cells.own (.tail _ (.head _))) rfl) rfl rfl (.none rfl) ?_
        refine G_storeA rfl rfl rfl rfl (by simp [Value.oneCell']) rfl (.none rfl) (.head _ _ _) rfl ?_
        refine G_val (V_assign rfl rfl) rfl rfl (.none rfl) ?_
        refine G_end (X_then (G_ret ?_))
        refine G_leaveS (.drop _ (.drop _ (.nil _))) (by exact (.cons (.cellA rfl (Cells.own (.head _)) rfl) (.cons (.tmp rfl) (.nil)))) rfl ?_ ?_
        · exact (.refl _)
        exact ⟨rfl, rfl⟩
  · have e : cleanR ⟨k, n, t⟩ = ⟨0, 0, []⟩ := by simp [cleanR, h, Cl.zero]
    rw [e]
    refine G_seq (G_region ?_)
    (refine G_boxA rfl rfl rfl rfl (.none rfl) ?_; intro b1)
    (refine G_alloc rfl rfl rfl (.none rfl) ?_; intro b2)
    refine G_val (V_assign rfl rfl) rfl rfl (.none rfl) ?_
    refine G_end (X_then (G_seq (G_seq (G_region ?_))))
    refine G_val (V_loadA rfl rfl (Cells.own (.tail _ (.head _))) rfl) rfl rfl (.none rfl) ?_
    refine G_callv (k := 31) (.mk rfl rfl rfl rfl) rfl rfl (.none rfl) (CheckR_call _ _ _ _ _) ?_
    refine G_val (V_assign rfl rfl) rfl rfl (.none rfl) ?_
    refine G_end (X_then (G_seq (G_region ?_)))
    refine G_val (V_move rfl rfl) rfl rfl (.none rfl) ?_
    refine G_val (V_neq rfl rfl rfl) rfl rfl (.none rfl) ?_
    refine G_end (X_then ?_)
    refine G_cond_t rfl (decide_eq_true (by omega)) ?_
    refine G_seq (G_region ?_)
    refine G_val (V_build rfl rfl (by simp [fillV, setLs, setL, Value.cells]; rfl)) rfl rfl (.none rfl) ?_
    refine G_val (V_move rfl rfl) rfl rfl (.none rfl) ?_
    refine G_storeA rfl rfl rfl rfl (by simp [Value.oneCell']) rfl (.none rfl) (.head _ _ _) rfl ?_
    refine G_val (V_assign rfl rfl) rfl rfl (.none rfl) ?_
    refine G_end (X_then (G_ret (X_then_ret ?_)))
    refine G_leaveS (.drop _ (.drop _ (.nil _))) (by exact (.cons (.cellA rfl (Cells.own (.head _)) rfl) (.cons (.tmp rfl) (.nil)))) rfl ?_ ?_
    · exact (.refl _)
    exact ⟨rfl, rfl⟩
end
end Go.Proofs.YtpkingbclcalkaaDoor
